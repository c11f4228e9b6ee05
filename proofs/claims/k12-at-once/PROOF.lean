import PyProof.Rows.All
import Wide.All
import OpenK.AllK
import HandS.HotCalls
import HandS.DictComp
import HandS.DictTup
import HandS.Conv
import HandS.More
import Wide.FinOn
import HandS.ForMost
import HandS.Style
import HandS.Defaults
import HandS.MakeKwOnly
import HandS.IsInst
import HandS.Wide
import HandS.TupAny
import HandS.Deep
import HandS.SetKeys
import HandS.FStr
import HandS.SortKw
import KE.DatumOrd
import HandS.Codes
import HandS.Strs
import HandS.Flow
import HandS.SortOrd
import HandS.SortRule
import HandS.ExcInitHot
import HandS.ExcField
import HandS.ExcIs
import PyProof.ExcBaseAll.LookupError
import KE.KExcInit
import HandS.SetFor
import HandS.OwnEq
import PyProof.EqKinds
import HandS.HeadHook2
import KE.KFmtOwn
import KE.KCallOwn
import KE.KxText
import KE.KStrBytes
import HandS.Dict
import HandS.TupLe
import KE.KDictList
import KE.KUnpackStar
import HandS.SetBool
import HandS.ListItems
import KE.DataMinMax
import HandS.Zip
import PyProof.ReprRoads
import PyProof.ReprReads
import PyProof.CallFns
import PyProof.ReprLen
import PyProof.FitsInt
import PyProof.Rows.RegStrFacts
import HandS.Text
import PySem.Challenge.RW_unitwants_k12_at_once
import KE.KStateDown
import HandS.Head0
import HandS.Head1
import HandS.Head2
import HandS.HeadEnd
import HandS.HeadHook1
set_option Elab.async false
set_option maxRecDepth 100000
set_option maxHeartbeats 0
set_option linter.all false
namespace U
open PySem PyProof.Rows L2
def top (i:Nat):Stmt:=PySem.Challenge.pw_unitwants_k12_at_once.main.body.getD i (.Pass ⟨0,0,0,0⟩)
abbrev s_take:Stmt:=top 15
abbrev s_bag:Stmt:=top 14
abbrev s_name:Stmt:=top 16
abbrev s_names:Stmt:=top 17
abbrev s_Rule_init:Stmt:=inClass (top 7) 0
abbrev s_rule_parts:Stmt:=top 18
abbrev s_rule:Stmt:=top 19
abbrev s_some:Stmt:=top 20
abbrev s_facts:Stmt:=top 21
abbrev s_Unit_init:Stmt:=inClass (top 12) 0
abbrev s_unit:Stmt:=top 22
abbrev s_units:Stmt:=top 23
abbrev s_Shelf_init:Stmt:=inClass (top 10) 0
abbrev s_Shelf_names:Stmt:=inClass (top 10) 2
abbrev s_Shelf_has:Stmt:=inClass (top 10) 3
abbrev s_Shelf_unit:Stmt:=inClass (top 10) 4
abbrev s_Shelf_needing:Stmt:=inClass (top 10) 5
abbrev s_Shelf_barred:Stmt:=inClass (top 10) 6
abbrev s_at_once:Stmt:=top 5
abbrev s_needing:Stmt:=top 24
abbrev s_barred:Stmt:=top 25
abbrev s_next:Stmt:=top 26
abbrev s_are_demands:Stmt:=top 27
abbrev s_law:Stmt:=top 28
namespace Z
def d_take:He.DefD:=⟨("_law_take",none),"_law_take","_law_take",defArgs s_take,defBody s_take,defScope s_take,[],[]⟩
def d_bag:He.DefD:=⟨("_law_bag",none),"_law_bag","_law_bag",defArgs s_bag,defBody s_bag,defScope s_bag,[],[]⟩
def d_name:He.DefD:=⟨("_law_name",none),"_law_name","_law_name",defArgs s_name,defBody s_name,defScope s_name,[],[]⟩
def d_names:He.DefD:=⟨("_law_names",none),"_law_names","_law_names",defArgs s_names,defBody s_names,defScope s_names,[],[]⟩
def d_rule_parts:He.DefD:=⟨("_law_rule_parts",none),"_law_rule_parts","_law_rule_parts",defArgs s_rule_parts,defBody s_rule_parts,defScope s_rule_parts,[],[]⟩
def d_some:He.DefD:=⟨("_law_some",none),"_law_some","_law_some",defArgs s_some,defBody s_some,defScope s_some,[],[]⟩
def d_facts:He.DefD:=⟨("_law_facts",none),"_law_facts","_law_facts",defArgs s_facts,defBody s_facts,defScope s_facts,[],[]⟩
def d_Rule_init:He.DefD:=⟨("Rule",some "__init__"),"__init__","Rule.__init__",defArgs s_Rule_init,defBody s_Rule_init,defScope s_Rule_init,[],[]⟩
def d_rule:He.DefD:=⟨("_law_rule",none),"_law_rule","_law_rule",defArgs s_rule,defBody s_rule,defScope s_rule,[],[]⟩
def d_Unit_init:He.DefD:=⟨("Unit",some "__init__"),"__init__","Unit.__init__",defArgs s_Unit_init,defBody s_Unit_init,defScope s_Unit_init,[],[]⟩
def d_unit:He.DefD:=⟨("_law_unit",none),"_law_unit","_law_unit",defArgs s_unit,defBody s_unit,defScope s_unit,[],[]⟩
def d_units:He.DefD:=⟨("_law_units",none),"_law_units","_law_units",defArgs s_units,defBody s_units,defScope s_units,[],[]⟩
def d_Shelf_init:He.DefD:=⟨("Shelf",some "__init__"),"__init__","Shelf.__init__",defArgs s_Shelf_init,defBody s_Shelf_init,defScope s_Shelf_init,[.adr (He.dflAt ("Shelf",some "__init__") 0)],[]⟩
def d_Shelf_names:He.DefD:=⟨("Shelf",some "names"),"names","Shelf.names",defArgs s_Shelf_names,defBody s_Shelf_names,defScope s_Shelf_names,[],[]⟩
def d_Shelf_has:He.DefD:=⟨("Shelf",some "has"),"has","Shelf.has",defArgs s_Shelf_has,defBody s_Shelf_has,defScope s_Shelf_has,[],[]⟩
def d_Shelf_unit:He.DefD:=⟨("Shelf",some "unit"),"unit","Shelf.unit",defArgs s_Shelf_unit,defBody s_Shelf_unit,defScope s_Shelf_unit,[],[]⟩
def d_Shelf_needing:He.DefD:=⟨("Shelf",some "needing"),"needing","Shelf.needing",defArgs s_Shelf_needing,defBody s_Shelf_needing,defScope s_Shelf_needing,[],[]⟩
def d_Shelf_barred:He.DefD:=⟨("Shelf",some "barred"),"barred","Shelf.barred",defArgs s_Shelf_barred,defBody s_Shelf_barred,defScope s_Shelf_barred,[],[]⟩
def d_at_once:He.DefD:=⟨("at_once",none),"at_once","at_once",defArgs s_at_once,defBody s_at_once,defScope s_at_once,[],[]⟩
def d_needing:He.DefD:=⟨("_law_needing",none),"_law_needing","_law_needing",defArgs s_needing,defBody s_needing,defScope s_needing,[],[]⟩
def d_barred:He.DefD:=⟨("_law_barred",none),"_law_barred","_law_barred",defArgs s_barred,defBody s_barred,defScope s_barred,[],[]⟩
def d_next:He.DefD:=⟨("_law_next",none),"_law_next","_law_next",defArgs s_next,defBody s_next,defScope s_next,[],[]⟩
def d_are_demands:He.DefD:=⟨("_law_are_demands",none),"_law_are_demands","_law_are_demands",defArgs s_are_demands,defBody s_are_demands,defScope s_are_demands,[],[]⟩
def d_law:He.DefD:=⟨("law",none),"law","law",defArgs s_law,defBody s_law,defScope s_law,[],[]⟩
def fn:List He.DefD:=[d_take,d_bag,d_name,d_names,d_rule_parts,d_some,d_facts,d_Rule_init,d_rule,d_Unit_init,d_unit,d_units,d_Shelf_init,d_Shelf_names,d_Shelf_has,d_Shelf_unit,d_Shelf_needing,d_Shelf_barred,d_at_once,d_needing,d_barred,d_next,d_are_demands,d_law]
def fa:List He.Fa:=([.free "abs",.free "any",.free "int",.free "isinstance",.free "len",.free "list",.free "max",.free "min",.free "range",.free "repr",.free "sorted",.free "str"]:List He.Fa) ++ ([.free "tuple",.glo "_law_take",.glo "_law_bag",.glo "_law_name",.glo "_law_names",.glo "_law_rule_parts",.glo "_law_some",.glo "_law_facts",.cls "Rule",.noat "Rule" "first",.noat "Rule" "times",.noat "Rule" "top"]:List He.Fa) ++ ([.noat "Rule" "burst",.noat "Rule" "span",.glo "Rule",.mkr "Rule",.glo "_law_rule",.cls "Unit",.noat "Unit" "name",.noat "Unit" "kind",.noat "Unit" "needs",.noat "Unit" "wants",.noat "Unit" "bars",.noat "Unit" "after"]:List He.Fa) ++ ([.noat "Unit" "opens",.noat "Unit" "rule",.glo "Unit",.mkr "Unit",.glo "_law_unit",.glo "_law_units",.cls "Shelf",.noat "Shelf" "by_name",.int "MOST" 16,.meth "Shelf" "names",.meth "Shelf" "has",.meth "Shelf" "unit"]:List He.Fa) ++ ([.meth "Shelf" "needing",.meth "Shelf" "barred",.glo "at_once",.glo "_law_needing",.glo "_law_barred",.glo "_law_next",.glo "_law_are_demands",.glo "law",.mkr "Shelf",.glo "Shelf"]:List He.Fa)
abbrev Rw:PySem.W.OpenRow:=PySem.W.OpenLaw.row PySem.Challenge.rw_unitwants_k12_at_once
abbrev hk:PySem.W.Hook:=He.hookD 5 fa fn
def ob (s:PySem.W.SharedT):He.AlD:=He.obsDG 5 fa fn (HandSHeadRun.getT s)
theorem ob_eq (s:PySem.W.SharedT):ob s=hk.obs s.abs:=He.obsDG_eq (HandSHeadRun.getT_eq s)
def loose:List Str:=(["__name__","_wall","NoUnit","NoShelf","at_once","Rule","MOST","Shelf","Unit","_law_bag","_law_take","_law_name"]:List Str) ++ (["_law_names","_law_rule_parts","_law_rule","_law_some","_law_facts","_law_unit","_law_units","_law_needing","_law_barred","_law_next","_law_are_demands"]:List Str)
theorem run (w:World):HandSHeadRun.RunEq Rw (PySem.W.view Rw.prog [28]) hk ob 10000 loose w:=by
 intro os
 kernel_rfl
end Z
end U
namespace UH
open PySem PySem.Spec PyProof.Rows HotX
section
variable {prog:Program}{w:World}{A:Around}{E:Value->Shared->Prop}{s:Shared}
end
end UH
set_option autoImplicit false
namespace UH
open PySem PySem.Spec PyProof.Rows L2 L2H HotX
abbrev St:=L2.St
section
variable {P:Program}{w:World}{K:PySem.W.Frag}{tg:Expr}
variable {d:Addr}{o:Obj}{es:Array DictEntry}{ep:Nat}
end
section
variable {X:Cx}{tg e:Expr}{te:TE}
end
end UH
abbrev L2.Cx.blkH (X:L2.Cx) (s:PySem.Shared) (H:L2.Hp) (scope:PySem.Scope) (cenv:PySem.Env) (fp:List PySem.Addr):L2.Cx:={ X.blk s H scope cenv fp with pn:=X.pn }
namespace UH
open PySem PySem.Spec PyProof.Rows L2 L2H HotX
section
variable {X:Cx}{pins:List (Addr × Obj)}{σ:St}{H:Hp}{s:Shared}
structure BlkH (X:Cx) (pins:List (Addr × Obj)) (σ:St) (s3:Shared) (K3:Hp) (scope:Scope) (own:List (Str × Nat)) (ce:Env) (fp:List Addr) (it:Addr) (s4:Shared):Prop where
 J3:Inv X pins σ K3 s3
 J4:Inv (X.blkH s3 K3 scope ce fp) [] (wipe σ (own.map (·.2))) K3 s4
 cl:ce.locals=s3.heap.objs.size
 f3:∀ b∈fp,FpOk X pins K3 b/\b < s3.heap.objs.size
variable {s3 s4:Shared}{K3:Hp}{scope:Scope}{own:List (Str × Nat)}{ce:Env}{fp:List Addr}{it:Addr}
theorem BlkH.stay (B:BlkH X pins σ s3 K3 scope own ce fp it s4) {σ':St}{H':Hp}{s':Shared} (I':Inv (X.blkH s3 K3 scope ce fp) [] σ' H' s') (n:∀ b∈fp,H' b=none):∀ b∈fp,FpOk (X.blkH s3 K3 scope ce fp) [] H' b:=fun b hb=>
 ⟨n b hb,(I'.ok.exf b hb).1,I'.ok.exfs b hb,.inl hb,fun x c e=>(I'.ok.exf b hb).2 x c e,fun p hp=>(B.f3 b hb).1.2.2.2.2.2 p (List.mem_append_left _ (by simpa using hp))⟩
theorem BlkH.last (B:BlkH X pins σ s3 K3 scope own ce fp it s4) {tg:Expr}{J:It}{tn:Nat->Heap->Prop} (T:TurnH X.prog X.w X.K tg J fp it tn) {s7 s':Shared}{i:Nat}{σ8:St}{H':Hp} (t7:tn i s7.heap) (w8:wipe σ8 (own.map (·.2))=wipe σ (own.map (·.2)))
  (I':Inv (X.blkH s3 K3 scope ce fp) ([] ++ pinsAt fp s7.heap) σ8 H' s'):Inv (X.blkH s3 K3 scope ce fp) [] (wipe σ (own.map (·.2))) H' s'/\tn i s'.heap/\∀ b∈fp,H' b=none:=by
 have pin':∀ b∈fp,∀ o,s7.heap.get? b=some o->s'.heap.get? b=some o/\H' b=none:=fun b hb o e=>
  let z:=I'.pin (b,o) (List.mem_append_right _ (List.mem_append_right _ (mem_pinsAt hb e)))
  ⟨z.1,z.2.1⟩
 refine ⟨(I'.unpinned (pins:=[])).weak (by rw [<-w8,wipe_length]) (fun j v e=>by rw [<-w8] at e;exact (wipe_some e).1),T.keep _ _ _ t7 fun b hb o e=>(pin' b hb o e).1,fun b hb=>?_⟩
 obtain ⟨o,e,_⟩:=T.obj _ _ t7 b hb
 exact (pin' b hb o e).2
end
section
variable {X:Cx}
end
end UH
namespace UH
open PySem PySem.Spec PySem.Calls PyProof.Rows L2 L2H HotX
section
variable {prog:Program}{w:World}{A:Around}{E:Value->Shared->Prop}{s:Shared}
variable {T:String}{r d x:Addr}{n:Nat}{P:Nat->Value->Prop}{OK:Heap->Prop}
end
section
variable {X:Cx}
end
end UH
namespace U
open PySem L2
class IsRoom (R:Nat->PySem.Around->Prop):Prop where
 toH:∀ {k:Nat} {A:PySem.Around},R k A->L2H.RoomH k A
instance:IsRoom Room:=⟨L2H.roomH_of⟩
instance:IsRoom L2H.RoomH:=⟨id⟩
theorem un64 {R:Nat->PySem.Around->Prop} [IsRoom R] {k:Nat}{A:PySem.Around} (hr:R k A):A.units+64 < cLine:=by have:=(IsRoom.toH hr).un;omega
theorem hu_ofU {R:Nat->PySem.Around->Prop} [IsRoom R] {k:Nat}{A:PySem.Around} (hr:R k A):A.units+1 < cLine:=by have:=(IsRoom.toH hr).un;omega
structure Cal (P:Program) (w:World) (K:PySem.W.Frag) (mg:Str->Option Value) (base:Heap) (CX:CXT) (k:Nat) (x:Str) (ps:List Str) (sp:Sp):Prop where
 ex:∃ f fd,FnOk P w K mg base CX k f fd ps sp/\mg x=some (.ref f)/\PySem.W.keepIn K (.ref f)=true/\Binds K fd ps []
theorem Cal.mono {P:Program}{w:World}{K:PySem.W.Frag}{mg:Str->Option Value}{base:Heap}{CX:CXT}{j k:Nat}{x:Str}{ps:List Str}{sp:Sp} (c:Cal P w K mg base CX j x ps sp) (h:j<=k):Cal P w K mg base CX k x ps sp:=by
 obtain ⟨f,fd,a,b,c,d⟩:=c.ex
 exact ⟨f,fd,a.mono h,b,c,d⟩
section
variable {X:Cx}{k j:Nat}{ps:List Str}{sp:Sp}{x:Str}{p pos:Pos}{e:Expr}{es:List Expr}{t:TA}
theorem pe_cal (c:Cal X.prog X.w X.K X.mg X.base CX0 k x ps sp) (hr:Room j X.A) (ha:PA X (e :: es) t) (hg:Gl X x:=by rfl) (hj:k<=j:=by decide) (hdb:(x == ("__debug__" : Str))=false:=by decide)
  (he:starEach (e :: es) X.env=(false,eval e X.env) :: starEach es X.env:=by rfl) (hpl:(backTo pos (starEach es X.env)).any (·.1)=false:=by rfl) :
  PE X (.Call (.Name x p) (e :: es) [] pos) (tCall sp [] E0 t):=by
 obtain ⟨f,fd,G,hm,hk,b⟩:=c.ex
 exact pe_call G (hr.mono hj) hg hm hk b .nil pass0 ha hdb he hpl
end
def CPowW (i j:Int):Prop:=0<=j/\j<=3/\i.natAbs < 2 ^ 200
theorem op_powW {X:Cx}:OpR X (binaryOp .Pow) (rI CPowW fun i j=>.int (i ^ j.toNat)):=opI fun i j _ _ _ _ _ hc q=>PyProof.Rows.pow_int hc.1 (by
 have h1:=hc.1
 have h2:=hc.2.1
 have hb:Builtin.Int.intBits i<=200:=PyProof.Rows.intBits_le hc.2.2
 have:(Builtin.Int.intBits i:Int) * j<=200 * 3:=Int.mul_le_mul (by omega) h2 h1 (by decide)
 omega) q
theorem CallR.imp {X:Cx}{f:Value}{r r':List V->Hp->VK->Prop} (h:CallR X f r) (k:∀ xs H Q,r' xs H Q->r xs H Q):CallR X f r':=fun pins s σ H xs us Q I rx q=>h pins s σ H xs us Q I rx (k _ _ _ q)
def rIntA:List V->Hp->VK->Prop:=fun xs H Q=>(∃ i,xs=[.int i]/\Q (.int i) H)\/∃ b,xs=[.bl b]/\∀ i:Int,(b=true->i=1)->(b=false->i=0)->(i=0\/i=1)->Q (.int i) H
theorem call_intA {X:Cx}:CallR X (.type "int") rIntA:=CallR.imp call_int1 fun xs H Q h=>by
 rcases h with h | ⟨b,rfl,q⟩
 ·exact .inl h
 ·refine .inr ⟨b,rfl,q _ ?_ ?_ ?_⟩
  all_goals cases b <;> simp
def rAbsA:List V->Hp->VK->Prop:=fun xs H Q=>∃ i,xs=[.int i]/\∀ a,0<=a->(a=i\/a = -i)->Q (.int a) H
theorem call_absA {X:Cx}:CallR X (.builtin "abs") rAbsA:=CallR.imp call_abs fun xs H Q ⟨i,e,q⟩=>⟨i,e,q _ (by split <;> omega) (by split <;> simp)⟩
def rMinA:List V->Hp->VK->Prop:=fun xs H Q=>∃ i j,xs=[.int i,.int j]/\Q (.int (min i j)) H
theorem call_minA {X:Cx} (hc:X.calm=true):CallR X (.builtin "min") rMinA:=CallR.imp (call_min2 hc) fun xs H Q ⟨i,j,e,q⟩=>⟨i,j,e,by
 have:(if j < i then j else i)=min i j:=by split <;> omega
 rw [this];exact q⟩
def rMaxA:List V->Hp->VK->Prop:=fun xs H Q=>∃ i j,xs=[.int i,.int j]/\Q (.int (max i j)) H
theorem call_maxA {X:Cx} (hc:X.calm=true):CallR X (.builtin "max") rMaxA:=CallR.imp (call_max2 hc) fun xs H Q ⟨i,j,e,q⟩=>⟨i,j,e,by
 have:(if j > i then j else i)=max i j:=by split <;> omega
 rw [this];exact q⟩
def nx:HO->Bool
 | .ext _=>false
 | _=>true
structure Sm (H H':Hp):Prop where
 keep:∀ a o,nx o=true->H a=some o->H' a=some o
 there:∀ a,H' a=none->H a=none
theorem Sm.refl (H:Hp):Sm H H:=⟨fun _ _ _ h=>h,fun _ h=>h⟩
theorem Sm.trans {H H1 H2:Hp} (a:Sm H H1) (b:Sm H1 H2):Sm H H2:=⟨fun c o n h=>b.keep c o n (a.keep c o n h),fun c h=>a.there c (b.there c h)⟩
theorem Sm.new {H H1:Hp}{p:Addr}{o:HO} (a:Sm H H1) (h:H1 p=none):Sm H (upd H1 p o):=a.trans ⟨fun c u _ e=>by rw [upd_ne (ne_of_none e h)];exact e,fun c e=>by
 by_cases hc:c=p
 ·subst hc;exact h
 ·rw [upd_ne hc] at e;exact e⟩
theorem Sm.at {H H':Hp}{a:Addr}{o:HO} (s:Sm H H') (h:H a=some o) (n:nx o=true):H' a=some o:=s.keep a o n h
theorem Sm.of {H H':Hp} (s:Same H H'):Sm H H':=⟨fun a o _ h=>s a o h,fun a h=>s.free h⟩
theorem Sm.seq {K:PySem.W.Frag}{H H':Hp}{a:Addr}{xs:List V} (s:Sm H H') (h:SqL K H a xs):SqL K H' a xs:=by
 rcases h with (h | ⟨o,h⟩) | h
 ·exact .inl (.inl (s.keep _ _ rfl h))
 ·exact .inl (.inr ⟨o,s.keep _ _ rfl h⟩)
 ·exact .inr h
theorem Sm.tup {K:PySem.W.Frag}{H H':Hp}{a:Addr}{xs:List V} (s:Sm H H') (h:SqT K H a xs):SqT K H' a xs:=by
 rcases h with (h | ⟨o,h⟩) | h
 ·exact .inl (.inl (s.keep _ _ rfl h))
 ·exact .inl (.inr ⟨o,s.keep _ _ rfl h⟩)
 ·exact .inr h
structure Mu (p:Addr) (H H':Hp):Prop where
 keep:∀ a o,a ≠ p->H a=some o->H' a=some o
 there:∀ a,H' a=none->H a=none
theorem Mu.of {H:Hp}{p:Addr}{o o':HO} (h:H p=some o):Mu p H (upd H p o'):=⟨fun a u n e=>by rw [upd_ne n];exact e,fun a e=>by
 by_cases hc:a=p
 ·subst hc;rw [upd_same] at e;cases e
 ·rw [upd_ne hc] at e;exact e⟩
theorem Same.new1 {H:Hp}{p:Addr}{o:HO} (h:H p=none):Same H (upd H p o):=fun a u e=>by rw [upd_ne (ne_of_none e h)];exact e
theorem Mu.at {H H':Hp}{p a:Addr}{o:HO} (m:Mu p H H') (h:H a=some o) (n:a ≠ p):H' a=some o:=m.keep a o n h
theorem Sm.same {H H1 H2:Hp} (b:Same H1 H2) (a:Sm H H1):Sm H H2:=a.trans (Sm.of b)
theorem Sm.sm {H H1 H2:Hp} (b:Sm H1 H2) (a:Sm H H1):Sm H H2:=a.trans b
theorem Sm.mu {H H1 H2:Hp}{p:Addr} (b:Mu p H1 H2) (a:Sm H H1) (n:H p=none):Sm H H2:=⟨fun c u x e=>b.keep c u (ne_of_none e n) (a.keep c u x e),fun c e=>a.there c (b.there c e)⟩
theorem Sm.fresh {H H1:Hp}{p:Addr} (n:H1 p=none) (a:Sm H H1):H p=none:=a.there p n
theorem Same.tr {H H1 H2:Hp} (b:Same H1 H2) (a:Same H H1):Same H H2:=fun c o h=>b c o (a c o h)
theorem Same.mu {H H1 H2:Hp}{p:Addr} (b:Mu p H1 H2) (a:Same H H1) (n:H p=none):Same H H2:=fun c u e=>b.keep c u (ne_of_none e n) (a c u e)
theorem Same.fresh {H H1:Hp}{p:Addr} (n:H1 p=none) (a:Same H H1):H p=none:=a.free n
theorem Same.seqT {K:PySem.W.Frag}{H H':Hp}{a:Addr}{xs:List V} (e:Same H H') (h:SqT K H a xs):SqT K H' a xs:=by
 rcases h with (h | ⟨o,h⟩) | h
 ·exact .inl (.inl (e _ _ h))
 ·exact .inl (.inr ⟨o,e _ _ h⟩)
 ·exact .inr h
theorem Mu.seq {K:PySem.W.Frag}{H H':Hp}{p a:Addr}{xs:List V} (e:Mu p H H') (h:SqL K H a xs) (n:a ≠ p):SqL K H' a xs:=by
 rcases h with (h | ⟨o,h⟩) | h
 ·exact .inl (.inl (e.keep _ _ n h))
 ·exact .inl (.inr ⟨o,e.keep _ _ n h⟩)
 ·exact .inr h
def BagV (m:Nat) (x y z:Int):Prop:=0<=x/\0<=y/\y < 2 ^ 62/\0<=z/\z<=m
def bagObj (m:Nat) (b:Addr) (h:Heap):Prop:=∃ (x y z:Int) (t u v:Tok) (n:Nat),BagV m x y z/\h.get? b=some { cls:=.type "list",data:=.seq [.int x t,.int y u,.int z v].toArray n }
def bagHO (m:Nat) (b:Addr):HO:=.ext (bagObj m b)
def Bag (n:Nat) (H:Hp) (b:Addr):Prop:=∃ m,m<=n/\H b=some (bagHO m b)
theorem Bag.mono {n m:Nat}{H:Hp}{b:Addr} (h:Bag n H b) (e:n<=m):Bag m H b:=by
 obtain ⟨k,h1,h2⟩:=h
 exact ⟨k,Nat.le_trans h1 e,h2⟩
theorem Bag.ne {n:Nat}{H:Hp}{b p:Addr} (h:Bag n H b) (e:H p=none):b ≠ p:=by
 obtain ⟨k,h1,h2⟩:=h
 exact ne_of_none h2 e
theorem Bag.ne_lst {n:Nat}{H:Hp}{b p:Addr}{o:HO} (h:Bag n H b) (e:H p=some o) (hn:nx o=true):b ≠ p:=by
 obtain ⟨k,h1,h2⟩:=h
 rintro rfl
 rw [h2] at e
 cases e
 cases hn
theorem Bag.upd {n:Nat}{H:Hp}{b p:Addr}{o:HO} (h:Bag n H b) (e:b ≠ p):Bag n (upd H p o) b:=by
 obtain ⟨k,h1,h2⟩:=h
 exact ⟨k,h1,by rw [upd_ne e];exact h2⟩
theorem Bag.new {n:Nat}{H:Hp}{b p:Addr}{o:HO} (h:Bag n H b) (e:H p=none):Bag n (L2.upd H p o) b:=h.upd (h.ne e)
section
variable {P:Program}{w:World}{K:PySem.W.Frag}{mg:Str->Option Value}{base:Heap}{k:Nat}{f:Addr}{fd:FuncData}{ps:List Str}{sp spR:Sp}
theorem HOk.tell {H:Hp}{h:Heap}{b:Addr}{o o':HO} (ok:HOk P w H h) (hb:H b=some o) (hm:Mut (some o)) (new:ObjOk P w (upd H b o') h b o'):HOk P w (upd H b o') h:=fun c u q=>by
 by_cases hc:c=b
 ·subst hc;rw [upd_same] at q;cases q;exact new
 ·rw [upd_ne hc] at q
  refine (ok c u q).stay (fun d v _ r=>r) (fun d r=>?_) fun d xs r=>?_
  ·have:d ≠ b:=fun z=>by subst z;rw [hb] at r;cases r;exact hm
   rw [upd_ne this];exact r
  ·have:d ≠ b:=fun z=>by subst z;rw [hb] at r;cases r;exact hm
   rw [upd_ne this];exact r
theorem Un.tell0 {fs ex:List Addr}{H H':Hp}{h h':Heap}{b:Addr}{o o':HO} (hb:H b=some o) (hm:Mut (some o)) (u:Un fs ex (upd H b o') H' h h'):Un fs ex H H' h h':=by
 have e:∀ c,H c=none->upd H b o' c=none:=fun c n=>by rw [upd_ne (ne_of_none hb n).symm];exact n
 have e2:∀ c v,H c=some v->¬ Mut (some v)->upd H b o' c=some v:=fun c v n nm=>by
  have:c ≠ b:=fun z=>by subst z;rw [hb] at n;cases n;exact nm hm
  rw [upd_ne this];exact n
 exact ⟨fun c ob q n hc hx=>u.keep c ob q (e c n) hc hx,fun c ob q n hc hx=>u.slot c ob q (e c n) hc hx,fun c ob q n hx=>u.free c ob q (e c n) hx,u.there,fun c xs q=>u.tups c xs (e2 c _ q id),fun c ob v q=>u.frzs c ob v (e2 c _ q id),fun c ps q=>u.tbls c ps (e2 c _ q id)⟩
theorem Un.tell1 {fs ex:List Addr}{H H':Hp}{h h':Heap}{b:Addr}{o o':HO} (hb:H' b=some o) (hm:Mut (some o)) (u:Un fs ex H H' h h'):Un fs ex H (upd H' b o') h h':=by
 have e2:∀ c v,H' c=some v->¬ Mut (some v)->upd H' b o' c=some v:=fun c v n nm=>by
  have:c ≠ b:=fun z=>by subst z;rw [hb] at n;cases n;exact nm hm
  rw [upd_ne this];exact n
 refine ⟨u.keep,u.slot,fun c ob q n hx=>?_,u.there,fun c xs q=>e2 c _ (u.tups c xs q) id,fun c ob v q=>e2 c _ (u.frzs c ob v q) id,fun c ps q=>?_⟩
 ·have n2:=u.free c ob q n hx
  rw [upd_ne (ne_of_none hb n2).symm];exact n2
 ·obtain ⟨more,q2⟩:=u.tbls c ps q
  exact ⟨more,e2 c _ q2 id⟩
theorem bag_ok {H:Hp}{h:Heap}{b:Addr}{x y z:Int}{m:Nat} (ok:HOk P w H h) (hb:H b=some (.lst [.int x,.int y,.int z])) (hv:BagV m x y z):HOk P w (upd H b (bagHO m b)) h:=by
 refine HOk.tell ok hb trivial ?_
 obtain ⟨_,its,n,r,e⟩:=ok b _ hb
 obtain ⟨u1,rfl,r1⟩:∃ u1,its=u1/\Vals [V.int x,V.int y,V.int z] u1:=⟨_,rfl,r⟩
 cases r1 with
 | cons a r1=>
  cases r1 with
  | cons b r1=>
   cases r1 with
   | cons c r1=>
    cases r1
    obtain ⟨t1,rfl⟩:=a
    obtain ⟨t2,rfl⟩:=b
    obtain ⟨t3,rfl⟩:=c
    refine ⟨⟨x,y,z,t1,t2,t3,n,hv,e⟩,⟨_,e⟩,fun h1 h2 q k=>?_⟩
    obtain ⟨x,y,z,t,u,v,n,hv,e⟩:=q
    exact ⟨x,y,z,t,u,v,n,hv,k _ e⟩
theorem bag_lst {H:Hp}{h:Heap}{b:Addr}{m:Nat} (ok:HOk P w H h) (hb:H b=some (bagHO m b)):∃ x y z,BagV m x y z/\HOk P w (upd H b (.lst [.int x,.int y,.int z])) h:=by
 obtain ⟨⟨x,y,z,t,u,v,n,hv,e⟩,_,_⟩:=ok b _ hb
 exact ⟨x,y,z,hv,HOk.tell ok hb trivial ⟨by show 3<=sizeLine;decide,_,n,.cons ⟨t,rfl⟩ (.cons ⟨u,rfl⟩ (.cons ⟨v,rfl⟩ .nil)),e⟩⟩
theorem FnOk.toBag (F:FnOk P w K mg base CX0 k f fd ps spR) (h:∀ vs H Q E,sp vs H Q E->spR vs H (fun v H'=>∃ b x y z m,H' b=some (.lst [.int x,.int y,.int z])/\BagV m x y z/\Q v (upd H' b (bagHO m b))) E):FnOk P w K mg base CX0 k f fd ps sp:=by
 refine ⟨fun vs H Q E q=>F.len _ _ _ _ (h _ _ _ _ q),fun A outer s H args us vs Q E hr he hb hv hs=>?_⟩
 refine codeAny_mono (F.run A outer s H args us vs _ E hr he hb hv (h _ _ _ _ hs)) fun r s' hq=>?_
 cases r with
 | error e=>exact hq
 | ok fl=>
  cases fl with
  | ret u=>
   obtain ⟨v,H',h1,h2,h3,h4,h5,b,x,y,z,m,h6,h7,h8⟩:=hq
   exact ⟨v,_,h1,h2,Un.tell1 h6 trivial h3,bag_ok h4 h6 h7,h5,h8⟩
  | next=>exact hq
  | brk=>exact hq
  | cont=>exact hq
theorem FnOk.ofBag (F:FnOk P w K mg base CX0 k f fd ps spR) (h:∀ vs H Q E,sp vs H Q E->vs.length=ps.length/\∃ b m,H b=some (bagHO m b)/\∀ x y z,BagV m x y z->spR vs (upd H b (.lst [.int x,.int y,.int z])) Q E):FnOk P w K mg base CX0 k f fd ps sp:=by
 refine ⟨fun vs H Q E q=>(h _ _ _ _ q).1,fun A outer s H args us vs Q E hr he hb hv hs=>?_⟩
 obtain ⟨_,b,m,eb,q⟩:=h _ _ _ _ hs
 obtain ⟨x,y,z,hz,ok⟩:=bag_lst he.hok eb
 have nb:∀ c,H c=none->upd H b (.lst [.int x,.int y,.int z]) c=none:=fun c n=>by rw [upd_ne (ne_of_none eb n).symm];exact n
 refine codeAny_mono (F.run A outer s _ args us vs Q E hr ⟨he.frames,he.mod,fun c o e=>⟨(he.bs c o e).1,nb c (he.bs c o e).2⟩,he.bsz,he.funs,fun c hc=>nb c (he.frf c hc),ok,he.bare⟩ hb hv (q x y z hz)) fun r s' hq=>?_
 cases r with
 | error e=>exact hq
 | ok fl=>
  cases fl with
  | ret u=>
   obtain ⟨v,H',h1,h2,h3,h4,h5,h6⟩:=hq
   exact ⟨v,H',h1,h2,Un.tell0 eb trivial h3,h4,h5,h6⟩
  | next=>exact hq
  | brk=>exact hq
  | cont=>exact hq
end
theorem ne_fr {H:Hp}{a b:Addr}{o:HO} (n:H b=none) (h:H a=some o):a ≠ b:=ne_of_none h n
theorem ne_fl {H:Hp}{a b:Addr}{o:HO} (n:H a=none) (h:H b=some o):a ≠ b:=(ne_of_none h n).symm
theorem Bag.neF {n:Nat}{H:Hp}{b p:Addr} (e:H p=none) (h:Bag n H b):b ≠ p:=h.ne e
def upE (t:TE):TE:=fun σ H Q=>∃ Q':VK,t σ H Q'/\∀ v H',Q' v H'->Q v H'
def upA (t:TA):TA:=fun σ H Q=>∃ Q':List V->Hp->Prop,t σ H Q'/\∀ v H',Q' v H'->Q v H'
section
variable {X:Cx}{e:Expr}{es:List Expr}{t:TE}{ta:TA}{pos:Pos}
theorem PE.up (h:PE X e t):PE X e (upE t):=⟨fun pins s σ H Q I ⟨Q',a,k⟩=>thn (h.run pins s σ H Q' I a) fun _ _ ⟨v,H1,I1,r,q⟩=>⟨v,H1,I1,r,k v H1 q⟩⟩
theorem PA.up (h:PA X es ta):PA X es (upA ta):=⟨fun pos pins s σ H Q I ⟨Q',a,k⟩=>thn (h.run pos pins s σ H Q' I a) fun _ _ ⟨v,H1,I1,r,q⟩=>⟨v,H1,I1,r,k v H1 q⟩⟩
theorem PE.imp {t':TE} (h:PE X e t) (k:∀ σ H Q,t' σ H Q->t σ H Q):PE X e t':=⟨fun pins s σ H Q I q=>h.run pins s σ H Q I (k _ _ _ q)⟩
theorem OpR.imp {f:Value->Value->Sem Value}{r r':R2} (h:OpR X f r) (k:∀ x y H Q,r' x y H Q->r x y H Q):OpR X f r':=fun pins s σ H x y u v Q I rx ry q=>h pins s σ H x y u v Q I rx ry (k _ _ _ _ q)
theorem MtM.imp {id:String}{r r':V->List V->Hp->VK->Prop} (h:MtM X id r) (k:∀ x y H Q,r' x y H Q->r x y H Q):MtM X id r':=fun pins s σ H x y u v Q I rx ry q=>h pins s σ H x y u v Q I rx ry (k _ _ _ _ q)
theorem MtR.imp {id:String}{r r':V->List V->Hp->VK->Prop} (h:MtR X id r) (k:∀ x y H Q,r' x y H Q->r x y H Q):MtR X id r':=fun pins s σ H x y u v Q I rx ry q=>h pins s σ H x y u v Q I rx ry (k _ _ _ _ q)
theorem PSet.imp {t t':TSet} (h:PSet X t) (k:∀ a b c H Q,t' a b c H Q->t a b c H Q):PSet X t':=fun pins s σ H o i v ov iv u Q I ro ri rv q=>h pins s σ H o i v ov iv u Q I ro ri rv (k _ _ _ _ _ q)
def tLstA (t:TA):TE:=fun σ H Q=>t σ H fun xs H1=>xs.length<=1000/\∀ p H2,H1 p=none->Same H1 H2->H2 p=some (.lst xs)->Q (.ref p) H2
def tTupA (t:TA):TE:=fun σ H Q=>t σ H fun xs H1=>xs.length<=1000/\∀ p H2,H1 p=none->Same H1 H2->H2 p=some (.tup xs)->Q (.ref p) H2
theorem pe_lstA (h:PA X es ta):PE X (.List es pos) (tLstA ta):=PE.imp (pe_lst (PA.up h)) fun _ _ _ q=>⟨_,q,fun _ _ z=>⟨Nat.le_trans z.1 (by decide),fun p np=>z.2 p _ np (Same.new1 np) upd_same⟩⟩
theorem pe_tupA {x1} (h:PA X es ta):PE X (.Tuple es x1 pos) (tTupA ta):=PE.imp (pe_tup (PA.up h)) fun _ _ _ q=>⟨_,q,fun _ _ z=>⟨Nat.le_trans z.1 (by decide),fun p np=>z.2 p _ np (Same.new1 np) upd_same⟩⟩
def rCatA:R2:=fun x y H Q=>∃ l b xs zs,x = .ref l/\y = .ref b/\H l=some (.lst xs)/\H b=some (.lst zs)/\xs.length+zs.length<=100000/\∀ p H2,H p=none->Same H H2->H2 p=some (.lst (xs ++ zs))->Q (.ref p) H2
theorem op_catA:OpR X (binaryOp .Add) rCatA:=OpR.imp op_cat fun x y H Q ⟨l,b,xs,zs,h1,h2,h3,h4,h5,h6⟩=>⟨l,b,xs,zs,h1,h2,h3,h4,Nat.le_trans h5 (by decide),fun p np=>h6 p _ np (Same.new1 np) upd_same⟩
def rTupleA (K:PySem.W.Frag):List V->Hp->VK->Prop:=fun xs H Q=>∃ p ys,xs=[.ref p]/\((SqL K H p ys/\∀ l H2,H l=none->Same H H2->H2 l=some (.tup ys)->Q (.ref l) H2)\/(SqT K H p ys/\Q (.ref p) H))
def rListA (K:PySem.W.Frag):List V->Hp->VK->Prop:=fun xs H Q=>∃ p ys,xs=[.ref p]/\(SqL K H p ys\/SqT K H p ys)/\∀ l H2,H l=none->Same H H2->H2 l=some (.lst ys)->Q (.ref l) H2
theorem call_listA:CallR X (.type "list") (rListA X.K):=CallR.imp call_list_of fun xs H Q ⟨p,ys,h1,h2,h3⟩=>⟨p,ys,h1,h2,fun l nl=>h3 l _ nl (Same.new1 nl) upd_same⟩
def rLenA (K:PySem.W.Frag):List V->Hp->VK->Prop:=fun xs H Q=>∃ p ys,xs=[.ref p]/\(SqL K H p ys\/SqT K H p ys)/\Q (.int ys.length) H
theorem call_lenA:CallR X (.builtin "len") (rLenA X.K):=call_len_seq
def rAppA:V->List V->Hp->VK->Prop:=fun x vs H Q=>∃ l xs y,x = .ref l/\vs=[y]/\H l=some (.lst xs)/\xs.length < 100000/\∀ H2,Mu l H H2->H2 l=some (.lst (xs ++ [y]))->Q .non H2
def rSetA:TSet:=fun o i v H Q=>∃ p xs k j,o = .ref p/\i = .int k/\H p=some (.lst xs)/\ixN xs.length k=some j/\∀ H2,Mu p H H2->H2 p=some (.lst (xs.set j v))->Q H2
theorem set_listA:PSet X rSetA:=PSet.imp set_list fun a b c H Q ⟨p,xs,k,j,h1,h2,h3,h4,h5⟩=>⟨p,xs,k,j,h1,h2,h3,h4,h5 _ (Mu.of h3) upd_same⟩
def tDNewA:TE:=fun _ H Q=>∀ p H2,H p=none->Same H H2->H2 p=some (.dK [])->Q (.ref p) H2
end
section
variable {K:PySem.W.Frag}{σ:L2.St}{H:Hp}{D:Ends}{t u:TS}{te ta tb:TE}{tt tu:TT}{g:TG}{Q:VK}{QB:Bool->Hp->Prop}{QA:List V->Hp->Prop}{v x y z:V}{tr:TA}{i j:Int}{n:Nat}{r:R2}{r1:V->Hp->VK->Prop}{rc:List V->Hp->VK->Prop}{QS:L2.St->Hp->Prop}
theorem g_seq (h:t { D with nx:=u D } σ H):tSeq t u D σ H:=h
theorem g_nxt (h:D.nx σ H):tNext D σ H:=h
theorem g_asg (h:te σ H fun x H1=>g x σ H1 D.nx):tAsg te g D σ H:=h
theorem g_name (h:QS (σ.set n (some v)) H):gName n v σ H QS:=h
theorem g_drop (h:te σ H fun _ H1=>D.nx σ H1):tDrop te D σ H:=h
theorem g_ret (h:te σ H D.rt):tRet te D σ H:=h
theorem g_ifs (h:tt σ H fun b H1=>if b=true then t D σ H1 else u D σ H1):tIfS tt t u D σ H:=h
theorem g_var (h:σ[n]? = some (some v)) (q:Q v H):tVar n σ H Q:=⟨v,h,q⟩
theorem g_c (q:Q v H):tC v σ H Q:=q
theorem g_op (h:ta σ H fun x H1=>tb σ H1 fun y H2=>r x y H2 Q):tOp r ta tb σ H Q:=h
theorem g_un (h:ta σ H fun x H1=>r1 x H1 Q):tUn r1 ta σ H Q:=h
theorem g_I0 {f:Int->Int->V} (q:Q (f i j) H):rI0 f (.int i) (.int j) H Q:=⟨i,j,rfl,rfl,q⟩
theorem g_I {C:Int->Int->Prop}{f:Int->Int->V} (c:C i j) (q:Q (f i j) H):rI C f (.int i) (.int j) H Q:=⟨i,j,rfl,rfl,c,q⟩
theorem g_U {f:Int->V} (q:Q (f i) H):rU f (.int i) H Q:=⟨i,rfl,q⟩
theorem g_test (h:te σ H fun x H1=>∃ k,x = .bl k/\QB k H1):tTest te σ H QB:=h
theorem g_B (h:te σ H fun x H1=>∃ k,x = .bl k/\QB k H1):tB te σ H QB:=h
theorem g_bl {b:Bool}{R:Bool->Prop} (q:R b):∃ k,V.bl b=V.bl k/\R k:=⟨b,rfl,q⟩
theorem g_and (h:tt σ H fun c H1=>if c=true then tu σ H1 QB else QB false H1):tAnd tt tu σ H QB:=h
theorem g_or (h:tt σ H fun c H1=>if c=true then QB true H1 else tu σ H1 QB):tOr tt tu σ H QB:=h
theorem g_not (h:tt σ H fun c H1=>QB (!c) H1):tNot tt σ H QB:=h
theorem g_andV (h:ta σ H fun x H1=>∃ c,x = .bl c/\if c=true then tb σ H1 Q else Q (.bl false) H1):tAndV ta tb σ H Q:=h
theorem g_orV (h:ta σ H fun x H1=>∃ c,x = .bl c/\if c=true then Q (.bl true) H1 else tb σ H1 Q):tOrV ta tb σ H Q:=h
theorem g_notV (h:ta σ H fun x H1=>∃ c,x = .bl c/\Q (.bl (!c)) H1):tNotV ta σ H Q:=h
theorem g_ifE (h:tt σ H fun c H1=>if c=true then ta σ H1 Q else tb σ H1 Q):tIf tt ta tb σ H Q:=h
theorem g_isN (h:ta σ H fun x H1=>Q (.bl (decide (x = .non))) H1):tIsN ta σ H Q:=h
theorem g_notN (h:ta σ H fun x H1=>Q (.bl (!decide (x = .non))) H1):tNotN ta σ H Q:=h
theorem g_nil (q:QA [] H):tNil σ H QA:=q
theorem g_cons (h:ta σ H fun x H1=>tr σ H1 fun xs H2=>QA (x :: xs) H2):tCons ta tr σ H QA:=h
theorem g_cb (h:tr σ H fun vs H1=>rc vs H1 Q):tCB rc tr σ H Q:=h
theorem g_lst (h:tr σ H fun xs H1=>xs.length<=1000/\∀ p H2,H1 p=none->Same H1 H2->H2 p=some (.lst xs)->Q (.ref p) H2):tLstA tr σ H Q:=h
theorem g_tup (h:tr σ H fun xs H1=>xs.length<=1000/\∀ p H2,H1 p=none->Same H1 H2->H2 p=some (.tup xs)->Q (.ref p) H2):tTupA tr σ H Q:=h
theorem g_new {xs:List V}{W:Prop} (hl:xs.length<=1000) (h:W):xs.length<=1000/\W:=⟨hl,h⟩
theorem g_cat {p q:Addr}{xs ys:List V} (h1:H p=some (.lst xs)) (h2:H q=some (.lst ys)) (hl:xs.length+ys.length<=100000) (k:∀ r H2,H r=none->Same H H2->H2 r=some (.lst (xs ++ ys))->Q (.ref r) H2):rCatA (.ref p) (.ref q) H Q:=⟨p,q,xs,ys,rfl,rfl,h1,h2,hl,k⟩
theorem g_tuple {p:Addr}{xs:List V} (h:SqL K H p xs) (k:∀ r H2,H r=none->Same H H2->H2 r=some (.tup xs)->Q (.ref r) H2):rTupleA K [.ref p] H Q:=⟨p,xs,rfl,.inl ⟨h,k⟩⟩
theorem g_listL {p:Addr}{xs:List V} (h:SqL K H p xs) (k:∀ r H2,H r=none->Same H H2->H2 r=some (.lst xs)->Q (.ref r) H2):rListA K [.ref p] H Q:=⟨p,xs,rfl,.inl h,k⟩
theorem g_listT {p:Addr}{xs:List V} (h:SqT K H p xs) (k:∀ r H2,H r=none->Same H H2->H2 r=some (.lst xs)->Q (.ref r) H2):rListA K [.ref p] H Q:=⟨p,xs,rfl,.inr h,k⟩
theorem g_lenL {p:Addr}{xs:List V} (h:SqL K H p xs) (k:Q (.int xs.length) H):rLenA K [.ref p] H Q:=⟨p,xs,rfl,.inl h,k⟩
theorem g_lenT {p:Addr}{xs:List V} (h:SqT K H p xs) (k:Q (.int xs.length) H):rLenA K [.ref p] H Q:=⟨p,xs,rfl,.inr h,k⟩
theorem g_dnew (k:∀ p H2,H p=none->Same H H2->H2 p=some (.dK [])->Q (.ref p) H2):tDNewA σ H Q:=k
theorem g_eq (hs:scal x y=true) (q:Q (.bl (decide (x=y))) H):rEq x y H Q:=⟨hs,q⟩
theorem g_ne (hs:scal x y=true) (q:Q (.bl (!decide (x=y))) H):rNe x y H Q:=⟨hs,q⟩
theorem g_ixL {p:Addr}{xs:List V} (h:SqL K H p xs) (q:∃ v,atI xs i=some v/\Q v H):rIxL K (.ref p) (.int i) H Q:=let ⟨v,e,q⟩:=q;⟨p,xs,i,v,rfl,rfl,h,e,q⟩
theorem g_ixT {p:Addr}{xs:List V} (h:SqT K H p xs) (q:∃ v,atI xs i=some v/\Q v H):rIxT K (.ref p) (.int i) H Q:=let ⟨v,e,q⟩:=q;⟨p,xs,i,v,rfl,rfl,h,e,q⟩
theorem g_at {xs:List V}{R:V->Prop} (e:atI xs i=some v) (q:R v):∃ v,atI xs i=some v/\R v:=⟨v,e,q⟩
theorem g_menu2 {a b:Int}{R:V->Prop} (h0:0<=i) (h1:i < 2) (q:∀ m,(m=a\/m=b)->R (.int m)):∃ v,atI [.int a,.int b] i=some v/\R v:=by
 obtain rfl | rfl:i=0\/i=1:=by omega
 ·exact ⟨_,rfl,q _ (.inl rfl)⟩
 ·exact ⟨_,rfl,q _ (.inr rfl)⟩
theorem g_menu3 {a b c:Int}{R:V->Prop} (h0:0<=i) (h1:i < 3) (q:∀ m,(m=a\/m=b\/m=c)->R (.int m)):∃ v,atI [.int a,.int b,.int c] i=some v/\R v:=by
 obtain rfl | rfl | rfl:i=0\/i=1\/i=2:=by omega
 ·exact ⟨_,rfl,q _ (.inl rfl)⟩
 ·exact ⟨_,rfl,q _ (.inr (.inl rfl))⟩
 ·exact ⟨_,rfl,q _ (.inr (.inr rfl))⟩
theorem g_menu4 {a b c d:Int}{R:V->Prop} (h0:0<=i) (h1:i < 4) (q:∀ m,(m=a\/m=b\/m=c\/m=d)->R (.int m)):∃ v,atI [.int a,.int b,.int c,.int d] i=some v/\R v:=by
 obtain rfl | rfl | rfl | rfl:i=0\/i=1\/i=2\/i=3:=by omega
 ·exact ⟨_,rfl,q _ (.inl rfl)⟩
 ·exact ⟨_,rfl,q _ (.inr (.inl rfl))⟩
 ·exact ⟨_,rfl,q _ (.inr (.inr (.inl rfl)))⟩
 ·exact ⟨_,rfl,q _ (.inr (.inr (.inr rfl)))⟩
theorem g_menu5 {a b c d e:Int}{R:V->Prop} (h0:0<=i) (h1:i < 5) (q:∀ m,(m=a\/m=b\/m=c\/m=d\/m=e)->R (.int m)):∃ v,atI [.int a,.int b,.int c,.int d,.int e] i=some v/\R v:=by
 obtain rfl | rfl | rfl | rfl | rfl:i=0\/i=1\/i=2\/i=3\/i=4:=by omega
 ·exact ⟨_,rfl,q _ (.inl rfl)⟩
 ·exact ⟨_,rfl,q _ (.inr (.inl rfl))⟩
 ·exact ⟨_,rfl,q _ (.inr (.inr (.inl rfl)))⟩
 ·exact ⟨_,rfl,q _ (.inr (.inr (.inr (.inl rfl))))⟩
 ·exact ⟨_,rfl,q _ (.inr (.inr (.inr (.inr rfl))))⟩
theorem g_sub {ts:TSet} (h:ta σ H fun o H1=>tb σ H1 fun i H2=>(ts o i v H2 fun H3=>QS σ H3)):gSub ta tb ts v σ H QS:=h
theorem g_setL {p:Addr}{xs:List V}{Qs:Hp->Prop} (h:H p=some (.lst xs)) (e:ixN xs.length i=some n) (q:∀ H2,Mu p H H2->H2 p=some (.lst (xs.set n v))->Qs H2):rSetA (.ref p) (.int i) v H Qs:=⟨p,xs,i,n,rfl,rfl,h,e,q⟩
theorem g_call {sp:Sp}{dvs:List V}{E:XK} (h:tr σ H fun vs H1=>sp (vs ++ dvs) H1 Q E):tCall sp dvs E tr σ H Q:=h
theorem g_bm {T:String}{rm:V->List V->Hp->VK->Prop} (h:ta σ H fun x H1=>tyV K T x H1/\tr σ H1 fun xs H2=>rm x xs H2 Q):tBM K T rm ta tr σ H Q:=h
theorem g_bm0 {T:String}{rm:V->List V->Hp->VK->Prop} (h:ta σ H fun x H1=>tyV K T x H1/\rm x [] H1 Q):tBM0 K T rm ta σ H Q:=h
theorem g_app {p:Addr}{xs:List V} (h:H p=some (.lst xs)) (hl:xs.length < 100000) (q:∀ H2,Mu p H H2->H2 p=some (.lst (xs ++ [y]))->Q .non H2):rAppA (.ref p) [y] H Q:=⟨p,xs,y,rfl,rfl,h,hl,q⟩
theorem g_ty {p:Addr}{xs:List V}{W:Prop} (h:H p=some (.lst xs)) (q:W):tyV K "list" (.ref p) H/\W:=⟨Or.inl ⟨rfl,_,SqL.of h⟩,q⟩
theorem g_same {H H':Hp}{a:Addr}{o:HO} (s:Same H H') (h:H a=some o):H' a=some o:=s a o h
theorem Bag.same {n:Nat}{H H':Hp}{b:Addr} (s:Same H H') (h:Bag n H b):Bag n H' b:=by
 obtain ⟨k,h1,h2⟩:=h
 exact ⟨k,h1,s _ _ h2⟩
theorem Bag.mu {n:Nat}{H H':Hp}{b p:Addr} (m:Mu p H H') (h:Bag n H b) (e:b ≠ p):Bag n H' b:=by
 obtain ⟨k,h1,h2⟩:=h
 exact ⟨k,h1,m.keep _ _ e h2⟩
theorem g_pow {C:Int->Int->Prop}{z:Int} (c:C i j) (e:i ^ j.toNat=z) (q:Q (.int z) H):rI C (fun i j=>.int (i ^ j.toNat)) (.int i) (.int j) H Q:=⟨i,j,rfl,rfl,c,by subst e;exact q⟩
theorem g_intI (q:Q (.int i) H):rIntA [.int i] H Q:=.inl ⟨i,rfl,q⟩
theorem g_intB {b:Bool} (q:∀ i:Int,(b=true->i=1)->(b=false->i=0)->(i=0\/i=1)->Q (.int i) H):rIntA [.bl b] H Q:=.inr ⟨b,rfl,q⟩
theorem g_abs (q:∀ a,0<=a->(a=i\/a = -i)->Q (.int a) H):rAbsA [.int i] H Q:=⟨i,rfl,q⟩
theorem g_min (q:Q (.int (min i j)) H):rMinA [.int i,.int j] H Q:=⟨i,j,rfl,q⟩
theorem g_max (q:Q (.int (max i j)) H):rMaxA [.int i,.int j] H Q:=⟨i,j,rfl,q⟩
theorem g_fld0 {f:Str} (h:ta σ H fun x H1=>∃ a C dx fs v,x = .ref a/\H1 a=some (.ins C dx fs)/\Cls K C/\NoAttr K C f/\fs.lookup f=some v/\Q v H1):tFld K ta f σ H Q:=h
theorem iteD {p A B:Prop} [Decidable p] (h1:p->A) (h2:¬ p->B):if decide p=true then A else B:=by
 by_cases h:p
 ·rw [decide_eq_true h,if_pos rfl];exact h1 h
 ·rw [decide_eq_false h,if_neg Bool.false_ne_true];exact h2 h
end
end U
namespace U
open PySem L2
inductive D where
 | non | bl (b:Bool) | int (i:Int) | str (s:Str)
 | lst (xs:List D) | tup (xs:List D) | sq (xs:List D)
 | dK (kvs:List (Key × D)) | dT (kvs:List (List Key × D))
 | obj (C:Addr) (fs:List (Str × D))
 | exc (a:Addr) (dd:Option Addr) (C:Addr) (fs:List (Str × D))
 | pt (a:Addr)
 | uK (kvs:List (Key × D))
def XdAt (F:Hp) (d:Option Addr) (ws:List (Str × V)):Prop:=match d with
 | some a=>F a=some (.xd ws)
 | none=>ws=[]
theorem XdAt.mono {F F':Hp}{d:Option Addr}{ws:List (Str × V)} (s:Same F F') (h:XdAt F d ws):XdAt F' d ws:=by
 cases d with
 | none=>exact h
 | some a=>exact s _ _ h
def TpA (K:PySem.W.Frag) (F:Hp) (a:Addr) (vs:List V):Prop:=F a=some (.tup vs)\/(vs=[]/\∀ H:Hp,SqT K H a [])
theorem TpA.seqT {K:PySem.W.Frag}{F:Hp}{a:Addr}{vs:List V} (h:TpA K F a vs):SqT K F a vs:=h.elim SqT.of fun z=>by rw [z.1];exact z.2 F
theorem TpA.mono {K:PySem.W.Frag}{F F':Hp}{a:Addr}{vs:List V} (s:Same F F') (h:TpA K F a vs):TpA K F' a vs:=h.imp (s _ _) fun z=>z
section
variable (K:PySem.W.Frag) (F:Hp)
mutual
def Dt:D->V->Prop
 | .non,v=>v = .non
 | .bl b,v=>v = .bl b
 | .int i,v=>v = .int i
 | .str s,v=>v = .str s
 | .lst xs,v=>∃ a vs,v = .ref a/\F a=some (.lst vs)/\Dts xs vs
 | .sq xs,v=>∃ a vs,v = .ref a/\SqL K F a vs/\Dts xs vs
 | .tup xs,v=>∃ a vs,v = .ref a/\TpA K F a vs/\Dts xs vs
 | .dK kvs,v=>∃ a od ws,v = .ref a/\F a=some (.frz od (.dK ws))/\DtK kvs ws
 | .dT kvs,v=>∃ a od ws,v = .ref a/\F a=some (.frz od (.dT ws))/\DtT kvs ws
 | .obj C fs,v=>∃ a dx ws,v = .ref a/\F a=some (.ins C dx ws)/\DtF fs ws
 | .exc a dd C fs,v=>∃ ws,v = .ref a/\XdAt F dd ws/\DtF fs ws
 | .pt a,v=>v = .ref a
 | .uK kvs,v=>∃ a ws,v = .ref a/\F a=some (.dK ws)/\DtK kvs ws
def Dts:List D->List V->Prop
 | [],vs=>vs=[]
 | x :: xs,vs=>∃ v r,vs=v :: r/\Dt x v/\Dts xs r
def DtK:List (Key × D)->List (Key × V)->Prop
 | [],vs=>vs=[]
 | (k,x) :: xs,vs=>∃ v r,vs=(k,v) :: r/\Dt x v/\DtK xs r
def DtT:List (List Key × D)->List (List Key × V)->Prop
 | [],vs=>vs=[]
 | (k,x) :: xs,vs=>∃ v r,vs=(k,v) :: r/\Dt x v/\DtT xs r
def DtF:List (Str × D)->List (Str × V)->Prop
 | [],vs=>vs=[]
 | (k,x) :: xs,vs=>∃ v r,vs=(k,v) :: r/\Dt x v/\DtF xs r
end
end
theorem Same.rd {H H':Hp}{a:Addr}{u:HO} (e:Same H H') (h:Rd H a u):Rd H' a u:=by
 rcases h with h | ⟨o,h⟩
 ·exact .inl (e a _ h)
 ·exact .inr ⟨o,e a _ h⟩
section
variable {K:PySem.W.Frag}{F F':Hp}
mutual
theorem Dt.mono (s:Same F F'):∀ (d:D) (v:V),Dt K F d v->Dt K F' d v
 | .non,v,h=>by simpa only [Dt] using h
 | .bl b,v,h=>by simpa only [Dt] using h
 | .int i,v,h=>by simpa only [Dt] using h
 | .str x,v,h=>by simpa only [Dt] using h
 | .lst xs,v,h=>by
  simp only [Dt] at h ⊢
  obtain ⟨a,vs,e,q,r⟩:=h
  exact ⟨a,vs,e,s _ _ q,Dts.mono s xs vs r⟩
 | .sq xs,v,h=>by
  simp only [Dt] at h ⊢
  obtain ⟨a,vs,e,q,r⟩:=h
  exact ⟨a,vs,e,s.seq q,Dts.mono s xs vs r⟩
 | .tup xs,v,h=>by
  simp only [Dt] at h ⊢
  obtain ⟨a,vs,e,q,r⟩:=h
  exact ⟨a,vs,e,q.mono s,Dts.mono s xs vs r⟩
 | .dK xs,v,h=>by
  simp only [Dt] at h ⊢
  obtain ⟨a,od,vs,e,q,r⟩:=h
  exact ⟨a,od,vs,e,s _ _ q,DtK.mono s xs vs r⟩
 | .dT xs,v,h=>by
  simp only [Dt] at h ⊢
  obtain ⟨a,od,vs,e,q,r⟩:=h
  exact ⟨a,od,vs,e,s _ _ q,DtT.mono s xs vs r⟩
 | .obj C xs,v,h=>by
  simp only [Dt] at h ⊢
  obtain ⟨a,dx,vs,e,q,r⟩:=h
  exact ⟨a,dx,vs,e,s _ _ q,DtF.mono s xs vs r⟩
 | .exc a dd C xs,v,h=>by
  simp only [Dt] at h ⊢
  obtain ⟨vs,e,q,r⟩:=h
  exact ⟨vs,e,q.mono s,DtF.mono s xs vs r⟩
 | .pt a,v,h=>by simpa only [Dt] using h
 | .uK xs,v,h=>by
  simp only [Dt] at h ⊢
  obtain ⟨a,vs,e,q,r⟩:=h
  exact ⟨a,vs,e,s _ _ q,DtK.mono s xs vs r⟩
theorem Dts.mono (s:Same F F'):∀ (d:List D) (v:List V),Dts K F d v->Dts K F' d v
 | [],v,h=>by simpa only [Dts] using h
 | x :: xs,vs,h=>by
  simp only [Dts] at h ⊢
  obtain ⟨v,r,e,q,t⟩:=h
  exact ⟨v,r,e,Dt.mono s x v q,Dts.mono s xs r t⟩
theorem DtK.mono (s:Same F F'):∀ (d:List (Key × D)) (v:List (Key × V)),DtK K F d v->DtK K F' d v
 | [],v,h=>by simpa only [DtK] using h
 | (k,x) :: xs,vs,h=>by
  simp only [DtK] at h ⊢
  obtain ⟨v,r,e,q,t⟩:=h
  exact ⟨v,r,e,Dt.mono s x v q,DtK.mono s xs r t⟩
theorem DtT.mono (s:Same F F'):∀ (d:List (List Key × D)) (v:List (List Key × V)),DtT K F d v->DtT K F' d v
 | [],v,h=>by simpa only [DtT] using h
 | (k,x) :: xs,vs,h=>by
  simp only [DtT] at h ⊢
  obtain ⟨v,r,e,q,t⟩:=h
  exact ⟨v,r,e,Dt.mono s x v q,DtT.mono s xs r t⟩
theorem DtF.mono (s:Same F F'):∀ (d:List (Str × D)) (v:List (Str × V)),DtF K F d v->DtF K F' d v
 | [],v,h=>by simpa only [DtF] using h
 | (k,x) :: xs,vs,h=>by
  simp only [DtF] at h ⊢
  obtain ⟨v,r,e,q,t⟩:=h
  exact ⟨v,r,e,Dt.mono s x v q,DtF.mono s xs r t⟩
end
end
theorem Dts.len {K:PySem.W.Frag}{F:Hp}:∀ {xs:List D}{vs:List V},Dts K F xs vs->xs.length=vs.length
 | [],vs,h=>by simp only [Dts] at h;subst h;rfl
 | x :: xs,vs,h=>by
  simp only [Dts] at h
  obtain ⟨v,r,rfl,_,t⟩:=h
  simp only [List.length_cons,Dts.len t]
theorem Dts.get {K:PySem.W.Frag}{F:Hp}:∀ {xs:List D}{vs:List V}{i:Nat}{x:D},Dts K F xs vs->xs[i]? = some x->∃ v,vs[i]? = some v/\Dt K F x v
 | [],vs,i,x,h,e=>by simp at e
 | y :: xs,vs,0,x,h,e=>by
  simp only [Dts] at h
  obtain ⟨v,r,rfl,q,t⟩:=h
  simp at e;subst e
  exact ⟨v,rfl,q⟩
 | y :: xs,vs,i+1,x,h,e=>by
  simp only [Dts] at h
  obtain ⟨v,r,rfl,q,t⟩:=h
  obtain ⟨w,e',q'⟩:=Dts.get (i:=i) (x:=x) t (by simpa only [List.getElem?_cons_succ] using e)
  exact ⟨w,by simpa only [List.getElem?_cons_succ] using e',q'⟩
theorem Dts.append {K:PySem.W.Frag}{F:Hp}:∀ {xs ys:List D}{vs ws:List V},Dts K F xs vs->Dts K F ys ws->Dts K F (xs ++ ys) (vs ++ ws)
 | [],ys,vs,ws,h,h'=>by simp only [Dts] at h;subst h;exact h'
 | x :: xs,ys,vs,ws,h,h'=>by
  simp only [Dts] at h
  obtain ⟨v,r,rfl,q,t⟩:=h
  simp only [List.cons_append,Dts]
  exact ⟨v,r ++ ws,rfl,q,t.append h'⟩
theorem Dts.nil {K:PySem.W.Frag}{F:Hp}:Dts K F [] []:=by simp only [Dts]
theorem Dts.cons {K:PySem.W.Frag}{F:Hp}{x:D}{xs:List D}{v:V}{vs:List V} (h:Dt K F x v) (t:Dts K F xs vs):Dts K F (x :: xs) (v :: vs):=by
 simp only [Dts];exact ⟨v,vs,rfl,h,t⟩
theorem Dts.one {K:PySem.W.Frag}{F:Hp}{x:D}{v:V} (h:Dt K F x v):Dts K F [x] [v]:=.cons h .nil
theorem Dts.of {K:PySem.W.Frag}{F:Hp}:∀ {xs:List D}{vs:List V},xs.length=vs.length->(∀ (i:Nat) (x:D) (v:V),xs[i]? = some x->vs[i]? = some v->Dt K F x v)->Dts K F xs vs
 | [],[],_,_=>.nil
 | x :: xs,v :: vs,hl,h=>.cons (h 0 x v rfl rfl) (Dts.of (by simpa using hl) fun i y w e e'=>h (i+1) y w (by simpa using e) (by simpa using e'))
 | [],_ :: _,hl,_=>by simp at hl
 | _ :: _,[],hl,_=>by simp at hl
theorem Dts.set {K:PySem.W.Frag}{F:Hp}{xs:List D}{vs:List V}{i:Nat}{x:D}{v:V} (h:Dts K F xs vs) (q:Dt K F x v):Dts K F (xs.set i x) (vs.set i v):=by
 refine Dts.of (by simp [h.len]) fun j y w e e'=>?_
 rw [List.getElem?_set] at e e'
 split at e
 ·rename_i hij
  rw [if_pos hij] at e'
  split at e
  ·rw [if_pos (by rw [<-h.len];assumption)] at e'
   cases e;cases e';exact q
  ·cases e
 ·rename_i hij
  rw [if_neg hij] at e'
  obtain ⟨u,e1,q1⟩:=h.get e
  rw [e'] at e1;cases e1;exact q1
theorem Dts.take {K:PySem.W.Frag}{F:Hp}{xs:List D}{vs:List V} (n:Nat) (h:Dts K F xs vs):Dts K F (xs.take n) (vs.take n):=by
 refine Dts.of (by simp [h.len]) fun j y w e e'=>?_
 rw [List.getElem?_take] at e e'
 split at e
 ·rw [if_pos (by assumption)] at e'
  obtain ⟨u,e1,q1⟩:=h.get e
  rw [e'] at e1;cases e1;exact q1
 ·cases e
theorem Dts.drop {K:PySem.W.Frag}{F:Hp}{xs:List D}{vs:List V} (n:Nat) (h:Dts K F xs vs):Dts K F (xs.drop n) (vs.drop n):=by
 refine Dts.of (by simp [h.len]) fun j y w e e'=>?_
 rw [List.getElem?_drop] at e e'
 obtain ⟨u,e1,q1⟩:=h.get e
 rw [e'] at e1;cases e1;exact q1
theorem Dts.reverse {K:PySem.W.Frag}{F:Hp}:∀ {xs:List D}{vs:List V},Dts K F xs vs->Dts K F xs.reverse vs.reverse
 | [],vs,h=>by simp only [Dts] at h;subst h;exact .nil
 | x :: xs,vs,h=>by
  simp only [Dts] at h
  obtain ⟨v,r,rfl,q,t⟩:=h
  simp only [List.reverse_cons]
  exact t.reverse.append (.one q)
inductive MO where
 | lst (xs:List D)
 | dK (kvs:List (Key × D))
 | dT (kvs:List (List Key × D))
 | ins (C:Addr) (fs:List (Str × D))
abbrev GH:=Addr->Option MO
def MOk (K:PySem.W.Frag) (F H:Hp) (p:Addr):MO->Prop
 | .lst xs=>∃ vs,H p=some (.lst vs)/\Dts K F xs vs
 | .dK kvs=>∃ ws,H p=some (.dK ws)/\DtK K F kvs ws
 | .dT kvs=>∃ ws,H p=some (.dT ws)/\DtT K F kvs ws
 | .ins C fs=>∃ dx ws,H p=some (.ins C dx ws)/\DtF K F fs ws
theorem MOk.at {K:PySem.W.Frag}{F H:Hp}{p:Addr}{o:MO} (h:MOk K F H p o):∃ u,H p=some u/\∀ vs,u ≠ .tup vs:=by
 cases o with
 | lst xs=>obtain ⟨vs,e,_⟩:=h;exact ⟨_,e,fun _ z=>by cases z⟩
 | dK xs=>obtain ⟨vs,e,_⟩:=h;exact ⟨_,e,fun _ z=>by cases z⟩
 | dT xs=>obtain ⟨vs,e,_⟩:=h;exact ⟨_,e,fun _ z=>by cases z⟩
 | ins C xs=>obtain ⟨dx,vs,e,_⟩:=h;exact ⟨_,e,fun _ z=>by cases z⟩
theorem MOk.mono {K:PySem.W.Frag}{F H F' H':Hp}{p:Addr}{o:MO} (h:MOk K F H p o) (s:Same F F') (k:∀ u,H p=some u->H' p=some u):MOk K F' H' p o:=by
 cases o with
 | lst xs=>obtain ⟨vs,e,d⟩:=h;exact ⟨vs,k _ e,Dts.mono s _ _ d⟩
 | dK xs=>obtain ⟨vs,e,d⟩:=h;exact ⟨vs,k _ e,DtK.mono s _ _ d⟩
 | dT xs=>obtain ⟨vs,e,d⟩:=h;exact ⟨vs,k _ e,DtT.mono s _ _ d⟩
 | ins C xs=>obtain ⟨dx,vs,e,d⟩:=h;exact ⟨dx,vs,k _ e,DtF.mono s _ _ d⟩
inductive R where
 | dat (d:D)
 | own (xs:List D)
 | oK (kvs:List (Key × D))
 | oT (kvs:List (List Key × D))
 | oI (C:Addr) (fs:List (Str × D))
 | slf (C:Addr) (fs:List (Str × D))
 | bag (n:Nat)
 | hp (b:Bool) (a:Addr) (g:GH)
def R.mine:R->Bool
 | .dat _=>false
 | _=>true
def R.d:R->D
 | .dat d=>d
 | .own xs=>.lst xs
 | .oK kvs=>.uK kvs
 | .oT kvs=>.dT kvs
 | .oI C fs=>.obj C fs
 | .slf C fs=>.obj C fs
 | .bag _=>.non
 | .hp _ a _=>.pt a
def R.nobag:R->Bool
 | .bag _=>false
 | .hp b _ _=>!b
 | .oT _=>false
 | .slf _ _=>false
 | _=>true
def R.spc:R->Bool
 | .bag _=>true
 | .slf _ _=>true
 | _=>false
def R.lend:R->Bool
 | .bag _=>true
 | .slf _ _=>true
 | .hp b _ _=>b
 | _=>false
def R.one:R->Bool
 | .dat _=>false
 | .hp _ _ _=>false
 | _=>true
def Fp (v:V) (r:R) (x:Addr):Prop:=match r with
 | .dat _=>False
 | .hp _ _ g=>(g x).isSome=true
 | _=>v = .ref x
theorem Fp.mine {v:V}{r:R}{x:Addr} (h:Fp v r x):r.mine=true:=by cases r <;> first | rfl | exact h.elim
theorem fp_one {p:Addr}{r:R} (h:r.one=true):Fp (.ref p) r p:=by cases r <;> first | rfl | cases h
theorem Fp.one {v:V}{r:R}{x:Addr} (h:Fp v r x) (o:r.one=true):v = .ref x:=by cases r <;> first | exact h | cases o
theorem one_mine {r:R} (h:r.one=true):r.mine=true:=by cases r <;> first | rfl | cases h
theorem one_lend {r:R} (h:r.one=true):r.lend=r.spc:=by cases r <;> first | rfl | cases h
theorem nobag_lend {r:R} (h:r.nobag=true):r.lend=false:=by cases r <;> first | rfl | (cases h;done) | (rename_i b _ _;cases b <;> first | rfl | cases h)
theorem nobag_spc {r:R} (h:r.nobag=true):r.spc=false:=by cases r <;> first | rfl | (cases h;done)
abbrev En:=List (Option R)
def SpcAt (env:En):Prop:=∃ r,env[(0:Nat)]? = some (some r)/\r.spc=true
def ROk (K:PySem.W.Frag) (F H:Hp) (v:V):R->Prop
 | .dat d=>Dt K F d v
 | .own xs=>∃ p vs,v = .ref p/\F p=none/\H p=some (.lst vs)/\Dts K F xs vs
 | .oK kvs=>∃ p ws,v = .ref p/\F p=none/\H p=some (.dK ws)/\DtK K F kvs ws
 | .oT kvs=>∃ p ws,v = .ref p/\F p=none/\H p=some (.dT ws)/\DtT K F kvs ws
 | .oI C fs=>∃ p dx ws,v = .ref p/\F p=none/\H p=some (.ins C dx ws)/\DtF K F fs ws
 | .slf C fs=>∃ p dx ws,v = .ref p/\F p=none/\H p=some (.ins C dx ws)/\DtF K F fs ws
 | .bag n=>∃ b,v = .ref b/\F b=none/\Bag n H b
 | .hp _ a g=>v = .ref a/\(g a).isSome=true/\∀ p o,g p=some o->F p=none/\MOk K F H p o
theorem ROk.at {K:PySem.W.Frag}{F H:Hp}{v:V}{r:R} (h:ROk K F H v r) (m:r.mine=true):∃ p o,v = .ref p/\F p=none/\H p=some o:=by
 cases r with
 | dat d=>cases m
 | own xs=>obtain ⟨p,vs,e,n,q,_⟩:=h;exact ⟨p,_,e,n,q⟩
 | oK xs=>obtain ⟨p,vs,e,n,q,_⟩:=h;exact ⟨p,_,e,n,q⟩
 | oT xs=>obtain ⟨p,vs,e,n,q,_⟩:=h;exact ⟨p,_,e,n,q⟩
 | oI C xs=>obtain ⟨p,dx,vs,e,n,q,_⟩:=h;exact ⟨p,_,e,n,q⟩
 | slf C xs=>obtain ⟨p,dx,vs,e,n,q,_⟩:=h;exact ⟨p,_,e,n,q⟩
 | bag n=>obtain ⟨p,e,n,m,_,q⟩:=h;exact ⟨p,_,e,n,q⟩
 | hp b a g=>
  obtain ⟨e,ha,k⟩:=h
  obtain ⟨o,ho⟩:=Option.isSome_iff_exists.mp ha
  obtain ⟨n,mo⟩:=k a o ho
  obtain ⟨u,hu,_⟩:=mo.at
  exact ⟨a,u,e,n,hu⟩
theorem ROk.nt {K:PySem.W.Frag}{F H:Hp}{p:Addr}{r:R} (h:ROk K F H (.ref p) r) (m:r.mine=true) {o:HO} (ho:H p=some o):∀ vs,o ≠ .tup vs:=fun ws e=>by
 subst e
 cases r with
 | dat d=>cases m
 | own xs=>obtain ⟨p',vs,e,n,q,_⟩:=h;cases e;rw [ho] at q;cases q
 | oK xs=>obtain ⟨p',vs,e,n,q,_⟩:=h;cases e;rw [ho] at q;cases q
 | oT xs=>obtain ⟨p',vs,e,n,q,_⟩:=h;cases e;rw [ho] at q;cases q
 | oI C xs=>obtain ⟨p',dx,vs,e,n,q,_⟩:=h;cases e;rw [ho] at q;cases q
 | slf C xs=>obtain ⟨p',dx,vs,e,n,q,_⟩:=h;cases e;rw [ho] at q;cases q
 | bag n=>obtain ⟨p',e,n,m,_,q⟩:=h;cases e;rw [ho] at q;cases q
 | hp b a g=>
  obtain ⟨e,ha,k⟩:=h
  cases e
  obtain ⟨o,ho'⟩:=Option.isSome_iff_exists.mp ha
  obtain ⟨n,mo⟩:=k p o ho'
  obtain ⟨u,hu,nu⟩:=mo.at
  rw [ho] at hu
  cases hu
  exact nu _ rfl
theorem ROk.fp {K:PySem.W.Frag}{F H:Hp}{v:V}{r:R}{x:Addr} (h:ROk K F H v r) (f:Fp v r x):F x=none/\∃ u,H x=some u/\∀ vs,u ≠ .tup vs:=by
 cases hr:r.one with
 | true=>
  have e:=f.one hr
  subst e
  obtain ⟨p,o,e1,n,q⟩:=h.at (one_mine hr)
  cases e1
  exact ⟨n,o,q,h.nt (one_mine hr) q⟩
 | false=>
  cases r with
  | hp b a g=>
   obtain ⟨e,ha,k⟩:=h
   obtain ⟨o,ho⟩:=Option.isSome_iff_exists.mp f
   obtain ⟨n,mo⟩:=k x o ho
   exact ⟨n,mo.at⟩
  | dat d=>exact f.elim
  | _=>cases hr
def Nt (F:Hp) (a:Addr):Prop:=∀ o,F a=some o->∃ vs,o=HO.tup vs
theorem nt_of {F:Hp}{a:Addr} (h:F a=none):Nt F a:=fun o e=>by rw [h] at e;cases e
theorem nt_no {F H:Hp}{a:Addr}{o:HO} (n:Nt F a) (s:Same F H) (h:H a=some o) (ho:∀ vs,o ≠ .tup vs):F a=none:=by
 cases e:F a with
 | none=>rfl
 | some u=>
  obtain ⟨vs,rfl⟩:=n u e
  have:=s a _ e
  rw [h] at this
  cases this
  exact absurd rfl (ho vs)
theorem nt_upd {F:Hp}{a p:Addr}{o:HO} (n:Nt F a) (h:a ≠ p):Nt (upd F p o) a:=fun u e=>by rw [upd_ne h] at e;exact n u e
theorem ROk.monoF {K:PySem.W.Frag}{F H F' H':Hp}{v:V}{r:R} (h:ROk K F H v r) (s:Same F F') (k:∀ x,Fp v r x->F' x=none/\∀ o,H x=some o->H' x=some o):ROk K F' H' v r:=by
 cases r with
 | dat d=>exact Dt.mono s _ _ h
 | own xs=>obtain ⟨p,vs,e,n,q,t⟩:=h;exact ⟨p,vs,e,(k p e).1,(k p e).2 _ q,Dts.mono s _ _ t⟩
 | oK xs=>obtain ⟨p,vs,e,n,q,t⟩:=h;exact ⟨p,vs,e,(k p e).1,(k p e).2 _ q,DtK.mono s _ _ t⟩
 | oT xs=>obtain ⟨p,vs,e,n,q,t⟩:=h;exact ⟨p,vs,e,(k p e).1,(k p e).2 _ q,DtT.mono s _ _ t⟩
 | oI C xs=>obtain ⟨p,dx,vs,e,n,q,t⟩:=h;exact ⟨p,dx,vs,e,(k p e).1,(k p e).2 _ q,DtF.mono s _ _ t⟩
 | slf C xs=>obtain ⟨p,dx,vs,e,n,q,t⟩:=h;exact ⟨p,dx,vs,e,(k p e).1,(k p e).2 _ q,DtF.mono s _ _ t⟩
 | bag n=>obtain ⟨p,e,n,m,l,q⟩:=h;exact ⟨p,e,(k p e).1,m,l,(k p e).2 _ q⟩
 | hp b a g=>
  obtain ⟨e,ha,z⟩:=h
  refine ⟨e,ha,fun p o ho=>?_⟩
  have kp:=k p (show (g p).isSome=true by rw [ho];rfl)
  exact ⟨kp.1,(z p o ho).2.mono s kp.2⟩
inductive Ix where
 | s (i:Nat) | t (i:Nat)
 deriving DecidableEq
abbrev Tm:=List (V × R)
def Cell (σ:L2.St) (env:En) (tm:Tm):Ix->V->R->Prop
 | .s i,v,r=>σ[i]? = some (some v)/\env[i]? = some (some r)
 | .t i,v,r=>tm[i]? = some (v,r)
structure Zt where
 F:Hp
 H:Hp
 b:Addr
 B:Addr->Prop
structure RelF (K:PySem.W.Frag) (Z:Zt) (F:Hp) (env:En) (tm:Tm) (σ:L2.St) (H:Hp):Prop where
 sub:Same F H
 f0:Same Z.F F
 nw:∀ a,Nt Z.F a->Z.H a ≠ none->Nt F a
 kp:∀ a o,¬ Z.B a->Z.H a=some o->H a=some o
 th:∀ a,H a=none->Z.H a=none
 len:σ.length=env.length
 sl:∀ (i:Nat) (r:R),env[i]? = some (some r)->∃ v,σ[i]? = some (some v)
 ok:∀ a v r,Cell σ env tm a v r->ROk K F H v r
 ow:∀ a v r x,Cell σ env tm a v r->Fp v r x->Z.H x=none\/(r.lend=true/\Z.B x)
 ap:∀ a b v w r q x,Cell σ env tm a v r->Cell σ env tm b w q->Fp v r x->Fp w q x->a=b
 bg:SpcAt env->σ[0]? = some (some (.ref Z.b))
def Rel (K:PySem.W.Frag) (Z:Zt) (env:En) (tm:Tm) (σ:L2.St) (H:Hp):Prop:=∃ F,RelF K Z F env tm σ H
section
variable {K:PySem.W.Frag}{Z:Zt}{F F' H H':Hp}{env env':En}{tm tm':Tm}{σ σ':L2.St}{i:Nat}{v:V}{r:R}
theorem cell_det {a:Ix}{w:V}{q:R} (c:Cell σ env tm a v r) (c':Cell σ env tm a w q):v=w/\r=q:=by
 cases a with
 | s i=>
  obtain ⟨c1,c2⟩:=c
  obtain ⟨d1,d2⟩:=c'
  rw [c1] at d1
  rw [c2] at d2
  cases d1;cases d2
  exact ⟨rfl,rfl⟩
 | t i=>
  have c:tm[i]? = some (v,r):=c
  have c':tm[i]? = some (w,q):=c'
  rw [c] at c'
  cases c'
  exact ⟨rfl,rfl⟩
theorem RelF.ow1 {a:Ix}{p:Addr} (h:RelF K Z F env tm σ H) (c:Cell σ env tm a (.ref p) r) (o:r.one=true:=by rfl):Z.H p=none\/(r.spc=true/\Z.B p):=by
 have:=h.ow _ _ _ p c (fp_one o)
 rw [one_lend o] at this
 exact this
theorem RelF.sub' (h:RelF K Z F env tm σ H) (φ:Ix->Ix) (hl:σ'.length=env'.length) (hs:∀ (i:Nat) (r:R),env'[i]? = some (some r)->∃ v,σ'[i]? = some (some v)) (hc:∀ a v r,Cell σ' env' tm' a v r->Cell σ env tm (φ a) v r)
  (hi:∀ a b v r q,Cell σ' env' tm' a v r->Cell σ' env' tm' b v q->r.mine=true->q.mine=true->φ a=φ b->a=b)
  (hb:SpcAt env'->σ'[0]? = some (some (.ref Z.b))):RelF K Z F env' tm' σ' H:=
 ⟨h.sub,h.f0,h.nw,h.kp,h.th,hl,hs,fun a v r c=>h.ok _ _ _ (hc a v r c),fun a v r x c f=>h.ow _ _ _ x (hc _ _ _ c) f,fun a b v w r q x c c' f f'=>by
  have e:=h.ap _ _ _ _ _ _ x (hc _ _ _ c) (hc _ _ _ c') f f'
  have d:=hc _ _ _ c'
  rw [<-e] at d
  obtain ⟨e1,e2⟩:=cell_det (hc _ _ _ c) d
  subst e1 e2
  exact hi a b v r r c c' f.mine f'.mine e,hb⟩
structure Grow (M:Addr->Prop) (F H F' H':Hp):Prop where
 ff:Same F F'
 sub:Same F' H'
 nw:∀ a,Nt F a->H a ≠ none->Nt F' a
 kp:∀ a o,¬ M a->H a=some o->H' a=some o
 th:∀ a,H' a=none->H a=none
theorem Grow.refl {M:Addr->Prop} (s:Same F H):Grow M F H F H:=⟨Same.refl F,s,fun _ h _=>h,fun _ _ _ h=>h,fun _ h=>h⟩
theorem Grow.pure (s:Same H H') (sub:Same F H):Grow (fun _=>False) F H F H':=⟨Same.refl F,sub.trans s,fun _ h _=>h,fun a o _ h=>s a o h,fun a h=>s.free h⟩
theorem Grow.add {p:Addr}{o:HO} (sub:Same F H) (n:H p=none):Grow (fun _=>False) F H (upd F p o) (upd H p o):=by
 have nF:F p=none:=sub.free n
 refine ⟨Same.new1 nF,fun a u e=>?_,fun a e ne=>?_,fun a u _ e=>by rw [upd_ne (ne_of_none e n)];exact e,fun a e=>?_⟩
 ·by_cases ha:a=p
  ·subst ha;rw [upd_same] at e ⊢;exact e
  ·rw [upd_ne ha] at e ⊢;exact sub a u e
 ·exact nt_upd e fun z=>by subst z;exact ne n
 ·by_cases ha:a=p
  ·subst ha;exact n
  ·rw [upd_ne ha] at e;exact e
theorem RelF.grow {M:Addr->Prop} (h:RelF K Z F env tm σ H) (g:Grow M F H F' H') (hM:∀ a,M a->Z.H a=none\/Z.B a) (hm:∀ a v r x,Cell σ env tm a v r->Fp v r x->¬ M x):RelF K Z F' env tm σ H':=by
 refine ⟨g.sub,h.f0.trans g.ff,fun a e ne=>?_,fun a o nb e=>?_,fun a e=>h.th a (g.th a e),h.len,h.sl,fun a v r c=>?_,h.ow,h.ap,h.bg⟩
 ·exact g.nw a (h.nw a e ne) fun z=>ne (h.th a z)
 ·refine g.kp a o (fun m=>?_) (h.kp a o nb e)
  rcases hM a m with z | z
  ·rw [e] at z;cases z
  ·exact nb z
 ·refine (h.ok a v r c).monoF g.ff fun x f=>?_
  obtain ⟨n1,o,q1,nt⟩:=(h.ok _ _ _ c).fp f
  exact ⟨nt_no (g.nw x (nt_of n1) (by rw [q1];simp)) g.sub (g.kp x o (hm _ _ _ x c f) q1) nt,fun o e=>g.kp x o (hm _ _ _ x c f) e⟩
theorem RelF.grow0 (h:RelF K Z F env tm σ H) (g:Grow (fun _=>False) F H F' H'):RelF K Z F' env tm σ H':=h.grow g (fun _ z=>z.elim) (fun _ _ _ _ _ _ z=>z)
theorem cell_push {a:Ix}{w:V}{q:R} (c:Cell σ env (tm ++ [(v,r)]) a w q):Cell σ env tm a w q\/(a = .t tm.length/\w=v/\q=r):=by
 cases a with
 | s i=>exact .inl c
 | t i=>
  have c:(tm ++ [(v,r)])[i]? = some (w,q):=c
  by_cases hi:i < tm.length
  ·rw [List.getElem?_append_left hi] at c;exact .inl c
  ·rw [List.getElem?_append_right (by omega)] at c
   have:i - tm.length=0:=by
    by_cases hz:i - tm.length=0
    ·exact hz
    ·rw [List.getElem?_eq_none (by simp;omega)] at c;cases c
   rw [this] at c;simp at c
   exact .inr ⟨by congr 1;omega,c.1.symm,c.2.symm⟩
theorem cell_old {a:Ix}{w:V}{q:R} (c:Cell σ env tm a w q):Cell σ env (tm ++ [(v,r)]) a w q:=by
 cases a with
 | s i=>exact c
 | t i=>
  have c:tm[i]? = some (w,q):=c
  show (tm ++ [(v,r)])[i]? = some (w,q)
  rw [List.getElem?_append_left (List.getElem?_eq_some_iff.mp c).1];exact c
theorem cell_last:Cell σ env (tm ++ [(v,r)]) (.t tm.length) v r:=by
 show (tm ++ [(v,r)])[tm.length]? = some (v,r)
 rw [List.getElem?_append_right (Nat.le_refl _)];simp
theorem RelF.push (h:RelF K Z F env tm σ H) (ok:ROk K F H v r) (hn:∀ x,Fp v r x->(Z.H x=none\/(r.lend=true/\Z.B x))/\∀ a w q,Cell σ env tm a w q->¬ Fp w q x):RelF K Z F env (tm ++ [(v,r)]) σ H:=by
 refine ⟨h.sub,h.f0,h.nw,h.kp,h.th,h.len,h.sl,fun a w q c=>?_,fun a w q x c f=>?_,fun a b w w' q q' x c c' f f'=>?_,h.bg⟩
 ·rcases cell_push c with c | ⟨_,rfl,rfl⟩
  ·exact h.ok _ _ _ c
  ·exact ok
 ·rcases cell_push c with c | ⟨_,rfl,rfl⟩
  ·exact h.ow _ _ _ x c f
  ·exact (hn x f).1
 ·rcases cell_push c with d | ⟨ea,e,e2⟩
  ·rcases cell_push c' with d' | ⟨eb,e',e2'⟩
   ·exact h.ap _ _ _ _ _ _ x d d' f f'
   ·subst e' e2'
    exact absurd f ((hn x f').2 _ _ _ d)
  ·rcases cell_push c' with d' | ⟨eb,e',e2'⟩
   ·subst e e2
    exact absurd f' ((hn x f).2 _ _ _ d')
   ·rw [ea,eb]
theorem RelF.pushD {d:D} (h:RelF K Z F env tm σ H) (ok:Dt K F d v):RelF K Z F env (tm ++ [(v,.dat d)]) σ H:=h.push (r:=.dat d) ok fun _ m=>m.elim
theorem RelF.pushN {p:Addr}{F0:Hp} (h:RelF K Z F env tm σ H') (h0:RelF K Z F0 env tm σ H) (n:H p=none) (ok:ROk K F H' (.ref p) r) (o:r.one=true:=by rfl):RelF K Z F env (tm ++ [(.ref p,r)]) σ H':=
 h.push ok fun x f=>by
  have e:=f.one o
  cases e
  refine ⟨.inl (h0.th _ n),fun a w q c f'=>?_⟩
  obtain ⟨_,u,hu,_⟩:=(h0.ok _ _ _ c).fp f'
  rw [n] at hu
  cases hu
theorem RelF.pop (h:RelF K Z F env (tm ++ [(v,r)]) σ H):RelF K Z F env tm σ H:=h.sub' id h.len h.sl (fun _ _ _ c=>cell_old c) (fun _ _ _ _ _ _ _ _ _ e=>e) h.bg
theorem RelF.pops {ts:Tm} (h:RelF K Z F env (tm ++ ts) σ H):RelF K Z F env tm σ H:=h.sub' id h.len h.sl (fun a v r c=>by
 cases a with
 | s i=>exact c
 | t i=>
  have c:tm[i]? = some (v,r):=c
  show (tm ++ ts)[i]? = some (v,r)
  rw [List.getElem?_append_left (List.getElem?_eq_some_iff.mp c).1];exact c) (fun _ _ _ _ _ _ _ _ _ e=>e) h.bg
theorem RelF.chgF {M:Addr->Prop}{a:Ix}{r':R} (h:RelF K Z F env tm σ H) (g:Grow M F H F' H') (c:Cell σ env tm a v r) (hM:∀ x,M x->Fp v r x) (hN:∀ x,Fp v r' x->Fp v r x\/H x=none) (ok:ROk K F' H' v r') (nl:r'.lend=r.lend)
  (hc:∀ b w q,Cell σ env' tm' b w q->(b=a/\w=v/\q=r')\/(b ≠ a/\Cell σ env tm b w q)) (hl:σ.length=env'.length) (hs:∀ (i:Nat) (r:R),env'[i]? = some (some r)->∃ v,σ[i]? = some (some v))
  (hb:SpcAt env'->SpcAt env):RelF K Z F' env' tm' σ H':=by
 have far:∀ b w q x,b ≠ a->Cell σ env tm b w q->Fp w q x->¬ M x:=fun b w q x nb c' f z=>nb (h.ap _ _ _ _ _ _ x c' c f (hM x z))
 have own:∀ x,Fp v r' x->Z.H x=none\/(r'.lend=true/\Z.B x):=fun x f=>by
  rcases hN x f with z | z
  ·rw [nl];exact h.ow _ _ _ x c z
  ·exact .inl (h.th x z)
 have apart:∀ b w q x,b ≠ a->Cell σ env tm b w q->Fp w q x->¬ Fp v r' x:=fun b w q x nb c' f f'=>by
  rcases hN x f' with z | z
  ·exact nb (h.ap _ _ _ _ _ _ x c' c f z)
  ·obtain ⟨_,u,hu,_⟩:=(h.ok _ _ _ c').fp f
   rw [z] at hu;cases hu
 refine ⟨g.sub,h.f0.trans g.ff,fun a e ne=>g.nw a (h.nw a e ne) fun z=>ne (h.th a z),fun x o nb e=>g.kp x o (fun mx=>?_) (h.kp x o nb e),fun a e=>h.th a (g.th a e),hl,hs,fun b w q c'=>?_,fun b w q x c' f=>?_,fun b b' w w' q q' x c1 c2 f1 f2=>?_,fun e=>h.bg (hb e)⟩
 ·rcases h.ow _ _ _ x c (hM x mx) with z | z
  ·rw [e] at z;cases z
  ·exact nb z.2
 ·rcases hc b w q c' with ⟨_,rfl,rfl⟩ | ⟨n,c'⟩
  ·exact ok
  ·refine (h.ok _ _ _ c').monoF g.ff fun x f=>?_
   obtain ⟨n1,o,q1,nt⟩:=(h.ok _ _ _ c').fp f
   have nx:=far _ _ _ x n c' f
   exact ⟨nt_no (g.nw x (nt_of n1) (by rw [q1];simp)) g.sub (g.kp x o nx q1) nt,fun o e=>g.kp x o nx e⟩
 ·rcases hc b w q c' with ⟨_,rfl,rfl⟩ | ⟨n,c'⟩
  ·exact own x f
  ·exact h.ow _ _ _ x c' f
 ·rcases hc b w q c1 with ⟨e1,e2,e3⟩ | ⟨n1,c1⟩
  ·rcases hc b' w' q' c2 with ⟨g1,g2,g3⟩ | ⟨n2,c2⟩
   ·rw [e1,g1]
   ·subst e2 e3
    exact absurd f1 (apart _ _ _ x n2 c2 f2)
  ·rcases hc b' w' q' c2 with ⟨g1,g2,g3⟩ | ⟨n2,c2⟩
   ·subst g2 g3
    exact absurd f2 (apart _ _ _ x n1 c1 f1)
   ·exact h.ap _ _ _ _ _ _ x c1 c2 f1 f2
theorem RelF.chg {M:Addr->Prop}{a:Ix}{p:Addr}{r':R} (h:RelF K Z F env tm σ H) (g:Grow M F H F' H') (c:Cell σ env tm a (.ref p) r) (m:r.one=true) (hM:∀ x,M x->x=p) (ok:ROk K F' H' (.ref p) r') (nb:r'.spc=r.spc)
  (hc:∀ b w q,Cell σ env' tm' b w q->(b=a/\w = .ref p/\q=r')\/(b ≠ a/\Cell σ env tm b w q)) (hl:σ.length=env'.length) (hs:∀ (i:Nat) (r:R),env'[i]? = some (some r)->∃ v,σ[i]? = some (some v))
  (hb:SpcAt env'->SpcAt env) (m':r'.one=true:=by rfl):RelF K Z F' env' tm' σ H':=
 h.chgF g c (fun x z=>by rw [hM x z];exact fp_one m) (fun x f=>.inl (by have e:=f.one m';cases e;exact fp_one m)) ok (by rw [one_lend m,one_lend m'];exact nb) hc hl hs hb
theorem ROk.root {p:Addr} (h:ROk K F H (.ref p) r) (m:r.mine=true):Fp (.ref p) r p:=by
 cases hr:r.one with
 | true=>exact fp_one hr
 | false=>
  cases r with
  | dat d=>cases m
  | hp b a g=>
   obtain ⟨e,ha,_⟩:=h
   cases e
   exact ha
  | _=>cases hr
theorem ROk.frz {p:Addr} (h:ROk K F H (.ref p) r) (nb:r.nobag=true) (m:r.mine=true):∃ o,F p=none/\H p=some o/\Dt K (upd F p o) r.d (.ref p):=by
 have s:∀ {o},F p=none->Same F (upd F p o):=fun n=>Same.new1 n
 cases r with
 | dat d=>cases m
 | own xs=>obtain ⟨q,vs,e,n,hq,t⟩:=h;cases e;exact ⟨_,n,hq,by simp only [R.d,Dt];exact ⟨p,vs,rfl,upd_same,Dts.mono (s n) _ _ t⟩⟩
 | oK xs=>obtain ⟨q,vs,e,n,hq,t⟩:=h;cases e;exact ⟨_,n,hq,by simp only [R.d,Dt];exact ⟨p,vs,rfl,upd_same,DtK.mono (s n) _ _ t⟩⟩
 | slf C xs=>cases nb
 | oT xs=>cases nb
 | oI C xs=>obtain ⟨q,dx,vs,e,n,hq,t⟩:=h;cases e;exact ⟨_,n,hq,by simp only [R.d,Dt];exact ⟨p,dx,vs,rfl,upd_same,DtF.mono (s n) _ _ t⟩⟩
 | bag n=>cases nb
 | hp b a g=>
  obtain ⟨e,ha,k⟩:=h
  cases e
  obtain ⟨o,ho⟩:=Option.isSome_iff_exists.mp ha
  obtain ⟨n,mo⟩:=k p o ho
  obtain ⟨u,hu,_⟩:=mo.at
  exact ⟨u,n,hu,by simp only [R.d,Dt]⟩
theorem RelF.frz {a:Ix} (h:RelF K Z F env tm σ H) (c:Cell σ env tm a v r) (nb:r.nobag=true)
  (hc:∀ b w q,Cell σ env' tm' b w q->(b=a/\w=v/\q = .dat r.d)\/(b ≠ a/\Cell σ env tm b w q)) (hl:σ.length=env'.length) (hs:∀ (i:Nat) (r:R),env'[i]? = some (some r)->∃ v,σ[i]? = some (some v))
  (hb:SpcAt env'->SpcAt env):Rel K Z env' tm' σ H:=by
 cases m:r.mine with
 | false=>
  have e:∃ d,r = .dat d:=by cases r <;> first | exact ⟨_,rfl⟩ | cases m
  obtain ⟨d,rfl⟩:=e
  refine ⟨F,h.sub,h.f0,h.nw,h.kp,h.th,hl,hs,fun b w q c'=>?_,fun b w q x c' f=>?_,fun b b' w w' q q' x c1 c2 f1 f2=>?_,fun e=>h.bg (hb e)⟩
  ·rcases hc b w q c' with ⟨_,rfl,rfl⟩ | ⟨n,c'⟩
   ·exact h.ok _ _ _ c
   ·exact h.ok _ _ _ c'
  ·rcases hc b w q c' with ⟨_,e,rfl⟩ | ⟨n,c'⟩
   ·exact f.elim
   ·exact h.ow _ _ _ x c' f
  ·rcases hc b w q c1 with ⟨e1,e2,rfl⟩ | ⟨n1,c1⟩
   ·exact f1.elim
   ·rcases hc b' w' q' c2 with ⟨f1,f2',rfl⟩ | ⟨n2,c2⟩
    ·exact f2.elim
    ·exact h.ap _ _ _ _ _ _ x c1 c2 f1 f2
 | true=>
  obtain ⟨p,o,rfl,nF,hp⟩:=(h.ok _ _ _ c).at m
  obtain ⟨o',_,hp',dt⟩:=(h.ok _ _ _ c).frz nb m
  rw [hp] at hp';cases hp'
  have m1:=(h.ok _ _ _ c).root m
  have zp:Z.H p=none:=by
   rcases h.ow _ _ _ p c m1 with z | z
   ·exact z
   ·rw [nobag_lend nb] at z;cases z.1
  have ff:Same F (upd F p o):=Same.new1 nF
  refine ⟨upd F p o,fun x u e=>?_,h.f0.trans ff,fun x e ne=>?_,h.kp,h.th,hl,hs,fun b w q c'=>?_,fun b w q x c' f=>?_,fun b b' w w' q q' x c1 c2 f1 f2=>?_,fun e=>h.bg (hb e)⟩
  ·by_cases hx:x=p
   ·subst hx;rw [upd_same] at e;cases e;exact hp
   ·rw [upd_ne hx] at e;exact h.sub x u e
  ·exact nt_upd (h.nw x e ne) fun z=>by subst z;exact ne zp
  ·rcases hc b w q c' with ⟨_,rfl,rfl⟩ | ⟨n,c'⟩
   ·exact dt
   ·refine (h.ok _ _ _ c').monoF ff fun x f=>?_
    have hx:x ≠ p:=fun z=>by subst z;exact n (h.ap _ _ _ _ _ _ x c' c f m1)
    exact ⟨by rw [upd_ne hx];exact ((h.ok _ _ _ c').fp f).1,fun _ e=>e⟩
  ·rcases hc b w q c' with ⟨_,e,rfl⟩ | ⟨n,c'⟩
   ·exact f.elim
   ·exact h.ow _ _ _ x c' f
  ·rcases hc b w q c1 with ⟨e1,e2,rfl⟩ | ⟨n1,c1⟩
   ·exact f1.elim
   ·rcases hc b' w' q' c2 with ⟨f1',f2',rfl⟩ | ⟨n2,c2⟩
    ·exact f2.elim
    ·exact h.ap _ _ _ _ _ _ x c1 c2 f1 f2
theorem cell_setS {a:Ix}{w:V}{q r':R} (c:Cell σ (env.set i (some r')) tm a w q) (hv:σ[i]? = some (some v)):(a = .s i/\w=v/\q=r')\/(a ≠ .s i/\Cell σ env tm a w q):=by
 cases a with
 | t j=>exact .inr ⟨(by intro z;cases z),c⟩
 | s j=>
  obtain ⟨c1,c2⟩:=c
  by_cases hij:i=j
  ·subst hij
   rw [hv] at c1;cases c1
   rw [List.getElem?_set] at c2
   rw [if_pos rfl] at c2
   split at c2
   ·cases c2;exact .inl ⟨rfl,rfl,rfl⟩
   ·cases c2
  ·rw [List.getElem?_set,if_neg hij] at c2
   exact .inr ⟨by intro z;cases z;exact hij rfl,c1,c2⟩
theorem set_sl {r':R} (h:∀ (i:Nat) (r:R),env[i]? = some (some r)->∃ v,σ[i]? = some (some v)) (hv:σ[i]? = some (some v)):∀ (j:Nat) (r:R),(env.set i (some r'))[j]? = some (some r)->∃ v,σ[j]? = some (some v):=fun j r e=>by
 by_cases hij:i=j
 ·subst hij;exact ⟨v,hv⟩
 ·rw [List.getElem?_set,if_neg hij] at e;exact h j r e
theorem set_bg {r':R} (nb:i=0->r'.spc=false) (e:SpcAt (env.set i (some r'))):SpcAt env:=by
 obtain ⟨r,e,s⟩:=e
 by_cases hij:i=0
 ·subst hij
  rw [List.getElem?_set,if_pos rfl] at e
  split at e
  ·cases e;rw [nb rfl] at s;cases s
  ·cases e
 ·rw [List.getElem?_set,if_neg hij] at e;exact ⟨r,e,s⟩
theorem RelF.frzS (h:RelF K Z F env tm σ H) (e:env[i]? = some (some r)) (nb:r.nobag=true):Rel K Z (env.set i (some (.dat r.d))) tm σ H:=by
 obtain ⟨v,hv⟩:=h.sl i r e
 exact h.frz (a:=.s i) ⟨hv,e⟩ nb (fun b w q c=>cell_setS c hv) (by rw [List.length_set];exact h.len) (set_sl h.sl hv) fun e=>set_bg (fun _=>rfl) e
theorem cell_frzT {a:Ix}{w:V}{q r':R} (c:Cell σ env (tm ++ [(v,r')]) a w q):(a = .t tm.length/\w=v/\q=r')\/(a ≠ .t tm.length/\Cell σ env (tm ++ [(v,r)]) a w q):=by
 by_cases ha:a = .t tm.length
 ·rcases cell_push c with d | ⟨e1,e2,e3⟩
  ·subst ha
   have d:tm[tm.length]? = some (w,q):=d
   simp at d
  ·exact .inl ⟨e1,e2,e3⟩
 ·rcases cell_push c with d | ⟨e1,e2,e3⟩
  ·exact .inr ⟨ha,cell_old d⟩
  ·exact absurd e1 ha
theorem RelF.frzT (h:RelF K Z F env (tm ++ [(v,r)]) σ H) (nb:r.nobag=true):Rel K Z env (tm ++ [(v,.dat r.d)]) σ H:=
 h.frz (a:=.t tm.length) cell_last nb (fun b w q c=>cell_frzT c) h.len h.sl id
theorem RelF.asg (h:RelF K Z F env (tm ++ [(v,r)]) σ H) (hi:i < env.length) (nb:i=0->r.spc=false):RelF K Z F (env.set i (some r)) tm (σ.set i (some v)) H:=by
 have hi':i < σ.length:=by rw [h.len];exact hi
 refine h.sub' (fun a=>if a = .s i then .t tm.length else a) (by simp [h.len]) (fun j q e=>?_) (fun a w q c=>?_) (fun a b w q q' c c' m m' e=>?_) fun e=>?_
 ·by_cases hij:i=j
  ·subst hij;exact ⟨v,by simp [hi']⟩
  ·rw [List.getElem?_set,if_neg hij] at e ⊢;exact h.sl j q e
 ·cases a with
  | t j=>
   rw [if_neg (by intro z;cases z)]
   exact cell_old c
  | s j=>
   obtain ⟨c1,c2⟩:=c
   by_cases hij:i=j
   ·subst hij
    rw [if_pos rfl]
    simp [hi'] at c1
    simp [hi] at c2
    subst c1 c2
    exact cell_last
   ·rw [if_neg (by intro z;cases z;exact hij rfl)]
    rw [List.getElem?_set,if_neg hij] at c1 c2
    exact ⟨c1,c2⟩
 ·have tl:∀ {w q},¬ Cell (σ.set i (some v)) (env.set i (some r)) tm (.t tm.length) w q:=fun {w q} z=>by
   have z:tm[tm.length]? = some (w,q):=z
   simp at z
  by_cases ha:a = .s i
  ·by_cases hb:b = .s i
   ·rw [ha,hb]
   ·rw [if_pos ha,if_neg hb] at e
    subst e
    exact absurd c' tl
  ·by_cases hb:b = .s i
   ·rw [if_neg ha,if_pos hb] at e
    subst e
    exact absurd c tl
   ·rw [if_neg ha,if_neg hb] at e;exact e
 ·have e1:=set_bg nb e
  have:i ≠ 0:=fun z=>by
   subst z
   obtain ⟨r',e,s⟩:=e
   simp [hi] at e
   have:=nb rfl
   rw [e,s] at this;cases this
  rw [List.getElem?_set,if_neg this]
  exact h.bg e1
end
end U
namespace U
open PySem L2
abbrev DTE:=En->(R->En->Prop)->Prop
abbrev DTT:=En->(Bool->En->Prop)->Prop
abbrev DTA:=En->(List D->En->Prop)->Prop
abbrev DTG:=R->En->(En->Prop)->Prop
abbrev DTI:=En->(List D->En->Prop)->Prop
structure DEnds where
 nx:En->Prop
 rt:R->En->Prop
 bk:En->Prop:=fun _=>False
 ct:En->Prop:=fun _=>False
abbrev DTS:=DEnds->En->Prop
def Td (vs:List V) (ds:List D):Tm:=vs.zip (ds.map R.dat)
section
variable (K:PySem.W.Frag)
def SE (te:TE) (de:DTE):Prop:=∀ (Z:Zt) (env:En) (tm:Tm) (σ:L2.St) (H:Hp) (Q:VK) (Qd:R->En->Prop),Rel K Z env tm σ H->de env Qd ->
 (∀ v r env' H',Rel K Z env' (tm ++ [(v,r)]) σ H'->r.nobag=true->Qd r env'->Q v H')->te σ H Q
def ST (tt:TT) (dt:DTT):Prop:=∀ (Z:Zt) (env:En) (tm:Tm) (σ:L2.St) (H:Hp) (Q:Bool->Hp->Prop) (Qd:Bool->En->Prop),Rel K Z env tm σ H->dt env Qd ->
 (∀ b env' H',Rel K Z env' tm σ H'->Qd b env'->Q b H')->tt σ H Q
def SA (ta:TA) (da:DTA):Prop:=∀ (Z:Zt) (env:En) (tm:Tm) (σ:L2.St) (H:Hp) (Q:List V->Hp->Prop) (Qd:List D->En->Prop),Rel K Z env tm σ H->da env Qd ->
 (∀ vs ds env' H',Rel K Z env' (tm ++ Td vs ds) σ H'->vs.length=ds.length->Qd ds env'->Q vs H')->ta σ H Q
structure EK (Z:Zt) (tm:Tm) (D:Ends) (Dd:DEnds):Prop where
 nx:∀ env σ H,Rel K Z env tm σ H->Dd.nx env->D.nx σ H
 rt:∀ v r env σ H,Rel K Z env [(v,r)] σ H->r.nobag=true->Dd.rt r env->D.rt v H
 bk:∀ env σ H,Rel K Z env tm σ H->Dd.bk env->D.bk σ H
 ct:∀ env σ H,Rel K Z env tm σ H->Dd.ct env->D.ct σ H
def SS (ts:TS) (ds:DTS):Prop:=∀ (Z:Zt) (env:En) (tm:Tm) (σ:L2.St) (H:Hp) (D:Ends) (Dd:DEnds),Rel K Z env tm σ H->EK K Z tm D Dd->ds Dd env->ts D σ H
def SG (own:List Nat) (g:TG) (dg:DTG):Prop:=∀ (Z:Zt) (env:En) (tm:Tm) (σ:L2.St) (H:Hp) (v:V) (r:R) (Q:L2.St->Hp->Prop) (Qd:En->Prop),Rel K Z env (tm ++ [(v,r)]) σ H->r.nobag=true->dg r env Qd ->
 (∀ env' σ' H',Rel K Z env' tm σ' H'->wipe σ' own=wipe σ own->Qd env'->Q σ' H')->g v σ H Q
structure ItOk (Z:Zt) (tm:Tm) (J:It) (xs:List D):Prop where
 go:∀ i env ts σ H,Rel K Z env (tm ++ ts) σ H->i < xs.length->J.go i H
 yld:∀ i env ts σ H v H' x,Rel K Z env (tm ++ ts) σ H->J.yld i H v H'->xs[i]? = some x->Rel K Z env (tm ++ ts ++ [(v,.dat x)]) σ H'
 stop:∀ i env ts σ H,Rel K Z env (tm ++ ts) σ H->xs.length<=i->J.stop i H
def SI (wi:TI) (di:DTI):Prop:=∀ (Z:Zt) (env:En) (tm:Tm) (σ:L2.St) (H:Hp) (R:It->Hp->Prop) (Qd:List D->En->Prop),Rel K Z env tm σ H->di env Qd ->
 (∀ J ts xs env' H' Z',(∀ {env tm σ H},Rel K Z' env tm σ H->Rel K Z env tm σ H)->Rel K Z' env' (tm ++ ts) σ H'->ItOk K Z' (tm ++ ts) J xs->Qd xs env'->R J H')->wi σ H R
end
def DE (X:Cx) (e:Expr) (te:TE) (de:DTE):Prop:=PE X e te/\SE X.K te de
def DT (X:Cx) (e:Expr) (tt:TT) (dt:DTT):Prop:=PT X e tt/\ST X.K tt dt
def DTs (X:Cx) (e:List Expr) (tt:TT) (dt:DTT):Prop:=PTs X e tt/\ST X.K tt dt
def DW (X:Cx) (e:Expr) (tt:TT) (dt:DTT):Prop:=PW X e tt/\ST X.K tt dt
def DA (X:Cx) (es:List Expr) (ta:TA) (da:DTA):Prop:=PA X es ta/\SA X.K ta da
def DKw (X:Cx) (es:List Keyword) (ta:TA) (da:DTA):Prop:=PK X es ta/\SA X.K ta da
def DS (X:Cx) (st:Stmt) (ts:TS) (ds:DTS):Prop:=PS X st ts/\SS X.K ts ds
def DSs (X:Cx) (st:List Stmt) (ts:TS) (ds:DTS):Prop:=PSs X st ts/\SS X.K ts ds
def DG (X:Cx) (own:List Nat) (tg:Expr) (g:TG) (dg:DTG):Prop:=PG X tg g/\SG X.K own g dg
def DI (X:Cx) (tg it:Expr) (wi:TI) (di:DTI):Prop:=PI X tg it wi/\SI X.K wi di
section
variable {K:PySem.W.Frag}{Z:Zt}{F F' H H':Hp}{env env':En}{tm tm':Tm}{σ σ':L2.St}{i:Nat}{v:V}{r:R}
structure RNew (K:PySem.W.Frag) (H F' H':Hp) (v:V) (q:R):Prop where
 ok:ROk K F' H' v q
 nb:q.nobag=true
 nw:∀ x,Fp v q x->H x=none
theorem RelF.new {q:R} (h:RelF K Z F env tm σ H) (g:Grow (fun _=>False) F H F' H') (n:RNew K H F' H' v q):Rel K Z env (tm ++ [(v,q)]) σ H':=by
 refine ⟨F',(h.grow0 g).push n.ok fun x f=>?_⟩
 have hp:=n.nw x f
 refine ⟨.inl (h.th x hp),fun a w q' c f'=>?_⟩
 obtain ⟨_,u,hu,_⟩:=(h.ok _ _ _ c).fp f'
 rw [hp] at hu;cases hu
theorem RelF.newB {q:R}{M:Addr->Prop} (h:RelF K Z F' env tm σ H') (hth:∀ p,H p=none->Z.H p=none) (hc:∀ a w q' x,Cell σ env tm a w q'->Fp w q' x->H x ≠ none) (n:RNew K H F' H' v q):Rel K Z env (tm ++ [(v,q)]) σ H':=by
 refine ⟨F',h.push n.ok fun x f=>?_⟩
 have hp:=n.nw x f
 exact ⟨.inl (hth x hp),fun a w q' c f'=>absurd hp (hc _ _ _ x c f')⟩
theorem Rel.frzT (h:Rel K Z env (tm ++ [(v,r)]) σ H) (nb:r.nobag=true):Rel K Z env (tm ++ [(v,.dat r.d)]) σ H:=let ⟨_,h⟩:=h;h.frzT nb
theorem Rel.pop (h:Rel K Z env (tm ++ [(v,r)]) σ H):Rel K Z env tm σ H:=let ⟨F,h⟩:=h;⟨F,h.pop⟩
theorem Rel.pops {ts:Tm} (h:Rel K Z env (tm ++ ts) σ H):Rel K Z env tm σ H:=let ⟨F,h⟩:=h;⟨F,h.pops⟩
theorem cell_app {a:Ix}{w:V}{q:R}{ts:Tm} (c:Cell σ env tm a w q):Cell σ env (tm ++ ts) a w q:=by
 cases a with
 | s i=>exact c
 | t i=>
  have c:tm[i]? = some (w,q):=c
  show (tm ++ ts)[i]? = some (w,q)
  rw [List.getElem?_append_left (List.getElem?_eq_some_iff.mp c).1];exact c
theorem cell_appR {w:V}{q:R}{ts:Tm}{j:Nat} (c:ts[j]? = some (w,q)):Cell σ env (tm ++ ts) (.t (tm.length+j)) w q:=by
 show (tm ++ ts)[tm.length+j]? = some (w,q)
 rw [List.getElem?_append_right (by omega),Nat.add_sub_cancel_left];exact c
theorem RelF.only {ts:Tm} (h:RelF K Z F env (tm ++ ts) σ H):RelF K Z F env ts σ H:=by
 refine h.sub' (fun a=>match a with | .s i=>.s i | .t i=>.t (tm.length+i)) h.len h.sl (fun a w q c=>?_) (fun a b w q q' _ _ _ _ e=>?_) h.bg
 ·cases a with
  | s i=>exact c
  | t i=>exact cell_appR c
 ·cases a with
  | s i=>cases b with
   | s j=>exact e
   | t j=>cases e
  | t i=>cases b with
   | s j=>cases e
   | t j=>
    have e:Ix.t (tm.length+i)=Ix.t (tm.length+j):=e
    cases (Nat.add_left_cancel (Ix.t.inj e));rfl
theorem Rel.only {ts:Tm} (h:Rel K Z env (tm ++ ts) σ H):Rel K Z env ts σ H:=let ⟨F,h⟩:=h;⟨F,h.only⟩
theorem Rel.asg (h:Rel K Z env (tm ++ [(v,r)]) σ H) (hi:i < env.length) (nb:i=0->r.spc=false):Rel K Z (env.set i (some r)) tm (σ.set i (some v)) H:=let ⟨F,h⟩:=h;⟨F,h.asg hi nb⟩
theorem td_get {vs:List V}{ds:List D} (hl:vs.length=ds.length) {j:Nat}{d:D} (e:ds[j]? = some d):∃ v,vs[j]? = some v/\(Td vs ds)[j]? = some (v,.dat d):=by
 have hj:j < vs.length:=by rw [hl];exact (List.getElem?_eq_some_iff.mp e).1
 refine ⟨vs[j],by simp [hj],?_⟩
 unfold Td
 rw [List.getElem?_zip_eq_some]
 exact ⟨by simp [hj],by simp [e]⟩
theorem RelF.dts {vs:List V}{ds:List D} (h:RelF K Z F env (tm ++ Td vs ds) σ H) (hl:vs.length=ds.length):Dts K F ds vs:=by
 refine Dts.of hl.symm fun j d v e e'=>?_
 obtain ⟨w,e1,e2⟩:=td_get hl e
 rw [e'] at e1;cases e1
 exact h.ok _ _ _ (cell_appR e2)
theorem td_snoc {vs:List V}{ds:List D}{d:D} (hl:vs.length=ds.length):Td (vs ++ [v]) (ds ++ [d])=Td vs ds ++ [(v,.dat d)]:=by
 unfold Td
 rw [List.map_append,List.zip_append (by simp [hl])]
 rfl
theorem td_cons {vs:List V}{ds:List D}{d:D}:Td (v :: vs) (d :: ds)=(v,.dat d) :: Td vs ds:=rfl
theorem RelF.top {d:D} (h:RelF K Z F env (tm ++ [(v,.dat d)]) σ H):Dt K F d v:=h.ok _ _ _ cell_last
theorem RelF.top2 {d d':D}{w:V} (h:RelF K Z F env (tm ++ [(v,.dat d)] ++ [(w,.dat d')]) σ H):Dt K F d v/\Dt K F d' w:=⟨h.ok _ _ _ (cell_old cell_last),h.top⟩
end
def dVar (i:Nat) (env:En) (Q:R->En->Prop):Prop:=match env[i]? with
 | some (some (.dat d))=>Q (.dat d) env
 | some (some (.own xs))=>Q (.dat (.lst xs)) (env.set i (some (.dat (.lst xs))))
 | some (some (.oI C fs))=>Q (.dat (.obj C fs)) (env.set i (some (.dat (.obj C fs))))
 | some (some (.hp _ a _))=>Q (.dat (.pt a)) env
 | some (some (.oK kvs))=>Q (.dat (.uK kvs)) (env.set i (some (.dat (.uK kvs))))
 | _=>False
def dC (d:D) (env:En) (Q:R->En->Prop):Prop:=Q (.dat d) env
section
variable {K:PySem.W.Frag}{X:Cx}
theorem se_dat {i:Nat}{r:R} (nb:r.nobag=true) {Z:Zt}{env:En}{tm:Tm}{σ:L2.St}{H:Hp}{Q:VK}{Qd:R->En->Prop} (h:Rel K Z env tm σ H) (e:env[i]? = some (some r)) (q:Qd (.dat r.d) (env.set i (some (.dat r.d))))
  (k:∀ v r env' H',Rel K Z env' (tm ++ [(v,r)]) σ H'->r.nobag=true->Qd r env'->Q v H'):tVar i σ H Q:=by
 obtain ⟨F,h⟩:=h
 obtain ⟨F',h'⟩:=h.frzS e nb
 obtain ⟨v,hv⟩:=h.sl i r e
 have hi:i < env.length:=(List.getElem?_eq_some_iff.mp e).1
 refine ⟨v,hv,k v _ _ H ⟨F',h'.pushD (d:=r.d) ?_⟩ rfl q⟩
 exact h'.ok (.s i) v (.dat r.d) ⟨hv,by simp [hi]⟩
theorem se_var {i:Nat}:SE K (tVar i) (dVar i):=by
 intro Z env tm σ H Q Qd h hd k
 unfold dVar at hd
 split at hd
 ·rename_i d e
  refine se_dat (r:=.dat d) rfl h e ?_ k
  have:env.set i (some (R.dat d))=env:=List.ext_getElem? fun j=>by
   rw [List.getElem?_set]
   split
   ·rename_i hij;subst hij;rw [if_pos (List.getElem?_eq_some_iff.mp e).1,e]
   ·rfl
  show Qd (.dat d) (env.set i (some (R.dat d)))
  rw [this];exact hd
 ·rename_i e;exact se_dat (r:=.own _) rfl h e hd k
 ·rename_i e;exact se_dat (r:=.oI _ _) rfl h e hd k
 ·rename_i b a g e
  obtain ⟨F,h⟩:=h
  obtain ⟨v,hv⟩:=h.sl i _ e
  obtain ⟨ev,_⟩:=h.ok (.s i) v (.hp b a g) ⟨hv,e⟩
  exact ⟨v,hv,k v _ _ H ⟨F,h.pushD (d:=.pt a) (by simp only [Dt];exact ev)⟩ rfl hd⟩
 ·rename_i e;exact se_dat (r:=.oK _) rfl h e hd k
 ·exact hd.elim
theorem se_c {v:V}{d:D} (hv:∀ F,Dt K F d v):SE K (tC v) (dC d):=fun Z env tm σ H Q Qd ⟨F,h⟩ q k=>k v _ env H ⟨F,h.pushD (hv F)⟩ rfl q
theorem dv (i:Nat) {x:Str}{pos:Pos} (hN:X.N[i]? = some x:=by rfl) (hv:Vis X.env.scope x:=by first | exact Or.inl rfl | exact Or.inr (Or.inl rfl) | exact Or.inr (Or.inr rfl)) (hd:(x == ("__debug__" : Str))=false:=by decide)
  (hcd:(x == ("__classdict__" : Str))=false:=by decide):DE X (.Name x pos) (tVar i) (dVar i):=⟨pe_var hN hv hd hcd,se_var⟩
theorem de_int {i j pos}:DE X (.Constant (.int i) j pos) (tC (.int i)) (dC (.int i)):=⟨pe_int,se_c fun F=>by simp only [Dt]⟩
theorem de_bl {b j pos}:DE X (.Constant (.bool b) j pos) (tC (.bl b)) (dC (.bl b)):=⟨pe_bl,se_c fun F=>by simp only [Dt]⟩
theorem de_non {j pos}:DE X (.Constant .none j pos) (tC .non) (dC .non):=⟨pe_non,se_c fun F=>by simp only [Dt]⟩
theorem de_str {x j pos}:DE X (.Constant (.str x) j pos) (tC (.str x)) (dC (.str x)):=⟨pe_str,se_c fun F=>by simp only [Dt]⟩
def S2 (K:PySem.W.Frag) (r:R2) (rd:D->D->(R->Prop)->Prop):Prop:=∀ (F H:Hp) (x y:V) (dx dy:D) (Q:VK) (Qd:R->Prop),Same F H->Dt K F dx x->Dt K F dy y->rd dx dy Qd ->
 (∀ v q F' H',Grow (fun _=>False) F H F' H'->RNew K H F' H' v q->Qd q->Q v H')->r x y H Q
def S1 (K:PySem.W.Frag) (r:V->Hp->VK->Prop) (rd:D->(R->Prop)->Prop):Prop:=∀ (F H:Hp) (x:V) (dx:D) (Q:VK) (Qd:R->Prop),Same F H->Dt K F dx x->rd dx Qd ->
 (∀ v q F' H',Grow (fun _=>False) F H F' H'->RNew K H F' H' v q->Qd q->Q v H')->r x H Q
def SN (K:PySem.W.Frag) (r:List V->Hp->VK->Prop) (rd:List D->(R->Prop)->Prop):Prop:=∀ (F H:Hp) (xs:List V) (dxs:List D) (Q:VK) (Qd:R->Prop),Same F H->Dts K F dxs xs->rd dxs Qd ->
 (∀ v q F' H',Grow (fun _=>False) F H F' H'->RNew K H F' H' v q->Qd q->Q v H')->r xs H Q
theorem RNew.dat {H F' H':Hp}{v:V}{d:D} (h:Dt K F' d v):RNew K H F' H' v (.dat d):=⟨h,rfl,fun x f=>f.elim⟩
structure Box {α:Type} (Q:α->Prop) where
 val:α
def Hold {α:Type} (Q:α->Prop) (b:Box Q):Prop:=Q b.val
theorem Hold_dat {Q:R->Prop}{d:D}:Hold Q ⟨.dat d⟩=Q (.dat d):=rfl
theorem Hold_own {Q:R->Prop}{d:List D}:Hold Q ⟨.own d⟩=Q (.own d):=rfl
theorem Hold_oK {Q:R->Prop}{d:List (Key × D)}:Hold Q ⟨.oK d⟩=Q (.oK d):=rfl
theorem Hold_oI {Q:R->Prop}{C:Addr}{d:List (Str × D)}:Hold Q ⟨.oI C d⟩=Q (.oI C d):=rfl
def dOp (rd:D->D->(R->Prop)->Prop) (da db:DTE) (env:En) (Q:R->En->Prop):Prop:=da env fun x e1=>db e1 fun y e2=>rd x.d y.d fun q=>Q q e2
theorem se_op {r:R2}{rd:D->D->(R->Prop)->Prop}{ta tb:TE}{da db:DTE} (hr:S2 K r rd) (ha:SE K ta da) (hb:SE K tb db):SE K (tOp r ta tb) (dOp rd da db):=fun Z env tm σ H Q Qd h q k=>
 ha Z env tm σ H _ _ h q fun x rx e1 H1 h1 n1 q1=>hb Z e1 _ σ H1 _ _ (h1.frzT n1) q1 fun y ry e2 H2 h2 n2 q2=>by
  obtain ⟨F,h3⟩:=h2.frzT n2
  obtain ⟨dx,dy⟩:=h3.top2
  exact hr F H2 x y _ _ _ _ h3.sub dx dy q2 fun v q' F' H' g n q3=>k v q' e2 H' ((RelF.new (h3.pop).pop g n)) n.nb q3
def dUn (rd:D->(R->Prop)->Prop) (da:DTE) (env:En) (Q:R->En->Prop):Prop:=da env fun x e1=>rd x.d fun q=>Q q e1
theorem de_op {op:Operator}{r:R2}{rd:D->D->(R->Prop)->Prop}{a b:Expr}{pos:Pos}{ta tb:TE}{da db:DTE} (ho:OpR X (binaryOp op) r) (hr:S2 X.K r rd) (ha:DE X a ta da) (hb:DE X b tb db):DE X (.BinOp a op b pos) (tOp r ta tb) (dOp rd da db):=
 ⟨pe_op ho ha.1 hb.1,se_op hr ha.2 hb.2⟩
theorem de_cmp {op:CmpOp}{r:R2}{rd:D->D->(R->Prop)->Prop}{a b:Expr}{pos:Pos}{ta tb:TE}{da db:DTE} (ho:OpR X (compareOp op) r) (hr:S2 X.K r rd) (ha:DE X a ta da) (hb:DE X b tb db) (hm:behindInMarks op b=false):DE X (.Compare a [op] [b] pos) (tOp r ta tb) (dOp rd da db):=
 ⟨pe_cmpR ho ha.1 hb.1 hm,se_op hr ha.2 hb.2⟩
def dB (de:DTE) (env:En) (Q:Bool->En->Prop):Prop:=de env fun r e=>∃ b,r = .dat (.bl b)/\Q b e
theorem st_B {te:TE}{de:DTE} (h:SE K te de):ST K (tB te) (dB de):=fun Z env tm σ H Q Qd hr q k=>h Z env tm σ H _ _ hr q fun v r e H1 h1 n1 ⟨b,e1,q1⟩=>by
 subst e1
 obtain ⟨F,h2⟩:=id h1
 have:Dt K F (.bl b) v:=h2.top
 simp only [Dt] at this
 exact ⟨b,this,k b e H1 h1.pop q1⟩
theorem st_Test {te:TE}{de:DTE} (h:SE K te de):ST K (tTest te) (dB de):=st_B h
def dAnd (t u:DTT) (env:En) (Q:Bool->En->Prop):Prop:=t env fun c e=>if c=true then u e Q else Q false e
def dOr (t u:DTT) (env:En) (Q:Bool->En->Prop):Prop:=t env fun c e=>if c=true then Q true e else u e Q
def dNot (t:DTT) (env:En) (Q:Bool->En->Prop):Prop:=t env fun c e=>Q (!c) e
theorem st_and {t u:TT}{dt du:DTT} (ht:ST K t dt) (hu:ST K u du):ST K (tAnd t u) (dAnd dt du):=fun Z env tm σ H Q Qd hr q k=>ht Z env tm σ H _ _ hr q fun b e H1 h1 q1=>by
 cases b with
 | true=>rw [if_pos rfl] at q1 ⊢;exact hu Z e tm σ H1 Q Qd h1 q1 k
 | false=>rw [if_neg Bool.false_ne_true] at q1 ⊢;exact k _ _ _ h1 q1
theorem st_or {t u:TT}{dt du:DTT} (ht:ST K t dt) (hu:ST K u du):ST K (tOr t u) (dOr dt du):=fun Z env tm σ H Q Qd hr q k=>ht Z env tm σ H _ _ hr q fun b e H1 h1 q1=>by
 cases b with
 | true=>rw [if_pos rfl] at q1 ⊢;exact k _ _ _ h1 q1
 | false=>rw [if_neg Bool.false_ne_true] at q1 ⊢;exact hu Z e tm σ H1 Q Qd h1 q1 k
theorem st_not {t:TT}{dt:DTT} (ht:ST K t dt):ST K (tNot t) (dNot dt):=fun Z env tm σ H Q Qd hr q k=>ht Z env tm σ H _ _ hr q fun b e H1 h1 q1=>k _ _ _ h1 q1
theorem dt_val {e:Expr}{te:TE}{de:DTE} (h:DE X e te de) (he:∀ whole,isTrue e X.env whole=(do let v <-whole;standAt e.pos;holding [v] (truthy v)):=by intro _;rfl):DT X e (tB te) (dB de):=⟨pt_val h.1 he,st_B h.2⟩
theorem dt_cmp {op:CmpOp}{r:R2}{rd:D->D->(R->Prop)->Prop}{a b:Expr}{pos:Pos}{ta tb:TE}{da db:DTE} (ho:OpR X (compareOp op) r) (hr:S2 X.K r rd) (ha:DE X a ta da) (hb:DE X b tb db) (hm:behindInMarks op b=false):DT X (.Compare a [op] [b] pos) (tTest (tOp r ta tb)) (dB (dOp rd da db)):=
 ⟨pt_cmpR ho ha.1 hb.1 hm,st_Test (se_op hr ha.2 hb.2)⟩
variable {a b:Expr}{rest:List Expr}{pos:Pos}{t u:TT}{dt du:DTT}{ta tb:TE}{da db:DTE}
theorem dw_and1 (ha:DT X a t dt):DW X (.BoolOp .And [a] pos) t dt:=⟨pw_and1 ha.1,ha.2⟩
theorem dw_or1 (ha:DT X a t dt):DW X (.BoolOp .Or [a] pos) t dt:=⟨pw_or1 ha.1,ha.2⟩
theorem dw_and (ha:DT X a t dt) (hb:DW X (.BoolOp .And (b :: rest) pos) u du):DW X (.BoolOp .And (a :: b :: rest) pos) (tAnd t u) (dAnd dt du):=⟨pw_and ha.1 hb.1,st_and ha.2 hb.2⟩
theorem dw_or (ha:DT X a t dt) (hb:DW X (.BoolOp .Or (b :: rest) pos) u du):DW X (.BoolOp .Or (a :: b :: rest) pos) (tOr t u) (dOr dt du):=⟨pw_or ha.1 hb.1,st_or ha.2 hb.2⟩
theorem DW.pt (h:DW X a t dt):DT X a t dt:=⟨h.1.pt,h.2⟩
theorem dt_not (ha:DT X a t dt):DT X (.UnaryOp .Not a pos) (tNot t) (dNot dt):=⟨pt_not ha.1,st_not ha.2⟩
def dAndV (da db:DTE) (env:En) (Q:R->En->Prop):Prop:=da env fun r e=>∃ c,r = .dat (.bl c)/\if c=true then db e Q else Q (.dat (.bl false)) e
def dOrV (da db:DTE) (env:En) (Q:R->En->Prop):Prop:=da env fun r e=>∃ c,r = .dat (.bl c)/\if c=true then Q (.dat (.bl true)) e else db e Q
def dNotV (da:DTE) (env:En) (Q:R->En->Prop):Prop:=da env fun r e=>∃ c,r = .dat (.bl c)/\Q (.dat (.bl (!c))) e
theorem dt_blv {F:Hp}{b:Bool}:Dt K F (.bl b) (.bl b):=by simp only [Dt]
theorem blv {F:Hp}{b:Bool}{v:V} (h:Dt K F (.bl b) v):v = .bl b:=by simpa only [Dt] using h
theorem se_andV {ta tb:TE}{da db:DTE} (ha:SE K ta da) (hb:SE K tb db):SE K (tAndV ta tb) (dAndV da db):=fun Z env tm σ H Q Qd hr q k=>ha Z env tm σ H _ _ hr q fun v r e H1 h1 n1 ⟨c,e1,q1⟩=>by
 subst e1
 obtain ⟨F,h2⟩:=id h1
 refine ⟨c,blv h2.top,?_⟩
 cases c with
 | true=>rw [if_pos rfl] at q1 ⊢;exact hb Z e tm σ H1 Q Qd h1.pop q1 k
 | false=>rw [if_neg Bool.false_ne_true] at q1 ⊢;exact k _ _ _ _ ⟨F,h2.pop.pushD dt_blv⟩ rfl q1
theorem se_notV {ta:TE}{da:DTE} (ha:SE K ta da):SE K (tNotV ta) (dNotV da):=fun Z env tm σ H Q Qd hr q k=>ha Z env tm σ H _ _ hr q fun v r e H1 h1 n1 ⟨c,e1,q1⟩=>by
 subst e1
 obtain ⟨F,h2⟩:=id h1
 exact ⟨c,blv h2.top,k _ _ _ _ ⟨F,h2.pop.pushD dt_blv⟩ rfl q1⟩
theorem de_one {op} (h:DE X a ta da):DE X (.BoolOp op [a] pos) ta da:=⟨pe_one h.1,h.2⟩
theorem de_and (ha:DE X a ta da) (hb:DE X (.BoolOp .And (b :: rest) pos) tb db):DE X (.BoolOp .And (a :: b :: rest) pos) (tAndV ta tb) (dAndV da db):=⟨pe_and ha.1 hb.1,se_andV ha.2 hb.2⟩
theorem de_not (ha:DE X a ta da):DE X (.UnaryOp .Not a pos) (tNotV ta) (dNotV da):=⟨pe_not ha.1,se_notV ha.2⟩
def dIf (t:DTT) (da db:DTE) (env:En) (Q:R->En->Prop):Prop:=t env fun c e=>if c=true then da e Q else db e Q
theorem se_if (hc:ST K t dt) (ha:SE K ta da) (hb:SE K tb db):SE K (tIf t ta tb) (dIf dt da db):=fun Z env tm σ H Q Qd hr q k=>hc Z env tm σ H _ _ hr q fun b e H1 h1 q1=>by
 cases b with
 | true=>rw [if_pos rfl] at q1 ⊢;exact ha Z e tm σ H1 Q Qd h1 q1 k
 | false=>rw [if_neg Bool.false_ne_true] at q1 ⊢;exact hb Z e tm σ H1 Q Qd h1 q1 k
theorem de_if {c:Expr} (hc:DT X c t dt) (ha:DE X a ta da) (hb:DE X b tb db):DE X (.IfExp c a b pos) (tIf t ta tb) (dIf dt da db):=⟨pe_ifExp hc.1 ha.1 hb.1,se_if hc.2 ha.2 hb.2⟩
def R.isN:R->Bool
 | .dat .non=>true
 | _=>false
def dIsN (da:DTE) (env:En) (Q:R->En->Prop):Prop:=da env fun r e=>Q (.dat (.bl r.isN)) e
theorem isN_R {F' H':Hp}{v:V}{r:R} (h:ROk K F' H' v r):decide (v = .non)=r.isN:=by
 cases r with
 | dat d=>
  have h:Dt K F' d v:=h
  cases d <;> simp only [Dt] at h
  case non=>subst h;rfl
  case bl=>subst h;rfl
  case int=>subst h;rfl
  case str=>subst h;rfl
  all_goals
   first
   | (subst h;rfl)
   | (obtain ⟨_,_,rfl,_⟩:=h;rfl)
   | (obtain ⟨_,_,_,rfl,_⟩:=h;rfl)
   | (obtain ⟨_,rfl,_⟩:=h;rfl)
 | own xs=>obtain ⟨_,_,rfl,_⟩:=h;rfl
 | oK xs=>obtain ⟨_,_,rfl,_⟩:=h;rfl
 | oT xs=>obtain ⟨_,_,rfl,_⟩:=h;rfl
 | oI C xs=>obtain ⟨_,_,_,rfl,_⟩:=h;rfl
 | slf C xs=>obtain ⟨_,_,_,rfl,_⟩:=h;rfl
 | bag n=>obtain ⟨_,rfl,_⟩:=h;rfl
 | hp b a g=>obtain ⟨rfl,_⟩:=h;rfl
theorem se_isN (ha:SE K ta da):SE K (tIsN ta) (dIsN da):=fun Z env tm σ H Q Qd hr q k=>ha Z env tm σ H _ _ hr q fun v r e H1 h1 n1 q1=>by
 obtain ⟨F,h2⟩:=id h1
 rw [isN_R (h2.ok _ _ _ cell_last)]
 exact k _ _ _ _ ⟨F,h2.pop.pushD dt_blv⟩ rfl q1
def dNotN (da:DTE) (env:En) (Q:R->En->Prop):Prop:=da env fun r e=>Q (.dat (.bl (!r.isN))) e
theorem dt_isN {p1 p2 j} (ha:DE X a ta da):DT X (.Compare a [.Is] [.Constant .none j p1] p2) (tB (tIsN ta)) (dB (dIsN da)):=⟨pt_cmp (pc_isN ha.1),st_B (se_isN ha.2)⟩
end
end U
namespace U
open PySem L2
section
variable {K:PySem.W.Frag}{X:Cx}{a b e:Expr}{es:List Expr}{pos:Pos}{t u:TT}{dt du:DTT}{ta tb te:TE}{da db de:DTE}{tr:TA}{dr:DTA}
def dNil (env:En) (Q:List D->En->Prop):Prop:=Q [] env
def dCons (de:DTE) (dr:DTA) (env:En) (Q:List D->En->Prop):Prop:=de env fun r e=>dr e fun ds e2=>Q (r.d :: ds) e2
theorem sa_nil:SA K tNil dNil:=fun Z env tm σ H Q Qd h q k=>k [] [] env H (by simpa [Td] using h) rfl q
theorem sa_cons (he:SE K te de) (hr:SA K tr dr):SA K (tCons te tr) (dCons de dr):=fun Z env tm σ H Q Qd h q k=>he Z env tm σ H _ _ h q fun v r e H1 h1 n1 q1=>
 hr Z e _ σ H1 _ _ (h1.frzT n1) q1 fun vs ds e2 H2 h2 hl q2=>k (v :: vs) (r.d :: ds) e2 H2 (by rw [td_cons];simpa using h2) (by simp [hl]) q2
theorem da_nil:DA X [] tNil dNil:=⟨pa_nil,sa_nil⟩
theorem da_cons (ha:DE X e te de) (hr:DA X es tr dr) (hs:starEach (e :: es) X.env=(false,eval e X.env) :: starEach es X.env:=by rfl):DA X (e :: es) (tCons te tr) (dCons de dr):=⟨pa_cons ha.1 hr.1 hs,sa_cons ha.2 hr.2⟩
theorem dk_nil:DKw X [] tNil dNil:=⟨pk_nil,sa_nil⟩
theorem dk_cons {kws:List Keyword}{nm:Option Str}{kpos:Pos} (ha:DE X e te de) (hr:DKw X kws tr dr):DKw X (⟨nm,e,kpos⟩ :: kws) (tCons te tr) (dCons de dr):=⟨pk_cons ha.1 hr.1,sa_cons ha.2 hr.2⟩
theorem sz1000 {n:Nat} (h:n<=100000):n<=sizeLine:=Nat.le_trans h (by decide)
theorem sz1000' {n:Nat} (h:n < 100000):n < sizeLine:=Nat.lt_of_lt_of_le h (by decide)
theorem RNew.own {F H H':Hp}{p:Addr}{xs:List D}{vs:List V} (n:H p=none) (s:Same F H) (h:H' p=some (.lst vs)) (d:Dts K F xs vs):RNew K H F H' (.ref p) (.own xs):=⟨⟨p,vs,rfl,s.free n,h,d⟩,rfl,fun x f=>by cases (show V.ref p=V.ref x from f);exact n⟩
def dLst (dr:DTA) (env:En) (Q:R->En->Prop):Prop:=dr env fun ds e=>ds.length<=100000/\Q (.own ds) e
def dTup (dr:DTA) (env:En) (Q:R->En->Prop):Prop:=dr env fun ds e=>ds.length<=100000/\Q (.dat (.tup ds)) e
theorem se_lst (hr:SA K tr dr):SE K (tLst tr) (dLst dr):=fun Z env tm σ H Q Qd h q k=>hr Z env tm σ H _ _ h q fun vs ds e H1 ⟨F,h1⟩ hl ⟨q0,q1⟩=>by
 refine ⟨sz1000 (by rw [hl];exact q0),fun p np=>k _ _ e _ (RelF.new h1.pops (Grow.pure (Same.new1 np) h1.sub) (RNew.own np h1.sub upd_same (h1.dts hl))) rfl q1⟩
theorem grow_tup {F H:Hp}{p:Addr}{vs:List V}{ds:List D} (s:Same F H) (np:H p=none) (d:Dts K F ds vs):Grow (fun _=>False) F H (upd F p (.tup vs)) (upd H p (.tup vs))/\Dt K (upd F p (.tup vs)) (.tup ds) (.ref p):=
 ⟨Grow.add s np,by simp only [Dt];exact ⟨p,vs,rfl,(Or.inl upd_same),Dts.mono (Same.new1 (s.free np)) _ _ d⟩⟩
theorem se_tup (hr:SA K tr dr):SE K (tTup tr) (dTup dr):=fun Z env tm σ H Q Qd h q k=>hr Z env tm σ H _ _ h q fun vs ds e H1 ⟨F,h1⟩ hl ⟨q0,q1⟩=>by
 refine ⟨sz1000 (by rw [hl];exact q0),fun p np=>?_⟩
 obtain ⟨g,d⟩:=grow_tup h1.sub np (h1.dts hl)
 exact k _ _ e _ (RelF.new h1.pops g (RNew.dat d)) rfl q1
theorem de_lst (h:DA X es tr dr):DE X (.List es pos) (tLst tr) (dLst dr):=⟨pe_lst h.1,se_lst h.2⟩
theorem de_tup {x1} (h:DA X es tr dr):DE X (.Tuple es x1 pos) (tTup tr) (dTup dr):=⟨pe_tup h.1,se_tup h.2⟩
def dCB (rd:List D->(R->Prop)->Prop) (dr:DTA) (env:En) (Q:R->En->Prop):Prop:=dr env fun ds e=>rd ds fun q=>Hold (fun q=>Q q e) ⟨q⟩
theorem se_cb {r:List V->Hp->VK->Prop}{rd:List D->(R->Prop)->Prop} (hr:SN K r rd) (ha:SA K tr dr):SE K (tCB r tr) (dCB rd dr):=fun Z env tm σ H Q Qd h q k=>ha Z env tm σ H _ _ h q fun vs ds e H1 ⟨F,h1⟩ hl q1=>
 hr F H1 vs ds _ _ h1.sub (h1.dts hl) q1 fun v q' F' H' g n q2=>k v q' e H' (RelF.new h1.pops g n) n.nb q2
theorem de_callB {r:List V->Hp->VK->Prop}{rd:List D->(R->Prop)->Prop}{id:String}{x:Str}{p:Pos} (hc:CallR X (.builtin id) r) (hr:SN X.K r rd) (hg:Gl X x) (hm:X.mg x=none) (hv:bootBuiltins x=some (.builtin id)) (ha:DA X (e :: es) tr dr) (hn:x ≠ "__name__":=by decide) (hdb:(x == ("__debug__" : Str))=false:=by decide)
  (he:starEach (e :: es) X.env=(false,eval e X.env) :: starEach es X.env:=by rfl) (hpl:(backTo pos (starEach es X.env)).any (·.1)=false:=by rfl):DE X (.Call (.Name x p) (e :: es) [] pos) (tCB r tr) (dCB rd dr):=⟨pe_callB hc hg hm hv ha.1 hn hdb he hpl,se_cb hr ha.2⟩
theorem de_callTy {r:List V->Hp->VK->Prop}{rd:List D->(R->Prop)->Prop}{T:String}{x:Str}{p:Pos} (hc:CallR X (.type T) r) (hr:SN X.K r rd) (hg:Gl X x) (hm:X.mg x=none) (hv:bootBuiltins x=some (.type T)) (ha:DA X (e :: es) tr dr) (hn:x ≠ "__name__":=by decide) (hdb:(x == ("__debug__" : Str))=false:=by decide)
  (he:starEach (e :: es) X.env=(false,eval e X.env) :: starEach es X.env:=by rfl) (hpl:(backTo pos (starEach es X.env)).any (·.1)=false:=by rfl):DE X (.Call (.Name x p) (e :: es) [] pos) (tCB r tr) (dCB rd dr):=⟨pe_callTy hc hg hm hv ha.1 hn hdb he hpl,se_cb hr ha.2⟩
abbrev PSp:=List D->(R->Prop)->Prop
def spP (K:PySem.W.Frag) (sp:PSp):Sp:=fun vs H Q _=>∃ F ds Qd,Same F H/\Dts K F ds vs/\sp ds Qd/\∀ v q F' H',Grow (fun _=>False) F H F' H'->RNew K H F' H' v q->Qd q->Q v H'
theorem se_call {sp:PSp}{E:XK} (ha:SA K tr dr):SE K (tCall (spP K sp) [] E tr) (dCB sp dr):=fun Z env tm σ H Q Qd h q k=>ha Z env tm σ H _ _ h q fun vs ds e H1 ⟨F,h1⟩ hl q1=>
 ⟨F,ds,_,h1.sub,by rw [List.append_nil];exact h1.dts hl,q1,fun v q' F' H' g n q2=>k v q' e H' (RelF.new h1.pops g n) n.nb q2⟩
theorem de_cal {sp:PSp}{k j:Nat}{x:Str}{ps:List Str}{p:Pos} (c:Cal X.prog X.w X.K X.mg X.base CX0 k x ps (spP X.K sp)) (hr:Room j X.A) (ha:DA X (e :: es) tr dr) (hg:Gl X x:=by rfl) (hj:k<=j:=by decide) (hdb:(x == ("__debug__" : Str))=false:=by decide)
  (he:starEach (e :: es) X.env=(false,eval e X.env) :: starEach es X.env:=by rfl) (hpl:(backTo pos (starEach es X.env)).any (·.1)=false:=by rfl):DE X (.Call (.Name x p) (e :: es) [] pos) (tCall (spP X.K sp) [] E0 tr) (dCB sp dr):=⟨pe_cal c hr ha.1 hg hj hdb he hpl,se_call ha.2⟩
abbrev BSp:=Nat->List D->(R->Nat->Prop)->Prop
def spB (K:PySem.W.Frag) (sp:BSp):Sp:=fun vs H Q _=>∃ b n ws F ds Qd,vs = .ref b :: ws/\F b=none/\Bag n H b/\Same F H/\Dts K F ds ws/\sp n ds Qd /\
 ∀ v q n' F' H',Grow (fun a=>a=b) F H F' H'->Bag n' H' b->RNew K H F' H' v q->Qd q n'->Q v H'
def dCalB (i:Nat) (sp:BSp) (dr:DTA) (env:En) (Q:R->En->Prop):Prop:=match env[i]? with
 | some (some (.bag _))=>dr env fun ds e=>match e[i]? with
  | some (some (.bag n))=>sp n ds fun q n'=>Hold (fun q=>Q q (e.set i (some (.bag n')))) ⟨q⟩
  | _=>False
 | _=>False
theorem se_calB {i:Nat}{sp:BSp}{E:XK} (ha:SA K tr dr):SE K (tCall (spB K sp) [] E (tCons (tVar i) tr)) (dCalB i sp dr):=by
 intro Z env tm σ H Q Qd h q k
 unfold dCalB at q
 split at q
 ·rename_i n0 e0
  obtain ⟨F0,h0⟩:=id h
  obtain ⟨v0,hv0⟩:=h0.sl i _ e0
  refine ⟨v0,hv0,ha Z env tm σ H _ _ h q fun vs ds e H1 ⟨F,h1⟩ hl q1=>?_⟩
  split at q1
  ·rename_i n e1
   have c1:Cell σ e (tm ++ Td vs ds) (.s i) v0 (.bag n):=⟨hv0,e1⟩
   obtain ⟨b,rfl,nF,bg⟩:=h1.ok _ _ _ c1
   refine ⟨b,n,vs,F,ds,_,by rw [List.append_nil],nF,bg,h1.sub,h1.dts hl,q1,fun v q' n' F' H' g bg' nw q2=>?_⟩
   have h2:RelF K Z F e tm σ H1:=h1.pops
   have hi:i < e.length:=(List.getElem?_eq_some_iff.mp e1).1
   have nF':F' b=none:=by
    obtain ⟨m',_,z'⟩:=id bg'
    exact nt_no (g.nw b (nt_of nF) (by obtain ⟨m,_,z⟩:=bg;rw [z];simp)) g.sub z' (fun ws z=>by cases z)
   have h3:RelF K Z F' (e.set i (some (.bag n'))) tm σ H':=by
    refine h2.chg (a:=.s i) (p:=b) (r:=.bag n) (r':=.bag n') g ⟨hv0,e1⟩ rfl (fun x m=>m) ⟨b,rfl,nF',bg'⟩ rfl (fun a w q c=>cell_setS c hv0) (by rw [List.length_set];exact h2.len) (set_sl h2.sl hv0) fun z=>?_
    obtain ⟨r,z,sp⟩:=z
    by_cases hz:i=0
    ·subst hz;exact ⟨.bag n,e1,rfl⟩
    ·exact ⟨r,by rw [List.getElem?_set,if_neg hz] at z;exact z,sp⟩
   refine k v q' _ H' (RelF.newB (M:=fun _=>False) h3 h2.th (fun a w q'' x c f=>?_) nw) nw.nb q2
   rcases cell_setS c hv0 with ⟨_,e2,e3⟩ | ⟨_,c⟩
   ·subst e2 e3
    have e4:V.ref b=V.ref x:=f
    cases e4
    obtain ⟨m,_,z⟩:=bg;rw [z];simp
   ·obtain ⟨_,o,z2,_⟩:=(h2.ok _ _ _ c).fp f
    rw [z2];simp
  ·exact q1.elim
 ·exact q.elim
theorem de_calB {i:Nat}{sp:BSp}{k j:Nat}{x y:Str}{ps:List Str}{p py:Pos} (c:Cal X.prog X.w X.K X.mg X.base CX0 k x ps (spB X.K sp)) (hr:Room j X.A) (hy:PE X (.Name y py) (tVar i)) (ha:DA X es tr dr) (hg:Gl X x:=by rfl) (hj:k<=j:=by decide) (hdb:(x == ("__debug__" : Str))=false:=by decide)
  (he:starEach (.Name y py :: es) X.env=(false,eval (.Name y py) X.env) :: starEach es X.env:=by rfl) (hpl:(backTo pos (starEach es X.env)).any (·.1)=false:=by rfl):DE X (.Call (.Name x p) (.Name y py :: es) [] pos) (tCall (spB X.K sp) [] E0 (tCons (tVar i) tr)) (dCalB i sp dr):=
 ⟨pe_cal c hr (pa_cons hy ha.1 he) hg hj hdb he hpl,se_calB ha.2⟩
def dMove (i:Nat) (env:En) (Q:R->En->Prop):Prop:=match env[i]? with
 | some (some r)=>r.nobag=true/\Q r (env.set i none)
 | _=>False
theorem cell_none {σ:L2.St}{env:En}{tm:Tm}{i:Nat}{a:Ix}{w:V}{q:R} (c:Cell σ (env.set i none) tm a w q):a ≠ .s i/\Cell σ env tm a w q:=by
 cases a with
 | t j=>exact ⟨(by intro z;cases z),c⟩
 | s j=>
  obtain ⟨c1,c2⟩:=c
  by_cases hij:i=j
  ·subst hij
   rw [List.getElem?_set,if_pos rfl] at c2
   split at c2 <;> cases c2
  ·rw [List.getElem?_set,if_neg hij] at c2
   exact ⟨(by intro z;cases z;exact hij rfl),c1,c2⟩
theorem none_sl {σ:L2.St}{env:En}{i:Nat} (h:∀ (i:Nat) (r:R),env[i]? = some (some r)->∃ v,σ[i]? = some (some v)):∀ (j:Nat) (r:R),(env.set i none)[j]? = some (some r)->∃ v,σ[j]? = some (some v):=fun j r e=>by
 by_cases hij:i=j
 ·subst hij
  rw [List.getElem?_set,if_pos rfl] at e
  split at e <;> cases e
 ·rw [List.getElem?_set,if_neg hij] at e;exact h j r e
theorem none_bg {env:En}{i:Nat} (e:SpcAt (env.set i none)):SpcAt env:=by
 obtain ⟨r,e,s⟩:=e
 by_cases hij:i=0
 ·subst hij
  rw [List.getElem?_set,if_pos rfl] at e
  split at e <;> cases e
 ·rw [List.getElem?_set,if_neg hij] at e;exact ⟨r,e,s⟩
def dNext (D:DEnds) (env:En):Prop:=D.nx env
def dSeq (t u:DTS) (D:DEnds) (env:En):Prop:=t { D with nx:=u D } env
def dAsg (de:DTE) (g:DTG) (D:DEnds) (env:En):Prop:=de env fun r e=>g r e D.nx
def dDrop (de:DTE) (D:DEnds) (env:En):Prop:=de env fun _ e=>D.nx e
def dRet (de:DTE) (D:DEnds) (env:En):Prop:=de env D.rt
def dIfS (c:DTT) (t u:DTS) (D:DEnds) (env:En):Prop:=c env fun b e=>if b=true then t D e else u D e
def dgName (i:Nat) (r:R) (env:En) (Q:En->Prop):Prop:=Q (env.set i (some r))
variable {ts us:TS}{ds du':DTS}{st:Stmt}{sts:List Stmt}{g:TG}{dg:DTG}{own:List Nat}
theorem ss_next:SS K tNext dNext:=fun Z env tm σ H D Dd h k q=>k.nx env σ H h q
theorem ss_seq (h1:SS K ts ds) (h2:SS K us du'):SS K (tSeq ts us) (dSeq ds du'):=fun Z env tm σ H D Dd h k q=>h1 Z env tm σ H _ { Dd with nx:=du' Dd } h ⟨fun e' σ' H' h' q'=>h2 Z e' tm σ' H' D Dd h' k q',k.rt,k.bk,k.ct⟩ q
theorem wipe_set {σ:L2.St}{i:Nat}{v:Option V}:∀ {vs:List Nat},i∈vs->wipe (σ.set i v) vs=wipe σ vs
 | [],h=>by cases h
 | j :: vs,h=>by
  unfold wipe
  by_cases hj:i=j
  ·subst hj
   by_cases hm:i∈vs
   ·rw [wipe_set hm]
   ·have:wipe (σ.set i v) vs=(wipe σ vs).set i v:=by
     clear h
     induction vs with
     | nil=>rfl
     | cons k vs ih=>
      simp only [List.mem_cons,not_or] at hm
      unfold wipe
      rw [ih hm.2,List.set_comm _ _ hm.1]
    rw [this,List.set_set]
  ·rw [wipe_set (by simpa [hj] using h)]
theorem Rel.asg' {Z:Zt}{env:En}{tm:Tm}{σ:L2.St}{H:Hp}{i:Nat}{v:V}{r:R} (h:Rel K Z env (tm ++ [(v,r)]) σ H) (nb:r.nobag=true):Rel K Z (env.set i (some r)) tm (σ.set i (some v)) H:=by
 by_cases hi:i < env.length
 ·exact h.asg hi fun _=>nobag_spc nb
 ·obtain ⟨F,h1⟩:=id h
  have e1:env.set i (some r)=env:=List.set_eq_of_length_le (by omega)
  have e2:σ.set i (some v)=σ:=List.set_eq_of_length_le (by rw [h1.len];omega)
  rw [e1,e2];exact h.pop
theorem sg_name {i:Nat} (hi:i∈own):SG K own (gName i) (dgName i):=fun Z env tm σ H v r Q Qd h nb q k=>k _ _ H (h.asg' nb) (wipe_set hi) q
theorem ss_asg (he:SE K te de) (hg:SG K own g dg):SS K (tAsg te g) (dAsg de dg):=fun Z env tm σ H D Dd h k q=>he Z env tm σ H _ _ h q fun v r e H1 h1 n1 q1=>hg Z e tm σ H1 v r _ _ h1 n1 q1 fun e' σ' H' h' _ q'=>k.nx e' σ' H' h' q'
theorem ss_drop (he:SE K te de):SS K (tDrop te) (dDrop de):=fun Z env tm σ H D Dd h k q=>he Z env tm σ H _ _ h q fun v r e H1 h1 n1 q1=>k.nx e σ H1 h1.pop q1
theorem ss_ret (he:SE K te de):SS K (tRet te) (dRet de):=fun Z env tm σ H D Dd h k q=>he Z env tm σ H _ _ h q fun v r e H1 h1 n1 q1=>k.rt v r e σ H1 h1.only n1 q1
theorem ss_if (hc:ST K t dt) (h1:SS K ts ds) (h2:SS K us du'):SS K (tIfS t ts us) (dIfS dt ds du'):=fun Z env tm σ H D Dd h k q=>hc Z env tm σ H _ _ h q fun b e H1 h1' q1=>by
 cases b with
 | true=>rw [if_pos rfl] at q1 ⊢;exact h1 Z e tm σ H1 D Dd h1' k q1
 | false=>rw [if_neg Bool.false_ne_true] at q1 ⊢;exact h2 Z e tm σ H1 D Dd h1' k q1
theorem dss_nil:DSs X [] tNext dNext:=⟨pss_nil,ss_next⟩
theorem dss_cons (h1:DS X st ts ds) (h2:DSs X sts us du'):DSs X (st :: sts) (tSeq ts us) (dSeq ds du'):=⟨pss_cons h1.1 h2.1,ss_seq h1.2 h2.2⟩
theorem dss_one (h1:DS X st ts ds):DSs X [st] ts ds:=⟨pss_one h1.1,h1.2⟩
def dBreak (D:DEnds) (env:En):Prop:=D.bk env
def dCont (D:DEnds) (env:En):Prop:=D.ct env
theorem ds_set {i:Nat}{x:Str}{pos':Pos} (hN:X.N.Nodup) (hi:X.N[i]? = some x) (hx:Loc X.env.scope x) (he:DE X e te de) (hs:swapsWith e (some (.Name x pos')) pos.line X.env=pure false:=by rfl) (hf:X.fn x=true\/X.env.scope.names.lookup x=some .local:=by first | exact .inl rfl | exact .inr rfl | assumption) :
  DS X (.Assign [.Name x pos'] e pos) (tAsg te (gName i)) (dAsg de (dgName i)):=⟨ps_set hN hi hx he.1 hs hf,ss_asg (own:=[i]) he.2 (sg_name (by simp))⟩
theorem ds_expr (he:DE X e te de) (hs:swapsWith e none pos.line X.env=pure false:=by rfl):DS X (.Expr e pos) (tDrop te) (dDrop de):=⟨ps_expr he.1 hs,ss_drop he.2⟩
theorem ds_ret (he:DE X e te de):DS X (.Return (some e) pos) (tRet te) (dRet de):=⟨ps_ret he.1,ss_ret he.2⟩
theorem ds_if {c:Expr}{sa sb:List Stmt} (hc:DT X c t dt) (ha:DSs X sa ts ds) (hb:DSs X sb us du'):DS X (.If c sa sb pos) (tIfS t ts us) (dIfS dt ds du'):=⟨ps_if hc.1 ha.1 hb.1,ss_if hc.2 ha.2 hb.2⟩
theorem dg_name {i:Nat}{x:Str} (hN:X.N.Nodup) (hi:X.N[i]? = some x) (hx:Loc X.env.scope x) (ho:i∈own:=by simp) (hf:X.fn x=true\/X.env.scope.names.lookup x=some .local:=by first | exact .inl rfl | exact .inr rfl | assumption):DG X own (.Name x pos) (gName i) (dgName i):=⟨pg_name hN hi hx hf,sg_name ho⟩
abbrev DTGs:=List D->En->(En->Prop)->Prop
def SGs (K:PySem.W.Frag) (own:List Nat) (gs:TGs) (dgs:DTGs):Prop:=∀ (Z:Zt) (env:En) (tm:Tm) (σ:L2.St) (H:Hp) (vs:List V) (ds:List D) (k:Nat) (Q:L2.St->Hp->Prop) (Qd:En->Prop),Rel K Z env (tm ++ Td vs ds) σ H->vs.length=ds.length->dgs (ds.drop k) env Qd ->
 (∀ env' σ' H',Rel K Z env' (tm ++ Td vs ds) σ' H'->wipe σ' own=wipe σ own->Qd env'->Q σ' H')->gs (vs.drop k) σ H Q
def DGs (X:Cx) (own:List Nat) (tgs:List Expr) (g:TGs) (dg:DTGs):Prop:=PGs X tgs g/\SGs X.K own g dg
def dgNil (ds:List D) (env:En) (Q:En->Prop):Prop:=match ds with | []=>Q env | _=>False
def dgCons (t:DTG) (u:DTGs) (ds:List D) (env:En) (Q:En->Prop):Prop:=match ds with | d :: r=>t (.dat d) env fun e=>u r e Q | []=>False
variable {gs:TGs}{dgs:DTGs}{tgs:List Expr}
theorem dgs_nil:DGs X own [] gNil dgNil:=⟨pgs_nil,fun Z env tm σ H vs ds k Q Qd h hl q kk=>by
 unfold dgNil at q
 split at q
 ·rename_i e
  have:vs.drop k=[]:=by
   have:=congrArg List.length e
   simp at this
   exact List.drop_eq_nil_of_le (by omega)
  exact ⟨this,kk env σ H h rfl q⟩
 ·exact q.elim⟩
theorem sgs_cons (h1:SG K own g dg) (h2:SGs K own gs dgs):SGs K own (gCons g gs) (dgCons dg dgs):=by
 intro Z env tm σ H vs ds k Q Qd h hl q kk
 unfold dgCons at q
 split at q
 ·rename_i d r e
  have ek:ds[k]? = some d:=by rw [<-List.head?_drop,e];rfl
  have er:ds.drop (k+1)=r:=by rw [<-List.tail_drop,e];rfl
  obtain ⟨v,ev,et⟩:=td_get hl ek
  have hk:k < vs.length:=(List.getElem?_eq_some_iff.mp ev).1
  have evr:vs.drop k=v :: vs.drop (k+1):=by
   rw [List.drop_eq_getElem_cons hk]
   congr
   rw [List.getElem?_eq_getElem hk] at ev;cases ev;rfl
  refine ⟨v,vs.drop (k+1),evr,?_⟩
  obtain ⟨F,h'⟩:=id h
  refine h1 Z env (tm ++ Td vs ds) σ H v (.dat d) _ _ ⟨F,h'.pushD (h'.ok _ _ _ (cell_appR et))⟩ rfl q fun e1 σ1 H1 r1 w1 q1=>?_
  exact h2 Z e1 tm σ1 H1 vs ds (k+1) Q Qd r1 hl (by rw [er];exact q1) fun e2 σ2 H2 r2 w2 q2=>kk e2 σ2 H2 r2 (w2.trans w1) q2
 ·exact q.elim
theorem dgs_cons (h1:DG X own e g dg) (h2:DGs X own es gs dgs) (hs:(assignEach (e :: es) X.env).map (·.2)=assign e X.env :: (assignEach es X.env).map (·.2):=by rfl):DGs X own (e :: es) (gCons g gs) (dgCons dg dgs):=⟨pgs_cons h1.1 h2.1 hs,sgs_cons h1.2 h2.2⟩
def dgTup (n:Nat) (dgs:DTGs) (r:R) (env:En) (Q:En->Prop):Prop:=match r.d with | .tup ds=>ds.length=n/\dgs ds env Q | _=>False
theorem sg_tup {n:Nat} (h:SGs K own gs dgs):SG K own (gTup K n gs) (dgTup n dgs):=by
 intro Z env tm σ H v r Q Qd hr nb q k
 obtain ⟨F,h1⟩:=hr.frzT nb
 unfold dgTup at q
 split at q
 ·rename_i ds e
  rw [e] at h1
  have dt:Dt K F (.tup ds) v:=h1.top
  simp only [Dt] at dt
  obtain ⟨a,vs,rfl,hq,hds⟩:=dt
  obtain ⟨q0,q1⟩:=q
  have hl:vs.length=ds.length:=hds.len.symm
  refine ⟨a,vs,rfl,Same.seqT h1.sub hq.seqT,by rw [hl];exact q0,?_⟩
  have h2:RelF K Z F env (tm ++ Td vs ds) σ H:=by
   have:∀ n,n<=ds.length->RelF K Z F env (tm ++ Td (vs.take n) (ds.take n)) σ H:=fun n=>by
    induction n with
    | zero=>intro _;simpa [Td] using h1.pop
    | succ n ih=>
     intro hn
     have hn':n < ds.length:=by omega
     have e1:ds.take (n+1)=ds.take n ++ [ds[n]]:=by simp
     have e2:vs.take (n+1)=vs.take n ++ [vs[n]'(by omega)]:=by simp
     rw [e1,e2,td_snoc (by simp;omega),<-List.append_assoc]
     refine (ih (by omega)).pushD ?_
     obtain ⟨w,ew,dw⟩:=hds.get (i:=n) (x:=ds[n]) (by simp [hn'])
     rw [List.getElem?_eq_getElem (by omega)] at ew;cases ew
     exact dw
   have:=this ds.length (Nat.le_refl _)
   rwa [List.take_length,<-hl,List.take_length] at this
  exact h Z env tm σ H vs ds 0 Q Qd ⟨F,h2⟩ hl (by simpa using q1) fun e' σ' H' r' w' q'=>k e' σ' H' r'.pops w' q'
 ·exact q.elim
theorem dg_tup {k n:Nat} (hc:X.calm=true) (h:DGs X own es gs dgs) (hn:(assignEach es X.env).length=n:=by rfl) (hst:(assignEach es X.env).findIdx? (·.1)=none:=by rfl):DG X own (.Tuple es k pos) (gTup X.K n gs) (dgTup n dgs):=⟨pg_tup hc h.1 hn hst,sg_tup h.2⟩
def dPar (i j:Nat) (da db:DTE) (D:DEnds) (env:En):Prop:=da env fun r e1=>db e1 fun q e2=>D.nx ((e2.set j (some q)).set i (some r))
def dPar3 (i j l:Nat) (da db dc:DTE) (D:DEnds) (env:En):Prop:=da env fun r e1=>db e1 fun q e2=>dc e2 fun s e3=>D.nx (((e3.set l (some s)).set j (some q)).set i (some r))
def dAug (i:Nat) (rd:D->D->(R->Prop)->Prop) (de:DTE) (D:DEnds) (env:En):Prop:=match env[i]? with
 | some (some (.dat d))=>de env fun r e=>rd d r.d fun q=>D.nx (e.set i (some q))
 | _=>False
end
end U
namespace U
open PySem L2
section
variable {K:PySem.W.Frag}{X:Cx}{a b e tg:Expr}{es:List Expr}{pos:Pos}{t u:TT}{dt du:DTT}{ta tb te:TE}{da db de:DTE}{tr:TA}{dr:DTA}{ts us:TS}{ds du':DTS}{st:Stmt}{sts:List Stmt}{g:TG}{dg:DTG}{own:List Nat}{wi:TI}{di:DTI}
def diL (de:DTE) (env:En) (Q:List D->En->Prop):Prop:=de env fun r e=>match r.d with | .lst xs=>Q xs e | _=>False
def diT (de:DTE) (env:En) (Q:List D->En->Prop):Prop:=de env fun r e=>match r.d with | .tup xs=>Q xs e | _=>False
def diS (de:DTE) (env:En) (Q:List D->En->Prop):Prop:=de env fun r e=>match r.d with | .str s=>Q (s.cps.toList.map fun c=>.str ⟨#[c]⟩) e | _=>False
def kD:Key->D
 | .inl i=>.int i
 | .inr x=>.str x
def diK (de:DTE) (env:En) (Q:List D->En->Prop):Prop:=de env fun r e=>match r.d with | .dK kvs=>Q (kvs.map fun p=>kD p.1) e | _=>False
def rngD (lo:Int) (n:Nat):List D:=(List.range n).map fun i=>.int (lo+(i:Nat))
theorem rngD_len {lo:Int}{n:Nat}:(rngD lo n).length=n:=by simp [rngD]
theorem rngD_get {lo:Int}{n i:Nat} (h:i < n):(rngD lo n)[i]? = some (.int (lo+i)):=by simp [rngD,h]
def diR1 (dr:DTA) (env:En) (Q:List D->En->Prop):Prop:=dr env fun ds e=>match ds with | [.int j]=>(-(2 ^ 62)<=j/\j < 2 ^ 62)/\Q (rngD 0 j.toNat) e | _=>False
def diR2 (dr:DTA) (env:En) (Q:List D->En->Prop):Prop:=dr env fun ds e=>match ds with | [.int i,.int j]=>(-(2 ^ 62)<=i/\i < 2 ^ 62/\-(2 ^ 62)<=j/\j < 2 ^ 62)/\Q (rngD i (j - i).toNat) e | _=>False
section
variable {Z:Zt}{tm:Tm}{v:V}
theorem itOk_list {a:Addr}{xs:List D}:ItOk K Z (tm ++ [(.ref a,.dat (.lst xs))]) (Itl K a) xs:=by
 have key:∀ {env ts σ H},Rel K Z env (tm ++ [(V.ref a,.dat (.lst xs))] ++ ts) σ H->∃ F vs,RelF K Z F env (tm ++ [(V.ref a,.dat (.lst xs))] ++ ts) σ H/\SqL K H a vs/\Dts K F xs vs:=fun {env ts σ H} ⟨F,h⟩=>by
  have c:Dt K F (.lst xs) (.ref a):=h.ok _ _ _ (cell_app cell_last)
  simp only [Dt] at c
  obtain ⟨a',vs,e,q,d⟩:=c
  cases e
  exact ⟨F,vs,h,SqL.of (h.sub _ _ q),d⟩
 refine ⟨fun i env ts σ H h hi=>?_,fun i env ts σ H v H' x h y e=>?_,fun i env ts σ H h hi=>?_⟩
 ·obtain ⟨F,vs,h,q,d⟩:=key h
  exact ⟨vs,vs[i]'(by rw [<-d.len];exact hi),q,by simp⟩
 ·obtain ⟨F,vs,h,q,d⟩:=key h
  obtain ⟨rfl,y⟩:=y
  obtain ⟨w,ew,dw⟩:=d.get e
  have:=y vs q
  rw [ew] at this;cases this
  exact ⟨F,h.pushD dw⟩
 ·obtain ⟨F,vs,h,q,d⟩:=key h
  exact ⟨vs,q,by rw [<-d.len];exact hi⟩
theorem itOk_tup {a:Addr}{xs:List D}:ItOk K Z (tm ++ [(.ref a,.dat (.tup xs))]) (Itt K a) xs:=by
 have key:∀ {env ts σ H},Rel K Z env (tm ++ [(V.ref a,.dat (.tup xs))] ++ ts) σ H->∃ F vs,RelF K Z F env (tm ++ [(V.ref a,.dat (.tup xs))] ++ ts) σ H/\SqT K H a vs/\Dts K F xs vs:=fun {env ts σ H} ⟨F,h⟩=>by
  have c:Dt K F (.tup xs) (.ref a):=h.ok _ _ _ (cell_app cell_last)
  simp only [Dt] at c
  obtain ⟨a',vs,e,q,d⟩:=c
  cases e
  exact ⟨F,vs,h,Same.seqT h.sub q.seqT,d⟩
 refine ⟨fun i env ts σ H h hi=>?_,fun i env ts σ H v H' x h y e=>?_,fun i env ts σ H h hi=>?_⟩
 ·obtain ⟨F,vs,h,q,d⟩:=key h
  exact ⟨vs,vs[i]'(by rw [<-d.len];exact hi),q,by simp⟩
 ·obtain ⟨F,vs,h,q,d⟩:=key h
  obtain ⟨rfl,y⟩:=y
  obtain ⟨w,ew,dw⟩:=d.get e
  have:=y vs q
  rw [ew] at this;cases this
  exact ⟨F,h.pushD dw⟩
 ·obtain ⟨F,vs,h,q,d⟩:=key h
  exact ⟨vs,q,by rw [<-d.len];exact hi⟩
theorem itOk_rng {lo:Int}{n:Nat}:ItOk K Z tm (Itr lo n) (rngD lo n):=by
 refine ⟨fun i env ts σ H h hi=>?_,fun i env ts σ H v H' x h y e=>?_,fun i env ts σ H h hi=>?_⟩
 ·rw [rngD_len] at hi;exact hi
 ·obtain ⟨rfl,rfl⟩:=y
  have hi:i < n:=by
   have:=(List.getElem?_eq_some_iff.mp e).1
   rw [rngD_len] at this;exact this
  rw [rngD_get hi] at e;cases e
  obtain ⟨F,h⟩:=h
  exact ⟨F,h.pushD (by simp only [Dt])⟩
 ·rw [rngD_len] at hi;exact hi
theorem itOk_str {x:Str}:ItOk K Z tm (Its x) (x.cps.toList.map fun c=>.str ⟨#[c]⟩):=by
 refine ⟨fun i env ts σ H h hi=>?_,fun i env ts σ H v H' y h yy e=>?_,fun i env ts σ H h hi=>?_⟩
 ·show i < x.cps.size
  simpa using hi
 ·obtain ⟨rfl,c,hc,rfl⟩:=yy
  rw [List.getElem?_map] at e
  have:x.cps.toList[i]? = some c:=by simpa using hc
  rw [this] at e;cases e
  obtain ⟨F,h⟩:=h
  exact ⟨F,h.pushD (by simp only [Dt])⟩
 ·show x.cps.size<=i
  simpa using hi
end
theorem si_list (he:SE K te de):SI K (iList K te) (diL de):=fun Z env tm σ H R Qd h q k=>he Z env tm σ H _ _ h q fun v r e H1 h1 n1 q1=>by
 obtain ⟨F,h2⟩:=h1.frzT n1
 split at q1
 ·rename_i xs er
  rw [er] at h2
  have c:Dt K F (.lst xs) v:=h2.top
  simp only [Dt] at c
  obtain ⟨a,vs,rfl,hq,d⟩:=c
  exact ⟨a,rfl,⟨vs,SqL.of (h2.sub _ _ hq)⟩,k _ [(.ref a,.dat (.lst xs))] xs e H1 Z id ⟨F,h2⟩ itOk_list q1⟩
 ·exact q1.elim
theorem si_tup (he:SE K te de):SI K (iTup K te) (diT de):=fun Z env tm σ H R Qd h q k=>he Z env tm σ H _ _ h q fun v r e H1 h1 n1 q1=>by
 obtain ⟨F,h2⟩:=h1.frzT n1
 split at q1
 ·rename_i xs er
  rw [er] at h2
  have c:Dt K F (.tup xs) v:=h2.top
  simp only [Dt] at c
  obtain ⟨a,vs,rfl,hq,d⟩:=c
  exact ⟨a,rfl,⟨vs,Same.seqT h2.sub hq.seqT⟩,k _ [(.ref a,.dat (.tup xs))] xs e H1 Z id ⟨F,h2⟩ itOk_tup q1⟩
 ·exact q1.elim
theorem si_str (he:SE K te de):SI K (iStr te) (diS de):=fun Z env tm σ H R Qd h q k=>he Z env tm σ H _ _ h q fun v r e H1 h1 n1 q1=>by
 obtain ⟨F,h2⟩:=h1.frzT n1
 split at q1
 ·rename_i x er
  rw [er] at h2
  have c:Dt K F (.str x) v:=h2.top
  simp only [Dt] at c
  subst c
  exact ⟨x,rfl,k _ [] _ e H1 Z id (by rw [List.append_nil];exact ⟨F,h2.pop⟩) itOk_str q1⟩
 ·exact q1.elim
theorem si_r1 (hr:SA K tr dr):SI K (iRng1 tr) (diR1 dr):=fun Z env tm σ H R Qd h q k=>hr Z env tm σ H _ _ h q fun vs ds e H1 ⟨F,h1⟩ hl q1=>by
 have d:=h1.dts hl
 split at q1
 ·rename_i j
  simp only [Dts,Dt] at d
  obtain ⟨v,r,rfl,rfl,rfl⟩:=d
  exact ⟨_,rfl,q1.1.1,q1.1.2,k _ [] _ e H1 Z id (by rw [List.append_nil];exact ⟨F,h1.pops⟩) itOk_rng q1.2⟩
 ·exact q1.elim
theorem di_list (he:DE X e te de):DI X tg e (iList X.K te) (diL de):=⟨pi_list he.1,si_list he.2⟩
theorem di_tup (he:DE X e te de):DI X tg e (iTup X.K te) (diT de):=⟨pi_tup he.1,si_tup he.2⟩
theorem di_str (he:DE X e te de):DI X tg e (iStr te) (diS de):=⟨pi_str he.1,si_str he.2⟩
theorem di_r1 {p:Pos} (hg:Gl X "range") (hm:X.mg "range" = none) (ha:DA X [a] tr dr) (hs:starEach [a] X.env=[(false,eval a X.env)]:=by rfl):DI X tg (.Call (.Name "range" p) [a] [] pos) (iRng1 tr) (diR1 dr):=⟨pi_range1 hg hm ha.1 hs,si_r1 ha.2⟩
def dForL (xs:List D) (dg:DTG) (db:DTS) (D:DEnds) (env:En):Prop:=∃ W:Nat->En->Prop,W 0 env /\
 (∀ (i:Nat) e x,xs[i]? = some x->W i e->dg (.dat x) e fun e2=>db { D with nx:=W (i+1),ct:=W (i+1),bk:=D.nx } e2)/\∀ e,W xs.length e->D.nx e
def dFor (di:DTI) (dg:DTG) (db:DTS) (D:DEnds) (env:En):Prop:=di env fun xs env1=>dForL xs dg db D env1
theorem ss_for (hi:SI K wi di) (hg:SG K own g dg) (hb:SS K ts ds):SS K (tFor wi g ts) (dFor di dg ds):=fun Z env tm σ H D Dd h k q=>hi Z env tm σ H _ _ h q fun J tms xs e1 H1 Z' back h1 it ⟨W,w0,turn,fin⟩=>by
 refine ⟨fun i m σ H=>m=xs.length - i/\i<=xs.length/\∃ e,Rel K Z' e (tm ++ tms) σ H/\W i e,⟨xs.length,by simp,Nat.zero_le _,e1,h1,w0⟩,?_⟩
 rintro i m σ H ⟨rfl,hi,e,hr,w⟩
 have hr0:Rel K Z' e (tm ++ tms ++ []) σ H:=by rw [List.append_nil];exact hr
 by_cases hlt:i < xs.length
 ·refine .inr ⟨it.go i e [] σ H hr0 hlt,fun σ' H'=>∃ e',Rel K Z' e' (tm ++ tms) σ' H'/\W (i+1) e',fun σ' H' ⟨e',r',w'⟩=>⟨xs.length - (i+1),by omega,rfl,hlt,e',r',w'⟩,fun v H' y=>?_⟩
  have ex:xs[i]? = some xs[i]:=by simp [hlt]
  have hr1:=it.yld i e [] σ H v H' _ hr0 y ex
  rw [List.append_nil] at hr1
  refine hg Z' e (tm ++ tms) σ H' v _ _ _ hr1 rfl (turn i e _ ex w) fun e2 σ2 H2 h2 _ q2=>?_
  refine hb Z' e2 (tm ++ tms) σ2 H2 _ { Dd with nx:=W (i+1),ct:=W (i+1),bk:=Dd.nx } h2 ⟨fun e3 σ3 H3 h3 q3=>⟨e3,h3,q3⟩,fun v r e3 σ3 H3 h3=>k.rt v r e3 σ3 H3 (back h3),fun e3 σ3 H3 h3 q3=>k.nx e3 σ3 H3 (back h3.pops) q3,fun e3 σ3 H3 h3 q3=>⟨e3,h3,q3⟩⟩ q2
 ·have:i=xs.length:=by omega
  subst this
  exact .inl ⟨it.stop _ e [] σ H hr0 (Nat.le_refl _),k.nx e σ H (back hr.pops) (fin e w)⟩
theorem ds_for {iter:Expr}{body:List Stmt} (hp:PassesOwn (model X.prog X.w) X.A X.env X.xe) (hc:X.calm=true) (hi:DI X tg iter wi di) (hg:DG X own tg g dg) (hb:DSs X body ts ds) (hs:∀ x,foldedSetIterable iter X.env x=pure x:=by intro _;rfl) :
  DS X (.For tg iter body [] pos) (tFor wi g ts) (dFor di dg ds):=⟨ps_for hp hc hi.1 hg.1 hb.1 hs,ss_for hi.2 hg.2 hb.2⟩
def wipeE (env:En):List Nat->En
 | []=>env
 | v :: vs=>(wipeE env vs).set v none
theorem wipeE_get {env:En}{i:Nat}{r:R}:∀ {vs:List Nat},(wipeE env vs)[i]? = some (some r)->env[i]? = some (some r)/\i ∉ vs
 | [],h=>⟨h,by simp⟩
 | v :: vs,h=>by
  unfold wipeE at h
  by_cases hi:v=i
  ·subst hi
   rw [List.getElem?_set,if_pos rfl] at h
   split at h <;> cases h
  ·rw [List.getElem?_set,if_neg hi] at h
   obtain ⟨h1,h2⟩:=wipeE_get h
   exact ⟨h1,by simp only [List.mem_cons,not_or];exact ⟨fun e=>hi e.symm,h2⟩⟩
theorem wipeE_len {env:En}:∀ {vs:List Nat},(wipeE env vs).length=env.length
 | []=>rfl
 | v :: vs=>by unfold wipeE;rw [List.length_set,wipeE_len]
theorem wipe_get {σ:L2.St}{i:Nat}:∀ {vs:List Nat},i ∉ vs->(wipe σ vs)[i]? = σ[i]?
 | [],_=>rfl
 | v :: vs,h=>by
  simp only [List.mem_cons,not_or] at h
  unfold wipe
  rw [List.getElem?_set,if_neg (fun z=>h.1 z.symm),wipe_get h.2]
theorem Rel.wiped {Z:Zt}{env:En}{tm:Tm}{σ σ':L2.St}{H:Hp} (h:Rel K Z env tm σ H) (hw:wipe σ' own=wipe σ own):Rel K Z (wipeE env own) tm σ' H:=by
 obtain ⟨F,h⟩:=h
 have hl:σ'.length=σ.length:=by
  have:=congrArg List.length hw
  rwa [wipe_length,wipe_length] at this
 have hg:∀ {i:Nat},i ∉ own->σ'[i]? = σ[i]?:=fun {i} hi=>by rw [<-wipe_get hi,hw,wipe_get hi]
 refine ⟨F,h.sub' id (by rw [wipeE_len,hl];exact h.len) (fun i r e=>?_) (fun a v r c=>?_) (fun _ _ _ _ _ _ _ _ _ e=>e) fun e=>?_⟩
 ·obtain ⟨e1,e2⟩:=wipeE_get e
  rw [hg e2];exact h.sl i r e1
 ·cases a with
  | t j=>exact c
  | s j=>
   obtain ⟨c1,c2⟩:=c
   obtain ⟨e1,e2⟩:=wipeE_get c2
   rw [hg e2] at c1
   exact ⟨c1,e1⟩
 ·obtain ⟨r,e,sp⟩:=e
  obtain ⟨e1,e2⟩:=wipeE_get e
  rw [hg e2];exact h.bg ⟨r,e1,sp⟩
theorem wipe_wipe {σ:L2.St}:∀ {vs ws:List Nat},(∀ v∈vs,v∈ws)->wipe (wipe σ vs) ws=wipe σ ws
 | [],_,_=>rfl
 | v :: vs,ws,h=>by
  show wipe ((wipe σ vs).set v none) ws=_
  rw [wipe_set (h v (by simp)),wipe_wipe fun x hx=>h x (by simp [hx])]
def dLcL (xs:List D) (dg:DTG) (dt:DTT) (de:DTE) (own:List Nat) (env:En) (Q:R->En->Prop):Prop:=∃ W:Nat->List D->En->Prop,W 0 [] (wipeE env own) /\
 (∀ (i:Nat) acc e x,xs[i]? = some x->W i acc e->dg (.dat x) e fun e2=>dt e2 fun b e3=>if b=true then de e3 fun r e4=>acc.length < 100000/\W (i+1) (acc ++ [r.d]) (wipeE e4 own) else W (i+1) acc (wipeE e3 own))/\∀ acc e,W xs.length acc e->Q (.own acc) e
def dLc (di:DTI) (dg:DTG) (dt:DTT) (de:DTE) (own:List Nat) (env:En) (Q:R->En->Prop):Prop:=di env fun xs env1=>dLcL xs dg dt de own env1 fun r e=>Hold (fun r=>Q r e) ⟨r⟩
theorem cell_mid {σ:L2.St}{env:En}{tm:Tm}{v w:V}{r q:R}{ts:Tm}{a:Ix}{r':R} (c:Cell σ env (tm ++ [(v,r')] ++ ts) a w q):(a = .t tm.length/\w=v/\q=r')\/(a ≠ .t tm.length/\Cell σ env (tm ++ [(v,r)] ++ ts) a w q):=by
 cases a with
 | s i=>exact .inr ⟨(by intro z;cases z),c⟩
 | t i=>
  have c:(tm ++ [(v,r')] ++ ts)[i]? = some (w,q):=c
  by_cases hi:i=tm.length
  ·subst hi
   simp at c
   exact .inl ⟨rfl,c.1.symm,c.2.symm⟩
  ·refine .inr ⟨(by intro z;cases z;exact hi rfl),?_⟩
   show (tm ++ [(v,r)] ++ ts)[i]? = some (w,q)
   rw [List.append_assoc] at c ⊢
   by_cases hlt:i < tm.length
   ·rw [List.getElem?_append_left hlt] at c ⊢;exact c
   ·rw [List.getElem?_append_right (by omega)] at c ⊢
    obtain ⟨j,hj⟩:∃ j,i - tm.length=j+1:=⟨i - tm.length - 1,by omega⟩
    rw [hj] at c ⊢
    simpa using c
theorem se_lc (hi:SI K wi di) (hg:SG K own g dg) (ht:ST K t dt) (he:SE K te de):SE K (tLc wi g t te own) (dLc di dg dt de own):=fun Z env tm σ H Q Qd h q k=>hi Z env tm σ H _ _ h q fun J tms xs e1 H1 Z' back h1 it ⟨W,w0,turn,fin⟩=>by
 intro L nL
 have hw0:Rel K Z' (wipeE e1 own) (tm ++ tms ++ [(.ref L,.own [])]) σ (upd H1 L (.lst [])):=by
  obtain ⟨F,h2⟩:=h1.wiped (σ':=σ) rfl
  exact RelF.new h2 (Grow.pure (Same.new1 nL) h2.sub) (RNew.own nL h2.sub upd_same .nil)
 refine ⟨fun i m H=>m=xs.length - i/\i<=xs.length/\∃ e acc,Rel K Z' e (tm ++ tms ++ [(.ref L,.own acc)]) σ H/\W i acc e/\wipeE e own=e,⟨xs.length,by simp,Nat.zero_le _,_,[],hw0,w0,?_⟩,?_⟩
 ·refine List.ext_getElem? fun i=>?_
  by_cases hi:i < e1.length
  ·have l1:i < (wipeE (wipeE e1 own) own).length:=by simp [wipeE_len,hi]
   have l2:i < (wipeE e1 own).length:=by simp [wipeE_len,hi]
   cases e2:(wipeE e1 own)[i]? with
   | none=>rw [List.getElem?_eq_getElem l2] at e2;cases e2
   | some o=>
    have none_of:∀ {env:En} {vs:List Nat},i∈vs->i < env.length->(wipeE env vs)[i]? = some none:=fun {env vs} hm hl=>by
     induction vs with
     | nil=>cases hm
     | cons v vs ih=>
      unfold wipeE
      by_cases hv:v=i
      ·subst hv;rw [List.getElem?_set,if_pos rfl,if_pos (by rw [wipeE_len];exact hl)]
      ·rw [List.getElem?_set,if_neg hv];exact ih ((List.mem_cons.mp hm).resolve_left fun z=>hv z.symm)
    have same_of:∀ {env:En} {vs:List Nat},i ∉ vs->(wipeE env vs)[i]? = env[i]?:=fun {env vs} hm=>by
     induction vs with
     | nil=>rfl
     | cons v vs ih=>
      simp only [List.mem_cons,not_or] at hm
      unfold wipeE
      rw [List.getElem?_set,if_neg (fun z=>hm.1 z.symm)];exact ih hm.2
    by_cases hm:i∈own
    ·rw [none_of hm (by rw [wipeE_len];exact hi),<-e2,none_of hm hi]
    ·rw [same_of hm,e2]
  ·rw [List.getElem?_eq_none (by rw [wipeE_len,wipeE_len];omega),List.getElem?_eq_none (by rw [wipeE_len];omega)]
 ·rintro i m H2 ⟨rfl,hi,e,acc,hr,w,we⟩
  by_cases hlt:i < xs.length
  ·refine .inr ⟨it.go i e _ σ H2 hr hlt,fun H'=>∃ e' acc',Rel K Z' e' (tm ++ tms ++ [(.ref L,.own acc')]) σ H'/\W (i+1) acc' e'/\wipeE e' own=e',fun H' ⟨e',acc',r',w',we'⟩=>⟨xs.length - (i+1),by omega,rfl,hlt,e',acc',r',w',we'⟩,fun v H' y=>?_⟩
   have ex:xs[i]? = some xs[i]:=by simp [hlt]
   have hr1:=it.yld i e _ σ H2 v H' _ hr y ex
   have hr2:Rel K Z' e (tm ++ tms ++ [(.ref L,.own acc)] ++ [(v,.dat xs[i])]) (wipe σ own) H':=by
    have:=hr1.wiped (own:=own) (σ':=wipe σ own) (wipe_wipe fun _ z=>z)
    rwa [we] at this
   refine hg Z' e _ (wipe σ own) H' v _ _ _ hr2 rfl (turn i acc e _ ex w) fun e2 σ2 H3 h3 w3 q3=>?_
   have w4:wipe σ2 own=wipe σ own:=w3.trans (wipe_wipe fun _ z=>z)
   refine ⟨w4,ht Z' e2 _ σ2 H3 _ _ h3 q3 fun b e3 H4 h4 q4=>?_⟩
   have idem:∀ e:En,wipeE (wipeE e own) own=wipeE e own:=fun e=>by
    refine List.ext_getElem? fun j=>?_
    cases e5:(wipeE (wipeE e own) own)[j]? with
    | none=>
     have:=List.getElem?_eq_none_iff.mp e5
     rw [wipeE_len] at this
     rw [List.getElem?_eq_none this]
    | some o=>
     cases o with
     | some r=>rw [(wipeE_get e5).1]
     | none=>
      have hj:j < e.length:=by have:=(List.getElem?_eq_some_iff.mp e5).1;rwa [wipeE_len,wipeE_len] at this
      cases e6:(wipeE e own)[j]? with
      | none=>rw [List.getElem?_eq_getElem (by rw [wipeE_len];exact hj)] at e6;cases e6
      | some o'=>
       cases o' with
       | none=>rfl
       | some r=>
        exfalso
        have hn:=(wipeE_get e6).2
        have:(wipeE (wipeE e own) own)[j]? = (wipeE e own)[j]?:=by
         clear e5
         generalize wipeE e own=f at *
         clear hr hr1 hr2 w0 turn fin w we
         revert hn
         generalize own=vs
         intro hn
         induction vs with
         | nil=>rfl
         | cons v vs ih=>
          simp only [List.mem_cons,not_or] at hn
          unfold wipeE
          rw [List.getElem?_set,if_neg (fun z=>hn.1 z.symm)];exact ih hn.2
        rw [e5,e6] at this;cases this
   cases b with
   | true=>
    rw [if_pos rfl] at q4 ⊢
    refine he Z' e3 _ σ2 H4 _ _ h4 q4 fun y r e4 H5 h5 n5 ⟨q50,q5⟩=>?_
    obtain ⟨F,h6⟩:=h5.frzT n5
    have cL:Cell σ2 e4 (tm ++ tms ++ [(.ref L,.own acc)] ++ [(y,.dat r.d)]) (.t (tm ++ tms).length) (.ref L) (.own acc):=cell_old cell_last
    obtain ⟨p,vs,ep,nF,hp,dv⟩:=h6.ok _ _ _ cL
    cases ep
    refine ⟨vs,hp,sz1000' (by rw [<-dv.len];exact q50),_,_,?_,q5,idem _⟩
    have dy:Dt K F r.d y:=h6.top
    have h7:RelF K Z' F e4 (tm ++ tms ++ [(.ref L,.own (acc ++ [r.d]))] ++ [(y,.dat r.d)]) σ2 (upd H5 L (.lst (vs ++ [y]))):=by
     refine h6.chg (M:=fun a=>a=L) (a:=.t (tm ++ tms).length) (p:=L) (r:=.own acc) (r':=.own (acc ++ [r.d])) ⟨Same.refl F,fun x o ex=>?_,fun a h _=>h,fun a o na ha=>by rw [upd_ne na];exact ha,fun a ha=>?_⟩ cL rfl (fun x m=>m) ⟨L,_,rfl,nF,upd_same,dv.append (.one dy)⟩ rfl (fun b w q c=>cell_mid c) h6.len h6.sl id
     ·rw [upd_ne (fun z=>by subst z;rw [nF] at ex;cases ex)];exact h6.sub x o ex
     ·by_cases hz:a=L
      ·subst hz;rw [upd_same] at ha;cases ha
      ·rw [upd_ne hz] at ha;exact ha
    have h8:Rel K Z' e4 (tm ++ tms ++ [(.ref L,.own (acc ++ [r.d]))]) σ2 (upd H5 L (.lst (vs ++ [y]))):=⟨F,h7.pop⟩
    exact h8.wiped w4.symm
   | false=>
    rw [if_neg Bool.false_ne_true] at q4 ⊢
    exact ⟨_,acc,h4.wiped w4.symm,q4,idem _⟩
  ·have:i=xs.length:=by omega
   subst this
   refine .inl ⟨it.stop _ e _ σ H2 hr (Nat.le_refl _),k _ _ e H2 (back ?_) rfl (fin acc e w)⟩
   obtain ⟨F,h2⟩:=hr
   have:RelF K Z' F e (tm ++ (tms ++ [(.ref L,.own acc)])) σ H2:=by rw [<-List.append_assoc];exact h2
   refine ⟨F,this.sub' (fun a=>match a with | .s i=>.s i | .t i=>if i=tm.length then .t (tm.length+tms.length) else .t i) this.len this.sl (fun a w q c=>?_) (fun a b w q q' c c' _ _ ee=>?_) this.bg⟩
   ·cases a with
    | s i=>exact c
    | t i=>
     rcases cell_push c with c | ⟨ea,rfl,rfl⟩
     ·have c':tm[i]? = some (w,q):=c
      have hi:=(List.getElem?_eq_some_iff.mp c').1
      show Cell σ e (tm ++ (tms ++ [(.ref L,.own acc)])) (if i=tm.length then Ix.t (tm.length+tms.length) else Ix.t i) w q
      rw [if_neg (by omega)]
      exact cell_app c
     ·cases ea
      show Cell σ e (tm ++ (tms ++ [(.ref L,.own acc)])) (if tm.length=tm.length then Ix.t (tm.length+tms.length) else Ix.t tm.length) _ _
      rw [if_pos rfl]
      exact cell_appR (by simp)
   ·have bnd:∀ {i w q},Cell σ e (tm ++ [(.ref L,.own acc)]) (.t i) w q->i<=tm.length:=fun {i w q} c=>by
     have:=(List.getElem?_eq_some_iff.mp c).1
     simp at this;omega
    cases a with
    | s i=>cases b with
     | s j=>exact ee
     | t j=>
      have ee:Ix.s i=(if j=tm.length then Ix.t (tm.length+tms.length) else Ix.t j):=ee
      split at ee <;> cases ee
    | t i=>cases b with
     | s j=>
      have ee:(if i=tm.length then Ix.t (tm.length+tms.length) else Ix.t i)=Ix.s j:=ee
      split at ee <;> cases ee
     | t j=>
      have bi:=bnd c
      have bj:=bnd c'
      have ee:(if i=tm.length then Ix.t (tm.length+tms.length) else Ix.t i)=(if j=tm.length then Ix.t (tm.length+tms.length) else Ix.t j):=ee
      congr 1
      split at ee <;> split at ee <;> (have:=Ix.t.inj ee;omega)
end
end U
namespace U
open PySem L2
section
variable {K:PySem.W.Frag}{X:Cx}{a b e tg:Expr}{es:List Expr}{pos:Pos}{t u:TT}{dt du:DTT}{ta tb te:TE}{da db de:DTE}{tr:TA}{dr:DTA}{ts us:TS}{ds du':DTS}{st:Stmt}{sts:List Stmt}{g:TG}{dg:DTG}{wi:TI}{di:DTI}
def dYes (env:En) (Q:Bool->En->Prop):Prop:=Q true env
theorem dts_nil:DTs X [] tYes dYes:=⟨pts_nil,fun Z env tm σ H Q Qd h q k=>k true env H h q⟩
theorem dts_one {c:Expr} (h:DT X c t dt):DTs X [c] t dt:=⟨pts_one h.1,h.2⟩
abbrev Fm (α:Type):=Shared->Hp->Addr->List (Str × Addr)->List Addr->α
theorem de_lc {elt iter:Expr}{ifs:List Expr}{scope:Scope}{own:List (Str × Nat)}{g:Fm TG}{dg:Fm DTG}{t:Fm TT}{dt:Fm DTT}{te:Fm TE}{de:Fm DTE} (hc:X.calm=true) (hN:X.N.Nodup) (hi:DI X tg iter wi di) (ok:BlkOk X.N X.env.scope scope own)
  (hg:∀ (s:Shared) (H:Hp) (C:Addr) (cl:List (Str × Addr)) (fp:List Addr),DG (X.blk s H scope (compEnvC scope cl C X.env) fp) (own.map (·.2)) tg (g s H C cl fp) (dg s H C cl fp)) (ht:∀ (s:Shared) (H:Hp) (C:Addr) (cl:List (Str × Addr)) (fp:List Addr),DTs (X.blk s H scope (compEnvC scope cl C X.env) fp) ifs (t s H C cl fp) (dt s H C cl fp))
  (he:∀ (s:Shared) (H:Hp) (C:Addr) (cl:List (Str × Addr)) (fp:List Addr),DE (X.blk s H scope (compEnvC scope cl C X.env) fp) elt (te s H C cl fp) (de s H C cl fp))
  (eg:∀ s H C cl fp,g s H C cl fp=g X.s_0 X.H_0 0 [] []:=by intros;rfl) (et:∀ s H C cl fp,t s H C cl fp=t X.s_0 X.H_0 0 [] []:=by intros;rfl) (ee:∀ s H C cl fp,te s H C cl fp=te X.s_0 X.H_0 0 [] []:=by intros;rfl)
  (hs:∀ x,foldedSetIterable iter X.env x=pure x:=by intro _;rfl) :
  DE X (.ListComp elt [⟨tg,iter,ifs,0⟩] scope pos) (tLc wi (g X.s_0 X.H_0 0 [] []) (t X.s_0 X.H_0 0 [] []) (te X.s_0 X.H_0 0 [] []) (own.map (·.2))) (dLc di (dg X.s_0 X.H_0 0 [] []) (dt X.s_0 X.H_0 0 [] []) (de X.s_0 X.H_0 0 [] []) (own.map (·.2))):=
 ⟨pe_lc hc hN hi.1 ok (fun s H C cl fp=>eg s H C cl fp ▸ (hg s H C cl fp).1) (fun s H C cl fp=>et s H C cl fp ▸ (ht s H C cl fp).1) (fun s H C cl fp=>ee s H C cl fp ▸ (he s H C cl fp).1) hs,se_lc hi.2 (hg X.s_0 X.H_0 0 [] []).2 (ht X.s_0 X.H_0 0 [] []).2 (he X.s_0 X.H_0 0 [] []).2⟩
def SM (K:PySem.W.Frag) (rm:V->List V->Hp->VK->Prop) (md:List D->List D->(R->List D->Prop)->Prop):Prop:=∀ (F H:Hp) (p:Addr) (vs:List V) (xs:List D) (args:List V) (dargs:List D) (Q:VK) (Qd:R->List D->Prop),Same F H->F p=none->H p=some (.lst vs)->Dts K F xs vs->Dts K F dargs args->md xs dargs Qd ->
 (∀ v q F' H' vs' xs',Grow (fun a=>a=p) F H F' H'->H' p=some (.lst vs')->Dts K F' xs' vs'->RNew K H F' H' v q->Qd q xs'->Q v H')->rm (.ref p) args H Q
def dMeth (i:Nat) (md:List D->List D->(R->List D->Prop)->Prop) (dr:DTA) (env:En) (Q:R->En->Prop):Prop:=match env[i]? with
 | some (some (.own _))=>dr env fun ds e=>match e[i]? with
  | some (some (.own xs))=>md xs ds fun q xs'=>Q q (e.set i (some (.own xs')))
  | _=>False
 | _=>False
theorem se_meth0 {i:Nat}{rm:V->List V->Hp->VK->Prop}{md:List D->List D->(R->List D->Prop)->Prop} (hm:SM K rm md) (ha:SA K tr dr) {Z:Zt}{env:En}{tm:Tm}{σ:L2.St}{H:Hp}{Q:VK}{Qd:R->En->Prop} (h:Rel K Z env tm σ H) (q:dMeth i md dr env Qd)
  (k:∀ v r env' H',Rel K Z env' (tm ++ [(v,r)]) σ H'->r.nobag=true->Qd r env'->Q v H'):∃ v,σ[i]? = some (some v)/\tyV K "list" v H/\tr σ H fun xs H2=>rm v xs H2 Q:=by
 unfold dMeth at q
 split at q
 ·rename_i xs0 e0
  obtain ⟨F0,h0⟩:=id h
  obtain ⟨v0,hv0⟩:=h0.sl i _ e0
  obtain ⟨p0,vs0,ev0,_,hp0,_⟩:=h0.ok (.s i) v0 (.own xs0) ⟨hv0,e0⟩
  refine ⟨v0,hv0,by subst ev0;exact Or.inl ⟨rfl,_,SqL.of hp0⟩,ha Z env tm σ H _ _ h q fun args ds e H1 ⟨F,h1⟩ hl q1=>?_⟩
  split at q1
  ·rename_i xs e1
   have c1:Cell σ e (tm ++ Td args ds) (.s i) v0 (.own xs):=⟨hv0,e1⟩
   obtain ⟨p,vs,rfl,nF,hp,dv⟩:=h1.ok _ _ _ c1
   refine hm F H1 p vs xs args ds _ _ h1.sub nF hp dv (h1.dts hl) q1 fun v q' F' H' vs' xs' g hp' dv' nw q2=>?_
   have h2:RelF K Z F e tm σ H1:=h1.pops
   have nF':F' p=none:=nt_no (g.nw p (nt_of nF) (by rw [hp];simp)) g.sub hp' (fun ws z=>by cases z)
   have h3:RelF K Z F' (e.set i (some (.own xs'))) tm σ H':=by
    refine h2.chg (a:=.s i) (p:=p) (r:=.own xs) (r':=.own xs') g ⟨hv0,e1⟩ rfl (fun x m=>m) ⟨p,vs',rfl,nF',hp',dv'⟩ rfl (fun a w q c=>cell_setS c hv0) (by rw [List.length_set];exact h2.len) (set_sl h2.sl hv0) fun z=>set_bg (fun _=>rfl) z
   refine k v q' _ H' (RelF.newB (M:=fun _=>False) h3 h2.th (fun a w q'' x c f=>?_) nw) nw.nb q2
   rcases cell_setS c hv0 with ⟨_,e2,e3⟩ | ⟨_,c⟩
   ·subst e2 e3
    have e4:V.ref p=V.ref x:=f
    cases e4
    rw [hp];simp
   ·obtain ⟨_,o,z2,_⟩:=(h2.ok _ _ _ c).fp f
    rw [z2];simp
  ·exact q1.elim
 ·exact q.elim
def mdApp (xs ds:List D) (Q:R->List D->Prop):Prop:=match ds with | [y]=>xs.length < 100000/\Q (.dat .non) (xs ++ [y]) | _=>False
theorem nonDt {F:Hp}:Dt K F .non .non:=by simp only [Dt]
theorem grow_mu {F H H':Hp}{p:Addr} (s:Same F H) (n:F p=none) (m:Mu p H H'):Grow (fun a=>a=p) F H F H':=⟨Same.refl F,fun a o e=>m.keep a o (ne_of_none e n) (s a o e),fun _ h _=>h,fun a o na e=>m.keep a o na e,m.there⟩
theorem sm_app:SM K rAppend mdApp:=by
 intro F H p vs xs args ds Q Qd s n hp dv da q k
 unfold mdApp at q
 split at q
 ·simp only [Dts] at da
  obtain ⟨v,r,rfl,dy,rfl⟩:=da
  exact ⟨p,vs,v,rfl,rfl,hp,sz1000' (by rw [<-dv.len];exact q.1),k _ (.dat .non) F _ _ _ (grow_mu s n (Mu.of hp)) upd_same (dv.append (.one dy)) (RNew.dat nonDt) q.2⟩
 ·exact q.elim
def stE (N:List Str) (ds:List D):En:=ds.map (fun d=>some (.dat d)) ++ List.replicate (N.length - ds.length) none
section
variable {P:Program}{w:World}{mg:Str->Option Value}{base:Heap}
theorem start_cell {N:List Str}{vs:List V}{ds:List D}{i:Nat}{v:V}{r:R} (hl:vs.length=ds.length) (c1:(start N vs)[i]? = some (some v)) (c2:(stE N ds)[i]? = some (some r)):∃ d,vs[i]? = some v/\ds[i]? = some d/\r = .dat d:=by
 by_cases hi:i < ds.length
 ·unfold stE at c2
  rw [List.getElem?_append_left (by simpa using hi),List.getElem?_map] at c2
  unfold L2.start at c1
  rw [List.getElem?_append_left (by simp;omega),List.getElem?_map] at c1
  cases h1:vs[i]? with
  | none=>rw [h1] at c1;cases c1
  | some v'=>
   cases h2:ds[i]? with
   | none=>rw [h2] at c2;cases c2
   | some d=>rw [h1] at c1;rw [h2] at c2;cases c1;cases c2;exact ⟨d,rfl,rfl,rfl⟩
 ·unfold stE at c2
  rw [List.getElem?_append_right (by simpa using hi),List.getElem?_replicate] at c2
  split at c2 <;> cases c2
theorem rel_start {N:List Str}{F H:Hp}{vs:List V}{ds:List D} (s:Same F H) (d:Dts K F ds vs):RelF K ⟨F,H,0,fun _=>False⟩ F (stE N ds) [] (start N vs) H:=by
 have hl:=d.len.symm
 have dat:∀ {a v r},Cell (start N vs) (stE N ds) [] a v r->∃ d,r = .dat d/\Dt K F d v:=fun {a v r} c=>by
  cases a with
  | t j=>cases (show ([]:Tm)[j]? = some (v,r) from c)
  | s i=>
   obtain ⟨d',e1,e2,rfl⟩:=start_cell hl c.1 c.2
   obtain ⟨v',e3,dd⟩:=d.get e2
   rw [e1] at e3;cases e3
   exact ⟨d',rfl,dd⟩
 refine ⟨s,Same.refl F,fun _ h _=>h,fun _ _ _ h=>h,fun _ h=>h,by simp [L2.start,stE,hl],fun i r e=>?_,fun a v r c=>?_,fun a v r x c f=>?_,fun a b v w r q x c c' f f'=>?_,fun e=>?_⟩
 ·have hi:i < ds.length:=by
   unfold stE at e
   by_cases hi:i < ds.length
   ·exact hi
   ·rw [List.getElem?_append_right (by simpa using hi),List.getElem?_replicate] at e
    split at e <;> cases e
  exact ⟨vs[i]'(by omega),by unfold L2.start;rw [List.getElem?_append_left (by simp;omega)];simp⟩
 ·obtain ⟨d,rfl,dd⟩:=dat c;exact dd
 ·obtain ⟨d,rfl,dd⟩:=dat c;exact f.elim
 ·obtain ⟨d,rfl,dd⟩:=dat c;exact f.elim
 ·obtain ⟨r,e,sp⟩:=e
  unfold stE at e
  by_cases hi:0 < ds.length
  ·rw [List.getElem?_append_left (by simpa using hi),List.getElem?_map] at e
   cases h:ds[0]? with
   | none=>rw [h] at e;cases e
   | some d=>rw [h] at e;cases e;cases sp
  ·rw [List.getElem?_append_right (by simpa using hi),List.getElem?_replicate] at e
   split at e <;> cases e
theorem rel_out {F H H':Hp}{env:En}{tm:Tm}{σ:L2.St}{v:V}{r:R}{b:Addr} (h:Rel K ⟨F,H,b,fun _=>False⟩ env (tm ++ [(v,r)]) σ H') (nb:r.nobag=true):∃ F',Grow (fun _=>False) F H F' H'/\RNew K H F' H' v r:=by
 obtain ⟨F',h⟩:=h
 refine ⟨F',⟨h.f0,h.sub,h.nw,fun a o _ e=>h.kp a o id e,h.th⟩,h.ok _ _ _ cell_last,nb,fun x f=>?_⟩
 rcases h.ow _ _ _ x cell_last f with z | z
 ·exact z
 ·exact z.2.elim
theorem Fun.okP {x qual:Str}{st:Stmt}{f:Addr}{fd:FuncData}{N ps:List Str}{k:Nat}{sp:PSp} (F:Fun K x qual st f fd) (S:FnScope N ps (defScope st)) (hl:∀ ds Q,sp ds Q->ds.length=ps.length)
  (hb:∀ (cdv:Value) (A:Around) (outer:List Env) (s:Shared) (H:Hp) (E:XK),Room k (A.deeper (PyProof.Rows.envOfC qual (defScope st) s.heap.objs.size f cdv)) ->
   ∃ ts db,DSs (cxOf CX0 P w K mg base N qual (defScope st) f cdv A outer s H E).nox (defBody st) ts db/\∀ ds Qd,sp ds Qd->db { nx:=fun _=>Qd (.dat .non),rt:=fun r _=>Qd r } (stE N ds)):FnOk P w K mg base CX0 (k+1) f fd ps (spP K sp):=by
 refine F.ok S (fun vs H Q E h=>?_) (fun cdv A outer s H vs Q E hr h=>?_)
 ·obtain ⟨F,ds,Qd,_,d,q,_⟩:=h
  rw [<-d.len];exact hl _ _ q
 ·obtain ⟨F,ds,Qd,sb,d,q,kk⟩:=h
  obtain ⟨ts,db,⟨p1,p2⟩,rd⟩:=hb cdv A outer s H E hr
  refine ⟨ts,p1,p2 _ _ [] _ H _ { nx:=fun _=>Qd (.dat .non),rt:=fun r _=>Qd r } ⟨F,rel_start (N:=N) sb d⟩ ⟨fun env σ H' h' q'=>?_,fun v r env σ H' h' nb q'=>?_,fun _ _ _ _ z=>z.elim,fun _ _ _ _ z=>z.elim⟩ (rd ds Qd q)⟩
  ·obtain ⟨F1,h1⟩:=h'
   have h2:Rel K _ env ([] ++ [(V.non,R.dat .non)]) σ H':=⟨F1,RelF.pushD h1 nonDt⟩
   obtain ⟨F',g,n⟩:=rel_out h2 rfl
   exact kk _ _ F' H' g n q'
  ·obtain ⟨F',g,n⟩:=rel_out (tm:=[]) h' nb
   exact kk _ _ F' H' g n q'
theorem rel_startB {N:List Str}{F H:Hp}{b:Addr}{n:Nat}{vs:List V}{ds:List D} (s:Same F H) (d:Dts K F ds vs) (nF:F b=none) (bg:Bag n H b) (hN:0 < N.length):RelF K ⟨F,H,b,fun a=>a=b⟩ F (some (.bag n) :: stE (N.drop 1) ds) [] (start N (.ref b :: vs)) H:=by
 have hst:start N (.ref b :: vs)=some (.ref b) :: start (N.drop 1) vs:=by
  unfold L2.start
  simp only [List.map_cons,List.cons_append,List.length_cons,List.length_drop]
  congr 3
  omega
 have h0:=rel_start (N:=N.drop 1) s d
 rw [hst]
 have cs:∀ {a v r},Cell (some (.ref b) :: start (N.drop 1) vs) (some (.bag n) :: stE (N.drop 1) ds) [] a v r->(a = .s 0/\v = .ref b/\r = .bag n)\/∃ i,a = .s (i+1)/\Cell (start (N.drop 1) vs) (stE (N.drop 1) ds) [] (.s i) v r:=fun {a v r} c=>by
  cases a with
  | t j=>cases (show ([]:Tm)[j]? = some (v,r) from c)
  | s i=>
   cases i with
   | zero=>
    obtain ⟨c1,c2⟩:=c
    simp at c1 c2
    exact .inl ⟨rfl,c1.symm,c2.symm⟩
   | succ i=>exact .inr ⟨i,rfl,by obtain ⟨c1,c2⟩:=c;exact ⟨by simpa using c1,by simpa using c2⟩⟩
 have nm:∀ {i v r},Cell (start (N.drop 1) vs) (stE (N.drop 1) ds) [] (.s i) v r->r.mine=false:=fun {i v r} c=>by
  obtain ⟨d',_,_,rfl⟩:=start_cell d.len.symm c.1 c.2
  rfl
 refine ⟨s,Same.refl F,fun _ h _=>h,fun _ _ _ h=>h,fun _ h=>h,by simpa using h0.len,fun i r e=>?_,fun a v r c=>?_,fun a v r x c f=>?_,fun a b' v v' r q x c c' f f'=>?_,fun e=>rfl⟩
 ·cases i with
  | zero=>exact ⟨_,rfl⟩
  | succ i=>
   obtain ⟨v,hv⟩:=h0.sl i r (by simpa using e)
   exact ⟨v,by simpa using hv⟩
 ·rcases cs c with ⟨_,rfl,rfl⟩ | ⟨i,_,c⟩
  ·exact ⟨b,rfl,nF,bg⟩
  ·exact h0.ok _ _ _ c
 ·rcases cs c with ⟨_,rfl,rfl⟩ | ⟨i,_,c⟩
  ·have e:V.ref b=V.ref x:=f
   cases e
   exact .inr ⟨rfl,rfl⟩
  ·have:=f.mine;rw [nm c] at this;cases this
 ·rcases cs c with ⟨ea,_,_⟩ | ⟨i,_,c⟩
  ·rcases cs c' with ⟨eb,_,_⟩ | ⟨i,_,c'⟩
   ·rw [ea,eb]
   ·have:=f'.mine;rw [nm c'] at this;cases this
  ·have:=f.mine;rw [nm c] at this;cases this
def bagOf (env:En) (Q:Nat->Prop):Prop:=match env[(0:Nat)]? with
 | some (some (R.bag n))=>Q n
 | _=>False
theorem Fun.okB {x qual:Str}{st:Stmt}{f:Addr}{fd:FuncData}{N ps:List Str}{k:Nat}{sp:BSp} (F:Fun K x qual st f fd) (S:FnScope N ps (defScope st)) (hN:0 < N.length) (hl:∀ n ds Q,sp n ds Q->ds.length+1=ps.length)
  (hb:∀ (cdv:Value) (A:Around) (outer:List Env) (s:Shared) (H:Hp) (E:XK),Room k (A.deeper (PyProof.Rows.envOfC qual (defScope st) s.heap.objs.size f cdv)) ->
   ∃ ts db,DSs (cxOf CX0 P w K mg base N qual (defScope st) f cdv A outer s H E).nox (defBody st) ts db/\∀ n ds Qd,sp n ds Qd->db { nx:=fun e=>bagOf e fun n=>Qd (.dat .non) n,rt:=fun r e=>bagOf e fun n=>Qd r n } (some (.bag n) :: stE (N.drop 1) ds)):FnOk P w K mg base CX0 (k+1) f fd ps (spB K sp):=by
 refine F.ok S (fun vs H Q E h=>?_) (fun cdv A outer s H vs Q E hr h=>?_)
 ·obtain ⟨b,n,ws,F,ds,Qd,rfl,_,_,_,d,q,_⟩:=h
  rw [List.length_cons,<-d.len];exact hl _ _ _ q
 ·obtain ⟨b,n,ws,F,ds,Qd,rfl,nF,bg,sb,d,q,kk⟩:=h
  obtain ⟨ts,db,⟨p1,p2⟩,rd⟩:=hb cdv A outer s H E hr
  have out:∀ v r env σ H',Rel K ⟨F,H,b,fun a=>a=b⟩ env ([] ++ [(v,r)]) σ H'->r.nobag=true->(bagOf env fun n=>Qd r n)->Q v H':=fun v r env σ H' ⟨F',h'⟩ nb q'=>by
   unfold bagOf at q'
   split at q'
   ·rename_i n' e
    have hs:=h'.bg ⟨_,e,rfl⟩
    obtain ⟨b',e1,_,bg'⟩:=h'.ok (.s 0) (.ref b) (.bag n') ⟨hs,e⟩
    cases e1
    refine kk v r n' F' H' ⟨h'.f0,h'.sub,h'.nw,fun a o na ea=>h'.kp a o na ea,h'.th⟩ bg' ⟨h'.ok _ _ _ cell_last,nb,fun x f=>?_⟩ q'
    rcases h'.ow _ _ _ x cell_last f with z | z
    ·exact z
    ·rw [nobag_lend nb] at z;cases z.1
   ·exact q'.elim
  refine ⟨ts,p1,p2 _ _ [] _ H _ { nx:=fun e=>bagOf e fun n=>Qd (.dat .non) n,rt:=fun r e=>bagOf e fun n=>Qd r n } ⟨F,rel_startB (N:=N) sb d nF bg hN⟩ ⟨fun env σ H' h' q'=>?_,fun v r env σ H' h' nb q'=>?_,fun _ _ _ _ z=>z.elim,fun _ _ _ _ z=>z.elim⟩ (rd n ds Qd q)⟩
  ·obtain ⟨F1,h1⟩:=h'
   exact out _ _ env σ H' ⟨F1,RelF.pushD h1 nonDt⟩ rfl q'
  ·exact out v r env σ H' h' nb q'
end
end
end U
namespace U
open PySem L2
mutual
def D.py:D->PyData
 | .non=>.none
 | .bl b=>.bool b
 | .int i=>.int i
 | .str s=>.str s
 | .lst xs=>.list (pys xs)
 | .tup xs=>.tuple (pys xs)
 | _=>.none
def pys:List D->List PyData
 | []=>[]
 | x :: xs=>x.py :: pys xs
end
def sh:Nat->D->Bool
 | _,.non=>true
 | _,.bl _=>true
 | _,.int _=>true
 | _,.str s=>PyData.strOk s
 | n+1,.lst xs=>xs.all (sh n)
 | n+1,.tup xs=>xs.all (sh n)
 | _,_=>false
theorem pys_map:∀ xs:List D,pys xs=xs.map D.py
 | []=>rfl
 | x :: xs=>by simp only [pys,List.map_cons,pys_map xs]
theorem sh_ok:∀ (n:Nat) (d:D),sh n d=true->d.py.canLay0=true/\d.py.depth<=n:=by
 have key:∀ (n:Nat) (xs:List D),(∀ d,sh n d=true->d.py.canLay0=true/\d.py.depth<=n)->xs.all (sh n)=true->PyData.canLayAll0 (pys xs)=true/\PyData.depthAll (pys xs)<=n:=by
  intro n xs ih h
  induction xs with
  | nil=>simp [pys,PyData.canLayAll0,PyData.depthAll]
  | cons x xs jh=>
   simp only [List.all_cons,Bool.and_eq_true] at h
   obtain ⟨a,b⟩:=ih x h.1
   obtain ⟨c,d⟩:=jh h.2
   simp only [pys,PyData.canLayAll0,PyData.depthAll,a,c,Bool.and_self,true_and]
   omega
 intro n
 induction n with
 | zero=>intro d h;cases d <;> simp_all [sh,D.py,PyData.canLay0,PyData.depth]
 | succ n ih=>
  intro d h
  cases d
  case lst xs=>
   simp only [sh] at h
   obtain ⟨a,b⟩:=key n xs ih h
   simp only [D.py,PyData.canLay0,PyData.depth,a,true_and];omega
  case tup xs=>
   simp only [sh] at h
   obtain ⟨a,b⟩:=key n xs ih h
   simp only [D.py,PyData.canLay0,PyData.depth,a,true_and];omega
  all_goals simp_all [sh,D.py,PyData.canLay0,PyData.depth]
theorem sh_shaped {n:Nat}{d:D} (hn:n<=64) (h:sh n d=true):SeqAt.shaped d.py=true:=by
 obtain ⟨a,b⟩:=sh_ok n d h
 unfold SeqAt.shaped
 rw [a,Bool.true_and]
 exact decide_eq_true (by omega)
section
variable {K:PySem.W.Frag}{F H:Hp}
theorem dp_of:∀ (n:Nat) (d:D) (v:V),sh n d=true->Dt K F d v->Dp K F v d.py:=by
 have key:∀ (n:Nat) (xs:List D) (vs:List V),(∀ d v,sh n d=true->Dt K F d v->Dp K F v d.py)->xs.all (sh n)=true->Dts K F xs vs->DpAll K F vs (pys xs):=by
  intro n xs
  induction xs with
  | nil=>intro vs _ _ h;simp only [Dts] at h;subst h;exact .nil
  | cons x xs jh=>
   intro vs ih h hd
   simp only [List.all_cons,Bool.and_eq_true] at h
   simp only [Dts] at hd
   obtain ⟨v,r,rfl,q,t⟩:=hd
   exact .cons (ih x v h.1 q) (jh r ih h.2 t)
 have flat:∀ (n:Nat) (d:D) (v:V),(match d with | .lst _=>false | .tup _=>false | _=>true)=true->sh n d=true->Dt K F d v->Dp K F v d.py:=by
  intro n d v hf h hd
  cases d <;> simp only [Dt] at hd
  case non=>subst hd;exact .non
  case bl=>subst hd;exact .bl _
  case int=>subst hd;exact .int _
  case str=>subst hd;exact .str _
  case lst=>cases hf
  case tup=>cases hf
  all_goals (cases n <;> simp [sh] at h)
 intro n
 induction n with
 | zero=>
  intro d v h hd
  refine flat 0 d v ?_ h hd
  cases d <;> simp_all [sh]
 | succ n ih=>
  intro d v h hd
  cases d
  case lst xs=>
   simp only [sh] at h
   simp only [Dt] at hd
   obtain ⟨a,vs,rfl,q,t⟩:=hd
   simp only [D.py]
   exact .lst (SqL.of q) (key n xs vs ih h t)
  case tup xs=>
   simp only [sh] at h
   simp only [Dt] at hd
   obtain ⟨a,vs,rfl,q,t⟩:=hd
   simp only [D.py]
   exact .tup q.seqT (key n xs vs ih h t)
  all_goals exact flat _ _ v rfl h hd
mutual
theorem dp_mono (s:Same F H):∀ (d:PyData) (v:V),Dp K F v d->Dp K H v d
 | .none,_,h=>by cases h;exact .non
 | .bool b,_,h=>by cases h;exact .bl _
 | .int b,_,h=>by cases h;exact .int _
 | .str b,_,h=>by cases h;exact .str _
 | .list ds,_,h=>by cases h with | lst a b=>exact .lst (s.seq a) (dpa_mono s ds _ b)
 | .tuple ds,_,h=>by cases h with | tup a b=>exact .tup (Same.seqT s a) (dpa_mono s ds _ b)
 | .dict _,_,h=>by cases h
theorem dpa_mono (s:Same F H):∀ (d:List PyData) (v:List V),DpAll K F v d->DpAll K H v d
 | [],_,h=>by cases h;exact .nil
 | d :: ds,_,h=>by cases h with | cons a b=>exact .cons (dp_mono s d _ a) (dpa_mono s ds _ b)
end
end
def eqD (x y:D):Bool:=PyData.eqv x.py y.py
def nob:Nat->D->Bool
 | _,.non=>true
 | _,.int _=>true
 | _,.str _=>true
 | n+1,.lst xs=>xs.all (nob n)
 | n+1,.tup xs=>xs.all (nob n)
 | _,_=>false
theorem eqD_iff:∀ (n:Nat) (x y:D),nob n x=true->nob n y=true->(eqD x y=true ↔ x=y):=by
 have key:∀ (n:Nat) (xs ys:List D),(∀ x y,nob n x=true->nob n y=true->(eqD x y=true ↔ x=y))->xs.all (nob n)=true->ys.all (nob n)=true->(PyData.eqvAll (pys xs) (pys ys)=true ↔ xs=ys):=by
  intro n xs
  induction xs with
  | nil=>intro ys _ _ _;cases ys <;> simp [pys,PyData.eqvAll]
  | cons x xs jh=>
   intro ys ih h h'
   cases ys with
   | nil=>simp [pys,PyData.eqvAll]
   | cons y ys=>
    simp only [List.all_cons,Bool.and_eq_true] at h h'
    have e1:=ih x y h.1 h'.1
    have e2:=jh ys ih h.2 h'.2
    unfold eqD at e1
    simp only [pys,PyData.eqvAll,Bool.and_eq_true,e1,e2,List.cons.injEq]
 intro n
 induction n with
 | zero=>
  intro x y hx hy
  cases x <;> simp [nob] at hx <;> cases y <;> simp [nob] at hy <;> simp [eqD,D.py,PyData.eqv]
 | succ n ih=>
  intro x y hx hy
  cases x <;> simp only [nob] at hx <;> cases y <;> simp only [nob] at hy <;> first
   | (cases hx;done)
   | (cases hy;done)
   | (simp [eqD,D.py,PyData.eqv];done)
   | (have:=key n _ _ ih hx hy;simp [eqD,D.py,PyData.eqv,this])
theorem eqD_self {n:Nat}{x:D} (h:nob n x=true):eqD x x=true:=(eqD_iff n x x h h).mpr rfl
end U
namespace U
open PySem L2
section
variable {K:PySem.W.Frag}{X:Cx}{a b e tg:Expr}{es:List Expr}{pos:Pos}{ta tb te:TE}{da db de:DTE}{tr:TA}{dr:DTA}
theorem OpR.orr {f:Value->Value->Sem Value}{r r':R2} (h:OpR X f r) (h':OpR X f r'):OpR X f (fun x y H Q=>r x y H Q\/r' x y H Q):=fun pins s σ H x y v u Q I rx ry q=>q.elim (h pins s σ H x y v u Q I rx ry) (h' pins s σ H x y v u Q I rx ry)
theorem CallR.orr {f:Value}{r r':List V->Hp->VK->Prop} (h:CallR X f r) (h':CallR X f r'):CallR X f (fun x H Q=>r x H Q\/r' x H Q):=fun pins s σ H x v Q I rx q=>q.elim (h pins s σ H x v Q I rx) (h' pins s σ H x v Q I rx)
abbrev RD2:=D->D->(R->Prop)->Prop
section
variable {F H:Hp}{v:V}
theorem dint {i:Int} (h:Dt K F (.int i) v):v = .int i:=by simpa only [Dt] using h
theorem dstr {i:Str} (h:Dt K F (.str i) v):v = .str i:=by simpa only [Dt] using h
theorem dlst {xs:List D} (h:Dt K F (.lst xs) v):∃ a vs,v = .ref a/\F a=some (.lst vs)/\Dts K F xs vs:=by simpa only [Dt] using h
theorem dsq {xs:List D} (h:Dt K F (.sq xs) v):∃ a vs,v = .ref a/\SqL K F a vs/\Dts K F xs vs:=by simpa only [Dt] using h
theorem dtupS {xs:List D} (h:Dt K F (.tup xs) v):∃ a vs,v = .ref a/\TpA K F a vs/\Dts K F xs vs:=by simpa only [Dt] using h
theorem dtup {xs:List D} (h:Dt K F (.tup xs) v):∃ a vs,v = .ref a/\SqT K F a vs/\Dts K F xs vs:=by
 obtain ⟨a,vs,e,q,r⟩:=dtupS h
 exact ⟨a,vs,e,q.seqT,r⟩
theorem ddK {xs:List (Key × D)} (h:Dt K F (.dK xs) v):∃ a od vs,v = .ref a/\F a=some (.frz od (.dK vs))/\DtK K F xs vs:=by simpa only [Dt] using h
theorem ddT {xs:List (List Key × D)} (h:Dt K F (.dT xs) v):∃ a od vs,v = .ref a/\F a=some (.frz od (.dT vs))/\DtT K F xs vs:=by simpa only [Dt] using h
theorem dobj {C:Addr}{xs:List (Str × D)} (h:Dt K F (.obj C xs) v):∃ a dx vs,v = .ref a/\F a=some (.ins C dx vs)/\DtF K F xs vs:=by simpa only [Dt] using h
theorem intD {i:Int}:Dt K F (.int i) (.int i):=by simp only [Dt]
theorem strD {i:Str}:Dt K F (.str i) (.str i):=by simp only [Dt]
theorem blD {i:Bool}:Dt K F (.bl i) (.bl i):=by simp only [Dt]
theorem flatk {Q:VK}{Qd:R->Prop}{d:D} (s:Same F H) (k:∀ v q F' H',Grow (fun _=>False) F H F' H'->RNew K H F' H' v q->Qd q->Q v H') (h:Dt K F d v) (q:Qd (.dat d)):Q v H:=k v _ F H (Grow.refl s) (RNew.dat h) q
end
def iiD (C:Int->Int->Prop) (f:Int->Int->D) (x y:D) (Q:R->Prop):Prop:=match x,y with | .int i,.int j=>C i j/\Q (.dat (f i j)) | _,_=>False
theorem s2_I {C:Int->Int->Prop}{f:Int->Int->V}{g:Int->Int->D} (hf:∀ i j F,Dt K F (g i j) (f i j)):S2 K (rI C f) (iiD C g):=by
 intro F H x y dx dy Q Qd s h h' q k
 unfold iiD at q
 split at q
 ·rw [dint h,dint h']
  exact ⟨_,_,rfl,rfl,q.1,flatk s k (hf _ _ _) q.2⟩
 ·exact q.elim
def iD (f:Int->Int->D) (x y:D) (Q:R->Prop):Prop:=match x,y with | .int i,.int j=>Q (.dat (f i j)) | _,_=>False
theorem s2_I0 {f:Int->Int->V}{g:Int->Int->D} (hf:∀ i j F,Dt K F (g i j) (f i j)):S2 K (rI0 f) (iD g):=by
 intro F H x y dx dy Q Qd s h h' q k
 unfold iD at q
 split at q
 ·rw [dint h,dint h']
  exact ⟨_,_,rfl,rfl,flatk s k (hf _ _ _) q⟩
 ·exact q.elim
theorem de_mul (ha:DE X a ta da) (hb:DE X b tb db):DE X (.BinOp a .Mult b pos) (tOp (rI CMul fun i j=>.int (i * j)) ta tb) (dOp (iiD CMul fun i j=>.int (i * j)) da db):=de_op op_mul (s2_I fun _ _ _=>intD) ha hb
theorem de_pow (ha:DE X a ta da) (hb:DE X b tb db):DE X (.BinOp a .Pow b pos) (tOp (rI CPow fun i j=>.int (i ^ j.toNat)) ta tb) (dOp (iiD CPow fun i j=>.int (i ^ j.toNat)) da db):=de_op op_pow (s2_I fun _ _ _=>intD) ha hb
def i1D (f:Int->D) (x:D) (Q:R->Prop):Prop:=match x with | .int i=>Q (.dat (f i)) | _=>False
theorem dt_gt (ha:DE X a ta da) (hb:DE X b tb db):DT X (.Compare a [.Gt] [b] pos) (tTest (tOp (rI0 fun i j=>.bl (decide (j < i))) ta tb)) (dB (dOp (iD fun i j=>.bl (decide (j < i))) da db)):=dt_cmp op_gt (s2_I0 fun _ _ _=>blD) ha hb (nomark _)
def rAddP (K:PySem.W.Frag):R2:=fun x y H Q=>rI0 (fun i j=>.int (i+j)) x y H Q\/((∃ i j,x = .str i/\y = .str j/\i.length+j.length<=sizeLine/\Q (.str (i ++ j)) H)\/(rCat x y H Q\/L2.rCatA K x y H Q))
def rdAdd (x y:D) (Q:R->Prop):Prop:=match x,y with
 | .int i,.int j=>Q (.dat (.int (i+j)))
 | .str i,.str j=>i.length+j.length<=100000/\Q (.dat (.str (i ++ j)))
 | .lst xs,.lst ys=>xs.length+ys.length<=100000/\Q (.own (xs ++ ys))
 | .tup xs,.tup ys=>xs.length+ys.length<=100000/\Q (.dat (.tup (xs ++ ys)))
 | _,_=>False
theorem s2_add:S2 K (rAddP K) rdAdd:=by
 intro F H x y dx dy Q Qd s h h' q k
 unfold rdAdd at q
 split at q
 ·rw [dint h,dint h']
  exact .inl ⟨_,_,rfl,rfl,flatk s k intD q⟩
 ·rw [dstr h,dstr h']
  exact .inr (.inl ⟨_,_,rfl,rfl,sz1000 q.1,flatk s k strD q.2⟩)
 ·obtain ⟨l,vs,rfl,hl,dv⟩:=dlst h
  obtain ⟨m,ws,rfl,hm,dw⟩:=dlst h'
  refine .inr (.inr (.inl ⟨l,m,vs,ws,rfl,rfl,s _ _ hl,s _ _ hm,sz1000 (by rw [<-dv.len,<-dw.len];exact q.1),fun p np=>?_⟩))
  exact k _ _ F _ (Grow.pure (Same.new1 np) s) (RNew.own np s upd_same (dv.append dw)) q.2
 ·obtain ⟨l,vs,rfl,hl,dv⟩:=dtup h
  obtain ⟨m,ws,rfl,hm,dw⟩:=dtup h'
  refine .inr (.inr (.inr ⟨l,m,vs,ws,rfl,rfl,Same.seqT s hl,Same.seqT s hm,sz1000 (by rw [<-dv.len,<-dw.len];exact q.1),fun e=>?_,fun e e'=>?_,fun e e' p np=>?_⟩))
  ·have:_=[]:=List.eq_nil_of_length_eq_zero (by rw [dv.len,e];rfl)
   rw [this,List.nil_append] at q
   exact flatk s k h' q.2
  ·have:_=[]:=List.eq_nil_of_length_eq_zero (by rw [dw.len,e'];rfl)
   rw [this,List.append_nil] at q
   exact flatk s k h q.2
  ·obtain ⟨g,d⟩:=grow_tup s np (dv.append dw)
   exact k _ _ _ _ g (RNew.dat d) q.2
 ·exact q.elim
theorem op_addP:OpR X (binaryOp .Add) (rAddP X.K):=OpR.orr op_add (OpR.orr op_add_str (OpR.orr op_cat L2.op_catA))
theorem de_add (ha:DE X a ta da) (hb:DE X b tb db):DE X (.BinOp a .Add b pos) (tOp (rAddP X.K) ta tb) (dOp rdAdd da db):=de_op op_addP s2_add ha hb
def rdEq (x y:D) (Q:R->Prop):Prop:=(sh 12 x=true/\sh 12 y=true)/\Q (.dat (.bl (eqD x y)))
def rdNe (x y:D) (Q:R->Prop):Prop:=(sh 12 x=true/\sh 12 y=true)/\Q (.dat (.bl (!eqD x y)))
theorem s2_eq:S2 K (rEqD K) rdEq:=fun F H x y dx dy Q Qd s h h' q k=>⟨dx.py,dy.py,dp_mono s _ _ (dp_of 12 dx x q.1.1 h),dp_mono s _ _ (dp_of 12 dy y q.1.2 h'),sh_shaped (by decide) q.1.1,sh_shaped (by decide) q.1.2,flatk s k blD q.2⟩
theorem s2_ne:S2 K (rNeD K) rdNe:=fun F H x y dx dy Q Qd s h h' q k=>⟨dx.py,dy.py,dp_mono s _ _ (dp_of 12 dx x q.1.1 h),dp_mono s _ _ (dp_of 12 dy y q.1.2 h'),sh_shaped (by decide) q.1.1,sh_shaped (by decide) q.1.2,flatk s k blD q.2⟩
theorem de_eq {j:Nat}{Rm:Nat->PySem.Around->Prop} [IsRoom Rm] (hr:Rm j X.A) (ha:DE X a ta da) (hb:DE X b tb db):DE X (.Compare a [.Eq] [b] pos) (tOp (rEqD X.K) ta tb) (dOp rdEq da db):=de_cmp (op_eqD (un64 hr)) s2_eq ha hb (nomark _)
theorem de_ne {j:Nat}{Rm:Nat->PySem.Around->Prop} [IsRoom Rm] (hr:Rm j X.A) (ha:DE X a ta da) (hb:DE X b tb db):DE X (.Compare a [.NotEq] [b] pos) (tOp (rNeD X.K) ta tb) (dOp rdNe da db):=de_cmp (op_neD (un64 hr)) s2_ne ha hb (nomark _)
theorem dt_eq {j:Nat}{Rm:Nat->PySem.Around->Prop} [IsRoom Rm] (hr:Rm j X.A) (ha:DE X a ta da) (hb:DE X b tb db):DT X (.Compare a [.Eq] [b] pos) (tTest (tOp (rEqD X.K) ta tb)) (dB (dOp rdEq da db)):=dt_cmp (op_eqD (un64 hr)) s2_eq ha hb (nomark _)
theorem dt_ne {j:Nat}{Rm:Nat->PySem.Around->Prop} [IsRoom Rm] (hr:Rm j X.A) (ha:DE X a ta da) (hb:DE X b tb db):DT X (.Compare a [.NotEq] [b] pos) (tTest (tOp (rNeD X.K) ta tb)) (dB (dOp rdNe da db)):=dt_cmp (op_neD (un64 hr)) s2_ne ha hb (nomark _)
def inD (x:D) (ys:List D):Bool:=ys.any fun z=>eqD z x
def rInP (K:PySem.W.Frag):R2:=fun x y H Q=>rInD K x y H Q\/(rIn K false x y H Q\/∃ (c:Nat) (z:Str),x = .str ⟨#[c]⟩/\y = .str z/\Q (.bl (decide (c∈z.cps.toList))) H)
def rNotInP (K:PySem.W.Frag):R2:=fun x y H Q=>rNotInD K x y H Q\/(rIn K true x y H Q\/∃ (c:Nat) (z:Str),x = .str ⟨#[c]⟩/\y = .str z/\Q (.bl (!decide (c∈z.cps.toList))) H)
def flD:D->Bool
 | .non=>true
 | .int _=>true
 | .str _=>true
 | _=>false
def rdIn (neg:Bool) (x y:D) (Q:R->Prop):Prop:=match y with
 | .lst ys=>(sh 12 x=true/\sh 12 (.lst ys)=true)/\Q (.dat (.bl (if neg then !inD x ys else inD x ys)))
 | .tup ys=>(flD x=true/\ys.all flD=true)/\Q (.dat (.bl (if neg then !inD x ys else inD x ys)))
 | .str z=>match x with | .str w=>∃ c,w=⟨#[c]⟩/\Q (.dat (.bl (if neg then !decide (c∈z.cps.toList) else decide (c∈z.cps.toList)))) | _=>False
 | _=>False
theorem any_py {x:D} (ys:List D):((pys ys).any fun z=>PyData.eqv z x.py)=inD x ys:=by
 rw [pys_map]
 unfold inD eqD
 induction ys with
 | nil=>rfl
 | cons y ys ih=>simp only [List.map_cons,List.any_cons,ih]
theorem fl_eqV {F:Hp}{x y:D}{v w:V} (hx:flD x=true) (hy:flD y=true) (h:Dt K F x v) (h':Dt K F y w):flatV v=true/\eqV w v=eqD y x:=by
 cases x <;> simp [flD] at hx <;> cases y <;> simp [flD] at hy <;> simp only [Dt] at h h' <;> subst h h' <;> simp [flatV,eqV,eqD,D.py,PyData.eqv]
theorem fl_in {F:Hp}{x:D}{v:V} (hx:flD x=true) (h:Dt K F x v):∀ {ys:List D}{ws:List V},ys.all flD=true->Dts K F ys ws->ws.all flatV=true/\inV v ws=inD x ys
 | [],ws,_,hd=>by simp only [Dts] at hd;subst hd;simp [inV,inD]
 | y :: ys,ws,ha,hd=>by
  simp only [Dts] at hd
  obtain ⟨w,r,rfl,q,t⟩:=hd
  simp only [List.all_cons,Bool.and_eq_true] at ha
  obtain ⟨e1,e2⟩:=fl_in hx h ha.2 t
  have f1:=fl_eqV ha.1 hx q h
  have f2:=fl_eqV hx ha.1 h q
  unfold inV at e2
  unfold inD at e2
  refine ⟨by simp only [List.all_cons,f1.1,e1,Bool.and_self],?_⟩
  unfold inV inD
  simp only [List.any_cons,e2,f2.2]
theorem s2_in:S2 K (rInP K) (rdIn false):=by
 intro F H x y dx dy Q Qd s h h' q k
 unfold rdIn at q
 split at q
 ·rename_i ys
  obtain ⟨⟨q1,q2⟩,q⟩:=q
  have d2:=dp_mono s _ _ (dp_of 12 (.lst ys) y q2 h')
  simp only [D.py] at d2
  refine .inl ⟨dx.py,pys ys,dp_mono s _ _ (dp_of 12 dx x q1 h),d2,sh_shaped (by decide) q1,?_,?_⟩
  ·have:=sh_shaped (by decide) q2
   simpa only [D.py] using this
  ·rw [any_py];exact flatk s k blD q
 ·rename_i ys
  obtain ⟨⟨q1,q2⟩,q⟩:=q
  obtain ⟨l,vs,rfl,hl,dv⟩:=dtup h'
  obtain ⟨e1,e2⟩:=fl_in q1 h q2 dv
  refine .inr (.inl ⟨l,vs,rfl,.inr (Same.seqT s hl),?_,e1,?_⟩)
  ·cases dx <;> simp [flD] at q1 <;> simp only [Dt] at h <;> subst h <;> rfl
  ·show Q (.bl (inV x vs)) H
   rw [e2];exact flatk s k blD q
 ·split at q
  ·obtain ⟨c,rfl,q⟩:=q
   rw [dstr h,dstr h']
   exact .inr (.inr ⟨c,_,rfl,rfl,flatk s k blD q⟩)
  ·exact q.elim
 ·exact q.elim
theorem s2_notIn:S2 K (rNotInP K) (rdIn true):=by
 intro F H x y dx dy Q Qd s h h' q k
 unfold rdIn at q
 split at q
 ·rename_i ys
  obtain ⟨⟨q1,q2⟩,q⟩:=q
  have d2:=dp_mono s _ _ (dp_of 12 (.lst ys) y q2 h')
  simp only [D.py] at d2
  refine .inl ⟨dx.py,pys ys,dp_mono s _ _ (dp_of 12 dx x q1 h),d2,sh_shaped (by decide) q1,?_,?_⟩
  ·have:=sh_shaped (by decide) q2
   simpa only [D.py] using this
  ·rw [any_py];exact flatk s k blD q
 ·rename_i ys
  obtain ⟨⟨q1,q2⟩,q⟩:=q
  obtain ⟨l,vs,rfl,hl,dv⟩:=dtup h'
  obtain ⟨e1,e2⟩:=fl_in q1 h q2 dv
  refine .inr (.inl ⟨l,vs,rfl,.inr (Same.seqT s hl),?_,e1,?_⟩)
  ·cases dx <;> simp [flD] at q1 <;> simp only [Dt] at h <;> subst h <;> rfl
  ·show Q (.bl (!inV x vs)) H
   rw [e2];exact flatk s k blD q
 ·split at q
  ·obtain ⟨c,rfl,q⟩:=q
   rw [dstr h,dstr h']
   exact .inr (.inr ⟨c,_,rfl,rfl,flatk s k blD q⟩)
  ·exact q.elim
 ·exact q.elim
theorem op_inP (hu:X.A.units+65 < cLine):OpR X (compareOp .In) (rInP X.K):=OpR.orr (op_inD hu) (OpR.orr op_in_seq op_in_sign)
theorem op_notInP (hu:X.A.units+65 < cLine):OpR X (compareOp .NotIn) (rNotInP X.K):=OpR.orr (op_notInD hu) (OpR.orr op_notIn_seq op_notIn_sign)
theorem atI_dt {F:Hp}{xs:List D}{vs:List V}{i:Int}{x:D} (d:Dts K F xs vs) (e:atI xs i=some x):∃ v,atI vs i=some v/\Dt K F x v:=by
 unfold atI at e ⊢
 rw [<-d.len]
 cases h:ixN xs.length i with
 | none=>rw [h] at e;cases e
 | some j=>rw [h] at e;exact d.get (i:=j) e
def rdIx (x y:D) (Q:R->Prop):Prop:=match x,y with
 | .lst xs,.int i=>∃ x,atI xs i=some x/\Q (.dat x)
 | .sq xs,.int i=>∃ x,atI xs i=some x/\Q (.dat x)
 | .tup xs,.int i=>∃ x,atI xs i=some x/\Q (.dat x)
 | .str z,.int i=>z.length<=100000/\∃ c,atI z.cps.toList i=some c/\Q (.dat (.str ⟨#[c]⟩))
 | _,_=>False
theorem s2_ix:S2 K (rIx K) rdIx:=by
 intro F H x y dx dy Q Qd s h h' q k
 unfold rdIx at q
 split at q
 ·obtain ⟨l,vs,rfl,hl,dv⟩:=dlst h
  rw [dint h']
  obtain ⟨d,e,q⟩:=q
  obtain ⟨v,ev,dd⟩:=atI_dt dv e
  exact .inl ⟨l,vs,_,v,rfl,rfl,SqL.of (s _ _ hl),ev,flatk s k dd q⟩
 ·obtain ⟨l,vs,rfl,hl,dv⟩:=dsq h
  rw [dint h']
  obtain ⟨d,e,q⟩:=q
  obtain ⟨v,ev,dd⟩:=atI_dt dv e
  exact .inl ⟨l,vs,_,v,rfl,rfl,s.seq hl,ev,flatk s k dd q⟩
 ·obtain ⟨l,vs,rfl,hl,dv⟩:=dtup h
  rw [dint h']
  obtain ⟨d,e,q⟩:=q
  obtain ⟨v,ev,dd⟩:=atI_dt dv e
  exact .inr (.inl ⟨l,vs,_,v,rfl,rfl,Same.seqT s hl,ev,flatk s k dd q⟩)
 ·rw [dstr h,dint h']
  obtain ⟨hz,c,e,q⟩:=q
  exact .inr (.inr ⟨_,_,c,rfl,rfl,sz1000 hz,e,flatk s k strD q⟩)
 ·exact q.elim
theorem de_ix (ha:DE X a ta da) (hb:DE X b tb db) (hs:PlainIx b):DE X (.Subscript a b pos) (tOp (rIx X.K) ta tb) (dOp rdIx da db):=⟨pe_ix ix_seq ha.1 hb.1 hs,se_op s2_ix ha.2 hb.2⟩
def DO (X:Cx) (e:Option Expr) (to:TO) (dO:En->(Option Int->En->Prop)->Prop):Prop:=PO X e to/\∀ (Z:Zt) (env:En) (tm:Tm) (σ:L2.St) (H:Hp) (Q:Option Int->Hp->Prop) (Qd:Option Int->En->Prop),Rel X.K Z env tm σ H->dO env Qd->(∀ o env' H',Rel X.K Z env' tm σ H'->Qd o env'->Q o H')->to σ H Q
def dNoPart (env:En) (Q:Option Int->En->Prop):Prop:=Q none env
def dPart (de:DTE) (env:En) (Q:Option Int->En->Prop):Prop:=de env fun r e=>match r with | .dat (.int i)=>Q (some i) e | _=>False
theorem do_none:DO X none tNoPart dNoPart:=⟨po_none,fun Z env tm σ H Q Qd h q k=>k none env H h q⟩
theorem do_some (he:DE X e te de):DO X (some e) (tPart te) (dPart de):=⟨po_some he.1,fun Z env tm σ H Q Qd h q k=>he.2 Z env tm σ H _ _ h q fun v r e H1 h1 n1 q1=>by
 split at q1
 ·obtain ⟨F,h2⟩:=id h1
  exact ⟨_,dint h2.top,k _ e H1 h1.pop q1⟩
 ·exact q1.elim⟩
def cutD {α:Type} (xs:List α) (lo hi:Option Int):List α:=(xs.drop (HT.sIx xs.length 0 lo)).take (HT.sIx xs.length xs.length hi - HT.sIx xs.length 0 lo)
theorem cut_dts {F:Hp}{xs:List D}{vs:List V}{lo hi:Option Int} (d:Dts K F xs vs):Dts K F (cutD xs lo hi) (cutV vs lo hi):=by
 unfold cutD cutV
 rw [<-d.len]
 exact (d.drop _).take _
def dSl (de:DTE) (dl dh:En->(Option Int->En->Prop)->Prop) (env:En) (Q:R->En->Prop):Prop:=de env fun r e1=>dl e1 fun lo e2=>dh e2 fun hi e3=>match r.d with
 | .lst xs=>Q (.own (cutD xs lo hi)) e3
 | .tup xs=>Q (.dat (.tup (cutD xs lo hi))) e3
 | .str z=>z.length<=100000/\Q (.dat (.str (cutS z lo hi))) e3
 | _=>False
theorem cut_whole {α:Type}{xs:List α}{lo hi:Option Int} (h:HT.sIx xs.length 0 lo=0/\HT.sIx xs.length xs.length hi=xs.length):cutD xs lo hi=xs:=by
 unfold cutD
 rw [h.1,h.2];simp
theorem de_slice {lo hi:Option Expr}{tl th:TO}{dl dh:En->(Option Int->En->Prop)->Prop}{p2:Pos} (he:DE X e te de) (hl:DO X lo tl dl) (hh:DO X hi th dh):DE X (.Subscript e (.Slice lo hi none p2) pos) (tSl (fun x lo hi H Q=>rSlL X.K x lo hi H Q\/(fun x lo hi H Q=>rSlA X.K x lo hi H Q\/rSlS x lo hi H Q) x lo hi H Q) te tl th) (dSl de dl dh):=by
 refine ⟨pe_slice (SlR.or sl_list (SlR.or sl_tupA sl_str)) he.1 hl.1 hh.1,fun Z env tm σ H Q Qd h q k=>he.2 Z env tm σ H _ _ h q fun v r e1 H1 h1 n1 q1=>hl.2 Z e1 _ σ H1 _ _ (h1.frzT n1) q1 fun lo e2 H2 h2 q2=>hh.2 Z e2 _ σ H2 _ _ h2 q2 fun hi e3 H3 h3 q3=>?_⟩
 obtain ⟨F,h4⟩:=h3
 split at q3
 ·rename_i xs er
  rw [er] at h4
  obtain ⟨l,vs,rfl,hl,dv⟩:=dlst h4.top
  exact .inl ⟨l,vs,rfl,SqL.of (h4.sub _ _ hl),fun p np=>k _ _ e3 _ (RelF.new h4.pop (Grow.pure (Same.new1 np) h4.sub) (RNew.own np h4.sub upd_same (cut_dts dv))) rfl q3⟩
 ·rename_i xs er
  rw [er] at h4
  obtain ⟨l,vs,rfl,hl,dv⟩:=dtup h4.top
  refine .inr (.inl ⟨l,vs,rfl,Same.seqT h4.sub hl,fun hw=>?_,fun hw p np=>?_⟩)
  ·rw [<-dv.len] at hw
   rw [cut_whole hw] at q3
   exact k _ _ e3 _ ⟨F,h4⟩ rfl q3
  ·obtain ⟨g,d⟩:=grow_tup h4.sub np (cut_dts (lo:=lo) (hi:=hi) dv)
   exact k _ _ e3 _ (RelF.new h4.pop g (RNew.dat d)) rfl q3
 ·rename_i z er
  rw [er] at h4
  have:=dstr h4.top
  subst this
  exact .inr (.inr ⟨z,rfl,sz1000 q3.1,k _ _ e3 _ ⟨F,h4.pop.pushD strD⟩ rfl q3.2⟩)
 ·exact q3.elim
def dRev (de:DTE) (env:En) (Q:R->En->Prop):Prop:=de env fun r e=>match r.d with | .lst xs=>Q (.own xs.reverse) e | _=>False
def dFld (K:PySem.W.Frag) (f:Str) (de:DTE) (env:En) (Q:R->En->Prop):Prop:=de env fun r e=>match r.d with
 | .obj C fs=>(Cls K C/\NoAttr K C f)/\∃ d,fs.lookup f=some d/\Q (.dat d) e
 | _=>False
theorem dtf_get {F:Hp}{f:Str}{d:D}:∀ {fs:List (Str × D)}{ws:List (Str × V)},DtF K F fs ws->fs.lookup f=some d->∃ v,ws.lookup f=some v/\Dt K F d v
 | [],_,_,e=>by cases e
 | (g,x) :: fs,ws,h,e=>by
  simp only [DtF] at h
  obtain ⟨v,r,rfl,q,t⟩:=h
  rw [List.lookup_cons] at e ⊢
  cases hb:f == g with
  | true=>rw [hb] at e;cases e;exact ⟨v,rfl,q⟩
  | false=>rw [hb] at e;exact dtf_get t e
theorem de_fld {f:Str} (he:DE X e te de) (hb:attributeBase e f X.env (eval e X.env)=eval e X.env):DE X (.Attribute e f pos) (tFld X.K te f) (dFld X.K f de):=⟨pe_fld he.1 hb,fun Z env tm σ H Q Qd h q k=>he.2 Z env tm σ H _ _ h q fun v r e1 H1 h1 n1 q1=>by
 obtain ⟨F,h2⟩:=h1.frzT n1
 split at q1
 ·rename_i C fs er
  obtain ⟨hK,d,el,q1⟩:=q1
  rw [er] at h2
  obtain ⟨a,dx,ws,rfl,hl,dv⟩:=dobj h2.top
  obtain ⟨v,ev,dd⟩:=dtf_get dv el
  exact ⟨a,C,dx,ws,v,rfl,h2.sub _ _ hl,hK.1,hK.2,ev,k _ _ e1 _ ⟨F,h2.pop.pushD dd⟩ rfl q1⟩
 ·exact q1.elim⟩
end
end U
namespace U
open PySem L2
section
variable {K:PySem.W.Frag}{X:Cx}{a b e tg:Expr}{es:List Expr}{pos:Pos}{ta tb te:TE}{da db de:DTE}{tr:TA}{dr:DTA}
abbrev RDN:=List D->(R->Prop)->Prop
section
variable {F:Hp}{vs:List V}{d d':D}
theorem dts1 (h:Dts K F [d] vs):∃ v,vs=[v]/\Dt K F d v:=by
 simp only [Dts] at h
 obtain ⟨v,r,rfl,q,rfl⟩:=h
 exact ⟨v,rfl,q⟩
theorem dts2 (h:Dts K F [d,d'] vs):∃ v w,vs=[v,w]/\Dt K F d v/\Dt K F d' w:=by
 simp only [Dts] at h
 obtain ⟨v,r,rfl,q,w,r',rfl,q',rfl⟩:=h
 exact ⟨v,w,rfl,q,q'⟩
end
theorem u65 {j:Nat}{Rm:Nat->PySem.Around->Prop} [IsRoom Rm] (hr:Rm j X.A):X.A.units+65 < cLine:=by have:=(IsRoom.toH hr).un;omega
theorem dt_in {j:Nat}{Rm:Nat->PySem.Around->Prop} [IsRoom Rm] (hr:Rm j X.A) (ha:DE X a ta da) (hb:DE X b tb db) (hm:behindInMarks .In b=false:=by rfl):DT X (.Compare a [.In] [b] pos) (tTest (tOp (rInP X.K) ta tb)) (dB (dOp (rdIn false) da db)):=dt_cmp (op_inP (u65 hr)) s2_in ha hb hm
theorem dt_notIn {j:Nat}{Rm:Nat->PySem.Around->Prop} [IsRoom Rm] (hr:Rm j X.A) (ha:DE X a ta da) (hb:DE X b tb db) (hm:behindInMarks .NotIn b=false:=by rfl):DT X (.Compare a [.NotIn] [b] pos) (tTest (tOp (rNotInP X.K) ta tb)) (dB (dOp (rdIn true) da db)):=dt_cmp (op_notInP (u65 hr)) s2_notIn ha hb hm
def rLenP (K:PySem.W.Frag):List V->Hp->VK->Prop:=fun xs H Q=>(∃ x n,xs=[x]/\LenV K x H n/\Q (.int n) H)\/∃ a kvs,xs=[V.ref a]/\Rd H a (.dK kvs)/\Q (.int kvs.length) H
theorem call_lenRd:CallR X (.builtin "len") (fun xs H Q=>∃ a kvs,xs=[V.ref a]/\Rd H a (.dK kvs)/\Q (.int kvs.length) H):=by
 intro pins s σ H xs us Q I r h
 obtain ⟨a,kvs,rfl,ha,q⟩:=h
 obtain ⟨u,rfl,ru⟩:=vals1 r
 cases ru
 exact d_len I ha fun t s' I'=>⟨.int kvs.length,H,I',⟨t,rfl⟩,q⟩
theorem call_lenP:CallR X (.builtin "len") (rLenP X.K):=CallR.orr call_len call_lenRd
def rdLen (ds:List D) (Q:R->Prop):Prop:=match ds with
 | [.lst xs]=>Q (.dat (.int xs.length))
 | [.sq xs]=>Q (.dat (.int xs.length))
 | [.tup xs]=>Q (.dat (.int xs.length))
 | [.str z]=>z.length<=100000/\Q (.dat (.int z.length))
 | [.dK kvs]=>Q (.dat (.int kvs.length))
 | _=>False
theorem dtk_len {F:Hp}:∀ {xs:List (Key × D)}{vs:List (Key × V)},DtK K F xs vs->xs.length=vs.length
 | [],vs,h=>by simp only [DtK] at h;subst h;rfl
 | (k,x) :: xs,vs,h=>by
  simp only [DtK] at h
  obtain ⟨v,r,rfl,_,t⟩:=h
  simp only [List.length_cons,dtk_len t]
theorem sn_len:SN K (rLenP K) rdLen:=by
 intro F H vs ds Q Qd s h q k
 unfold rdLen at q
 split at q
 ·obtain ⟨v,rfl,h1⟩:=dts1 h
  obtain ⟨l,ws,rfl,hl,dv⟩:=dlst h1
  exact .inl ⟨_,_,rfl,.inl ⟨ws,SqL.of (s _ _ hl),dv.len⟩,flatk s k intD q⟩
 ·obtain ⟨v,rfl,h1⟩:=dts1 h
  obtain ⟨l,ws,rfl,hl,dv⟩:=dsq h1
  exact .inl ⟨_,_,rfl,.inl ⟨ws,s.seq hl,dv.len⟩,flatk s k intD q⟩
 ·obtain ⟨v,rfl,h1⟩:=dts1 h
  obtain ⟨l,ws,rfl,hl,dv⟩:=dtup h1
  exact .inl ⟨_,_,rfl,.inr ⟨ws,Same.seqT s hl,dv.len⟩,flatk s k intD q⟩
 ·obtain ⟨v,rfl,h1⟩:=dts1 h
  have:=dstr h1
  subst this
  exact .inl ⟨_,_,rfl,⟨sz1000 q.1,rfl⟩,flatk s k intD q.2⟩
 ·obtain ⟨v,rfl,h1⟩:=dts1 h
  obtain ⟨l,od,ws,rfl,hl,dv⟩:=ddK h1
  refine .inr ⟨l,ws,rfl,.inr ⟨od,s _ _ hl⟩,?_⟩
  rw [<-dtk_len dv]
  exact flatk s k intD q
 ·exact q.elim
def rdAbs (ds:List D) (Q:R->Prop):Prop:=match ds with | [.int i]=>∀ a,0<=a->(a=i\/a = -i)->Q (.dat (.int a)) | _=>False
def rdMin2 (ds:List D) (Q:R->Prop):Prop:=match ds with | [.int i,.int j]=>Q (.dat (.int (min i j))) | _=>False
def rdMax2 (ds:List D) (Q:R->Prop):Prop:=match ds with | [.int i,.int j]=>Q (.dat (.int (max i j))) | _=>False
theorem sn_min2:SN K rMinA rdMin2:=by
 intro F H vs ds Q Qd s h q k
 unfold rdMin2 at q
 split at q
 ·obtain ⟨v,w,rfl,h1,h2⟩:=dts2 h
  rw [dint h1,dint h2]
  exact ⟨_,_,rfl,flatk s k intD q⟩
 ·exact q.elim
theorem sn_max2:SN K rMaxA rdMax2:=by
 intro F H vs ds Q Qd s h q k
 unfold rdMax2 at q
 split at q
 ·obtain ⟨v,w,rfl,h1,h2⟩:=dts2 h
  rw [dint h1,dint h2]
  exact ⟨_,_,rfl,flatk s k intD q⟩
 ·exact q.elim
def rdInt (ds:List D) (Q:R->Prop):Prop:=match ds with | [.int i]=>Q (.dat (.int i)) | [.bl b]=>∀ n:Int,(b=true/\n=1\/b=false/\n=0)->Q (.dat (.int n)) | _=>False
theorem sn_int:SN K rIntA rdInt:=by
 intro F H vs ds Q Qd s h q k
 unfold rdInt at q
 split at q
 ·obtain ⟨v,rfl,h1⟩:=dts1 h
  rw [dint h1]
  exact .inl ⟨_,rfl,flatk s k intD q⟩
 ·obtain ⟨v,rfl,h1⟩:=dts1 h
  rw [blv h1]
  refine .inr ⟨_,rfl,fun i j1 j0 hi=>flatk s k intD (q i ?_)⟩
  rename_i b
  cases b with
  | true=>exact .inl ⟨rfl,j1 rfl⟩
  | false=>exact .inr ⟨rfl,j0 rfl⟩
 ·exact q.elim
def rdList (ds:List D) (Q:R->Prop):Prop:=match ds with | [.lst xs]=>Q (.own xs) | [.sq xs]=>Q (.own xs) | [.tup xs]=>Q (.own xs) | _=>False
theorem sn_list:SN K (rListA K) rdList:=by
 intro F H vs ds Q Qd s h q k
 unfold rdList at q
 split at q
 ·obtain ⟨v,rfl,h1⟩:=dts1 h
  obtain ⟨l,ws,rfl,hl,dv⟩:=dlst h1
  exact ⟨l,ws,rfl,.inl (SqL.of (s _ _ hl)),fun p H2 np sa hp=>k _ _ F H2 (Grow.pure sa s) (RNew.own np s hp dv) q⟩
 ·obtain ⟨v,rfl,h1⟩:=dts1 h
  obtain ⟨l,ws,rfl,hl,dv⟩:=dsq h1
  exact ⟨l,ws,rfl,.inl (s.seq hl),fun p H2 np sa hp=>k _ _ F H2 (Grow.pure sa s) (RNew.own np s hp dv) q⟩
 ·obtain ⟨v,rfl,h1⟩:=dts1 h
  obtain ⟨l,ws,rfl,hl,dv⟩:=dtup h1
  exact ⟨l,ws,rfl,.inr (Same.seqT s hl),fun p H2 np sa hp=>k _ _ F H2 (Grow.pure sa s) (RNew.own np s hp dv) q⟩
 ·exact q.elim
def rdTuple (ds:List D) (Q:R->Prop):Prop:=match ds with | [.lst xs]=>Q (.dat (.tup xs)) | [.sq xs]=>Q (.dat (.tup xs)) | [.tup xs]=>Q (.dat (.tup xs)) | _=>False
def rTupleU (K:PySem.W.Frag):List V->Hp->VK->Prop:=fun xs H Q=>∃ p ys,xs=[.ref p]/\((SqL K H p ys/\∀ l,H l=none->Q (.ref l) (upd H l (.tup ys)))\/(SqT K H p ys/\Q (.ref p) H))
theorem sn_tuple:SN K (rTupleU K) rdTuple:=by
 intro F H vs ds Q Qd s h q k
 unfold rdTuple at q
 split at q
 ·obtain ⟨v,rfl,h1⟩:=dts1 h
  obtain ⟨l,ws,rfl,hl,dv⟩:=dlst h1
  refine ⟨l,ws,rfl,.inl ⟨SqL.of (s _ _ hl),fun p np=>?_⟩⟩
  obtain ⟨g,d⟩:=grow_tup s np dv
  exact k _ _ _ _ g (RNew.dat d) q
 ·obtain ⟨v,rfl,h1⟩:=dts1 h
  obtain ⟨l,ws,rfl,hl,dv⟩:=dsq h1
  refine ⟨l,ws,rfl,.inl ⟨s.seq hl,fun p np=>?_⟩⟩
  obtain ⟨g,d⟩:=grow_tup s np dv
  exact k _ _ _ _ g (RNew.dat d) q
 ·obtain ⟨v,rfl,h1⟩:=dts1 h
  obtain ⟨l,ws,rfl,hl,dv⟩:=dtup (K:=K) h1
  exact ⟨l,ws,rfl,.inr ⟨Same.seqT s hl,flatk s k h1 q⟩⟩
 ·exact q.elim
def rdSortS (ds:List D) (Q:R->Prop):Prop:=match ds with | [.lst xs]=>∃ ss:List Str,xs=ss.map D.str/\ss.length < 64/\∀ ys:List Str,ys.Perm ss->PyProof.Rows.sortedS ys=true->Q (.own (ys.map D.str)) | _=>False
theorem dts_strs {F:Hp}:∀ {ss:List Str}{vs:List V},Dts K F (ss.map D.str) vs->vs=ss.map V.str
 | [],vs,h=>by simpa only [List.map_nil,Dts] using h
 | s :: ss,vs,h=>by
  simp only [List.map_cons,Dts] at h
  obtain ⟨v,r,rfl,q,t⟩:=h
  rw [dstr q,dts_strs t];rfl
theorem strs_dts {F:Hp}:∀ {ss:List Str},Dts K F (ss.map D.str) (ss.map V.str)
 | []=>.nil
 | s :: ss=>.cons strD strs_dts
theorem sn_sortS:SN K (rSortedS K) rdSortS:=by
 intro F H vs ds Q Qd s h q k
 unfold rdSortS at q
 split at q
 ·obtain ⟨ss,rfl,hl,q⟩:=q
  obtain ⟨v,rfl,h1⟩:=dts1 h
  obtain ⟨l,ws,rfl,hq,dv⟩:=dlst h1
  rw [dts_strs dv] at hq
  exact ⟨l,ss,rfl,SqL.of (s _ _ hq),hl,fun ys p pm so np=>k _ _ F _ (Grow.pure (Same.new1 np) s) (RNew.own np s upd_same strs_dts) (q ys pm so)⟩
 ·exact q.elim
def rdAny (ds:List D) (Q:R->Prop):Prop:=match ds with | [.lst xs]=>∃ bs:List Bool,xs=bs.map D.bl/\Q (.dat (.bl (bs.any id))) | _=>False
theorem dts_bls {F:Hp}:∀ {ss:List Bool}{vs:List V},Dts K F (ss.map D.bl) vs->vs=ss.map V.bl
 | [],vs,h=>by simpa only [List.map_nil,Dts] using h
 | s :: ss,vs,h=>by
  simp only [List.map_cons,Dts] at h
  obtain ⟨v,r,rfl,q,t⟩:=h
  rw [blv q,dts_bls t];rfl
theorem sn_any:SN K (rAny K) rdAny:=by
 intro F H vs ds Q Qd s h q k
 unfold rdAny at q
 split at q
 ·obtain ⟨ss,rfl,q⟩:=q
  obtain ⟨v,rfl,h1⟩:=dts1 h
  obtain ⟨l,ws,rfl,hq,dv⟩:=dlst h1
  rw [dts_bls dv] at hq
  exact ⟨l,ss,rfl,SqL.of (s _ _ hq),flatk s k blD q⟩
 ·exact q.elim
def rdStrI (ds:List D) (Q:R->Prop):Prop:=match ds with | [.int i]=>i.natAbs.log2 < 1920/\Q (.dat (.str (toString i))) | _=>False
def tyS:D->String
 | .non=>"NoneType"
 | .bl _=>"bool"
 | .int _=>"int"
 | .str _=>"str"
 | .lst _=>"list"
 | .sq _=>"list"
 | .tup _=>"tuple"
 | .dK _=>"dict"
 | .dT _=>"dict"
 | .obj _ _=>"object"
 | .exc _ _ _ _=>"object"
 | .pt _=>"object"
 | .uK _=>"dict"
def noObj:D->Bool
 | .obj _ _=>false
 | .exc _ _ _ _=>false
 | .pt _=>false
 | .uK _=>false
 | .dT _=>false
 | .sq _=>false
 | _=>true
def isTyS (T s:String):Bool:=s == T || (T == "int" && s == "bool")
def isTy (T:String) (d:D):Bool:=isTyS T (tyS d)
def dIsi (T:String) (de:DTE) (env:En) (Q:R->En->Prop):Prop:=de env fun r e=>noObj r.d=true/\Q (.dat (.bl (isTy T r.d))) e
theorem tyX_of {F H:Hp}{d:D}{v:V} (s:Same F H) (h:Dt K F d v) (n:noObj d=true):TyX K H v (.type (tyS d)):=by
 cases d with
 | non=>simp only [Dt] at h;subst h;exact .base .non
 | bl b=>simp only [Dt] at h;subst h;exact .base (.bl _)
 | int b=>simp only [Dt] at h;subst h;exact .base (.int _)
 | str b=>simp only [Dt] at h;subst h;exact .base (.str _)
 | lst xs=>
  obtain ⟨l,ws,rfl,hl,dv⟩:=dlst h
  exact .base (.lst (s _ _ hl))
 | tup xs=>
  obtain ⟨l,ws,rfl,hl,dv⟩:=dtup h
  rcases hl with (hl | ⟨o,hl⟩) | hl
  ·exact .base (.tup (s _ _ hl))
  ·exact .fTuple (s _ _ hl)
  ·obtain ⟨o,its,n',h1,h2,_⟩:=hl
   exact .kTuple h1 h2
 | sq xs=>cases n
 | dK xs=>
  obtain ⟨l,od,ws,rfl,hl,dv⟩:=ddK h
  exact .fDict (s _ _ hl)
 | dT xs=>cases n
 | obj C fs=>cases n
 | exc a dd C fs=>cases n
 | pt a=>cases n
 | uK a=>cases n
end
end U
namespace U
open PySem L2
section
variable {K:PySem.W.Frag}{X:Cx}{a b e tg:Expr}{es:List Expr}{pos:Pos}{ta tb te:TE}{da db de:DTE}{tr:TA}{dr:DTA}
theorem kb {T:String} (h:∀ s∈["NoneType","bool","int","str","list","tuple","dict"],kitB s T=some (isTyS T s)):∀ d,noObj d=true->kitB (tyS d) T=some (isTy T d):=fun d n=>by
 cases d <;> first | (cases n;done) | exact h _ (by simp [tyS])
theorem kb_list:∀ d,noObj d=true->kitB (tyS d) "list" = some (isTy "list" d):=kb (by decide +kernel)
theorem kb_str:∀ d,noObj d=true->kitB (tyS d) "str" = some (isTy "str" d):=kb (by decide +kernel)
theorem kb_tuple:∀ d,noObj d=true->kitB (tyS d) "tuple" = some (isTy "tuple" d):=kb (by decide +kernel)
theorem se_isi {T:String} (hT:∀ d,noObj d=true->kitB (tyS d) T=some (isTy T d)) (he:SE K te de):SE K (tCB (rIsi K) (tCons te (tCons (tC (.ty T)) tNil))) (dIsi T de):=fun Z env tm σ H Q Qd h q k=>he Z env tm σ H _ _ h q fun v r e1 H1 h1 n1 q1=>by
 obtain ⟨F,h2⟩:=h1.frzT n1
 exact ⟨v,.ty T,.type (tyS r.d),.type T,isTy T r.d,rfl,.ty T,tyX_of h2.sub h2.top q1.1,kit_ty (hT _ q1.1),k _ _ e1 _ ⟨F,h2.pop.pushD blD⟩ rfl q1.2⟩
theorem de_isi {T:String}{x:Str}{p px:Pos} (hT:∀ d,noObj d=true->kitB (tyS d) T=some (isTy T d)) (hg:Gl X "isinstance") (hm:X.mg "isinstance" = none) (hgx:Gl X x) (hmx:X.mg x=none) (hvx:bootBuiltins x=some (.type T)) (he:DE X e te de) (hnx:x ≠ "__name__":=by decide) (hdx:(x == ("__debug__" : Str))=false:=by decide)
  (s1:starEach [e,.Name x px] X.env=(false,eval e X.env) :: starEach [.Name x px] X.env:=by rfl) (s2:starEach [.Name x px] X.env=(false,eval (.Name x px) X.env) :: starEach [] X.env:=by rfl) (hpl:(backTo pos (starEach [.Name x px] X.env)).any (·.1)=false:=by rfl) :
  DE X (.Call (.Name "isinstance" p) [e,.Name x px] [] pos) (tCB (rIsi X.K) (tCons te (tCons (tC (.ty T)) tNil))) (dIsi T de):=
 ⟨pe_callB call_isi hg hm (by decide +kernel) (pa_cons he.1 (pa_cons (pe_bltn hgx hmx hvx rfl hnx hdx) pa_nil s2) s1) (by decide) (by decide) s1 hpl,se_isi hT he.2⟩
abbrev rJoinU (K:PySem.W.Frag):V->List V->Hp->VK->Prop:=fun x xs H Q=>∃ a p,∃ ys:List Str,x = .str a/\xs=[.ref p]/\(SqL K H p (ys.map V.str)\/SqT K H p (ys.map V.str))/\(ys.map (·.length)).sum+ys.length * a.length<=16777216/\Q (.str (Txt.join a ys)) H
def dJoin (da de:DTE) (env:En) (Q:R->En->Prop):Prop:=da env fun r e1=>match r.d with
 | .str a=>de e1 fun q e2=>match q.d with
  | .lst xs=>∃ ys:List Str,xs=ys.map D.str/\(ys.map (·.length)).sum+ys.length * a.length<=16777216/\Q (.dat (.str (Txt.join a ys))) e2
  | .tup xs=>∃ ys:List Str,xs=ys.map D.str/\(ys.map (·.length)).sum+ys.length * a.length<=16777216/\Q (.dat (.str (Txt.join a ys))) e2
  | _=>False
 | _=>False
theorem de_join {apos:Pos} (ha:DE X a ta da) (he:DE X e te de) (hs:starEach [e] X.env=[(false,eval e X.env)]:=by rfl) (hbase:attributeBase a "join" X.env (eval a X.env)=eval a X.env:=by rfl) (hline:(apos.endLine == pos.line)=true:=by rfl) :
  DE X (.Call (.Attribute a "join" apos) [e] [] pos) (tM1 (rJoinU X.K) ta te) (dJoin da de):=⟨pe_join ha.1 he.1 hs hbase hline,fun Z env tm σ H Q Qd h q k=>ha.2 Z env tm σ H _ _ h q fun v r e1 H1 h1 n1 q1=>by
 obtain ⟨F,h2⟩:=h1.frzT n1
 split at q1
 ·rename_i z er
  rw [er] at h2
  have:=dstr h2.top
  subst this
  refine ⟨⟨z,rfl⟩,he.2 Z e1 _ σ H1 _ _ ⟨F,h2⟩ q1 fun w q e2 H2 h3 n3 q3=>?_⟩
  obtain ⟨F',h4⟩:=h3.frzT n3
  split at q3
  ·rename_i xs er
   obtain ⟨ys,rfl,hz,q3⟩:=q3
   rw [er] at h4
   obtain ⟨l,ws,rfl,hl,dv⟩:=dlst h4.top
   rw [dts_strs dv] at hl
   exact ⟨z,l,ys,rfl,rfl,.inl (SqL.of (h4.sub _ _ hl)),hz,k _ _ e2 _ ⟨F',h4.pop.pop.pushD strD⟩ rfl q3⟩
  ·rename_i xs er
   obtain ⟨ys,rfl,hz,q3⟩:=q3
   rw [er] at h4
   obtain ⟨l,ws,rfl,hl,dv⟩:=dtup h4.top
   rw [dts_strs dv] at hl
   exact ⟨z,l,ys,rfl,rfl,.inr (Same.seqT h4.sub hl),hz,k _ _ e2 _ ⟨F',h4.pop.pop.pushD strD⟩ rfl q3⟩
  ·exact q3.elim
 ·exact q1.elim⟩
variable {i:Nat}{x:Str}{px apos:Pos}
theorem de_lm {id:String}{name:Str}{rm:V->List V->Hp->VK->Prop}{md:List D->List D->(R->List D->Prop)->Prop} (pa:PlainAttrs "list") (slot:PySem.Slot "list" name id) (hty:typeOf (.builtin id)=pure (.type "method_descriptor")) (hm:MtR X id rm) (sm:SM X.K rm md) (hx:PE X (.Name x px) (tVar i)) (ha:DA X (e :: es) tr dr)
  (hbase:attributeBase (.Name x px) name X.env (eval (.Name x px) X.env)=eval (.Name x px) X.env:=by rfl)
  (hfew:((backTo pos (starEach (e :: es) X.env)).all (fun x=>!x.1) && (backToKw pos (keywordEach [] X.env)).all (fun x=>x.1.isSome)
   && decide ((e :: es).length+([]:List Keyword).length+(if ([]:List Keyword).isEmpty then 0 else 1) < 30))=true:=by rfl)
  (hline:(apos.endLine == pos.line)=true:=by rfl) (hs:starEach (e :: es) X.env=(false,eval e X.env) :: starEach es X.env:=by rfl) (hplain:(backTo pos (starEach es X.env)).any (·.1)=false:=by rfl) :
  DE X (.Call (.Attribute (.Name x px) name apos) (e :: es) [] pos) (tBM X.K "list" rm (tVar i) tr) (dMeth i md dr):=⟨pe_bm pa slot hty hm hx ha.1 hbase hfew hline hs hplain,fun Z env tm σ H Q Qd h q k=>se_meth0 sm ha.2 h q k⟩
def mdPop (xs ds:List D) (Q:R->List D->Prop):Prop:=match ds with | [.int i]=>(0<=i/\i < xs.length/\xs.length<=100000)/\∀ y,xs[i.toNat]? = some y->Q (.dat y) (xs.eraseIdx i.toNat) | _=>False
theorem dts_erase {F:Hp}{xs:List D}{vs:List V}{n:Nat} (h:Dts K F xs vs):Dts K F (xs.eraseIdx n) (vs.eraseIdx n):=by
 rw [List.eraseIdx_eq_take_drop_succ,List.eraseIdx_eq_take_drop_succ]
 exact (h.take n).append (h.drop (n+1))
theorem sm_pop:SM K rPopAt mdPop:=by
 intro F H p vs xs args ds Q Qd s n hp dv da q k
 unfold mdPop at q
 split at q
 ·rename_i i
  obtain ⟨v,rfl,h1⟩:=dts1 da
  rw [dint h1]
  obtain ⟨⟨q0,q1,q2⟩,q⟩:=q
  have hi:i.toNat < xs.length:=by omega
  obtain ⟨w,ew,dw⟩:=dv.get (i:=i.toNat) (x:=xs[i.toNat]) (by simp [hi])
  have hl:=dv.len
  refine ⟨p,vs,i,i.toNat,w,rfl,rfl,hp,by omega,by omega,?_,ew,k _ (.dat _) F _ _ _ (grow_mu s n (Mu.of hp)) upd_same (dts_erase dv) (RNew.dat dw) (q _ (by simp [hi]))⟩
  unfold seqIndex?
  simp only
  rw [if_neg (by omega:¬ i < 0),if_pos (by simp;omega)]
 ·exact q.elim
theorem de_app' (hx:PE X (.Name x px) (tVar i)) (ha:DA X (e :: es) tr dr)
  (hbase:attributeBase (.Name x px) "append" X.env (eval (.Name x px) X.env)=eval (.Name x px) X.env:=by rfl)
  (hfew:((backTo pos (starEach (e :: es) X.env)).all (fun x=>!x.1) && (backToKw pos (keywordEach [] X.env)).all (fun x=>x.1.isSome)
   && decide ((e :: es).length+([]:List Keyword).length+(if ([]:List Keyword).isEmpty then 0 else 1) < 30))=true:=by rfl)
  (hline:(apos.endLine == pos.line)=true:=by rfl) (hs:starEach (e :: es) X.env=(false,eval e X.env) :: starEach es X.env:=by rfl) (hplain:(backTo pos (starEach es X.env)).any (·.1)=false:=by rfl) :
  DE X (.Call (.Attribute (.Name x px) "append" apos) (e :: es) [] pos) (tBM X.K "list" rAppend (tVar i) tr) (dMeth i mdApp dr):=de_lm PySem.F.plainAttrs_list PySem.F.slot_list_append PySem.F.type_list_append mt_append sm_app hx ha hbase hfew hline hs hplain
theorem de_popAt (hx:PE X (.Name x px) (tVar i)) (ha:DA X (e :: es) tr dr)
  (hbase:attributeBase (.Name x px) "pop" X.env (eval (.Name x px) X.env)=eval (.Name x px) X.env:=by rfl)
  (hfew:((backTo pos (starEach (e :: es) X.env)).all (fun x=>!x.1) && (backToKw pos (keywordEach [] X.env)).all (fun x=>x.1.isSome)
   && decide ((e :: es).length+([]:List Keyword).length+(if ([]:List Keyword).isEmpty then 0 else 1) < 30))=true:=by rfl)
  (hline:(apos.endLine == pos.line)=true:=by rfl) (hs:starEach (e :: es) X.env=(false,eval e X.env) :: starEach es X.env:=by rfl) (hplain:(backTo pos (starEach es X.env)).any (·.1)=false:=by rfl) :
  DE X (.Call (.Attribute (.Name x px) "pop" apos) (e :: es) [] pos) (tBM X.K "list" rPopAt (tVar i) tr) (dMeth i mdPop dr):=de_lm PySem.F.plainAttrs_list PySem.F.slot_list_pop PySem.F.type_list_pop mt_popAt sm_pop hx ha hbase hfew hline hs hplain
def mdExt (xs ds:List D) (Q:R->List D->Prop):Prop:=match ds with | [.lst ys]=>xs.length+ys.length<=100000/\Q (.dat .non) (xs ++ ys) | _=>False
def flR:R->Bool
 | .dat .non=>true
 | .dat (.bl _)=>true
 | .dat (.int _)=>true
 | .dat (.str _)=>true
 | _=>false
def dPkL (i:Nat) (rd:RD2) (db:DTE) (env:En) (Q:R->En->Prop):Prop:=match env[i]? with
 | some (some (.own _))=>db env fun y e=>match e[i]? with
  | some (some (.own xs))=>rd (.lst xs) y.d fun q=>flR q=true/\Q q e
  | _=>False
 | _=>False
def dPkR (i:Nat) (rd:RD2) (da:DTE) (env:En) (Q:R->En->Prop):Prop:=da env fun y e=>match e[i]? with
  | some (some (.own xs))=>rd y.d (.lst xs) fun q=>flR q=true/\Q q e
  | _=>False
def dPk1 (i:Nat) (rd:RDN) (env:En) (Q:R->En->Prop):Prop:=match env[i]? with
  | some (some (.own xs))=>rd [.lst xs] fun q=>flR q=true/\Q q env
  | _=>False
def dPkIx (i:Nat) (db:DTE) (env:En) (Q:R->En->Prop):Prop:=match env[i]? with
 | some (some (.own _))=>db env fun y e=>match e[i]? with
  | some (some (.own xs))=>match y.d with | .int j=>∃ x,atI xs j=some x/\Q (.dat x) e | _=>False
  | _=>False
 | _=>False
end
end U
namespace U
open PySem L2
section
variable {v:Int}{P:D->Prop}
theorem atI_nn {α:Type}{xs:List α}{v:Int} (h0:0<=v) (h1:v < xs.length):atI xs v=some (xs[v.toNat]'(by omega)):=by
 unfold atI ixN
 rw [if_pos h0,if_pos (by exact_mod_cast h1)]
 simp
theorem menuG {xs:List D} (h0:0<=v) (h1:v < xs.length) (q:∀ x,x∈xs->P x):∃ x,atI xs v=some x/\P x:=⟨_,atI_nn h0 h1,q _ (List.getElem_mem _)⟩
theorem menu2 {a b:Int} (h0:0<=v) (h1:v < 2) (q:∀ m,(m=a\/m=b)->P (.int m)):∃ x,atI [D.int a,D.int b] v=some x/\P x:=menuG h0 h1 fun x hx=>by
 simp only [List.mem_cons,List.not_mem_nil,or_false] at hx
 rcases hx with rfl | rfl
 ·exact q _ (.inl rfl)
 ·exact q _ (.inr rfl)
theorem menu3 {a b c:Int} (h0:0<=v) (h1:v < 3) (q:∀ m,(m=a\/m=b\/m=c)->P (.int m)):∃ x,atI [D.int a,D.int b,D.int c] v=some x/\P x:=menuG h0 h1 fun x hx=>by
 simp only [List.mem_cons,List.not_mem_nil,or_false] at hx
 rcases hx with rfl | rfl | rfl
 ·exact q _ (.inl rfl)
 ·exact q _ (.inr (.inl rfl))
 ·exact q _ (.inr (.inr rfl))
theorem menu4 {a b c d:Int} (h0:0<=v) (h1:v < 4) (q:∀ m,(m=a\/m=b\/m=c\/m=d)->P (.int m)):∃ x,atI [D.int a,D.int b,D.int c,D.int d] v=some x/\P x:=menuG h0 h1 fun x hx=>by
 simp only [List.mem_cons,List.not_mem_nil,or_false] at hx
 rcases hx with rfl | rfl | rfl | rfl
 ·exact q _ (.inl rfl)
 ·exact q _ (.inr (.inl rfl))
 ·exact q _ (.inr (.inr (.inl rfl)))
 ·exact q _ (.inr (.inr (.inr rfl)))
theorem menu5 {a b c d e:Int} (h0:0<=v) (h1:v < 5) (q:∀ m,(m=a\/m=b\/m=c\/m=d\/m=e)->P (.int m)):∃ x,atI [D.int a,D.int b,D.int c,D.int d,D.int e] v=some x/\P x:=menuG h0 h1 fun x hx=>by
 simp only [List.mem_cons,List.not_mem_nil,or_false] at hx
 rcases hx with rfl | rfl | rfl | rfl | rfl
 ·exact q _ (.inl rfl)
 ·exact q _ (.inr (.inl rfl))
 ·exact q _ (.inr (.inr (.inl rfl)))
 ·exact q _ (.inr (.inr (.inr (.inl rfl))))
 ·exact q _ (.inr (.inr (.inr (.inr rfl))))
theorem atI_0 {α:Type}{a:α}{l:List α}:atI (a :: l) 0=some a:=by
 rw [atI_nn (by decide) (by simp only [List.length_cons];omega)];rfl
theorem atI_1 {α:Type}{a b:α}{l:List α}:atI (a :: b :: l) 1=some b:=by
 rw [atI_nn (by decide) (by simp only [List.length_cons];omega)];rfl
theorem atI_2 {α:Type}{a b c:α}{l:List α}:atI (a :: b :: c :: l) 2=some c:=by
 rw [atI_nn (by decide) (by simp only [List.length_cons];omega)];rfl
theorem atI_3 {α:Type}{a b c d:α}{l:List α}:atI (a :: b :: c :: d :: l) 3=some d:=by
 rw [atI_nn (by decide) (by simp only [List.length_cons];omega)];rfl
theorem atI_4 {α:Type}{a b c d e:α}{l:List α}:atI (a :: b :: c :: d :: e :: l) 4=some e:=by
 rw [atI_nn (by decide) (by simp only [List.length_cons];omega)];rfl
theorem atI_5 {α:Type}{a b c d e f:α}{l:List α}:atI (a :: b :: c :: d :: e :: f :: l) 5=some f:=by
 rw [atI_nn (by decide) (by simp only [List.length_cons];omega)];rfl
theorem atI_6 {α:Type}{a b c d e f g:α}{l:List α}:atI (a :: b :: c :: d :: e :: f :: g :: l) 6=some g:=by
 rw [atI_nn (by decide) (by simp only [List.length_cons];omega)];rfl
theorem atI_7 {α:Type}{a b c d e f g h:α}{l:List α}:atI (a :: b :: c :: d :: e :: f :: g :: h :: l) 7=some h:=by
 rw [atI_nn (by decide) (by simp only [List.length_cons];omega)];rfl
theorem cpow106:CPow 10 6:=⟨by decide,by decide,by decide⟩
theorem cpow1018:CPow 10 18:=⟨by decide,by decide,by decide⟩
theorem cmulL {i j:Int} (h0:-(2 ^ 64) < i) (h1:i < 2 ^ 64):CMul i j:=.inl ⟨h0,h1⟩
theorem cmulR {i j:Int} (h0:-(2 ^ 64) < j) (h1:j < 2 ^ 64):CMul i j:=.inr ⟨h0,h1⟩
end
end U
namespace U
open PySem L2
abbrev FnD (K:PySem.W.Frag) (x qual:Str) (st:Stmt) (dvs:List V) (kws:List (Str × V)) (f:Addr) (fd:FuncData):Prop:=FunD K x qual (defArgs st) (defBody st) (defScope st) dvs kws f fd
theorem toFun {K:PySem.W.Frag}{x qual:Str}{st:Stmt}{kws:List (Str × V)}{f:Addr}{fd:FuncData} (F:FnD K x qual st [] kws f fd):Fun K x qual st f fd:=by
 obtain ⟨oc,od,dV,kV,doc,pm,an,cdv,ct,osl,rfl,lk,hcd,hD,_⟩:=F.ex
 rcases hD with ⟨_,rfl⟩ | ⟨z,_⟩
 ·exact ⟨⟨oc,od,kV,doc,pm,an,cdv,ct,osl,rfl,lk,hcd⟩,F.kp⟩
 ·exact absurd rfl z
theorem cal_of {P:Program}{w:World}{K:PySem.W.Frag}{mg:Str->Option Value}{base:Heap}{k:Nat}{x:Str}{ps:List Str}{sp:Sp}{f:Addr}{fd:FuncData} (ok:FnOk P w K mg base CX0 k f fd ps sp) (hm:mg x=some (.ref f)) (kp:PySem.W.keepIn K (.ref f)=true) (b:Binds K fd ps []):Cal P w K mg base CX0 k x ps sp:=⟨f,fd,ok,hm,kp,b⟩
abbrev ISp:=List D->(List (Str × D)->Prop)->Prop
def spI (K:PySem.W.Frag) (C:Addr) (sp:ISp):Sp:=fun vs H Q _=>∃ p dx ws F ds Qd,vs = .ref p :: ws/\F p=none/\H p=some (.ins C dx [])/\Same F H/\Dts K F ds ws/\sp ds Qd /\
 ∀ fs dx' fws F' H',Grow (fun a=>a=p) F H F' H'->H' p=some (.ins C dx' fws)->DtF K F' fs fws->Qd fs->Q .non H'
section
variable {K:PySem.W.Frag}{X:Cx}{a b e tg:Expr}{es:List Expr}{pos:Pos}{ta tb te:TE}{da db de:DTE}{tr tk:TA}{dr dk:DTA}
def putD (f:Str) (v:D):List (Str × D)->List (Str × D)
 | []=>[(f,v)]
 | (g,x) :: r=>if g=f then (g,v) :: r else (g,x) :: putD f v r
theorem dtf_len {F:Hp}:∀ {fs:List (Str × D)}{ws:List (Str × V)},DtF K F fs ws->fs.length=ws.length
 | [],vs,h=>by simp only [DtF] at h;subst h;rfl
 | (k,x) :: xs,vs,h=>by
  simp only [DtF] at h
  obtain ⟨v,r,rfl,_,t⟩:=h
  simp only [List.length_cons,dtf_len t]
theorem dtf_put {F:Hp}{f:Str}{x:D}{v:V} (q:Dt K F x v):∀ {fs:List (Str × D)}{ws:List (Str × V)},DtF K F fs ws->DtF K F (putD f x fs) (putF f v ws)
 | [],ws,h=>by
  simp only [DtF] at h;subst h
  simp only [putD,putF,DtF]
  exact ⟨v,[],rfl,q,rfl⟩
 | (g,y) :: fs,ws,h=>by
  simp only [DtF] at h
  obtain ⟨w,r,rfl,q',t⟩:=h
  unfold putD putF
  by_cases hg:g=f
  ·rw [if_pos hg,if_pos hg]
   simp only [DtF]
   exact ⟨v,r,rfl,q,t⟩
  ·rw [if_neg hg,if_neg hg]
   simp only [DtF]
   exact ⟨w,_,rfl,q',dtf_put q t⟩
def dSelf (K:PySem.W.Frag) (i:Nat) (f:Str) (de:DTE) (D:DEnds) (env:En):Prop:=de env fun r e=>match e[i]? with
 | some (some (.slf C fs))=>(Cls K C/\NoAttr K C f)/\fs.length < 1000/\D.nx (e.set i (some (.slf C (putD f r.d fs))))
 | _=>False
theorem ss_self {i:Nat}{f:Str} (he:SE K te de):SS K (sFld K (tVar i) te f) (dSelf K i f de):=fun Z env tm σ H D Dd h k q=>he Z env tm σ H _ _ h q fun v r e H1 h1 n1 q1=>by
 obtain ⟨F,h2⟩:=h1.frzT n1
 split at q1
 ·rename_i C fs e1
  obtain ⟨u,hu⟩:=h2.sl i _ e1
  obtain ⟨p,dx,ws,rfl,nF,hp,dv⟩:=h2.ok (.s i) u (.slf C fs) ⟨hu,e1⟩
  refine ⟨_,hu,p,C,dx,ws,rfl,hp,q1.1.1,q1.1.2,by rw [<-dtf_len dv];exact q1.2.1,k.nx _ _ _ ?_ q1.2.2⟩
  have h3:=h2.pop
  exact ⟨F,h3.chg (a:=.s i) (p:=p) (r:=.slf C fs) (r':=.slf C (putD f r.d fs)) (grow_mu h3.sub nF (Mu.of hp)) ⟨hu,e1⟩ rfl (fun x m=>m) ⟨p,dx,_,rfl,nF,upd_same,dtf_put h2.top dv⟩ rfl (fun a w q c=>cell_setS c hu) (by rw [List.length_set];exact h3.len) (set_sl h3.sl hu) fun z=>by
   obtain ⟨r',z,sp⟩:=z
   by_cases hz:i=0
   ·subst hz;exact ⟨.slf C fs,e1,rfl⟩
   ·exact ⟨r',by rw [List.getElem?_set,if_neg hz] at z;exact z,sp⟩⟩
 ·exact q1.elim
theorem ds_self {i:Nat}{f x:Str}{px pos':Pos} (hx:PE X (.Name x px) (tVar i)) (he:DE X e te de) (hs:swapsWith e (some (.Attribute (.Name x px) f pos')) pos.line X.env=pure false:=by rfl):DS X (.Assign [.Attribute (.Name x px) f pos'] e pos) (sFld X.K (tVar i) te f) (dSelf X.K i f de):=⟨ps_fld hx he.1 hs,ss_self he.2⟩
section
variable {P:Program}{w:World}{mg:Str->Option Value}{base:Heap}
theorem rel_startI {N:List Str}{F H:Hp}{p C dx:Addr}{vs:List V}{ds:List D} (s:Same F H) (d:Dts K F ds vs) (nF:F p=none) (hp:H p=some (.ins C dx [])) (hN:0 < N.length):RelF K ⟨F,H,p,fun a=>a=p⟩ F (some (.slf C []) :: stE (N.drop 1) ds) [] (L2.start N (.ref p :: vs)) H:=by
 have hst:L2.start N (.ref p :: vs)=some (.ref p) :: L2.start (N.drop 1) vs:=by
  unfold L2.start
  simp only [List.map_cons,List.cons_append,List.length_cons,List.length_drop]
  congr 3
  omega
 have h0:=rel_start (N:=N.drop 1) s d
 rw [hst]
 have cs:∀ {a v r},Cell (some (.ref p) :: L2.start (N.drop 1) vs) (some (.slf C []) :: stE (N.drop 1) ds) [] a v r->(a = .s 0/\v = .ref p/\r = .slf C [])\/∃ i,a = .s (i+1)/\Cell (L2.start (N.drop 1) vs) (stE (N.drop 1) ds) [] (.s i) v r:=fun {a v r} c=>by
  cases a with
  | t j=>cases (show ([]:Tm)[j]? = some (v,r) from c)
  | s i=>
   cases i with
   | zero=>
    obtain ⟨c1,c2⟩:=c
    simp at c1 c2
    exact .inl ⟨rfl,c1.symm,c2.symm⟩
   | succ i=>exact .inr ⟨i,rfl,by obtain ⟨c1,c2⟩:=c;exact ⟨by simpa using c1,by simpa using c2⟩⟩
 have nm:∀ {i v r},Cell (L2.start (N.drop 1) vs) (stE (N.drop 1) ds) [] (.s i) v r->r.mine=false:=fun {i v r} c=>by
  obtain ⟨d',_,_,rfl⟩:=start_cell d.len.symm c.1 c.2
  rfl
 refine ⟨s,Same.refl F,fun _ h _=>h,fun _ _ _ h=>h,fun _ h=>h,by simpa using h0.len,fun i r e=>?_,fun a v r c=>?_,fun a v r x c f=>?_,fun a b' v v' r q x c c' f f'=>?_,fun e=>rfl⟩
 ·cases i with
  | zero=>exact ⟨_,rfl⟩
  | succ i=>
   obtain ⟨v,hv⟩:=h0.sl i r (by simpa using e)
   exact ⟨v,by simpa using hv⟩
 ·rcases cs c with ⟨_,rfl,rfl⟩ | ⟨i,_,c⟩
  ·exact ⟨p,dx,[],rfl,nF,hp,by simp only [DtF]⟩
  ·exact h0.ok _ _ _ c
 ·rcases cs c with ⟨_,rfl,rfl⟩ | ⟨i,_,c⟩
  ·have e:V.ref p=V.ref x:=f
   cases e
   exact .inr ⟨rfl,rfl⟩
  ·have:=f.mine;rw [nm c] at this;cases this
 ·rcases cs c with ⟨ea,_,_⟩ | ⟨i,_,c⟩
  ·rcases cs c' with ⟨eb,_,_⟩ | ⟨i,_,c'⟩
   ·rw [ea,eb]
   ·have:=f'.mine;rw [nm c'] at this;cases this
  ·have:=f.mine;rw [nm c] at this;cases this
def slfOf (C:Addr) (env:En) (Q:List (Str × D)->Prop):Prop:=match env[(0:Nat)]? with
 | some (some (R.slf C' fs))=>C'=C/\Q fs
 | _=>False
theorem Fun.okI {x qual:Str}{st:Stmt}{f:Addr}{fd:FuncData}{N ps:List Str}{k:Nat}{sp:ISp}{C:Addr} (F:Fun K x qual st f fd) (S:FnScope N ps (defScope st)) (hN:0 < N.length) (hl:∀ ds Q,sp ds Q->ds.length+1=ps.length)
  (hb:∀ (cdv:Value) (A:Around) (outer:List Env) (s:Shared) (H:Hp) (E:XK),Room k (A.deeper (PyProof.Rows.envOfC qual (defScope st) s.heap.objs.size f cdv)) ->
   ∃ ts db,DSs (cxOf CX0 P w K mg base N qual (defScope st) f cdv A outer s H E).nox (defBody st) ts db/\∀ ds Qd,sp ds Qd->db { nx:=fun e=>slfOf C e Qd,rt:=fun r e=>False } (some (.slf C []) :: stE (N.drop 1) ds)):FnOk P w K mg base CX0 (k+1) f fd ps (spI K C sp):=by
 refine F.ok S (fun vs H Q E h=>?_) (fun cdv A outer s H vs Q E hr h=>?_)
 ·obtain ⟨b,n,ws,F,ds,Qd,rfl,_,_,_,d,q,_⟩:=h
  rw [List.length_cons,<-d.len];exact hl _ _ q
 ·obtain ⟨p,dx,ws,F,ds,Qd,rfl,nF,hp,sb,d,q,kk⟩:=h
  obtain ⟨ts,db,⟨p1,p2⟩,rd⟩:=hb cdv A outer s H E hr
  refine ⟨ts,p1,p2 _ _ [] _ H _ { nx:=fun e=>slfOf C e Qd,rt:=fun r e=>False } ⟨F,rel_startI (N:=N) sb d nF hp hN⟩ ⟨fun env σ H' h' q'=>?_,fun v r env σ H' h' nb q'=>q'.elim,fun _ _ _ _ z=>z.elim,fun _ _ _ _ z=>z.elim⟩ (rd ds Qd q)⟩
  obtain ⟨F',h'⟩:=h'
  have q2:slfOf C env Qd:=q'
  unfold slfOf at q2
  split at q2
  ·rename_i C' fs e
   obtain ⟨rfl,q3⟩:=q2
   have hs:=h'.bg ⟨_,e,rfl⟩
   obtain ⟨p',dx',fws,e1,_,hp',dv⟩:=h'.ok (.s 0) (.ref p) (.slf C' fs) ⟨hs,e⟩
   cases e1
   exact kk fs dx' fws F' H' ⟨h'.f0,h'.sub,h'.nw,fun a o na ea=>h'.kp a o na ea,h'.th⟩ hp' dv q3
  ·exact q2.elim
end
theorem made_grow {F H F' H':Hp}{x dx dx' C:Addr}{fs:List (Str × D)}{fws:List (Str × V)} (s:Same F H) (nx:H x=none) (nd:H dx=none) (g:Grow (fun a=>a=x) F (upd (upd H dx (.own x)) x (.ins C dx [])) F' H') (hx:H' x=some (.ins C dx' fws)) (d:DtF K F' fs fws) :
  Grow (fun _=>False) F H (upd F' x (.ins C dx' fws)) H'/\Dt K (upd F' x (.ins C dx' fws)) (.obj C fs) (.ref x):=by
 have nF:F x=none:=s.free nx
 have nF':F' x=none:=nt_no (g.nw x (nt_of nF) (by rw [upd_same];simp)) g.sub hx (fun ws z=>by cases z)
 have old:∀ a o,H a=some o->(upd (upd H dx (.own x)) x (.ins C dx [])) a=some o:=fun a o e=>by rw [upd_ne (ne_of_none e nx),upd_ne (ne_of_none e nd)];exact e
 refine ⟨⟨g.ff.trans (Same.new1 nF'),fun a o e=>?_,fun a e ne=>?_,fun a o _ e=>g.kp a o (ne_of_none e nx) (old a o e),fun a e=>?_⟩,?_⟩
 ·by_cases ha:a=x
  ·subst ha;rw [upd_same] at e;cases e;exact hx
  ·rw [upd_ne ha] at e;exact g.sub a o e
 ·have ha:a ≠ x:=fun z=>by subst z;exact ne nx
  refine nt_upd ?_ ha
  cases h:H a with
  | none=>exact absurd h ne
  | some o=>exact g.nw a e (by rw [old a o h];simp)
 ·have e1:=g.th a e
  cases h:H a with
  | none=>rfl
  | some o=>rw [old a o h] at e1;cases e1
 ·simp only [Dt]
  exact ⟨x,dx',fws,rfl,upd_same,DtF.mono (Same.new1 nF') _ _ d⟩
def dMk0 (C:Addr) (m:Nat) (sp:ISp) (gD:List D->List D) (dk:DTA) (env:En) (Q:R->En->Prop):Prop:=dk env fun ds e=>ds.length=m/\sp (gD ds) fun fs=>Q (.dat (.obj C fs)) e
theorem se_mk0 {C:Addr}{m:Nat}{sp:ISp}{gD:List D->List D}{gV:List V->List V->List V}{gZ:List V->List V}{E:XK} (hg:∀ x zs,zs.length=m->gV [.ref x] zs = .ref x :: gZ zs) (hd:∀ F ds zs,ds.length=m->Dts K F ds zs->Dts K F (gD ds) (gZ zs)) (hk:SA K tk dk):SE K (tMakeK C 0 m (spI K C sp) gV E tNil tk) (dMk0 C m sp gD dk):=fun Z env tm σ H Q Qd h q k=>hk Z env tm σ H _ _ h q fun zs ds e H1 ⟨F,h1⟩ hl ⟨q0,q1⟩=>by
 refine ⟨rfl,hl.trans q0,fun x dx nx nd ne=>?_⟩
 have dz:=hd F ds zs q0 (h1.dts hl)
 have s1:Same F (upd (upd H1 dx (.own x)) x (.ins C dx [])):=fun a o ea=>by
  have:=h1.sub a o ea
  rw [upd_ne (ne_of_none this nx),upd_ne (ne_of_none this nd)];exact this
 refine ⟨x,dx,gZ zs,F,gD ds,_,hg x zs (hl.trans q0),h1.sub.free nx,upd_same,s1,dz,q1,fun fs dx' fws F' H' g hx dv q2=>⟨rfl,?_⟩⟩
 obtain ⟨g',d'⟩:=made_grow h1.sub nx nd g hx dv
 exact k _ _ e H' (RelF.new h1.pops g' (RNew.dat d')) rfl q2
theorem de_mk0 {k:Nat}{f C:Addr}{fd:FuncData}{ps ks:List Str}{sp:ISp}{x:Str}{p:Pos}{kws:List Keyword}{g:List Value->List Value->List Value}{gV:List V->List V->List V}{gD:List D->List D}{gZ:List V->List V} (M:Mk X.K C f) (F:FnOk X.prog X.w X.K X.mg X.base CX0 k f fd ps (spI X.K C sp)) (hr:Room (k+1) X.A) (hm:X.mg x=some (.ref C)) (hb:KBn X.K fd ps 1 ks g gV)
  (hg:∀ x zs,zs.length=ks.length->gV [.ref x] zs = .ref x :: gZ zs) (hd:∀ F ds zs,ds.length=ks.length->Dts X.K F ds zs->Dts X.K F (gD ds) (gZ zs)) (hkw:DKw X kws tk dk) (hgl:Gl X x:=by rfl)
  (hall:(backToKw pos (keywordEach kws X.env)).all (·.1.isSome)=true:=by rfl) (hks:(backToKw pos (keywordEach kws X.env)).filterMap (·.1)=ks:=by rfl) (hdb:(x == ("__debug__" : Str))=false:=by decide)
  (hpl:((backTo pos (starEach [] X.env)).any (·.1) || (backToKw pos (keywordEach kws X.env)).any (·.1.isNone))=false:=by rfl) :
  DE X (.Call (.Name x p) [] kws pos) (tMakeK C 0 ks.length (spI X.K C sp) gV E0 tNil tk) (dMk0 C ks.length sp gD dk):=⟨pe_makeK0 M F hr hgl hm hb pass0 hkw.1 hall hks hdb hpl,se_mk0 hg hd hkw.2⟩
end
end U
namespace U
open PySem L2
def purR:Option R->Option R
 | some (.dat d)=>some (.dat d)
 | some (.own xs)=>some (.dat (.lst xs))
 | _=>none
def pur (env:En):En:=env.map purR
def fl4:D->Bool
 | .non=>true
 | .bl _=>true
 | .int _=>true
 | .str _=>true
 | _=>false
def flO:R->Bool
 | .dat d=>fl4 d
 | .own xs=>xs.all fl4
 | _=>false
section
variable {K:PySem.W.Frag}{X:Cx}
theorem fl4_dt {F F':Hp}{d:D}{v:V} (f:fl4 d=true) (h:Dt K F d v):Dt K F' d v:=by
 cases d <;> first | (cases f;done) | (simp only [Dt] at h ⊢;exact h)
theorem fl4_dts {F F':Hp}:∀ {ds:List D}{vs:List V},ds.all fl4=true->Dts K F ds vs->Dts K F' ds vs
 | [],vs,_,h=>by simpa only [Dts] using h
 | d :: ds,vs,f,h=>by
  simp only [List.all_cons,Bool.and_eq_true] at f
  simp only [Dts] at h ⊢
  obtain ⟨v,r,e,q,t⟩:=h
  exact ⟨v,r,e,fl4_dt f.1 q,fl4_dts f.2 t⟩
open Classical in
noncomputable def frzAll (F H:Hp) (env:En) (σ:L2.St):Hp:=fun a=>if (∃ (i:Nat) (xs:List D),env[i]? = some (some (.own xs))/\σ[i]? = some (some (.ref a))) then H a else F a
theorem pur_get {env:En}{i:Nat}{r:R} (e:(pur env)[i]? = some (some r)):(∃ d,r = .dat d/\env[i]? = some (some (.dat d)))\/∃ xs,r = .dat (.lst xs)/\env[i]? = some (some (.own xs)):=by
 unfold pur at e
 rw [List.getElem?_map] at e
 cases h:env[i]? with
 | none=>rw [h] at e;cases e
 | some o=>
  rw [h] at e
  cases o with
  | none=>cases e
  | some q=>
   cases q with
   | dat d=>cases e;exact .inl ⟨d,rfl,rfl⟩
   | own xs=>cases e;exact .inr ⟨xs,rfl,rfl⟩
   | _=>cases e
theorem RelF.pure2 {Z:Zt}{F H:Hp}{env:En}{tm:Tm}{σ:L2.St} (h:RelF K Z F env tm σ H):∃ F',Same F F'/\Same F' H/\(∀ a o,F' a=some o->F a=some o\/∃ vs,o = .lst vs)/\RelF K ⟨F',H,0,fun _=>False⟩ F' (pur env) [] σ H:=by
 have own:∀ {i:Nat} {xs:List D} {a:Addr},env[i]? = some (some (.own xs))->σ[i]? = some (some (.ref a))->F a=none/\∃ vs,H a=some (.lst vs)/\Dts K F xs vs:=fun {i xs a} e1 e2=>by
  obtain ⟨p,vs,ep,nF,hp,dv⟩:=h.ok (.s i) (.ref a) (.own xs) ⟨e2,e1⟩
  cases ep
  exact ⟨nF,vs,hp,dv⟩
 have ff:Same F (frzAll F H env σ):=fun a o e=>by
  unfold frzAll
  split
  ·rename_i hx
   obtain ⟨i,xs,e1,e2⟩:=hx
   rw [(own e1 e2).1] at e;cases e
  ·exact e
 have sb:Same (frzAll F H env σ) H:=fun a o e=>by
  unfold frzAll at e
  split at e
  ·exact e
  ·exact h.sub a o e
 have dat:∀ {a v r},Cell σ (pur env) [] a v r->∃ d,r = .dat d/\Dt K (frzAll F H env σ) d v:=fun {a v r} c=>by
  cases a with
  | t j=>cases (show ([]:Tm)[j]? = some (v,r) from c)
  | s i=>
   rcases pur_get c.2 with ⟨d,rfl,e⟩ | ⟨xs,rfl,e⟩
   ·exact ⟨d,rfl,Dt.mono ff _ _ (h.ok (.s i) v (.dat d) ⟨c.1,e⟩)⟩
   ·obtain ⟨p,vs,rfl,nF,hp,dv⟩:=h.ok (.s i) v (.own xs) ⟨c.1,e⟩
    refine ⟨_,rfl,?_⟩
    simp only [Dt]
    refine ⟨p,vs,rfl,?_,Dts.mono ff _ _ dv⟩
    unfold frzAll
    rw [if_pos ⟨i,xs,e,c.1⟩];exact hp
 have lo:∀ a o,frzAll F H env σ a=some o->F a=some o\/∃ vs,o=HO.lst vs:=fun a o e=>by
  unfold frzAll at e
  split at e
  ·rename_i hx
   obtain ⟨i,xs,e1,e2⟩:=hx
   obtain ⟨_,vs,hv,_⟩:=own e1 e2
   rw [hv] at e;cases e
   exact .inr ⟨vs,rfl⟩
  ·exact .inl e
 refine ⟨frzAll F H env σ,ff,sb,lo,sb,Same.refl _,fun _ h _=>h,fun _ _ _ h=>h,fun _ h=>h,by rw [pur,List.length_map];exact h.len,fun i r e=>?_,fun a v r c=>?_,fun a v r x c f=>?_,fun a b v w r q x c c' f f'=>?_,fun e=>?_⟩
 ·rcases pur_get e with ⟨d,_,e⟩ | ⟨xs,_,e⟩
  ·exact h.sl i _ e
  ·exact h.sl i _ e
 ·obtain ⟨d,rfl,dd⟩:=dat c;exact dd
 ·obtain ⟨d,rfl,dd⟩:=dat c;exact f.elim
 ·obtain ⟨d,rfl,dd⟩:=dat c;exact f.elim
 ·obtain ⟨r,e,sp⟩:=e
  rcases pur_get e with ⟨d,rfl,_⟩ | ⟨xs,rfl,_⟩ <;> cases sp
theorem RelF.pure {Z:Zt}{F H:Hp}{env:En}{tm:Tm}{σ:L2.St} (h:RelF K Z F env tm σ H):∃ F',Same F F'/\Same F' H/\RelF K ⟨F',H,0,fun _=>False⟩ F' (pur env) [] σ H:=by
 obtain ⟨F',h1,h2,_,h3⟩:=h.pure2
 exact ⟨F',h1,h2,h3⟩
theorem flO_new {F0 F F' H H':Hp}{v:V}{r:R} (s:Same F H) (f:flO r=true) (n:RNew K H F' H' v r):RNew K H F H' v r:=by
 refine ⟨?_,n.nb,n.nw⟩
 cases r with
 | dat d=>exact fl4_dt f n.ok
 | own xs=>
  obtain ⟨p,vs,rfl,nF,hp,dv⟩:=n.ok
  have nq:=n.nw p rfl
  exact ⟨p,vs,rfl,s.free nq,hp,fl4_dts f dv⟩
 | _=>cases f
def dPure (de:DTE) (env:En) (Q:R->En->Prop):Prop:=de (pur env) fun r _=>flO r=true/\Q r env
def dPureT (dt:DTT) (env:En) (Q:Bool->En->Prop):Prop:=dt (pur env) fun b _=>Q b env
theorem se_pure {te:TE}{de:DTE} (he:SE K te de):SE K te (dPure de):=fun Z env tm σ H Q Qd h q k=>by
 obtain ⟨F,h1⟩:=h
 obtain ⟨F',ff,sb,h2⟩:=h1.pure
 refine he _ _ [] σ H _ _ ⟨F',h2⟩ q fun v r e H' h3 nb q3=>?_
 obtain ⟨F2,g,n⟩:=rel_out h3 nb
 exact k v r env H' (RelF.new h1 (Grow.pure (fun a o e=>g.kp a o id e) h1.sub) (flO_new (F0:=F) h1.sub q3.1 n)) nb q3.2
theorem st_pure {tt:TT}{dt:DTT} (he:ST K tt dt):ST K tt (dPureT dt):=fun Z env tm σ H Q Qd h q k=>by
 obtain ⟨F,h1⟩:=h
 obtain ⟨F',ff,sb,h2⟩:=h1.pure
 refine he _ _ [] σ H _ _ ⟨F',h2⟩ q fun b e H' h3 q3=>?_
 obtain ⟨F2,h4⟩:=h3
 exact k b env H' ⟨F,h1.grow0 (Grow.pure (fun a o e=>h4.kp a o id e) h1.sub)⟩ q3
theorem de_pure {e:Expr}{te:TE}{de:DTE} (he:DE X e te de):DE X e te (dPure de):=⟨he.1,se_pure he.2⟩
theorem dt_pure {e:Expr}{tt:TT}{dt:DTT} (he:DT X e tt dt):DT X e tt (dPureT dt):=⟨he.1,st_pure he.2⟩
end
structure CalK (P:Program) (w:World) (K:PySem.W.Frag) (mg:Str->Option Value) (base:Heap) (k:Nat) (x:Str) (ps ks:List Str) (gZ:List V->List V) (sp:Sp):Prop where
 ex:∃ f fd g gV,FnOk P w K mg base CX0 k f fd ps sp/\mg x=some (.ref f)/\PySem.W.keepIn K (.ref f)=true/\KBn K fd ps 0 ks g gV/\∀ zs,gV [] zs=gZ zs
def tCallZ (m:Nat) (sp:Sp) (gZ:List V->List V) (tk:TA):TE:=fun σ H Q=>tk σ H fun zs H1=>zs.length=m/\sp (gZ zs) H1 Q E0
section
variable {X:Cx}{k j:Nat}{x:Str}{ps ks:List Str}{gZ:List V->List V}{sp:Sp}{p pos:Pos}{kws:List Keyword}{tk:TA}{dk:DTA}
theorem pe_calK (c:CalK X.prog X.w X.K X.mg X.base k x ps ks gZ sp) (hr:Room j X.A) (hj:k<=j) (hg:Gl X x) (hkw:PK X kws tk) (hall:(backToKw pos (keywordEach kws X.env)).all (·.1.isSome)=true) (hks:(backToKw pos (keywordEach kws X.env)).filterMap (·.1)=ks)
  (hdb:(x == ("__debug__" : Str))=false) (hpl:((backTo pos (starEach [] X.env)).any (·.1) || (backToKw pos (keywordEach kws X.env)).any (·.1.isNone))=false):PE X (.Call (.Name x p) [] kws pos) (tCallZ ks.length sp gZ tk):=by
 obtain ⟨f,fd,g,gV,G,hm,hk,hb,e⟩:=c.ex
 refine ⟨fun pins s σ H Q I h=>wpAny_Call_Name_kw (ld_glob I hg hm ?_ hdb)⟩
 refine PySem.W.callWith_KW0 (h₀:=X.base) I.ok.mod.kin hk hall (thn (hkw.run pos pins s σ H _ I h) fun ws s2 ⟨zs,H2,I2,rz,l2,q2⟩=>⟨I2.kIn,?_⟩) hpl
 rw [hks]
 exact run_fnN (us:=[]) (vs:=[]) G (hr.mono hj) hb pass0 I2 .nil rz rfl l2 (by rw [e];exact q2)
def dCN (m:Nat) (sp:PSp) (gD:List D->List D) (dk:DTA) (env:En) (Q:R->En->Prop):Prop:=dk env fun ds e=>ds.length=m/\sp (gD ds) fun q=>Hold (fun q=>Q q e) ⟨q⟩
theorem se_calK {K:PySem.W.Frag}{m:Nat}{sp:PSp}{gD:List D->List D} (hd:∀ F ds zs,ds.length=m->Dts K F ds zs->Dts K F (gD ds) (gZ zs)) (hk:SA K tk dk):SE K (tCallZ m (spP K sp) gZ tk) (dCN m sp gD dk):=fun Z env tm σ H Q Qd h q k=>hk Z env tm σ H _ _ h q fun zs ds e H1 ⟨F,h1⟩ hl ⟨q0,q1⟩=>
 ⟨hl.trans q0,F,gD ds,_,h1.sub,hd F ds zs q0 (h1.dts hl),q1,fun v q' F' H' g n q2=>k v q' e H' (RelF.new h1.pops g n) n.nb q2⟩
theorem de_calK {sp:PSp}{gD:List D->List D} (c:CalK X.prog X.w X.K X.mg X.base k x ps ks gZ (spP X.K sp)) (hr:Room j X.A) (hd:∀ F ds zs,ds.length=ks.length->Dts X.K F ds zs->Dts X.K F (gD ds) (gZ zs)) (hkw:DKw X kws tk dk) (hg:Gl X x:=by rfl) (hj:k<=j:=by decide)
  (hall:(backToKw pos (keywordEach kws X.env)).all (·.1.isSome)=true:=by rfl) (hks:(backToKw pos (keywordEach kws X.env)).filterMap (·.1)=ks:=by rfl) (hdb:(x == ("__debug__" : Str))=false:=by decide)
  (hpl:((backTo pos (starEach [] X.env)).any (·.1) || (backToKw pos (keywordEach kws X.env)).any (·.1.isNone))=false:=by rfl):DE X (.Call (.Name x p) [] kws pos) (tCallZ ks.length (spP X.K sp) gZ tk) (dCN ks.length sp gD dk):=⟨pe_calK c hr hj hg hkw.1 hall hks hdb hpl,se_calK hd hkw.2⟩
end
theorem kb_of {K:PySem.W.Frag}{x qual:Str}{st:Stmt}{f:Addr}{fd:FuncData}{ps ks:List Str}{n:Nat}{kws:List (Str × V)}{g:{α:Type}->List α->List α->List α} (F:FnD K x qual st [] kws f fd)
  (h:∀ (kV doc pm:Value) (an:Option Addr) (cdv ct:Value) (us ws:List Value),us.length=n->ws.length=ks.length->bindArgs (PySem.W.fnOf x qual (defArgs st) (defBody st) (defScope st) .none kV doc pm an cdv ct) ⟨us,ks.zip ws⟩=pure (ps.zip (g us ws)))
  (hrel:∀ {vs zs:List V} {us ws:List Value},Vals vs us->Vals zs ws->Vals (g vs zs) (g us ws)):KBn K fd ps n ks (fun us ws=>g us ws) (fun vs zs=>g vs zs):=by
 obtain ⟨oc,od,dV,kV,doc,pm,an,cdv,ct,osl,rfl,lk,hcd,hD,_⟩:=F.ex
 rcases hD with ⟨_,rfl⟩ | ⟨z,_⟩
 ·exact ⟨fun s us ws _ l1 l2=>.of_eq (h kV doc pm an cdv ct us ws l1 l2),fun r1 r2=>hrel r1 r2⟩
 ·exact absurd rfl z
end U
namespace U
open PySem L2
section
variable {κ:Type} [DecidableEq κ]
def getD? (kvs:List (κ × D)) (k:κ):Option D:=(kvs.find? fun kv=>decide (kv.1=k)).map (·.2)
def putDK (kvs:List (κ × D)) (k:κ) (v:D):List (κ × D):=if (kvs.any fun kv=>decide (kv.1=k))=true then kvs.map (fun kv=>if kv.1=k then (kv.1,v) else kv) else kvs ++ [(k,v)]
theorem getD?_cons {p:κ × D}{r:List (κ × D)}{k:κ}:getD? (p :: r) k=if p.1=k then some p.2 else getD? r k:=by
 unfold getD?
 by_cases h:p.1=k <;> simp [List.find?_cons,h]
theorem getD?_any (k:κ):∀ kvs:List (κ × D),(kvs.any fun kv=>decide (kv.1=k))=(getD? kvs k).isSome
 | []=>rfl
 | p :: r=>by
  rw [List.any_cons,getD?_any k r,getD?_cons]
  by_cases h:p.1=k <;> simp [h]
theorem putDK_new (kvs:List (κ × D)) (k:κ) (v:D) (h:getD? kvs k=none):putDK kvs k v=kvs ++ [(k,v)]:=by
 unfold putDK
 rw [getD?_any,h,if_neg (by simp)]
end
def keyD:D->Option Key
 | .int i=>some (.inl i)
 | .str s=>some (.inr s)
 | _=>none
section
variable {K:PySem.W.Frag}{X:Cx}{a b e tg:Expr}{es:List Expr}{pos:Pos}{ta tb te:TE}{da db de:DTE}{tr tk:TA}{dr dk:DTA}
theorem keyV {F:Hp}{d:D}{v:V}{k:Key} (h:keyD d=some k) (q:Dt K F d v):v=kV k:=by
 cases d <;> first | (cases h;done) | (simp only [keyD,Option.some.injEq] at h;subst h;simp only [Dt] at q;exact q)
theorem dtk_get {F:Hp}{k:Key}:∀ {kvs:List (Key × D)}{ws:List (Key × V)},DtK K F kvs ws->(match getD? kvs k with | some d=>∃ v,valV ws k=some v/\Dt K F d v | none=>valV ws k=none)
 | [],ws,h=>by simp only [DtK] at h;subst h;simp [getD?,valV]
 | (g,x) :: kvs,ws,h=>by
  simp only [DtK] at h
  obtain ⟨v,r,rfl,q,t⟩:=h
  have ih:=dtk_get (k:=k) t
  unfold getD? valV at *
  by_cases hg:g=k
  ·subst hg;simp;exact q
  ·simp only [List.find?_cons,hg,decide_false];exact ih
theorem dtk_app {F:Hp}{k:Key}{x:D}{v:V} (q:Dt K F x v):∀ {kvs:List (Key × D)}{ws:List (Key × V)},DtK K F kvs ws->DtK K F (kvs ++ [(k,x)]) (ws ++ [(k,v)])
 | [],ws,h=>by
  simp only [DtK] at h;subst h
  simp only [List.nil_append,DtK]
  exact ⟨v,[],rfl,q,rfl⟩
 | (g,y) :: kvs,ws,h=>by
  simp only [DtK] at h
  obtain ⟨w,r,rfl,q',t⟩:=h
  simp only [List.cons_append,DtK]
  exact ⟨w,_,rfl,q',dtk_app q t⟩
theorem dtk_map {F:Hp}{k:Key}{x:D}{v:V} (q:Dt K F x v):∀ {kvs:List (Key × D)}{ws:List (Key × V)},DtK K F kvs ws->DtK K F (kvs.map fun kv=>if kv.1=k then (kv.1,x) else kv) (ws.map fun kv=>if kv.1=k then (kv.1,v) else kv)
 | [],ws,h=>by
  simp only [DtK] at h;subst h
  simp only [List.map_nil,DtK]
 | (g,y) :: kvs,ws,h=>by
  simp only [DtK] at h
  obtain ⟨w,r,rfl,q',t⟩:=h
  rw [List.map_cons,List.map_cons]
  by_cases hg:g=k
  ·rw [if_pos hg,if_pos hg]
   simp only [DtK]
   exact ⟨v,_,rfl,q,dtk_map q t⟩
  ·rw [if_neg hg,if_neg hg]
   simp only [DtK]
   exact ⟨w,_,rfl,q',dtk_map q t⟩
theorem dtk_put {F:Hp}{k:Key}{x:D}{v:V}{kvs:List (Key × D)}{ws:List (Key × V)} (q:Dt K F x v) (h:DtK K F kvs ws):DtK K F (putDK kvs k x) (putK ws k v):=by
 have e:(kvs.any fun kv=>decide (kv.1=k))=ws.any fun kv=>decide (kv.1=k):=by
  rw [getD?_any,valV_any]
  have:=dtk_get (k:=k) h
  split at this
  ·rename_i d hd
   obtain ⟨v,hv,_⟩:=this
   rw [hd,hv];rfl
  ·rename_i hd
   rw [hd,this];rfl
 unfold putDK putK
 rw [e]
 split
 ·exact dtk_map q h
 ·exact dtk_app q h
def dSetD (i:Nat) (D:DEnds) (env:En):Prop:=D.nx (env.set i (some (.oK [])))
theorem ss_setD {i:Nat}:SS K (tAsg tDNewK (gName i)) (dSetD i):=fun Z env tm σ H D Dd ⟨F,h⟩ k q p np=>by
 refine k.nx _ _ _ ?_ q
 have h1:RelF K Z F env tm σ (upd H p (.dK [])):=h.grow0 (Grow.pure (Same.new1 np) h.sub)
 have h2:RelF K Z F env (tm ++ [(.ref p,.oK [])]) σ (upd H p (.dK [])):=h1.pushN h np ⟨p,[],rfl,h.sub.free np,upd_same,by simp only [DtK]⟩
 by_cases hl:i < env.length
 ·exact ⟨F,h2.asg hl fun _=>rfl⟩
 ·have e1:env.set i (some (R.oK []))=env:=List.set_eq_of_length_le (by omega)
  have e2:σ.set i (some (V.ref p))=σ:=List.set_eq_of_length_le (by rw [h.len];omega)
  rw [e1,e2];exact ⟨F,h1⟩
theorem ds_setD {i:Nat}{x:Str}{pos' p1:Pos} (hN:X.N.Nodup) (hi:X.N[i]? = some x) (hx:Loc X.env.scope x) (hs:swapsWith (.Dict [] [] p1) (some (.Name x pos')) pos.line X.env=pure false:=by rfl) (hf:X.fn x=true\/X.env.scope.names.lookup x=some .local:=by first | exact .inl rfl | exact .inr rfl | assumption) :
  DS X (.Assign [.Name x pos'] (.Dict [] [] p1) pos) (tAsg tDNewK (gName i)) (dSetD i):=⟨ps_set hN hi hx pe_dnewK hs hf,ss_setD⟩
def dDput (i:Nat) (dk dv:DTE) (D:DEnds) (env:En):Prop:=dv env fun r e1=>match e1[i]? with
 | some (some (.oK _))=>dk e1 fun q e2=>match e2[i]? with
  | some (some (.oK kvs))=>match keyD q.d with
   | some k=>kvs.length < 100000/\D.nx (e2.set i (some (.oK (putDK kvs k r.d))))
   | none=>False
  | _=>False
 | _=>False
theorem ss_dput {i:Nat}{ty tv:TE}{dy dv:DTE} (hy:SE K ty dy) (hv:SE K tv dv):SS K (sDPut (tVar i) ty tv) (dDput i dy dv):=fun Z env tm σ H D Dd h k q=>hv Z env tm σ H _ _ h q fun v r e1 H1 h1 n1 q1=>by
 split at q1
 ·rename_i kvs0 e0
  obtain ⟨F1,h1'⟩:=id h1
  obtain ⟨u,hu⟩:=h1'.sl i _ e0
  refine ⟨u,hu,hy Z e1 _ σ H1 _ _ (h1.frzT n1) q1 fun y ry e2 H2 h2 n2 q2=>?_⟩
  obtain ⟨F,h3⟩:=h2.frzT n2
  split at q2
  ·rename_i kvs e3
   split at q2
   ·rename_i ky ek
    obtain ⟨p,ws,rfl,nF,hp,dw⟩:=h3.ok (.s i) u (.oK kvs) ⟨hu,e3⟩
    obtain ⟨dx,dy'⟩:=h3.top2
    have ey:=keyV ek dy'
    refine ⟨p,_,rfl,.inl ⟨ws,ky,hp,ey,sz1000' (by rw [<-dtk_len dw];exact q2.1),rfl⟩,k.nx _ _ _ ?_ q2.2⟩
    have h4:=h3.pop.pop
    exact ⟨F,h4.chg (a:=.s i) (p:=p) (r:=.oK kvs) (r':=.oK (putDK kvs ky r.d)) (grow_mu h4.sub nF (Mu.of hp)) ⟨hu,e3⟩ rfl (fun x m=>m) ⟨p,_,rfl,nF,upd_same,dtk_put dx dw⟩ rfl (fun a w q c=>cell_setS c hu) (by rw [List.length_set];exact h4.len) (set_sl h4.sl hu) fun z=>set_bg (fun _=>rfl) z⟩
   ·exact q2.elim
  ·exact q2.elim
 ·exact q1.elim
theorem ds_dput {i j:Nat}{x:Str}{px pos':Pos}{ty tv:TE}{dy dv:DTE}{ky value:Expr}{Rm:Nat->PySem.Around->Prop} [IsRoom Rm] (hr:Rm j X.A) (hx:PE X (.Name x px) (tVar i)) (hy:DE X ky ty dy) (hv:DE X value tv dv) (hs:swapsWith value (some (.Subscript (.Name x px) ky pos')) pos.line X.env=pure false:=by rfl) :
  DS X (.Assign [.Subscript (.Name x px) ky pos'] value pos) (sDPut (tVar i) ty tv) (dDput i dy dv):=⟨ps_dput (hu_ofU hr) hx hy.1 hv.1 hs,ss_dput hy.2 hv.2⟩
def rDGet:R2:=fun x y H Q=>∃ a v,x = .ref a/\DGet H a y (some v)/\Q v H
def rDIn (neg:Bool):R2:=fun y x H Q=>∃ a o,x = .ref a/\DGet H a y o/\Q (.bl (if neg then !o.isSome else o.isSome)) H
def rdDget (x y:D) (Q:R->Prop):Prop:=match x with
 | .dK kvs=>match keyD y with | some k=>∃ d,getD? kvs k=some d/\Q (.dat d) | none=>False
 | _=>False
def rdDin (neg:Bool) (y x:D) (Q:R->Prop):Prop:=match x with
 | .dK kvs=>match keyD y with | some k=>Q (.dat (.bl (if neg then !(getD? kvs k).isSome else (getD? kvs k).isSome))) | none=>False
 | _=>False
theorem s2_dget:S2 K rDGet rdDget:=by
 intro F H x y dx dy Q Qd s h h' q k
 unfold rdDget at q
 split at q
 ·split at q
  ·rename_i ky ek
   obtain ⟨d,ed,q⟩:=q
   obtain ⟨a,od,ws,rfl,ha,dw⟩:=ddK h
   have:=dtk_get (k:=ky) dw
   rw [ed] at this
   obtain ⟨v,ev,dv⟩:=this
   exact ⟨a,v,rfl,.inl ⟨ws,ky,.inr ⟨od,s _ _ ha⟩,keyV ek h',ev.symm⟩,flatk s k dv q⟩
  ·exact q.elim
 ·exact q.elim
theorem dtk_isSome {F:Hp}{k:Key}{kvs:List (Key × D)}{ws:List (Key × V)} (h:DtK K F kvs ws):(valV ws k).isSome=(getD? kvs k).isSome:=by
 have:=dtk_get (k:=k) h
 split at this
 ·rename_i d hd
  obtain ⟨v,hv,_⟩:=this
  rw [hd,hv];rfl
 ·rename_i hd
  rw [hd,this];rfl
theorem s2_din {neg:Bool}:S2 K (rDIn neg) (rdDin neg):=by
 intro F H y x dy dx Q Qd s h' h q k
 unfold rdDin at q
 split at q
 ·split at q
  ·rename_i ky ek
   obtain ⟨a,od,ws,rfl,ha,dw⟩:=ddK h
   refine ⟨a,_,rfl,.inl ⟨ws,ky,.inr ⟨od,s _ _ ha⟩,keyV ek h',rfl⟩,?_⟩
   rw [dtk_isSome dw]
   exact flatk s k blD q
  ·exact q.elim
 ·exact q.elim
theorem de_dget {j:Nat}{Rm:Nat->PySem.Around->Prop} [IsRoom Rm] (hr:Rm j X.A) (ha:DE X a ta da) (hb:DE X b tb db) (hs:NoSl b:=by exact fun _ _=>rfl):DE X (.Subscript a b pos) (tDGet ta tb) (dOp rdDget da db):=⟨pe_dget (hu_ofU hr) ha.1 hb.1 hs,se_op s2_dget ha.2 hb.2⟩
theorem de_din {j:Nat}{Rm:Nat->PySem.Around->Prop} [IsRoom Rm] (hr:Rm j X.A) (ha:DE X a ta da) (hb:DE X b tb db) (h1:behindInMarks .In b=false:=by rfl):DE X (.Compare a [.In] [b] pos) (tDIn ta tb) (dOp (rdDin false) da db):=⟨pe_cmp (pc_din (hu_ofU hr) ha.1 hb.1) h1,se_op (s2_din (neg:=false)) ha.2 hb.2⟩
theorem dt_din {j:Nat}{Rm:Nat->PySem.Around->Prop} [IsRoom Rm] (hr:Rm j X.A) (ha:DE X a ta da) (hb:DE X b tb db) (h1:behindInMarks .In b=false:=by rfl):DT X (.Compare a [.In] [b] pos) (tB (tDIn ta tb)) (dB (dOp (rdDin false) da db)):=⟨pt_cmp (pc_din (hu_ofU hr) ha.1 hb.1) h1,st_B (se_op (s2_din (neg:=false)) ha.2 hb.2)⟩
def dPkDget (i:Nat) (db:DTE) (env:En) (Q:R->En->Prop):Prop:=match env[i]? with
 | some (some (.oK _))=>db env fun y e=>match e[i]? with
  | some (some (.oK kvs))=>match keyD y.d with | some k=>∃ d,getD? kvs k=some d/\Q (.dat d) e | none=>False
  | _=>False
 | _=>False
def dPkDin (neg:Bool) (i:Nat) (da:DTE) (env:En) (Q:R->En->Prop):Prop:=da env fun y e=>match e[i]? with
  | some (some (.oK kvs))=>match keyD y.d with | some k=>Q (.dat (.bl (if neg then !(getD? kvs k).isSome else (getD? kvs k).isSome))) e | none=>False
  | _=>False
def tVarL (i:Nat):TE:=fun σ H Q=>∃ d u,σ[i]? = some (some (.ref d))/\H d=some u/\Mut (some u)/\∀ od,Q (.ref d) (upd H d (.frz od u))
theorem pe_varL {i:Nat}{x:Str}{px:Pos} (h:PE X (.Name x px) (tVar i)):PE X (.Name x px) (tVarL i):=⟨fun pins s σ H Q I ⟨d,u,hv,hd,mu,q⟩=>by
 refine thn (h.run pins s σ H (fun v H'=>v = .ref d/\H'=H) I ⟨_,hv,rfl,rfl⟩) fun w s1 ⟨v,H1,I1,r,e1,e2⟩=>?_
 subst e1 e2
 obtain ⟨od,I2⟩:=I1.lock hd mu
 exact ⟨_,_,I2,r,q od⟩⟩
def dLk (i:Nat) (env:En) (Q:R->En->Prop):Prop:=match env[i]? with
 | some (some (.oK kvs))=>Q (.dat (.dK kvs)) (env.set i none)
 | some (some (.dat d))=>False
 | _=>False
theorem se_lk {i:Nat}:SE K (tVarL i) (dLk i):=by
 intro Z env tm σ H Q Qd ⟨F,h⟩ q k
 unfold dLk at q
 split at q
 ·rename_i kvs e
  obtain ⟨v,hv⟩:=h.sl i _ e
  obtain ⟨p,ws,rfl,nF,hp,dw⟩:=h.ok (.s i) v (.oK kvs) ⟨hv,e⟩
  refine ⟨p,_,hv,hp,trivial,fun od=>k _ _ _ _ ?_ rfl q⟩
  have zp:Z.H p=none:=by
   rcases h.ow1 (show Cell σ env tm (.s i) (.ref p) (.oK kvs) from ⟨hv,e⟩) with z | z
   ·exact z
   ·cases z.1
  have ff:Same F (upd F p (.frz od (.dK ws))):=Same.new1 nF
  have hr:RelF K Z (upd F p (.frz od (.dK ws))) (env.set i none) tm σ (upd H p (.frz od (.dK ws))):=by
   refine ⟨fun x u ex=>?_,h.f0.trans ff,fun x ex ne=>?_,fun x o nb ex=>?_,fun x ex=>?_,by rw [List.length_set];exact h.len,none_sl h.sl,fun b w q c=>?_,fun b w q x c f=>?_,fun b b' w w' q q' x c c' f f'=>?_,fun z=>h.bg (none_bg z)⟩
   ·by_cases hx:x=p
    ·subst hx;rw [upd_same] at ex ⊢;exact ex
    ·rw [upd_ne hx] at ex ⊢;exact h.sub x u ex
   ·exact nt_upd (h.nw x ex ne) fun z=>by subst z;exact ne zp
   ·have hx:x ≠ p:=fun z=>by subst z;rw [zp] at ex;cases ex
    rw [upd_ne hx];exact h.kp x o nb ex
   ·by_cases hx:x=p
    ·subst hx;exact zp
    ·rw [upd_ne hx] at ex;exact h.th x ex
   ·obtain ⟨na,c⟩:=cell_none c
    refine (h.ok _ _ _ c).monoF ff fun x f=>?_
    have hx:x ≠ p:=fun z=>by subst z;exact na (h.ap _ _ _ _ _ _ x c (show Cell σ env tm (.s i) (.ref x) (.oK kvs) from ⟨hv,e⟩) f rfl)
    exact ⟨by rw [upd_ne hx];exact ((h.ok _ _ _ c).fp f).1,fun o eo=>by rw [upd_ne hx];exact eo⟩
   ·exact h.ow _ _ _ x (cell_none c).2 f
   ·exact h.ap _ _ _ _ _ _ x (cell_none c).2 (cell_none c').2 f f'
  refine ⟨_,hr.pushD ?_⟩
  simp only [Dt]
  exact ⟨p,od,ws,rfl,upd_same,DtK.mono ff _ _ dw⟩
 ·exact q.elim
 ·exact q.elim
theorem dlk (i:Nat) {x:Str}{pos:Pos} (hN:X.N[i]? = some x:=by rfl) (hv:Vis X.env.scope x:=by first | exact Or.inl rfl | exact Or.inr (Or.inl rfl) | exact Or.inr (Or.inr rfl)) (hd:(x == ("__debug__" : Str))=false:=by decide)
  (hcd:(x == ("__classdict__" : Str))=false:=by decide):DE X (.Name x pos) (tVarL i) (dLk i):=⟨pe_varL (pe_var hN hv hd hcd),se_lk⟩
theorem itOk_keys {Z:Zt}{tm:Tm}{a:Addr}{od:Obj}{ws:List (Key × V)}{kvs:List (Key × D)} (hk:ws.map (·.1)=kvs.map (·.1)) (hl:∀ {env ts σ H},Rel K Z env (tm ++ ts) σ H->H a=some (.frz od (.dK ws))):ItOk K Z tm (Itk a od ws) (kvs.map fun p=>kD p.1):=by
 have len:ws.length=kvs.length:=by have:=congrArg List.length hk;simpa using this
 refine ⟨fun i env ts σ H h hi=>⟨hl h,by rw [len];simpa using hi⟩,fun i env ts σ H v H' x h y e=>?_,fun i env ts σ H h hi=>⟨hl h,by rw [len];simpa using hi⟩⟩
 obtain ⟨rfl,ky,w,ew,rfl⟩:=y
 obtain ⟨F,h⟩:=h
 refine ⟨F,h.pushD ?_⟩
 have e1:(kvs.map (·.1))[i]? = some ky:=by rw [<-hk,List.getElem?_map,ew];rfl
 rw [List.getElem?_map] at e e1
 cases e2:kvs[i]? with
 | none=>rw [e2] at e;cases e
 | some p=>
  rw [e2] at e e1
  cases e
  have:p.1=ky:=by simpa using e1
  show Dt K F (kD p.1) (kV ky)
  rw [this]
  cases ky with
  | inl i=>simp only [kD,kV,Dt]
  | inr s=>simp only [kD,kV,Dt]
theorem dtk_keys {F:Hp}:∀ {kvs:List (Key × D)}{ws:List (Key × V)},DtK K F kvs ws->ws.map (·.1)=kvs.map (·.1)
 | [],ws,h=>by simp only [DtK] at h;subst h;rfl
 | (k,x) :: kvs,ws,h=>by
  simp only [DtK] at h
  obtain ⟨v,r,rfl,_,t⟩:=h
  simp only [List.map_cons,dtk_keys t]
theorem si_keys (he:SE K te de):SI K (iKeys te) (diK de):=fun Z env tm σ H R Qd h q k=>he Z env tm σ H _ _ h q fun v r e H1 h1 n1 q1=>by
 obtain ⟨F,h2⟩:=h1.frzT n1
 split at q1
 ·rename_i kvs er
  rw [er] at h2
  obtain ⟨a,od,ws,rfl,ha,dw⟩:=ddK h2.top
  refine ⟨a,od,rfl,.inl ⟨ws,h2.sub _ _ ha,k _ [] _ e H1 { Z with F:=F } ?_ ?_ ?_ q1⟩⟩
  ·rintro env' tm' σ' H' ⟨F',h'⟩
   exact ⟨F',h'.sub,h2.f0.trans h'.f0,fun x e1 ne=>h'.nw x (h2.nw x e1 ne) ne,h'.kp,h'.th,h'.len,h'.sl,h'.ok,h'.ow,h'.ap,h'.bg⟩
  ·rw [List.append_nil]
   have h3:=h2.pop
   exact ⟨F,h3.sub,Same.refl F,fun x e1 ne=>e1,h3.kp,h3.th,h3.len,h3.sl,h3.ok,h3.ow,h3.ap,h3.bg⟩
  ·rw [List.append_nil]
   exact itOk_keys (dtk_keys dw) fun {env' ts' σ' H'} ⟨F',h'⟩=>h'.sub _ _ (h'.f0 _ _ ha)
 ·exact q1.elim
theorem di_keys (he:DE X e te de):DI X tg e (iKeys te) (diK de):=⟨pi_keys he.1,si_keys he.2⟩
def enumD (xs:List D):List D:=(xs.zipIdx).map fun p=>.tup [.int (p.2:Nat),p.1]
def diE (dr:DTA) (env:En) (Q:List D->En->Prop):Prop:=dr env fun ds e=>match ds with | [.lst xs]=>Q (enumD xs) e | _=>False
end
theorem lookup_putD (f g:Str) (v:D):∀ fs:List (Str × D),(putD f v fs).lookup g=if g=f then some v else fs.lookup g
 | []=>by
  unfold putD
  rw [List.lookup_cons]
  by_cases h:g=f
  ·rw [if_pos h,h];simp
  ·rw [if_neg h,show (g == f)=false by simp [h]]
 | (k,x) :: r=>by
  unfold putD
  by_cases hk:k=f
  ·rw [if_pos hk,List.lookup_cons,List.lookup_cons]
   by_cases h:g=f
   ·rw [if_pos h,h,hk];simp
   ·rw [if_neg h,show (g == k)=false by rw [hk];simp [h]]
  ·rw [if_neg hk,List.lookup_cons,List.lookup_cons,lookup_putD f g v r]
   by_cases h:g=k
   ·subst h;simp [hk]
   ·rw [show (g == k)=false by simp [h]]
theorem putD_ltk {f:Str}{v:D}{fs:List (Str × D)}{k n:Nat} (h:fs.length+(k+1) < n):(putD f v fs).length+k < n:=by
 have:(putD f v fs).length<=fs.length+1:=by
  clear h
  induction fs with
  | nil=>simp [putD]
  | cons p r ih=>
   obtain ⟨g,x⟩:=p
   unfold putD
   split
   ·simp
   ·simp only [List.length_cons];omega
 omega
theorem putD_lt0 {f:Str}{v:D}{fs:List (Str × D)}{n:Nat} (h:(putD f v fs).length+0 < n):(putD f v fs).length < n:=h
theorem blk_K {X:Cx}{s:Shared}{H:Hp}{sc:Scope}{ev:Env}{fp:List Addr}:(X.blk s H sc ev fp).K=X.K:=rfl
theorem nox_K {X:Cx}:X.nox.K=X.K:=rfl
theorem cx_K {P:Program}{w:World}{K:PySem.W.Frag}{mg:Str->Option Value}{base:Heap}{N:List Str}{qual:Str}{scope:Scope}{f:Addr}{cd:Value}{A:Around}{outer:List Env}{s:Shared}{H:Hp}{E:XK}{CX:CXT}:(cxOf CX P w K mg base N qual scope f cd A outer s H E).K=K:=rfl
theorem forL {xs:List D}{dg:DTG}{db:DTS}{De:DEnds}{env:En} (W:Nat->En->Prop) (h0:W 0 env) (ht:∀ (i:Nat) e x,xs[i]? = some x->W i e->dg (.dat x) e fun e2=>db { De with nx:=W (i+1),ct:=W (i+1),bk:=De.nx } e2) (hd:∀ e,W xs.length e->De.nx e):dForL xs dg db De env:=⟨W,h0,ht,hd⟩
theorem lcL {xs:List D}{dg:DTG}{dt:DTT}{de:DTE}{own:List Nat}{env:En}{Q:R->En->Prop} (W:Nat->List D->En->Prop) (h0:W 0 [] (wipeE env own))
  (ht:∀ (i:Nat) acc e x,xs[i]? = some x->W i acc e->dg (.dat x) e fun e2=>dt e2 fun b e3=>if b=true then de e3 fun r e4=>acc.length < 100000/\W (i+1) (acc ++ [r.d]) (wipeE e4 own) else W (i+1) acc (wipeE e3 own)) (hd:∀ acc e,W xs.length acc e->Q (.own acc) e):dLcL xs dg dt de own env Q:=⟨W,h0,ht,hd⟩
section
variable {n:Nat}{i j:Int}{s t:Str}{b c:Bool}{xs ys:List D}
theorem sh_int:sh n (.int i)=true:=by cases n <;> rfl
theorem sh_bl:sh n (.bl b)=true:=by cases n <;> rfl
theorem sh_non:sh n .non=true:=by cases n <;> rfl
theorem sh_str:sh n (.str s)=PyData.strOk s:=by cases n <;> rfl
theorem sh_lst:sh (n+1) (.lst xs)=xs.all (sh n):=rfl
theorem sh_tup:sh (n+1) (.tup xs)=xs.all (sh n):=rfl
theorem eqD_int:eqD (.int i) (.int j)=decide (i=j):=by rw [Bool.eq_iff_iff];simp [eqD,D.py,PyData.eqv]
theorem eqD_str:eqD (.str s) (.str t)=decide (s=t):=by rw [Bool.eq_iff_iff];simp [eqD,D.py,PyData.eqv]
theorem eqD_bl:eqD (.bl b) (.bl c)=decide (b=c):=by rw [Bool.eq_iff_iff];simp [eqD,D.py,PyData.eqv]
theorem eqD_nn:eqD .non .non=true:=rfl
theorem eqD_ni:eqD .non (.int i)=false:=rfl
theorem eqD_in:eqD (.int i) .non=false:=rfl
theorem eqD_ns:eqD .non (.str s)=false:=rfl
theorem eqD_sn:eqD (.str s) .non=false:=rfl
theorem all_sh_map {α:Type}{f:α->D}{l:List α} (h:∀ x∈l,sh n (f x)=true):(l.map f).all (sh n)=true:=by
 rw [List.all_eq_true]
 intro d hd
 obtain ⟨x,hx,rfl⟩:=List.mem_map.mp hd
 exact h x hx
theorem rng_get {lo:Int}{m k:Nat}{x:D} (h:(rngD lo m)[k]? = some x):k < m/\x = .int (lo+(k:Nat)):=by
 have hk:=(List.getElem?_eq_some_iff.mp h).1
 rw [rngD_len] at hk
 rw [rngD_get hk] at h
 exact ⟨hk,(Option.some.inj h).symm⟩
end
section
variable {d:D}{xs:List D}{C:Addr}{fs:List (Str × D)}{i:Int}{s:Str}{b:Bool}{kvs:List (Key × D)}
theorem Rd_dat:(R.dat d).d=d:=rfl
theorem Rd_own:(R.own xs).d = .lst xs:=rfl
theorem Rd_oI:(R.oI C fs).d = .obj C fs:=rfl
theorem Rn_dat:(R.dat d).nobag=true:=rfl
theorem Rn_own:(R.own xs).nobag=true:=rfl
theorem RN_non:(R.dat .non).isN=true:=rfl
theorem RN_int:(R.dat (.int i)).isN=false:=rfl
theorem RN_str:(R.dat (.str s)).isN=false:=rfl
theorem RN_bl:(R.dat (.bl b)).isN=false:=rfl
theorem RN_lst:(R.dat (.lst xs)).isN=false:=rfl
theorem RN_tup:(R.dat (.tup xs)).isN=false:=rfl
theorem RN_obj:(R.dat (.obj C fs)).isN=false:=rfl
theorem RN_own:(R.own xs).isN=false:=rfl
theorem kD_int:keyD (.int i)=some (.inl i):=rfl
theorem kD_str:keyD (.str s)=some (.inr s):=rfl
theorem fO_dat:flO (.dat d)=fl4 d:=rfl
theorem fO_own:flO (.own xs)=xs.all fl4:=rfl
theorem f4_non:fl4 .non=true:=rfl
theorem f4_int:fl4 (.int i)=true:=rfl
theorem f4_str:fl4 (.str s)=true:=rfl
theorem f4_bl:fl4 (.bl b)=true:=rfl
theorem nO_non:noObj .non=true:=rfl
theorem nO_int:noObj (.int i)=true:=rfl
theorem nO_str:noObj (.str s)=true:=rfl
theorem nO_bl:noObj (.bl b)=true:=rfl
theorem nO_lst:noObj (.lst xs)=true:=rfl
theorem nO_tup:noObj (.tup xs)=true:=rfl
theorem nO_dK:noObj (.dK kvs)=true:=rfl
theorem fR_non:flR (.dat .non)=true:=rfl
theorem fR_int:flR (.dat (.int i))=true:=rfl
theorem fR_str:flR (.dat (.str s))=true:=rfl
theorem fR_bl:flR (.dat (.bl b))=true:=rfl
theorem pR_dat:purR (some (.dat d))=some (.dat d):=rfl
theorem pR_own:purR (some (.own xs))=some (.dat (.lst xs)):=rfl
theorem pR_none:purR none=none:=rfl
theorem pR_bag {n:Nat}:purR (some (.bag n))=none:=rfl
theorem pR_oK:purR (some (.oK kvs))=none:=rfl
theorem ty_list_non:isTy "list" .non=false:=(by decide:isTyS "list" "NoneType" = false)
theorem ty_list_bl:isTy "list" (.bl b)=false:=(by decide:isTyS "list" "bool" = false)
theorem ty_list_int:isTy "list" (.int i)=false:=(by decide:isTyS "list" "int" = false)
theorem ty_list_str:isTy "list" (.str s)=false:=(by decide:isTyS "list" "str" = false)
theorem ty_list_lst:isTy "list" (.lst xs)=true:=(by decide:isTyS "list" "list" = true)
theorem ty_list_tup:isTy "list" (.tup xs)=false:=(by decide:isTyS "list" "tuple" = false)
theorem ty_int_non:isTy "int" .non=false:=(by decide:isTyS "int" "NoneType" = false)
theorem ty_int_bl:isTy "int" (.bl b)=true:=(by decide:isTyS "int" "bool" = true)
theorem ty_int_int:isTy "int" (.int i)=true:=(by decide:isTyS "int" "int" = true)
theorem ty_int_str:isTy "int" (.str s)=false:=(by decide:isTyS "int" "str" = false)
theorem ty_int_lst:isTy "int" (.lst xs)=false:=(by decide:isTyS "int" "list" = false)
theorem ty_int_tup:isTy "int" (.tup xs)=false:=(by decide:isTyS "int" "tuple" = false)
theorem ty_bool_non:isTy "bool" .non=false:=(by decide:isTyS "bool" "NoneType" = false)
theorem ty_bool_bl:isTy "bool" (.bl b)=true:=(by decide:isTyS "bool" "bool" = true)
theorem ty_bool_int:isTy "bool" (.int i)=false:=(by decide:isTyS "bool" "int" = false)
theorem ty_bool_str:isTy "bool" (.str s)=false:=(by decide:isTyS "bool" "str" = false)
theorem ty_bool_lst:isTy "bool" (.lst xs)=false:=(by decide:isTyS "bool" "list" = false)
theorem ty_bool_tup:isTy "bool" (.tup xs)=false:=(by decide:isTyS "bool" "tuple" = false)
theorem ty_str_non:isTy "str" .non=false:=(by decide:isTyS "str" "NoneType" = false)
theorem ty_str_bl:isTy "str" (.bl b)=false:=(by decide:isTyS "str" "bool" = false)
theorem ty_str_int:isTy "str" (.int i)=false:=(by decide:isTyS "str" "int" = false)
theorem ty_str_str:isTy "str" (.str s)=true:=(by decide:isTyS "str" "str" = true)
theorem ty_str_lst:isTy "str" (.lst xs)=false:=(by decide:isTyS "str" "list" = false)
theorem ty_str_tup:isTy "str" (.tup xs)=false:=(by decide:isTyS "str" "tuple" = false)
theorem ty_tuple_non:isTy "tuple" .non=false:=(by decide:isTyS "tuple" "NoneType" = false)
theorem ty_tuple_bl:isTy "tuple" (.bl b)=false:=(by decide:isTyS "tuple" "bool" = false)
theorem ty_tuple_int:isTy "tuple" (.int i)=false:=(by decide:isTyS "tuple" "int" = false)
theorem ty_tuple_str:isTy "tuple" (.str s)=false:=(by decide:isTyS "tuple" "str" = false)
theorem ty_tuple_lst:isTy "tuple" (.lst xs)=false:=(by decide:isTyS "tuple" "list" = false)
theorem ty_tuple_tup:isTy "tuple" (.tup xs)=true:=(by decide:isTyS "tuple" "tuple" = true)
theorem ty_dict_non:isTy "dict" .non=false:=(by decide:isTyS "dict" "NoneType" = false)
theorem ty_dict_bl:isTy "dict" (.bl b)=false:=(by decide:isTyS "dict" "bool" = false)
theorem ty_dict_int:isTy "dict" (.int i)=false:=(by decide:isTyS "dict" "int" = false)
theorem ty_dict_str:isTy "dict" (.str s)=false:=(by decide:isTyS "dict" "str" = false)
theorem ty_dict_lst:isTy "dict" (.lst xs)=false:=(by decide:isTyS "dict" "list" = false)
theorem ty_dict_tup:isTy "dict" (.tup xs)=false:=(by decide:isTyS "dict" "tuple" = false)
end
def trues (n:Nat):List D:=(List.replicate n true).map D.bl
theorem trues_add {n:Nat}:trues n ++ [.bl true]=trues (n+1):=by
 unfold trues
 rw [List.replicate_succ',List.map_append];rfl
theorem trues_len {n:Nat}:(trues n).length=n:=by unfold trues;simp
theorem get_lt {α:Type}{l:List α}{i:Nat}{x:α} (h:l[i]? = some x):i < l.length:=(List.getElem?_eq_some_iff.mp h).1
end U
namespace U
open PySem L2
theorem dts_intsQ {K:PySem.W.Frag}{F:Hp}:∀ ns:List Int,Dts K F (ns.map D.int) (ns.map V.int)
 | []=>by simp only [List.map_nil,Dts]
 | n :: ns=>by
  simp only [List.map_cons,Dts]
  exact ⟨_,_,rfl,by simp only [Dt],dts_intsQ ns⟩
theorem end_sp {K:PySem.W.Frag}{sp:PSp}{H:Hp}{a:Addr}{ns:List Int}{E:XK} (hS:SqL K H a (ns.map V.int)) (q:sp [.sq (ns.map D.int)] fun r=>r = .dat (.bl true)):spP K sp [.ref a] H (fun v _=>v = .bl true) E:=by
 refine ⟨H,[.sq (ns.map D.int)],_,Same.refl H,?_,q,fun v r F' H' g n e=>?_⟩
 ·simp only [Dts,Dt]
  exact ⟨_,_,rfl,⟨a,_,rfl,hS,dts_intsQ ns⟩,rfl⟩
 ·subst e
  have:=n.ok
  exact (show Dt K F' (.bl true) v from this)
end U
namespace U
open PySem L2
open PySem.W (HoldAll Holds minOf maxOf)
section
variable {X:Cx}
end
def dCBK (rd:List D->List D->(R->Prop)->Prop) (dr dk:DTA) (env:En) (Q:R->En->Prop):Prop:=dr env fun ds e=>dk e fun es e2=>rd ds es fun q=>Hold (fun q=>Q q e2) ⟨q⟩
section
variable {K:PySem.W.Frag}{X:Cx}{tr tk:TA}{dr dk:DTA}{e:Expr}{es:List Expr}{kws:List Keyword}{p pos:Pos}
end
theorem map_getD {α:Type}{f:α->D}{l:List α}{i:Nat}{x:D} (h:(l.map f)[i]? = some x):∃ y,l[i]? = some y/\x=f y:=by
 rw [List.getElem?_map] at h
 cases e:l[i]? with
 | none=>rw [e] at h;cases h
 | some y=>rw [e] at h;exact ⟨y,rfl,(Option.some.inj h).symm⟩
theorem eq_ints (l:List Int):eqD (.lst (l.map D.int)) (.lst (l.map D.int))=true:=by
 refine eqD_self (n:=2) ?_
 show (l.map D.int).all (nob 1)=true
 rw [List.all_eq_true]
 intro d hd
 obtain ⟨x,_,rfl⟩:=List.mem_map.mp hd
 rfl
theorem eqD_nil:eqD (.lst []) (.lst [])=true:=eq_ints []
theorem eqD_cons_nil {x:D}{xs:List D}:eqD (.lst (x :: xs)) (.lst [])=false:=by
 unfold eqD
 simp only [D.py,pys,PyData.eqv,PyData.eqvAll]
theorem cut_to {α:Type}{xs:List α}{v:Int} (h:0<=v):cutD xs none (some v)=xs.take v.toNat:=by
 unfold cutD
 have e:HT.sIx xs.length xs.length (some v)=min v.toNat xs.length:=by
  show (if v < 0 then (v+(xs.length:Int)).toNat else min v.toNat xs.length)=_
  rw [if_neg (by omega)]
 have e2:HT.sIx xs.length 0 none=0:=rfl
 rw [e,e2,List.drop_zero,Nat.sub_zero]
 by_cases hv:v.toNat<=xs.length
 ·rw [Nat.min_eq_left hv]
 ·rw [Nat.min_eq_right (by omega),List.take_length,List.take_of_length_le (by omega)]
end U
namespace U
open PySem L2
def psLaw:PSp:=fun ds Q=>∃ ns:List Int,ds=[.sq (ns.map D.int)]/\ns.length<=63/\Q (.dat (.bl true))
theorem take_snoc {α:Type}{l:List α}{i:Nat}{x:α} (h:l[i]? = some x):l.take (i+1)=l.take i ++ [x]:=by rw [List.take_add_one,h];rfl
theorem lcT {α:Type}{dg:DTG}{dt:DTT}{de:DTE}{own:List Nat}{env e0:En}{Q:R->En->Prop} (g:α->D) (l:List α) (p:α->Bool) (f:α->D) (h0:wipeE env own=e0) (hl:l.length<=100000)
  (turn:∀ (i:Nat) x,l[i]? = some x->∀ (L:Prop) (W1:D->En->Prop) (W2:En->Prop),L->(p x=true->W1 (f x) e0)->(p x=false->W2 e0)->dg (.dat (g x)) e0 fun e2=>dt e2 fun b e3=>if b=true then de e3 fun r e4=>L/\W1 r.d (wipeE e4 own) else W2 (wipeE e3 own))
  (q:Q (.own ((l.filter p).map f)) e0):dLcL (l.map g) dg dt de own env Q:=by
 refine lcL (fun i acc e=>e=e0/\acc=((l.take i).filter p).map f) ⟨h0,by simp⟩ ?_ ?_
 ·rintro i acc e x hx ⟨rfl,rfl⟩
  obtain ⟨y,hy,rfl⟩:=map_getD hx
  refine turn i y hy _ (fun d e'=>e'=e/\(((l.take i).filter p).map f) ++ [d]=((l.take (i+1)).filter p).map f) (fun e'=>e'=e/\((l.take i).filter p).map f=((l.take (i+1)).filter p).map f) ?_ ?_ ?_
  ·have h1:=get_lt hy
   have h2:((l.take i).filter p).length<=(l.take i).length:=List.length_filter_le _ _
   rw [List.length_take] at h2
   rw [List.length_map]
   omega
  ·intro hp
   refine ⟨rfl,?_⟩
   rw [take_snoc hy,List.filter_append,List.map_append]
   simp [hp]
  ·intro hp
   refine ⟨rfl,?_⟩
   rw [take_snoc hy,List.filter_append,List.map_append]
   simp [hp]
 ·rintro acc e ⟨rfl,rfl⟩
  rw [List.length_map,List.take_length]
  exact q
theorem lcM {α:Type}{dg:DTG}{dt:DTT}{de:DTE}{own:List Nat}{env e0:En}{Q:R->En->Prop} (g:α->D) (l:List α) (f:α->D) (h0:wipeE env own=e0) (hl:l.length<=100000)
  (turn:∀ (i:Nat) x,l[i]? = some x->∀ (L:Prop) (W1:D->En->Prop) (W2:En->Prop),L->W1 (f x) e0->dg (.dat (g x)) e0 fun e2=>dt e2 fun b e3=>if b=true then de e3 fun r e4=>L/\W1 r.d (wipeE e4 own) else W2 (wipeE e3 own))
  (q:Q (.own (l.map f)) e0):dLcL (l.map g) dg dt de own env Q:=
 lcT g l (fun _=>true) f h0 hl (fun i x hx L W1 W2 hL h1 _=>turn i x hx L W1 W2 hL (h1 rfl)) (by rw [List.filter_eq_self.mpr (fun _ _=>rfl)];exact q)
def tx (cs:List Nat):Str:=⟨cs.toArray⟩
theorem tx_cps (a:List Nat):(tx a).cps.toList=a:=rfl
theorem tx_of (s:Str):tx s.cps.toList=s:=rfl
theorem tx_len (a:List Nat):(tx a).length=a.length:=by simp [tx,Str.length]
theorem tx_app (a b:List Nat):tx a ++ tx b=tx (a ++ b):=by
 show (⟨a.toArray ++ b.toArray⟩:Str)=⟨(a ++ b).toArray⟩
 simp
theorem tx_inj {a b:List Nat} (h:tx a=tx b):a=b:=by
 have:=congrArg (fun s:Str=>s.cps.toList) h
 simpa [tx] using this
theorem tx_cut1 (a:List Nat):cutS (tx a) (some 1) none=tx (a.drop 1):=by
 unfold cutS
 rw [tx_cps,tx_len]
 have e:HT.sIx a.length 0 (some 1)=min 1 a.length:=by
  simp [HT.sIx]
  try omega
 have e2:HT.sIx a.length a.length none=a.length:=by simp [HT.sIx]
 rw [e,e2]
 congr 2
 cases a with
 | nil=>rfl
 | cons x a=>simp
theorem joinL0:∀ cs:List Nat,TL.joinL [] (cs.map fun c=>[c])=cs
 | []=>rfl
 | [c]=>rfl
 | c :: d :: cs=>by
  have:=joinL0 (d :: cs)
  simp only [List.map_cons] at this ⊢
  simp [TL.joinL,this]
theorem tx_join0 (cs:List Nat):Txt.join (tx []) (cs.map fun c=>tx [c])=tx cs:=by
 have h:=SX.join_S [] (cs.map fun c=>[c])
 rw [List.map_map,joinL0] at h
 exact h
def lc (c:Nat):Prop:=97<=c/\c<=122
def IsNm (w:Str):Prop:=∃ cs,w=tx cs/\1<=cs.length/\cs.length<=8/\∀ c∈cs,lc c
theorem strOk_tx {cs:List Nat} (h:∀ c∈cs,lc c):PyData.strOk (tx cs)=true:=by
 unfold PyData.strOk tx
 rw [List.all_toArray,List.all_eq_true]
 intro c hc
 have:=(h c hc).2
 exact decide_eq_true (by omega)
theorem IsNm.ok {w:Str} (h:IsNm w):PyData.strOk w=true:=by
 obtain ⟨cs,rfl,_,_,h⟩:=h
 exact strOk_tx h
theorem IsNm.len {w:Str} (h:IsNm w):w.length<=8:=by
 obtain ⟨cs,rfl,_,h,_⟩:=h
 rw [tx_len];exact h
def letters:List Nat:=(List.range 26).map (· + 97)
theorem letters_lc:∀ c∈letters,lc c:=fun c hc=>by
 obtain ⟨k,hk,rfl⟩:=List.mem_map.mp hc
 have:=List.mem_range.mp hk
 constructor <;> omega
theorem letters_eq:(Str.ofString "abcdefghijklmnopqrstuvwxyz")=tx letters:=by decide +kernel
theorem letter_at {v:Int}{P:Nat->Prop} (h0:0<=v) (h1:v < 26) (q:∀ c,lc c->P c):∃ c,atI (tx letters).cps.toList v=some c/\P c:=by
 rw [tx_cps]
 have hl:letters.length=26:=by decide
 refine ⟨_,atI_nn h0 (by rw [hl];exact h1),q _ ?_⟩
 simp only [letters,List.getElem_map,List.getElem_range]
 constructor <;> omega
theorem strs_sh {n:Nat}{ws:List Str} (h:∀ w∈ws,PyData.strOk w=true):(ws.map D.str).all (sh n)=true:=all_sh_map fun x hx=>by rw [sh_str];exact h x hx
theorem inD_strs (w:Str) (ws:List Str):inD (.str w) (ws.map D.str)=decide (w∈ws):=by
 unfold inD
 rw [Bool.eq_iff_iff,List.any_map,List.any_eq_true,decide_eq_true_eq]
 constructor
 ·rintro ⟨x,hx,h⟩
  have h:eqD (.str x) (.str w)=true:=h
  rw [eqD_str,decide_eq_true_eq] at h
  rw [<-h];exact hx
 ·intro h
  exact ⟨w,h,by show eqD (.str w) (.str w)=true;rw [eqD_str];simp⟩
theorem nodup_len {α:Type} [BEq α] [LawfulBEq α]:∀ {l m:List α},l.Nodup->(∀ x∈l,x∈m)->l.length<=m.length
 | [],_,_,_=>Nat.zero_le _
 | x :: l,m,hd,hs=>by
  have hx:=hs x (List.mem_cons_self ..)
  obtain ⟨h1,h2⟩:=List.nodup_cons.mp hd
  have:=nodup_len (l:=l) (m:=m.erase x) h2 fun y hy=>(List.mem_erase_of_ne (fun e:y=x=>h1 (by rw [<-e];exact hy))).mpr (hs y (List.mem_cons_of_mem _ hy))
  rw [List.length_erase_of_mem hx] at this
  have hp:0 < m.length:=List.length_pos_of_mem hx
  rw [List.length_cons]
  omega
theorem fresh_letter {ws:List Str} (hl:ws.length < 26) (t:List Nat):∃ c r,(letters.filter fun c=>!decide (tx (c :: t)∈ws))=c :: r/\lc c/\tx (c :: t) ∉ ws:=by
 have hlet:=letters_lc
 have hmem:∀ c,c∈(letters.filter fun c=>!decide (tx (c :: t)∈ws))->c∈letters/\tx (c :: t) ∉ ws:=fun c hc=>by
  have:=List.mem_filter.mp hc
  exact ⟨this.1,by simpa using this.2⟩
 cases e:letters.filter fun c=>!decide (tx (c :: t)∈ws) with
 | nil=>
  exfalso
  have hn:(letters.map fun c=>tx (c :: t)).Nodup:=by
   have h1:letters.Nodup:=by decide
   refine List.Pairwise.map _ (fun a b hab h=>hab ?_) h1
   have:=tx_inj h
   exact (List.cons.inj this).1
  have:=nodup_len hn (m:=ws) fun x hx=>by
   obtain ⟨c,hc,rfl⟩:=List.mem_map.mp hx
   have h2:c ∉ (letters.filter fun c=>!decide (tx (c :: t)∈ws)):=by rw [e];simp
   rw [List.mem_filter] at h2
   by_cases h3:tx (c :: t)∈ws
   ·exact h3
   ·exact absurd ⟨hc,by simp [h3]⟩ h2
  rw [List.length_map] at this
  have h26:letters.length=26:=by decide
  omega
 | cons c r=>
  have h:=hmem c (by rw [e];exact List.mem_cons_self ..)
  exact ⟨c,r,rfl,hlet c h.1,h.2⟩
end U
namespace U
open PySem PySem.Spec PyProof.Rows L2
def nU (xs:List Str):Nat->Nat
 | 0=>0
 | i+1=>if (xs.take i).any (· == xs.getD i Str.empty) then nU xs i else nU xs i+1
section
variable {prog:Program}{w:World}{A:Around}{R:Result->Shared->Prop}{I:Addr}{fp wr:List Addr}{G:Array GenState->Array GenState->Prop}{n:Nat}{P:Nat->Value->Prop}{St:Nat->Shared->Prop}
end
section
variable {prog:Program}{w:World}{A:Around}{E:Value->Shared->Prop}{s:Shared}
end
end U
namespace U
open PySem L2 PyProof.Rows
section
variable {X:Cx}
def dLenSet (de:DTE) (env:En) (Q:R->En->Prop):Prop:=de env fun r e=>match r.d with
 | .lst xs=>∃ ws:List Str,xs=ws.map D.str/\ws.length<=1000/\Q (.dat (.int (nU ws ws.length:Nat))) e
 | .tup xs=>∃ ws:List Str,xs=ws.map D.str/\ws.length<=1000/\Q (.dat (.int (nU ws ws.length:Nat))) e
 | _=>False
end
end U
namespace U
open PySem L2 PyProof.Rows
open PySem.W (minOf maxOf DatumOrd)
def SLt (a b:Str):Prop:=a.cps.toList < b.cps.toList
instance (a b:Str):Decidable (SLt a b):=inferInstanceAs (Decidable (a.cps.toList < b.cps.toList))
theorem SLt.irrefl (a:Str):¬ SLt a a:=List.lt_irrefl _
theorem SLt.trans {a b c:Str} (h:SLt a b) (h':SLt b c):SLt a c:=List.lt_trans h h'
theorem SLt.asymm {a b:Str} (h:SLt a b):¬ SLt b a:=fun z=>SLt.irrefl a (h.trans z)
theorem str_ext {a b:Str} (h:a.cps.toList=b.cps.toList):a=b:=by
 have:tx a.cps.toList=tx b.cps.toList:=by rw [h]
 simpa [tx_of] using this
theorem SLt.tri (a b:Str):SLt a b\/a=b\/SLt b a:=by
 by_cases h:SLt a b
 ·exact .inl h
 ·by_cases h':SLt b a
  ·exact .inr (.inr h')
  ·exact .inr (.inl (str_ext (List.le_antisymm (not_lt_le h') (not_lt_le h))))
where not_lt_le {x y:List Nat} (h:¬ x < y):y<=x:=List.not_lt.mp h
def SLe (a b:Str):Prop:=¬ SLt b a
instance (a b:Str):Decidable (SLe a b):=inferInstanceAs (Decidable (¬ _))
theorem SLe.trans {a b c:Str} (h:SLe a b) (h':SLe b c):SLe a c:=fun z=>by
 rcases SLt.tri a b with x | x | x
 ·exact h' (z.trans x)
 ·subst x;exact h' z
 ·exact h x
theorem SLe.antisymm {a b:Str} (h:SLe a b) (h':SLe b a):a=b:=by
 rcases SLt.tri a b with x | x | x
 ·exact absurd x h'
 ·exact x
 ·exact absurd x h
theorem SLe.total (a b:Str):SLe a b\/SLe b a:=by
 rcases SLt.tri a b with x | x | x
 ·exact .inl x.asymm
 ·subst x;exact .inl (SLt.irrefl _)
 ·exact .inr x.asymm
theorem SLt.le {a b:Str} (h:SLt a b):SLe a b:=h.asymm
def sleB (a b:Str):Bool:=decide (SLe a b)
def srt (l:List Str):List Str:=l.mergeSort sleB
theorem srt_perm (l:List Str):(srt l).Perm l:=List.mergeSort_perm l _
theorem srt_pw (l:List Str):(srt l).Pairwise SLe:=by
 have h:=List.pairwise_mergeSort (le:=sleB) (fun a b c h h'=>decide_eq_true (SLe.trans (of_decide_eq_true h) (of_decide_eq_true h'))) (fun a b=>by
  rcases SLe.total a b with z | z
  ·simp [sleB,z]
  ·simp [sleB,z]) l
 exact h.imp fun z=>of_decide_eq_true z
theorem pw_unique:∀ {l m:List Str},l.Pairwise SLe->m.Pairwise SLe->l.Perm m->l=m
 | [],m,_,_,p=>by rw [List.nil_perm.mp p]
 | x :: l,[],_,_,p=>absurd p.length_eq (by simp)
 | x :: l,y :: m,hl,hm,p=>by
  obtain ⟨h1,h2⟩:=List.pairwise_cons.mp hl
  obtain ⟨h3,h4⟩:=List.pairwise_cons.mp hm
  have e:x=y:=by
   rcases List.mem_cons.mp (p.mem_iff.mp (List.mem_cons_self ..):x∈y :: m) with z | z
   ·exact z
   ·rcases List.mem_cons.mp (p.mem_iff.mpr (List.mem_cons_self ..):y∈x :: l) with z' | z'
    ·exact z'.symm
    ·exact SLe.antisymm (h1 y z') (h3 x z)
  subst e
  rw [pw_unique h2 h4 (List.Perm.cons_inv p)]
theorem srt_of {l m:List Str} (h:m.Pairwise SLe) (p:m.Perm l):m=srt l:=pw_unique h (srt_pw l) (p.trans (srt_perm l).symm)
theorem srt_mem {l:List Str}{x:Str}:x∈srt l ↔ x∈l:=(srt_perm l).mem_iff
theorem srt_len (l:List Str):(srt l).length=l.length:=(srt_perm l).length_eq
theorem risingS_pw:∀ {ys:List Str}{p:Str},risingS p ys=true->(p :: ys).Pairwise SLe
 | [],p,_=>by simp
 | y :: ys,p,h=>by
  simp only [risingS,Bool.and_eq_true,Bool.not_eq_true',PyProof.Rows.ltCps_eq,decide_eq_false_iff_not] at h
  have ih:=risingS_pw h.2
  have hy:SLe p y:=h.1
  refine List.pairwise_cons.mpr ⟨fun z hz=>?_,ih⟩
  rcases List.mem_cons.mp hz with rfl | hz
  ·exact hy
  ·exact hy.trans ((List.pairwise_cons.mp ih).1 z hz)
theorem sortedS_pw {ys:List Str} (h:sortedS ys=true):ys.Pairwise SLe:=by
 cases ys with
 | nil=>simp
 | cons y ys=>exact risingS_pw h
def rdSrt (ds:List D) (Q:R->Prop):Prop:=match ds with | [.lst xs]=>∃ ss:List Str,xs=ss.map D.str/\ss.length < 64/\Q (.own ((srt ss).map D.str)) | _=>False
theorem sn_srt {K:PySem.W.Frag}:SN K (rSortedS K) rdSrt:=fun F H xs dxs Q Qd s h q k=>sn_sortS F H xs dxs Q Qd s h (by
 unfold rdSrt at q
 split at q
 ·obtain ⟨ss,rfl,hl,q⟩:=q
  exact ⟨ss,rfl,hl,fun ys p so=>by rw [srt_of (sortedS_pw so) p];exact q⟩
 ·exact q.elim) k
def oS:Option Str->D
 | none=>.non
 | some s=>.str s
end U
namespace U
open PySem L2
section
variable {K:PySem.W.Frag}{X:Cx}
def dNever (D:DEnds) (env:En):Prop:=False
theorem ds_never {st:Stmt}:DS X st tNever dNever:=⟨ps_never,fun Z env tm σ H D Dd h k q=>q.elim⟩
structure Mth (P:Program) (w:World) (K:PySem.W.Frag) (mg:Str->Option Value) (base:Heap) (k:Nat) (C:Addr) (m:Str) (ps:List Str) (sp:Sp):Prop where
 ex:∃ f fd,FnOk P w K mg base CX0 k f fd ps sp/\Meth K C m f/\Binds K fd ps []
 cl:Cls K C
def dMth (C:Addr) (m:Str) (sp:PSp) (da:DTE) (dr:DTA) (env:En) (Q:R->En->Prop):Prop:=da env fun r e1=>match r.d with
 | .obj C' fs=>(C'=C/\fs.lookup m=none)/\dr e1 fun ds e2=>sp (.obj C' fs :: ds) fun q=>Hold (fun q=>Q q e2) ⟨q⟩
 | _=>False
theorem dtf_none {F:Hp}{m:Str}:∀ {fs:List (Str × D)}{ws:List (Str × V)},DtF K F fs ws->fs.lookup m=none->ws.lookup m=none
 | [],ws,h,e=>by simp only [DtF] at h;subst h;rfl
 | (f,d) :: fs,ws,h,e=>by
  simp only [DtF] at h
  obtain ⟨v,r,rfl,q,t⟩:=h
  rw [List.lookup_cons] at e ⊢
  by_cases hf:(m == f)=true
  ·rw [hf] at e;cases e
  ·rw [Bool.not_eq_true] at hf
   rw [hf] at e ⊢
   exact dtf_none t e
theorem td_one {v:V}{d:D}{vs:List V}{ds:List D}{tm:Tm}:tm ++ [(v,R.dat d)] ++ Td vs ds=tm ++ Td (v :: vs) (d :: ds):=by
 rw [td_cons,List.append_assoc];rfl
theorem se_mth {C:Addr}{m:Str}{sp:PSp}{E:XK}{ta:TE}{da:DTE}{tr:TA}{dr:DTA} (ha:SE K ta da) (hr:SA K tr dr):SE K (tMeth C m (spP K sp) [] E ta tr) (dMth C m sp da dr):=fun Z env tm σ H Q Qd h q k=>ha Z env tm σ H _ _ h q fun v r e1 H1 h1 n1 q1=>by
 have h2:=h1.frzT n1
 split at q1
 ·rename_i C' fs er
  obtain ⟨⟨rfl,hm⟩,q2⟩:=q1
  rw [er] at h2
  obtain ⟨F,h3⟩:=id h2
  obtain ⟨a,dx,ws,rfl,ha1,df⟩:=dobj h3.top
  refine ⟨a,dx,ws,rfl,h3.sub _ _ ha1,dtf_none df hm,?_⟩
  refine hr Z e1 _ σ H1 _ _ h2 q2 fun vs ds e2 H2 h4 hl q3=>?_
  rw [td_one] at h4
  obtain ⟨F2,h5⟩:=h4
  have hl2:(V.ref a :: vs).length=(D.obj C' fs :: ds).length:=by simp [hl]
  exact ⟨F2,_,_,h5.sub,by rw [List.append_nil];exact h5.dts hl2,q3,fun w q' F' H' g n q4=>k w q' e2 H' (RelF.new h5.pops g n) n.nb q4⟩
 ·exact q1.elim
theorem de_mth {k j:Nat}{C:Addr}{m:Str}{ps:List Str}{sp:PSp}{o e:Expr}{es:List Expr}{ta:TE}{da:DTE}{tr:TA}{dr:DTA}{apos pos:Pos}{pl:Sem Bool} (M:Mth X.prog X.w X.K X.mg X.base k C m ps (spP X.K sp)) (hr:Room j X.A) (ho:DE X o ta da) (ha:DA X (e :: es) tr dr) (hj:k<=j:=by decide)
  (hst:starEach (e :: es) X.env=(false,eval e X.env) :: starEach es X.env:=by rfl) (hpl:(backTo pos (starEach es X.env)).any (·.1)=false:=by rfl)
  (ht:eval (.Call (.Attribute o m apos) (e :: es) [] pos) X.env=(do
   let ov <-eval o X.env;standAt apos.atName
   let (f,first) <-holding [ov] (getMethod ov m pl)
   callWith pos f first (backTo pos (starEach (e :: es) X.env)) (backToKw pos (keywordEach [] X.env))):=by rfl) :
  DE X (.Call (.Attribute o m apos) (e :: es) [] pos) (tMeth C m (spP X.K sp) [] E0 ta tr) (dMth C m sp da dr):=by
 obtain ⟨f,fd,F,hm,hb⟩:=M.ex
 exact ⟨pe_meth ho.1 M.cl hm F (hr.mono hj) hb .nil pass0 ha.1 hst hpl ht,se_mth ho.2 ha.2⟩
theorem de_mth0 {k j:Nat}{C:Addr}{m:Str}{ps:List Str}{sp:PSp}{o:Expr}{ta:TE}{da:DTE}{apos pos:Pos}{pl:Sem Bool} (M:Mth X.prog X.w X.K X.mg X.base k C m ps (spP X.K sp)) (hr:Room j X.A) (ho:DE X o ta da) (hj:k<=j:=by decide)
  (ht:eval (.Call (.Attribute o m apos) [] [] pos) X.env=(do
   let ov <-eval o X.env;standAt apos.atName
   let (f,first) <-holding [ov] (getMethod ov m pl)
   callWith pos f first (backTo pos (starEach [] X.env)) (backToKw pos (keywordEach [] X.env))):=by rfl) :
  DE X (.Call (.Attribute o m apos) [] [] pos) (tMeth C m (spP X.K sp) [] E0 ta tNil) (dMth C m sp da dNil):=by
 obtain ⟨f,fd,F,hm,hb⟩:=M.ex
 exact ⟨pe_meth0 ho.1 M.cl hm F (hr.mono hj) hb .nil pass0 ht,se_mth ho.2 da_nil.2⟩
where da_nil:DA X [] tNil dNil:=U.da_nil
def dMkP (C:Addr) (n m:Nat) (sp:ISp) (gD:List D->List D->List D) (dr dk:DTA) (env:En) (Q:R->En->Prop):Prop:=dr env fun ds e1=>dk e1 fun es e2=>(ds.length=n/\es.length=m)/\sp (gD ds es) fun fs=>Q (.dat (.obj C fs)) e2
theorem td_app {vs ws:List V}{ds es:List D} (hl:vs.length=ds.length):Td vs ds ++ Td ws es=Td (vs ++ ws) (ds ++ es):=by
 unfold Td
 rw [List.map_append,List.zip_append (by simp [hl])]
theorem se_mkP {C:Addr}{n m:Nat}{sp:ISp}{gD:List D->List D->List D}{gV:List V->List V->List V}{gZ:List V->List V->List V}{E:XK}{tr tk:TA}{dr dk:DTA} (hg:∀ x vs zs,vs.length=n->zs.length=m->gV (.ref x :: vs) zs = .ref x :: gZ vs zs) (hd:∀ F ds es vs zs,ds.length=n->es.length=m->Dts K F ds vs->Dts K F es zs->Dts K F (gD ds es) (gZ vs zs)) (hr:SA K tr dr) (hk:SA K tk dk):SE K (tMakeK C n m (spI K C sp) gV E tr tk) (dMkP C n m sp gD dr dk):=fun Z env tm σ H Q Qd h q k=>hr Z env tm σ H _ _ h q fun vs ds e1 H1 h1 hl q1=>hk Z e1 _ σ H1 _ _ h1 q1 fun zs es e2 H2 h2 hl2 ⟨⟨q0,q00⟩,q2⟩=>by
 rw [List.append_assoc,td_app hl] at h2
 obtain ⟨F,h3⟩:=h2
 have hl3:(vs ++ zs).length=(ds ++ es).length:=by simp [hl,hl2]
 have dall:=h3.dts hl3
 have d1:Dts K F ds vs:=by
  have:=dall.take ds.length
  rwa [List.take_left,<-hl,List.take_left] at this
 have d2:Dts K F es zs:=by
  have:=dall.drop ds.length
  rwa [List.drop_left,<-hl,List.drop_left] at this
 refine ⟨hl.trans q0,hl2.trans q00,fun x dx nx nd ne=>?_⟩
 have s1:Same F (upd (upd H2 dx (.own x)) x (.ins C dx [])):=fun a o ea=>by
  have:=h3.sub a o ea
  rw [upd_ne (ne_of_none this nx),upd_ne (ne_of_none this nd)];exact this
 refine ⟨x,dx,gZ vs zs,F,gD ds es,_,hg x vs zs (hl.trans q0) (hl2.trans q00),h3.sub.free nx,upd_same,s1,hd F ds es vs zs q0 q00 d1 d2,q2,fun fs dx' fws F' H' g hx dv q3=>⟨rfl,?_⟩⟩
 obtain ⟨g',d'⟩:=made_grow h3.sub nx nd g hx dv
 exact k _ _ e2 H' (RelF.new h3.pops g' (RNew.dat d')) rfl q3
theorem de_mkP {k n:Nat}{f C:Addr}{fd:FuncData}{ps ks:List Str}{sp:ISp}{x:Str}{p pos:Pos}{e:Expr}{es:List Expr}{kws:List Keyword}{g:List Value->List Value->List Value}{gV:List V->List V->List V}{gD:List D->List D->List D}{gZ:List V->List V->List V}{tr tk:TA}{dr dk:DTA} (M:Mk X.K C f) (F:FnOk X.prog X.w X.K X.mg X.base CX0 k f fd ps (spI X.K C sp)) (hr:Room (k+1) X.A) (hm:X.mg x=some (.ref C)) (hb:KBn X.K fd ps (n+1) ks g gV)
  (hg:∀ x vs zs,vs.length=n->zs.length=ks.length->gV (.ref x :: vs) zs = .ref x :: gZ vs zs) (hd:∀ F ds es vs zs,ds.length=n->es.length=ks.length->Dts X.K F ds vs->Dts X.K F es zs->Dts X.K F (gD ds es) (gZ vs zs)) (ha:DA X (e :: es) tr dr) (hkw:DKw X kws tk dk) (hgl:Gl X x:=by rfl)
  (hall:(backToKw pos (keywordEach kws X.env)).all (·.1.isSome)=true:=by rfl) (hks:(backToKw pos (keywordEach kws X.env)).filterMap (·.1)=ks:=by rfl) (hdb:(x == ("__debug__" : Str))=false:=by decide)
  (he:starEach (e :: es) X.env=(false,eval e X.env) :: starEach es X.env:=by rfl) (hpl:((backTo pos (starEach (e :: es) X.env)).any (·.1) || (backToKw pos (keywordEach kws X.env)).any (·.1.isNone))=false:=by rfl) :
  DE X (.Call (.Name x p) (e :: es) kws pos) (tMakeK C n ks.length (spI X.K C sp) gV E0 tr tk) (dMkP C n ks.length sp gD dr dk):=⟨pe_makeK M F hr hgl hm hb pass0 ha.1 hkw.1 hall hks hdb he hpl,se_mkP hg hd ha.2 hkw.2⟩
def dMk1 (C:Addr) (sp:ISp) (dr:DTA) (env:En) (Q:R->En->Prop):Prop:=dr env fun ds e=>sp ds fun fs=>Q (.dat (.obj C fs)) e
theorem se_mk1 {C:Addr}{sp:ISp}{E:XK}{tr:TA}{dr:DTA} (hr:SA K tr dr):SE K (tMake C (spI K C sp) [] E tr) (dMk1 C sp dr):=fun Z env tm σ H Q Qd h q k=>hr Z env tm σ H _ _ h q fun vs ds e H1 ⟨F,h1⟩ hl q1 x dx nx nd ne=>by
 have s1:Same F (upd (upd H1 dx (.own x)) x (.ins C dx [])):=fun a o ea=>by
  have:=h1.sub a o ea
  rw [upd_ne (ne_of_none this nx),upd_ne (ne_of_none this nd)];exact this
 refine ⟨x,dx,vs,F,ds,_,by rw [List.append_nil],h1.sub.free nx,upd_same,s1,h1.dts hl,q1,fun fs dx' fws F' H' g hx dv q3=>⟨rfl,?_⟩⟩
 obtain ⟨g',d'⟩:=made_grow h1.sub nx nd g hx dv
 exact k _ _ e H' (RelF.new h1.pops g' (RNew.dat d')) rfl q3
theorem de_mk1 {k:Nat}{f C:Addr}{fd:FuncData}{ps:List Str}{sp:ISp}{x:Str}{p pos:Pos}{e:Expr}{es:List Expr}{tr:TA}{dr:DTA} (M:Mk X.K C f) (F:FnOk X.prog X.w X.K X.mg X.base CX0 k f fd ps (spI X.K C sp)) (hr:Room (k+1) X.A) (hm:X.mg x=some (.ref C)) (hb:Binds X.K fd ps []) (ha:DA X (e :: es) tr dr) (hgl:Gl X x:=by rfl) (hdb:(x == ("__debug__" : Str))=false:=by decide)
  (he:starEach (e :: es) X.env=(false,eval e X.env) :: starEach es X.env:=by rfl) (hpl:(backTo pos (starEach es X.env)).any (·.1)=false:=by rfl):DE X (.Call (.Name x p) (e :: es) [] pos) (tMake C (spI X.K C sp) [] E0 tr) (dMk1 C sp dr):=⟨pe_make M F hr hgl hm hb .nil pass0 ha.1 hdb he hpl,se_mk1 ha.2⟩
def rSortDK:List V->Hp->VK->Prop:=fun xs H Q=>∃ (a:Addr) (kvs:List (Key × V)) (ks:List Str),xs=[.ref a]/\Rd H a (.dK kvs)/\kvs.map (·.1)=ks.map Sum.inr/\ks.length < 64/\∀ (ys:List Str) p,ys.Perm ks->PyProof.Rows.sortedS ys=true->H p=none->Q (.ref p) (upd H p (.lst (ys.map V.str)))
def rdSortDK (ds:List D) (Q:R->Prop):Prop:=match ds with | [.dK kvs]=>∃ ks:List Str,kvs.map (·.1)=ks.map Sum.inr/\ks.length < 64/\Q (.own ((srt ks).map D.str)) | _=>False
theorem sn_sortDK:SN K rSortDK rdSortDK:=by
 intro F H xs dxs Q Qd s h q k
 unfold rdSortDK at q
 split at q
 ·rename_i kvs
  obtain ⟨ks,ek,hl,q⟩:=q
  obtain ⟨v,rfl,d1⟩:=dts1 h
  obtain ⟨a,od,vs,rfl,ha,dv⟩:=ddK d1
  refine ⟨a,vs,ks,rfl,.inr ⟨od,s _ _ ha⟩,(dtk_keys dv).trans ek,hl,fun ys p pe so np=>?_⟩
  rw [srt_of (sortedS_pw so) pe]
  exact k _ _ F _ (Grow.pure (Same.new1 np) s) (RNew.own np s upd_same strs_dts) q
 ·exact q.elim
def rSorted2 (K:PySem.W.Frag):List V->Hp->VK->Prop:=fun xs H Q=>rSortedS K xs H Q\/rSortDK xs H Q
def rdSorted2 (ds:List D) (Q:R->Prop):Prop:=match ds with
 | [.lst xs]=>∃ ss:List Str,xs=ss.map D.str/\ss.length < 64/\Q (.own ((srt ss).map D.str))
 | [.dK kvs]=>∃ ks:List Str,kvs.map (·.1)=ks.map Sum.inr/\ks.length < 64/\Q (.own ((srt ks).map D.str))
 | _=>False
theorem sn_sorted2:SN K (rSorted2 K) rdSorted2:=fun F H xs dxs Q Qd s h q k=>by
 unfold rdSorted2 at q
 split at q
 ·exact .inl (sn_srt F H xs _ Q Qd s h q k)
 ·exact .inr (sn_sortDK F H xs _ Q Qd s h q k)
 ·exact q.elim
def tLock (t:TS):TS:=fun D σ H=>t { D with nx:=fun σ' H'=>∃ d u,H' d=some u/\Mut (some u)/\∀ od,D.nx σ' (upd H' d (.frz od u)) } σ H
theorem pss_lock {sts:List Stmt}{t:TS} (h:PSs X sts t):PSs X sts (tLock t):=⟨fun pins s σ H D I q=>thn (h.run pins s σ H _ I q) fun r s1 z=>by
 cases r with
 | next=>
  obtain ⟨σ',H',I',d,u,hd,mu,q'⟩:=z
  obtain ⟨od,I2⟩:=I'.lock hd mu
  exact ⟨σ',_,I2,q' od⟩
 | brk=>exact z
 | cont=>exact z
 | ret u=>exact z⟩
def dgNameF (i:Nat) (r:R) (env:En) (Q:En->Prop):Prop:=Q (env.set i (some (.dat r.d)))
theorem sg_nameF {own:List Nat}{i:Nat} (hi:i∈own):SG K own (gName i) (dgNameF i):=fun Z env tm σ H v r Q Qd h nb q k=>k _ _ H ((h.frzT nb).asg' rfl) (wipe_set hi) q
theorem ds_setF {i:Nat}{x:Str}{pos pos':Pos}{e:Expr}{te:TE}{de:DTE} (hN:X.N.Nodup) (hi:X.N[i]? = some x) (hx:Loc X.env.scope x) (he:DE X e te de) (hs:swapsWith e (some (.Name x pos')) pos.line X.env=pure false:=by rfl) (hf:X.fn x=true\/X.env.scope.names.lookup x=some .local:=by first | exact .inl rfl | exact .inr rfl | assumption) :
  DS X (.Assign [.Name x pos'] e pos) (tAsg te (gName i)) (dAsg de (dgNameF i)):=⟨ps_set hN hi hx he.1 hs hf,ss_asg (own:=[i]) he.2 (sg_nameF (by simp))⟩
section
variable {tg:Expr}{wi:TI}{di:DTI}{pos:Pos}
theorem ds_setLcF {i:Nat}{y:Str}{py spos:Pos}{elt iter:Expr}{ifs:List Expr}{scope:Scope}{own:List (Str × Nat)}{g:Fm TG}{dg:Fm DTG}{t:Fm TT}{dt:Fm DTT}{te:Fm TE}{de:Fm DTE} (hc:X.calm=true) (hN:X.N.Nodup) (hy:X.N[i]? = some y) (hyl:X.env.scope.names.lookup y=some .local)
  (hsw:swapsWith (.ListComp elt [⟨tg,iter,ifs,0⟩] scope pos) (some (.Name y py)) spos.line X.env=pure true) (hi:DI X tg iter wi di) (ok:BlkOk X.N X.env.scope scope own)
  (hg:∀ (s:Shared) (H:Hp) (C:Addr) (cl:List (Str × Addr)) (fp:List Addr),DG (X.blk s H scope (compEnvC scope cl C X.env) fp) (own.map (·.2)) tg (g s H C cl fp) (dg s H C cl fp)) (ht:∀ (s:Shared) (H:Hp) (C:Addr) (cl:List (Str × Addr)) (fp:List Addr),DTs (X.blk s H scope (compEnvC scope cl C X.env) fp) ifs (t s H C cl fp) (dt s H C cl fp))
  (he:∀ (s:Shared) (H:Hp) (C:Addr) (cl:List (Str × Addr)) (fp:List Addr),DE (X.blk s H scope (compEnvC scope cl C X.env) fp) elt (te s H C cl fp) (de s H C cl fp))
  (eg:∀ s H C cl fp,g s H C cl fp=g X.s_0 X.H_0 0 [] []:=by intros;rfl) (et:∀ s H C cl fp,t s H C cl fp=t X.s_0 X.H_0 0 [] []:=by intros;rfl) (ee:∀ s H C cl fp,te s H C cl fp=te X.s_0 X.H_0 0 [] []:=by intros;rfl)
  (hs:∀ x,foldedSetIterable iter X.env x=pure x:=by intro _;rfl) :
  DS X (.Assign [.Name y py] (.ListComp elt [⟨tg,iter,ifs,0⟩] scope pos) spos) (tAsg (tLc wi (g X.s_0 X.H_0 0 [] []) (t X.s_0 X.H_0 0 [] []) (te X.s_0 X.H_0 0 [] []) (own.map (·.2))) (gName i)) (dAsg (dLc di (dg X.s_0 X.H_0 0 [] []) (dt X.s_0 X.H_0 0 [] []) (de X.s_0 X.H_0 0 [] []) (own.map (·.2))) (dgNameF i)):=
 ⟨ps_setLc hc hN hy hyl hsw hi.1 ok (fun s H C cl fp=>eg s H C cl fp ▸ (hg s H C cl fp).1) (fun s H C cl fp=>et s H C cl fp ▸ (ht s H C cl fp).1) (fun s H C cl fp=>ee s H C cl fp ▸ (he s H C cl fp).1) hs,ss_asg (own:=[i]) (se_lc hi.2 (hg X.s_0 X.H_0 0 [] []).2 (ht X.s_0 X.H_0 0 [] []).2 (he X.s_0 X.H_0 0 [] []).2) (sg_nameF (by simp))⟩
end
theorem ds_tgt {own:List Nat}{tg e:Expr}{te:TE}{de:DTE}{g:TG}{dg:DTG}{pos:Pos} (he:DE X e te de) (hg:DG X own tg g dg) (hs:swapsWithSole [tg] e pos.line X.env=pure false:=by rfl) (hw:swappedStores [tg] e X.env=pure none:=by rfl) (h1:(assignEach [tg] X.env).map (·.2)=[assign tg X.env]:=by rfl) :
  DS X (.Assign [tg] e pos) (tAsg te g) (dAsg de dg):=⟨ps_asg he.1 hg.1 hs hw h1,ss_asg he.2 hg.2⟩
theorem cr_sorted2 (hc:X.calm=true):CallR X (.builtin "sorted") (rSorted2 X.K):=CallR.orr cr_sortedS (call_sortedD hc)
end
end U
namespace U
open PySem L2
section
variable {K:PySem.W.Frag}{X:Cx}
def dAsg2 (de:DTE) (i j:Nat) (D:DEnds) (env:En):Prop:=de env fun r e=>D.nx ((e.set i (some (.dat r.d))).set j (some (.dat r.d)))
def dSetDc (i:Nat) (de:DTE) (D:DEnds) (env:En):Prop:=de env fun r e=>match r.d with
 | .dK kvs=>D.nx (e.set i (some (.oK kvs)))
 | _=>False
def dIndex (da de:DTE) (env:En) (Q:R->En->Prop):Prop:=da env fun r e1=>match r.d with
 | .lst xs=>de e1 fun q e2=>match q.d with
  | .str y=>∃ (ws:List Str) (j:Nat),xs=ws.map D.str/\ws[j]? = some y/\(∀ m,m < j->ws[m]? ≠ some y)/\Q (.dat (.int (j:Nat))) e2
  | _=>False
 | _=>False
end
end U
namespace U
open PySem L2
def keysD:List D->Option (List Key)
 | []=>some []
 | d :: ds=>match keyD d,keysD ds with
  | some k,some ks=>some (k :: ks)
  | _,_=>none
def tkD:D->Option (List Key)
 | .tup (d :: ds)=>keysD (d :: ds)
 | _=>none
def kT (ks:List Key):D:=.tup (ks.map kD)
theorem tkD_2 {a b:Str}:tkD (.tup [.str a,.str b])=some [.inr a,.inr b]:=rfl
section
variable {K:PySem.W.Frag}{X:Cx}{a b e tg:Expr}{pos:Pos}{ta tb te:TE}{da db de:DTE}
theorem kDt {F:Hp} (k:Key):Dt K F (kD k) (kV k):=by cases k <;> simp only [kD,kV,Dt]
theorem kDts {F:Hp}:∀ ks:List Key,Dts K F (ks.map kD) (ks.map kV)
 | []=>.nil
 | k :: ks=>.cons (kDt k) (kDts ks)
theorem keysV {F:Hp}:∀ {ds:List D}{ks:List Key}{vs:List V},keysD ds=some ks->Dts K F ds vs->vs=ks.map kV
 | [],ks,vs,e,h=>by cases e;simp only [Dts] at h;subst h;rfl
 | d :: ds,ks,vs,e,h=>by
  simp only [Dts] at h
  obtain ⟨v,r,rfl,q,t⟩:=h
  unfold keysD at e
  split at e
  ·rename_i k ks' e1 e2
   cases e
   rw [List.map_cons,keyV e1 q,keysV e2 t]
  ·cases e
theorem tkV {F:Hp}{d:D}{v:V}{ks:List Key} (e:tkD d=some ks) (h:Dt K F d v):∃ b,v = .ref b/\F b=some (.tup (ks.map kV)):=by
 unfold tkD at e
 split at e
 ·obtain ⟨b,vs,rfl,hb,dv⟩:=dtupS h
  have:=keysV e dv
  rcases hb with hb | ⟨z,_⟩
  ·rw [<-this];exact ⟨b,rfl,hb⟩
  ·subst z
   have:=dv.len
   cases this
 ·cases e
theorem kTt {F:Hp}{b:Addr}{ks:List Key} (h:F b=some (.tup (ks.map kV))):Dt K F (kT ks) (.ref b):=by
 unfold kT
 simp only [Dt]
 exact ⟨b,_,rfl,.inl h,kDts ks⟩
theorem dtt_keys {F:Hp}:∀ {kvs:List (List Key × D)}{ws:List (List Key × V)},DtT K F kvs ws->ws.map (·.1)=kvs.map (·.1)
 | [],ws,h=>by simp only [DtT] at h;subst h;rfl
 | (k,x) :: kvs,ws,h=>by
  simp only [DtT] at h
  obtain ⟨v,r,rfl,_,t⟩:=h
  simp only [List.map_cons,dtt_keys t]
def dSetDT (i:Nat) (D:DEnds) (env:En):Prop:=D.nx (env.set i (some (.oT [])))
def dDputT (i:Nat) (dk dv:DTE) (D:DEnds) (env:En):Prop:=dv env fun r e1=>match e1[i]? with
 | some (some (.oT _))=>dk e1 fun q e2=>match e2[i]? with
  | some (some (.oT kvs))=>match tkD q.d with
   | some k=>kvs.length < 100000/\D.nx (e2.set i (some (.oT (putDK kvs k r.d))))
   | none=>False
  | _=>False
 | _=>False
def dPkDgetT (i:Nat) (db:DTE) (env:En) (Q:R->En->Prop):Prop:=match env[i]? with
 | some (some (.oT _))=>db env fun y e=>match e[i]? with
  | some (some (.oT kvs))=>match tkD y.d with | some k=>∃ d,getD? kvs k=some d/\Q (.dat d) e | none=>False
  | _=>False
 | _=>False
def dPkDinT (neg:Bool) (i:Nat) (da:DTE) (env:En) (Q:R->En->Prop):Prop:=da env fun y e=>match e[i]? with
  | some (some (.oT kvs))=>match tkD y.d with | some k=>Q (.dat (.bl (if neg then !(getD? kvs k).isSome else (getD? kvs k).isSome))) e | none=>False
  | _=>False
def dPkListT (i:Nat) (env:En) (Q:R->En->Prop):Prop:=match env[i]? with
 | some (some (.oT kvs))=>Q (.own (kvs.map fun p=>kT p.1)) env
 | _=>False
end
end U
namespace U
open PySem L2
section
variable {K:PySem.W.Frag}{X:Cx}{a b e tg:Expr}{pos:Pos}{ta tb te:TE}{da db de:DTE}
def rdDgetT (x y:D) (Q:R->Prop):Prop:=match x with
 | .dT kvs=>match tkD y with | some k=>∃ d,getD? kvs k=some d/\Q (.dat d) | none=>False
 | _=>False
def rdDinT (neg:Bool) (y x:D) (Q:R->Prop):Prop:=match x with
 | .dT kvs=>match tkD y with | some k=>Q (.dat (.bl (if neg then !(getD? kvs k).isSome else (getD? kvs k).isSome))) | none=>False
 | _=>False
def dLkT (i:Nat) (env:En) (Q:R->En->Prop):Prop:=match env[i]? with
 | some (some (.oT kvs))=>Q (.dat (.dT kvs)) (env.set i none)
 | _=>False
def diKT (de:DTE) (env:En) (Q:List D->En->Prop):Prop:=de env fun r e=>match r.d with | .dT kvs=>Q (kvs.map fun p=>kT p.1) e | _=>False
end
end U
namespace U
open PySem PySem.Spec PyProof.Rows L2 SrtO
def ltp (p q:Str × Str):Bool:=if p.1=q.1 then decide (SLt p.2 q.2) else decide (SLt p.1 q.1)
theorem ltp_iff {p q:Str × Str}:ltp p q=true ↔ SLt p.1 q.1\/(p.1=q.1/\SLt p.2 q.2):=by
 unfold ltp
 by_cases h:p.1=q.1
 ·rw [if_pos h,decide_eq_true_eq]
  exact ⟨fun z=>.inr ⟨h,z⟩,fun z=>z.elim (fun z=>absurd z (by rw [h];exact SLt.irrefl _)) fun z=>z.2⟩
 ·rw [if_neg h,decide_eq_true_eq]
  exact ⟨.inl,fun z=>z.elim id fun z=>absurd z.1 h⟩
theorem ltp_no {p q:Str × Str}:ltp p q=false ↔ ¬ (SLt p.1 q.1\/(p.1=q.1/\SLt p.2 q.2)):=by rw [<-ltp_iff,Bool.not_eq_true]
theorem ltp_irrefl (p:Str × Str):ltp p p=false:=ltp_no.mpr fun z=>z.elim (SLt.irrefl _) fun z=>SLt.irrefl _ z.2
theorem ltp_trans {p q r:Str × Str} (h:ltp p q=true) (h':ltp q r=true):ltp p r=true:=by
 rw [ltp_iff] at *
 rcases h with h | ⟨e,h⟩ <;> rcases h' with h' | ⟨e',h'⟩
 ·exact .inl (h.trans h')
 ·exact .inl (by rw [<-e'];exact h)
 ·exact .inl (by rw [e];exact h')
 ·exact .inr ⟨e.trans e',h.trans h'⟩
theorem ltp_tri (p q:Str × Str):ltp p q=true\/p=q\/ltp q p=true:=by
 rcases SLt.tri p.1 q.1 with h | h | h
 ·exact .inl (ltp_iff.mpr (.inl h))
 ·rcases SLt.tri p.2 q.2 with h' | h' | h'
  ·exact .inl (ltp_iff.mpr (.inr ⟨h,h'⟩))
  ·exact .inr (.inl (Prod.ext h h'))
  ·exact .inr (.inr (ltp_iff.mpr (.inr ⟨h.symm,h'⟩)))
 ·exact .inr (.inr (ltp_iff.mpr (.inl h)))
theorem swo_ltp (k:Value->Str × Str):Swo fun v u=>ltp (k v) (k u):=by
 refine ⟨fun x y h=>?_,fun x y z h1 h2=>?_⟩
 ·cases e:ltp (k y) (k x) with
  | false=>rfl
  | true=>have:=ltp_trans h e;rw [ltp_irrefl] at this;cases this
 ·cases e:ltp (k z) (k x) with
  | false=>rfl
  | true=>
   exfalso
   rcases ltp_tri (k x) (k y) with a | a | a
   ·have:=ltp_trans e a;rw [this] at h2;cases h2
   ·rw [a] at e;rw [e] at h2;cases h2
   ·rw [a] at h1;cases h1
def IsPr (h:Heap) (v:Value) (p:Str × Str):Prop:=∃ a o t u n,v = .ref a/\h.get? a=some o/\o.cls = .type "tuple"/\o.data = .seq #[.str p.1 t,.str p.2 u] n
theorem IsPr.keeps {h h':Heap}{v:Value}{p:Str × Str} (q:IsPr h v p) (k:∀ b o,h.get? b=some o->o.cls = .type "tuple"->h'.get? b=some o):IsPr h' v p:=by
 obtain ⟨a,o,t,u,n,e,ho,hc,hd⟩:=q
 exact ⟨a,o,t,u,n,e,k _ _ ho hc,hc,hd⟩
theorem prs_first {h:Heap}:∀ {vs:List Value},(∀ v∈vs,∃ p,IsPr h v p)->∃ fs:List Value,PySem.W.KatTups h vs fs/\fs.length=vs.length/\∀ f∈fs,∃ x t,f=Value.str x t
 | [],_=>⟨[],.nil,rfl,by simp⟩
 | v :: vs,hp=>by
  obtain ⟨fs,g1,g2,g3⟩:=prs_first (vs:=vs) fun z hz=>hp z (List.mem_cons_of_mem _ hz)
  obtain ⟨p,a,o,t,u,n,rfl,ho,hc,hd⟩:=hp v (List.mem_cons_self ..)
  exact ⟨.str p.1 t :: fs,.cons ho hc hd rfl g1,by simp [g2],fun f hf=>(List.mem_cons.mp hf).elim (fun e=>⟨p.1,t,e⟩) (g3 f)⟩
section
variable {prog:Program}{w:World}{A:Around}{E:Value->Shared->Prop}{s:Shared}
theorem prs_cmp {vs:List Value}{k:Value->Str × Str} (hp:∀ v∈vs,IsPr s.heap v (k v)):Cmp prog w A s (tuples' true) (fun p=>p.1∈vs) (lt2 fun v u=>ltp (k v) (k u)):=by
 intro p q hm hm'
 obtain ⟨a,o,t,u,n,e,ho,hc,hd⟩:=hp _ hm
 obtain ⟨a',o',t',u',n',e',ho',hc',hd'⟩:=hp _ hm'
 show wpAny (model prog w) A (keyLt' (tuples' true) p.1 q.1) (fun r s'=>s'=s/\r=ltp (k p.1) (k q.1)) (fun _ _=>False) s
 generalize k p.1=x at hd ⊢
 generalize k q.1=y at hd' ⊢
 obtain ⟨x1,x2⟩:=x
 obtain ⟨y1,y2⟩:=y
 simp only at hd hd'
 rw [e,e']
 refine PySem.W.kat_lt ho hd ho' hd' ?_
 show PySem.W.KatLex prog w A true (decide (2 < 2)) _ [(.str x1 t,.str y1 t'),(.str x2 u,.str y2 u')] 0 s
 refine PySem.W.kat_cons (SeqAt.EqAt.str_str x1 t y1 t' prog w _ _ (PySem.W.kat_go (fun g1=>?_) (fun g1=>?_)))
 ·have ex:x1=y1:=by simpa using g1
  subst ex
  have e3:ltp (x1,x2) (x1,y2)=decide (SLt x2 y2):=if_pos rfl
  refine PySem.W.kat_yes (PySem.W.kat_cons (SeqAt.EqAt.str_str x2 u y2 u' prog w _ _ (PySem.W.kat_go (fun g2=>?_) (fun g2=>?_))))
  ·have ey:x2=y2:=by simpa using g2
   subst ey
   exact PySem.W.kat_yes (PySem.W.kat_nil ⟨rfl,(ltp_irrefl _).symm⟩)
  ·refine PySem.W.kat_no (PySem.W.kat_one _ _ (PyProof.Rows.lt_str ?_))
   exact ⟨rfl,e3.symm⟩
 ·have ex:¬ x1=y1:=by simpa using g1
  have e3:ltp (x1,x2) (y1,y2)=decide (SLt x1 y1):=if_neg ex
  exact PySem.W.kat_no (oneLt_str ⟨rfl,e3.symm⟩)
theorem prs_sortable {a:Addr}{vs:List Value}{k:Value->Str × Str} (h0:0 < vs.length) (hp:∀ v∈vs,IsPr s.heap v (k v)) (ha:∀ o,s.heap.get? a=some o->o.cls ≠ .type "tuple"):SortableO prog w A s a vs fun v u=>ltp (k v) (k u):=fun h' keep=>by
 have hp':∀ v∈vs,IsPr h' v (k v):=fun v hm=>(hp v hm).keeps fun b o e c=>keep b o (fun z=>by subst z;exact ha o e c) e
 obtain ⟨fs,g1,g2,g3⟩:=prs_first fun v hm=>⟨_,hp' v hm⟩
 refine ⟨tuples' true,fun Q E hq=>PySem.W.kat_kind (T:=.type "str") g1 (by omega) (fun f hm=>?_) (by rfl) ?_,prs_cmp hp'⟩
 ·obtain ⟨x,t,rfl⟩:=g3 f hm
  exact PySem.W.Looks.now
 ·rw [show (Value.type "str" != Value.type "tuple")=true by first | decide +kernel | rfl]
  exact hq
theorem prs_sorted {l:Addr}{vs:List Value}{k:Value->Str × Str}{Q:Value->Shared->Prop} (hl:s.heap.IsList l vs.toArray) (hz:vs.length<=sizeLine) (hp:∀ v∈vs,IsPr s.heap v (k v))
  (h:∀ (h':Heap) (d:Addr) (out:List Value),Srtd (fun v u=>ltp (k v) (k u)) out->out.Perm vs->(∀ b o,s.heap.get? b=some o->h'.get? b=some o)->s.heap.objs.size<=d->(∃ n,h'.get? d=some (seqObj "list" out.toArray n))->Q (.ref d) { s with heap:=h' }) :
  wpAny (model prog w) A (call (.builtin "sorted") [.ref l]) Q E s:=by
 refine sorted_ord (swo_ltp k) hl hz (fun h2 h₁ a ha kk=>prs_sortable (s:={ s with heap:=h₁ }) (by omega) (fun v hm=>(hp v hm).keeps fun b o e _=>(kk b o e).2) fun o e=>?_) fun out hs hb=>h _ _ out hs hb.perm (fun b o e=>sortedAll_old e) (Nat.le_succ _) (sortedAll_at s.heap vs out.toArray)
 cases e.symm.trans ha
 intro c
 exact absurd (Value.type.inj c) (by decide)
end
def ltV (k:V->Str × Str):V->V->Bool:=fun x y=>ltp (k x) (k y)
def rSortPr (K:PySem.W.Frag):List V->Hp->VK->Prop:=fun vs H Q=>∃ (a:Addr) (xs:List V) (k:V->Str × Str),vs=[V.ref a]/\SqL K H a xs/\(∀ x∈xs,∃ t,x=V.ref t/\H t=some (.tup [.str (k x).1,.str (k x).2]))/\∀ ys p,Srtd (ltV k) ys->ys.Perm xs->H p=none->Q (.ref p) (upd H p (.lst ys))
theorem cr_sortPr {X:Cx}:CallR X (.builtin "sorted") (rSortPr X.K):=by
 intro pins s σ H vs us Q I r h
 obtain ⟨a,xs,k,rfl,hs,hx,q⟩:=h
 obtain ⟨its,rv,hl,hz⟩:=I.list hs
 rw [Vals.ref1 r]
 obtain ⟨e1,e2⟩:=refs_back rv fun x m=>let ⟨t,e,_⟩:=hx x m;⟨t,e⟩
 refine prs_sorted (k:=fun u=>k (backV u)) hl.isList (by rw [<-rv.length];exact hz) (fun v hv=>?_) fun h' d out h1 h2 kp hd hn=>?_
 ·obtain ⟨t,rfl⟩:=e2 v hv
  obtain ⟨t',e,ht⟩:=hx (V.ref t) (by rw [e1];exact List.mem_map.mpr ⟨_,hv,rfl⟩)
  cases e
  obtain ⟨_,its2,r2,o,ho,hc,n,hd⟩:=I.hok _ _ ht
  obtain ⟨u1,u2,rfl,ri,rj⟩:=vals2 r2
  obtain ⟨t1,rfl⟩:=ri
  obtain ⟨t2,rfl⟩:=rj
  exact ⟨t,o,t1,t2,n,rfl,ho,hc,hd⟩
 ·have h3:∀ u∈out,∃ a,u=Value.ref a:=fun u hu=>e2 u (h2.mem_iff.mp hu)
  obtain ⟨n,hn⟩:=hn
  have hb:(out.map backV).Perm xs:=by rw [e1];exact h2.map _
  have hlen:(out.map backV).length<=sizeLine:=by rw [hb.length_eq];exact hz
  exact ⟨.ref d,upd H d (.lst (out.map backV)),I.laid (t':=s.toks) kp hd ⟨hlen,out,n,vals_back h3,hn⟩,rfl,q _ d (srtd_map h1) hb (I.hok.fresh hd)⟩
def prH (H:Hp):V->Str × Str
 | .ref t=>match H t with
  | some (.tup [.str a,.str b])=>(a,b)
  | _=>(Str.empty,Str.empty)
 | _=>(Str.empty,Str.empty)
theorem prH_at {H:Hp}{t:Addr}{a b:Str} (h:H t=some (.tup [.str a,.str b])):prH H (.ref t)=(a,b):=by
 show (match H t with | some (.tup [.str a,.str b])=>(a,b) | _=>(Str.empty,Str.empty))=(a,b)
 rw [h]
def rSortPrD:List V->Hp->VK->Prop:=fun xs H Q=>∃ (d:Addr) (kvs:List (List Key × V)),xs=[V.ref d]/\Rd H d (.dT kvs)/\(∀ p∈kvs,∃ a b,p.1=[.inr a,.inr b])/\∀ (ys:List V) (bs:List Addr) (p:Addr),IsKeys H kvs bs->Srtd (ltV (prH H)) ys->ys.Perm (bs.map V.ref)->H p=none->Q (.ref p) (upd H p (.lst ys))
theorem isKeys_mem {H:Hp}:∀ {kvs:List (List Key × V)}{bs:List Addr},IsKeys H kvs bs->(∀ p∈kvs,∃ a b,p.1=[.inr a,.inr b])->∀ x∈bs,∃ a b,H x=some (.tup [.str a,.str b])
 | _,_,.nil,_,x,hx=>by simp at hx
 | _,_,.cons (a:=p) hb t,h2,x,hx=>by
  rcases List.mem_cons.mp hx with e | hx
  ·subst e
   obtain ⟨a,b,e⟩:=h2 _ (List.mem_cons_self ..)
   refine ⟨a,b,?_⟩
   have hb:H x=some (.tup (p.1.map kV)):=hb
   rw [hb,e];rfl
  ·exact isKeys_mem t (fun p hp=>h2 p (List.mem_cons_of_mem _ hp)) x hx
theorem cr_sortPrD {X:Cx} (hc:X.calm=true):CallR X (.builtin "sorted") rSortPrD:=by
 intro pins s σ H xs us Q I r h
 obtain ⟨d,kvs,rfl,hd,h2,q⟩:=h
 rw [Vals.ref1 r]
 obtain ⟨z,hs,ks,pr,o,es,ep,ho,hx,hdt,he,hn⟩:=(show ObjOk X.prog X.w H s.heap d (.dT kvs) from hd.ok I.hok)
 have l1:es.size=ks.length:=size_of_entries he
 have l2:kvs.length=ks.length:=Paired.length pr
 have ik:=isKeys_of pr
 have hm:=isKeys_mem ik h2
 refine Calls.call_function_entry kind_sorted plain_sorted entry_sorted (args_sorted1 _) ?_
 unfold Builtin.«sorted»
 refine wpAny_bind (m:=checkCount "sorted" 1 1 _) (wpAny_pure (wpAny_bind (PySem.W.kdu_collect (A:=X.A.in1) (kdl_raw hs hx hdt) (I.ok.hd hc) ho (by omega) fun h' tk acc hk hacc=>?_)))
 have ea:acc.toList=(ks.map fun x=>x.2.1).map Value.ref:=by
  have hl:acc.toList.length=ks.length:=by rw [Array.length_toList,hacc.1,l1]
  refine List.ext_getElem? fun j=>?_
  rw [List.getElem?_map,List.getElem?_map]
  by_cases hj:j < ks.length
  ·have hj':acc.toList[j]? = some (acc.toList[j]'(by omega)):=List.getElem?_eq_getElem (by omega)
   obtain ⟨en,hen,hv⟩:=hacc.2 j _ (by rw [<-Array.getElem?_toList];exact hj')
   have qe:=entry_at he j
   have e1:ks[j]? = some ks[j]:=List.getElem?_eq_getElem hj
   rw [hen,e1] at qe
   have e2:en=entryOfKey (tupleKind (mixKind X.prog X.w)) ks[j]:=Option.some.inj qe
   rw [hj',e1,hv,e2]
   rfl
  ·rw [List.getElem?_eq_none (by omega),List.getElem?_eq_none (by omega)];rfl
 generalize hbs:(ks.map fun x=>x.2.1)=bs at ik hm ea
 have lb:bs.length=ks.length:=by rw [<-hbs,List.length_map]
 have hzl:acc.toList.length<=sizeLine:=by rw [ea,List.length_map];omega
 have I1:Inv X pins σ H { s with heap:=h',toks:=tk }:=I.kept hk
 refine wpAny_bind (wpAny_newList ?_ hzl)
 have hoL:(h'.push (seqObj "list" acc.toList.toArray 0)).get? h'.objs.size=some (seqObj "list" acc.toList.toArray 0):=Heap.get?_push_size _ rfl
 show wpAny _ _ _ _ _ { s with heap:=h'.push (seqObj "list" acc.toList.toArray 0),toks:=tk }
 have hpr:∀ v∈acc.toList,IsPr h' v (prH H (backV v)):=fun v hv=>by
  rw [ea] at hv
  obtain ⟨b,hb,rfl⟩:=List.mem_map.mp hv
  obtain ⟨x,y,hxy⟩:=hm b hb
  obtain ⟨_,its2,r2,o,ho,hc,n,hd⟩:=I1.hok _ _ hxy
  obtain ⟨u1,u2,rfl,ri,rj⟩:=vals2 r2
  obtain ⟨t1,rfl⟩:=ri
  obtain ⟨t2,rfl⟩:=rj
  have:prH H (backV (Value.ref b))=(x,y):=prH_at hxy
  rw [this]
  exact ⟨b,o,t1,t2,n,rfl,ho,hc,hd⟩
 refine wpAny_bind (wpAny_holding (wpAny_call_entry slot_list_sort ⟨_,hoL,rfl⟩ entry_list_sort (list_sort_ord (s:={ s with heap:=h'.push (seqObj "list" acc.toList.toArray 0),toks:=tk }) (swo_ltp fun u=>prH H (backV u)) hoL hzl (fun h2=>?_) fun out g1 g2=>⟨_,rfl,?_⟩) (args_list_sort _)))
 ·refine prs_sortable (s:={ s with heap:=h'.push (seqObj "list" acc.toList.toArray 0),toks:=tk }) (by omega) (fun v hv=>(hpr v hv).keeps fun b o e _=>Heap.get?_push_of_some _ e) fun o e=>?_
  cases e.symm.trans hoL
  intro c
  exact absurd (Value.type.inj c) (by decide)
 ·obtain ⟨e',he'⟩:=sortedHeap_at (vs:=acc.toList) (out:=out.toArray) hoL
  have h3:∀ u∈out,∃ a,u=Value.ref a:=fun u hu=>by
   have:=g2.perm.mem_iff.mp hu
   rw [ea] at this
   obtain ⟨b,_,rfl⟩:=List.mem_map.mp this
   exact ⟨b,rfl⟩
  have hb:(out.map backV).Perm (bs.map V.ref):=by
   have:=g2.perm.map backV
   rw [ea,List.map_map] at this
   exact this
  have hlen:(out.map backV).length<=sizeLine:=by rw [hb.length_eq,List.length_map];omega
  refine wpAny_pure ⟨_,rfl,.ref h'.objs.size,upd H h'.objs.size (.lst (out.map backV)),I1.laid (t':=tk) (fun b u e=>?_) (Nat.le_refl _) (show ObjOk X.prog X.w _ _ _ (.lst (out.map backV)) from ⟨hlen,out,e',vals_back h3,he'⟩),rfl,q _ bs _ ik (srtd_map g1) hb (I1.hok.fresh (Nat.le_refl _))⟩
  have hb:b < h'.objs.size:=Heap.lt_size e
  rw [sortedHeap_old (Nat.ne_of_lt hb) (by rw [size_push'];exact Nat.lt_succ_of_lt hb)]
  exact Heap.get?_push_of_some _ e
end U
namespace U
open PySem L2
abbrev Pr:=Str × Str
def lep (a b:Pr):Bool:=!ltp b a
def srtP (l:List Pr):List Pr:=l.mergeSort lep
theorem lep_trans {a b c:Pr} (h:lep a b=true) (h':lep b c=true):lep a c=true:=by
 unfold lep at *
 rw [Bool.not_eq_true'] at *
 cases e:ltp c a with
 | false=>rfl
 | true=>
  rcases ltp_tri a b with z | z | z
  ·have:=ltp_trans e z;rw [this] at h';cases h'
  ·rw [z] at e;rw [e] at h';cases h'
  ·rw [z] at h;cases h
theorem lep_total (a b:Pr):(lep a b || lep b a)=true:=by
 unfold lep
 rcases ltp_tri a b with z | z | z
 ·cases e:ltp b a with
  | false=>rfl
  | true=>have:=ltp_trans z e;rw [ltp_irrefl] at this;cases this
 ·rw [z,ltp_irrefl];rfl
 ·cases e:ltp a b with
  | false=>simp
  | true=>have:=ltp_trans z e;rw [ltp_irrefl] at this;cases this
theorem lep_anti {a b:Pr} (h:lep a b=true) (h':lep b a=true):a=b:=by
 unfold lep at *
 rw [Bool.not_eq_true'] at *
 rcases ltp_tri a b with z | z | z
 ·rw [z] at h';cases h'
 ·exact z
 ·rw [z] at h;cases h
theorem srtP_perm (l:List Pr):(srtP l).Perm l:=List.mergeSort_perm l _
theorem srtP_pw (l:List Pr):(srtP l).Pairwise fun a b=>lep a b=true:=List.pairwise_mergeSort (le:=lep) (fun _ _ _ h h'=>lep_trans h h') lep_total l
theorem pwP_unique:∀ {l m:List Pr},l.Pairwise (fun a b=>lep a b=true)->m.Pairwise (fun a b=>lep a b=true)->l.Perm m->l=m
 | [],m,_,_,p=>by rw [List.nil_perm.mp p]
 | x :: l,[],_,_,p=>absurd p.length_eq (by simp)
 | x :: l,y :: m,hl,hm,p=>by
  obtain ⟨h1,h2⟩:=List.pairwise_cons.mp hl
  obtain ⟨h3,h4⟩:=List.pairwise_cons.mp hm
  have e:x=y:=by
   rcases List.mem_cons.mp (p.mem_iff.mp (List.mem_cons_self ..):x∈y :: m) with z | z
   ·exact z
   ·rcases List.mem_cons.mp (p.mem_iff.mpr (List.mem_cons_self ..):y∈x :: l) with z' | z'
    ·exact z'.symm
    ·exact lep_anti (h1 y z') (h3 x z)
  subst e
  rw [pwP_unique h2 h4 (List.Perm.cons_inv p)]
theorem srtP_of {l m:List Pr} (h:m.Pairwise fun a b=>lep a b=true) (p:m.Perm l):m=srtP l:=pwP_unique h (srtP_pw l) (p.trans (srtP_perm l).symm)
theorem srtP_mem {l:List Pr}{x:Pr}:x∈srtP l ↔ x∈l:=(srtP_perm l).mem_iff
theorem srtP_len (l:List Pr):(srtP l).length=l.length:=(srtP_perm l).length_eq
def prD (p:Pr):D:=.tup [.str p.1,.str p.2]
def prK (p:Pr):List Key:=[.inr p.1,.inr p.2]
theorem tkD_prD (p:Pr):tkD (prD p)=some (prK p):=rfl
section
variable {K:PySem.W.Frag}{X:Cx}
theorem dt_pr {F:Hp}{p:Pr}{v:V} (h:Dt K F (prD p) v):∃ t,v = .ref t/\F t=some (.tup [.str p.1,.str p.2]):=tkV (ks:=prK p) rfl h
theorem pr_dt {F:Hp}{p:Pr}{t:Addr} (h:F t=some (.tup [.str p.1,.str p.2])):Dt K F (prD p) (.ref t):=kTt (ks:=prK p) h
theorem dts_pr {F:Hp}:∀ {l:List Pr}{vs:List V},Dts K F (l.map prD) vs->(∀ v∈vs,∃ (t:Addr) (p:Pr),v = .ref t/\F t=some (.tup [.str p.1,.str p.2])/\p∈l)/\∀ H,Same F H->vs.map (prH H)=l
 | [],vs,h=>by
  simp only [List.map_nil,Dts] at h
  subst h
  exact ⟨by simp,fun _ _=>rfl⟩
 | p :: l,vs,h=>by
  simp only [List.map_cons,Dts] at h
  obtain ⟨v,r,rfl,q,t⟩:=h
  obtain ⟨h1,h2⟩:=dts_pr t
  obtain ⟨a,rfl,ha⟩:=dt_pr q
  refine ⟨fun v hv=>?_,fun H s=>?_⟩
  ·rcases List.mem_cons.mp hv with rfl | hv
   ·exact ⟨a,p,rfl,ha,List.mem_cons_self ..⟩
   ·obtain ⟨t,p',e1,e2,e3⟩:=h1 v hv
    exact ⟨t,p',e1,e2,List.mem_cons_of_mem _ e3⟩
  ·rw [List.map_cons,h2 H s,prH_at (s _ _ ha)]
theorem pr_dts {F H:Hp} (s:Same F H):∀ {ys:List V},(∀ v∈ys,∃ (t:Addr) (p:Pr),v=V.ref t/\F t=some (.tup [.str p.1,.str p.2]))->Dts K F ((ys.map (prH H)).map prD) ys
 | [],_=>.nil
 | y :: ys,h=>by
  obtain ⟨t,p,rfl,ht⟩:=h y (List.mem_cons_self ..)
  rw [List.map_cons,List.map_cons,prH_at (s _ _ ht)]
  exact .cons (pr_dt ht) (pr_dts s fun v hv=>h v (List.mem_cons_of_mem _ hv))
theorem srt_ys {H:Hp}{ys xs:List V}{l:List Pr} (h:SrtO.Srtd (ltV (prH H)) ys) (p:ys.Perm xs) (e:xs.map (prH H)=l):ys.map (prH H)=srtP l:=by
 refine srtP_of ?_ (by rw [<-e];exact p.map _)
 refine List.pairwise_map.mpr (List.Pairwise.imp (fun {a b} z=>?_) h)
 have z:ltp (prH H b) (prH H a)=false:=z
 unfold lep
 rw [z];rfl
theorem add_tups {H:Hp}:∀ {bs:List Addr}{F:Hp},Same F H->(∀ b∈bs,∃ vs,H b=some (.tup vs))->∃ F',Same F F'/\Same F' H/\(∀ a,Nt F a->Nt F' a)/\∀ b∈bs,F' b=H b
 | [],F,s,_=>⟨F,Same.refl F,s,fun _ h=>h,by simp⟩
 | b :: bs,F,s,hb=>by
  obtain ⟨F1,f1,f2,f3,f4⟩:=add_tups (bs:=bs) s fun x hx=>hb x (List.mem_cons_of_mem _ hx)
  obtain ⟨vs,hv⟩:=hb b (List.mem_cons_self ..)
  cases e:F1 b with
  | some o=>
   refine ⟨F1,f1,f2,f3,fun x hx=>?_⟩
   rcases List.mem_cons.mp hx with rfl | hx
   ·rw [e];exact (f2 _ _ e).symm
   ·exact f4 x hx
  | none=>
   have ff:Same F1 (upd F1 b (.tup vs)):=Same.new1 e
   refine ⟨upd F1 b (.tup vs),f1.trans ff,fun x u ex=>?_,fun a ha=>?_,fun x hx=>?_⟩
   ·by_cases h:x=b
    ·subst h;rw [upd_same] at ex;cases ex;exact hv
    ·rw [upd_ne h] at ex;exact f2 x u ex
   ·by_cases h:a=b
    ·subst h
     intro o eo
     rw [upd_same] at eo
     cases eo
     exact ⟨vs,rfl⟩
    ·exact nt_upd (f3 a ha) h
   ·by_cases h:x=b
    ·subst h;rw [upd_same,hv]
    ·rw [upd_ne h]
     rcases List.mem_cons.mp hx with z | z
     ·exact absurd z h
     ·exact f4 x z
def rSortP (K:PySem.W.Frag):List V->Hp->VK->Prop:=fun xs H Q=>rSortPr K xs H Q\/rSortPrD xs H Q
def rdSortP (ds:List D) (Q:R->Prop):Prop:=match ds with
 | [.lst xs]=>∃ l:List Pr,xs=l.map prD/\Q (.own ((srtP l).map prD))
 | [.dT kvs]=>∃ l:List Pr,kvs.map (·.1)=l.map prK/\Q (.own ((srtP l).map prD))
 | _=>False
theorem sn_sortP:SN K (rSortP K) rdSortP:=by
 intro F H xs dxs Q Qd s h q k
 unfold rdSortP at q
 split at q
 ·obtain ⟨l,rfl,q⟩:=q
  obtain ⟨v,rfl,d1⟩:=dts1 h
  obtain ⟨a,vs,rfl,ha,dv⟩:=dlst d1
  obtain ⟨h1,h2⟩:=dts_pr dv
  refine .inl ⟨a,vs,prH H,rfl,SqL.of (s _ _ ha),fun x hx=>?_,fun ys p so pm np=>?_⟩
  ·obtain ⟨t,p,rfl,ht,_⟩:=h1 x hx
   exact ⟨t,rfl,by rw [prH_at (s _ _ ht)];exact s _ _ ht⟩
  ·rw [<-srt_ys so pm (h2 H s)] at q
   exact k _ _ F _ (Grow.pure (Same.new1 np) s) (RNew.own np s upd_same (pr_dts s fun v hv=>let ⟨t,p,e1,e2,_⟩:=h1 v (pm.mem_iff.mp hv);⟨t,p,e1,e2⟩)) q
 ·obtain ⟨l,ek,q⟩:=q
  obtain ⟨v,rfl,d1⟩:=dts1 h
  obtain ⟨a,od,ws,rfl,ha,dw⟩:=ddT d1
  have ek2:ws.map (·.1)=l.map prK:=(dtt_keys dw).trans ek
  have h2:∀ p∈ws,∃ a b,p.1=[.inr a,.inr b]:=fun p hp=>by
   have:p.1∈ws.map (·.1):=List.mem_map.mpr ⟨p,hp,rfl⟩
   rw [ek2] at this
   obtain ⟨z,_,e⟩:=List.mem_map.mp this
   exact ⟨z.1,z.2,e.symm⟩
  refine .inr ⟨a,ws,rfl,.inr ⟨od,s _ _ ha⟩,h2,fun ys bs p ik so pm np=>?_⟩
  have hm:=isKeys_mem ik h2
  obtain ⟨F1,f1,f2,f3,f4⟩:=add_tups (bs:=bs) s fun b hb=>let ⟨x,y,e⟩:=hm b hb;⟨_,e⟩
  have eb:(bs.map V.ref).map (prH H)=l:=by
   have:∀ {ws:List (List Key × V)} {bs:List Addr} {l:List Pr},IsKeys H ws bs->ws.map (·.1)=l.map prK->(bs.map V.ref).map (prH H)=l:=by
    intro ws bs l ik
    induction ik generalizing l with
    | nil=>intro e;cases l with
     | nil=>rfl
     | cons p l=>cases e
    | @cons p b ps bs hb t ih=>
     intro e
     cases l with
     | nil=>cases e
     | cons z l=>
      rw [List.map_cons,List.map_cons] at e
      injection e with e1 e2
      have hb:H b=some (.tup (p.1.map kV)):=hb
      rw [e1] at hb
      rw [List.map_cons,List.map_cons,ih e2,prH_at (a:=z.1) (b:=z.2) hb]
   exact this ik ek2
  rw [<-srt_ys so pm eb] at q
  refine k _ _ F1 _ ⟨f1,f2.trans (Same.new1 np),fun x hx _=>f3 x hx,fun x o _ e=>by rw [upd_ne (ne_of_none e np)];exact e,fun x e=>?_⟩ (RNew.own np f2 upd_same (pr_dts f2 fun v hv=>?_)) q
  ·by_cases hx:x=p
   ·subst hx;exact np
   ·rw [upd_ne hx] at e;exact e
  ·obtain ⟨b,hb,rfl⟩:=List.mem_map.mp (pm.mem_iff.mp hv)
   obtain ⟨x,y,e⟩:=hm b hb
   exact ⟨b,(x,y),rfl,by rw [f4 b hb];exact e⟩
 ·exact q.elim
theorem cr_sortP (hc:X.calm=true):CallR X (.builtin "sorted") (rSortP X.K):=CallR.orr cr_sortPr (cr_sortPrD hc)
end
end U
namespace U
open PySem PySem.Spec PyProof.Rows L2
section
variable {X:Cx}
end
end U
namespace U
open PySem L2 PyProof.Rows
section
variable {K:PySem.W.Frag}{X:Cx}{Z:Zt}{F H:Hp}{env e:En}{tm tms:Tm}{σ:L2.St}{v:V}{r:R}
end
def dDcL (xs:List D) (dg:DTG) (dt:DTT) (dk dv:DTE) (own:List Nat) (i:Nat) (D:DEnds) (env:En):Prop:=∃ W:Nat->List (List Key × U.D)->En->Prop,W 0 [] (wipeE env own) /\
 (∀ (j:Nat) acc e x,xs[j]? = some x->W j acc e->dg (.dat x) e fun e2=>dt e2 fun b e3=>if b=true then dk e3 fun y e4=>dv e4 fun z e5=>∃ k,tkD y.d=some k/\acc.length < 100000/\W (j+1) (putDK acc k z.d) (wipeE e5 own) else W (j+1) acc (wipeE e3 own))/\∀ acc e,W xs.length acc e->D.nx (e.set i (some (.oT acc)))
def dSetDcT (i:Nat) (di:DTI) (dg:DTG) (dt:DTT) (dk dv:DTE) (own:List Nat) (D:DEnds) (env:En):Prop:=di env fun xs e1=>dDcL xs dg dt dk dv own i D e1
section
variable {K:PySem.W.Frag}{X:Cx}
end
end U
namespace U
open PySem L2
section
variable {K:PySem.W.Frag}{X:Cx}{te:TE}{de:DTE}{e tg:Expr}
end
end U
namespace U
open PySem L2 PyProof.Rows
section
variable {X:Cx}{te:TE}{de:DTE}{e tg:Expr}{pos:Pos}
section
variable {elt tg1 iter iter1:Expr}{ifs ifs1:List Expr}{scope:Scope}{own:List (Str × Nat)}{vs1:List Nat}{wi:TI}{di:DTI}{g g1:Fm TG}{dg dg1:Fm DTG}{t t1:Fm TT}{dt dt1:Fm DTT}{wi1:Fm TI}{di1:Fm DTI}{tl:Fm TE}{dl:Fm DTE}
end
end
end U
namespace U
open PySem L2
def mdPop0 (xs ds:List D) (Q:R->List D->Prop):Prop:=match ds with | []=>∃ ys y,xs=ys ++ [y]/\Q (.dat y) ys | _=>False
section
variable {K:PySem.W.Frag}
end
section
variable {X:Cx}{i:Nat}{x:Str}{px apos pos:Pos}
end
end U
namespace U
open PySem L2
def fl5:D->Bool
 | .non=>true
 | .bl _=>true
 | .int _=>true
 | .str _=>true
 | .tup xs=>xs.all fl4
 | _=>false
def flL:R->Bool
 | .dat d=>fl5 d
 | .own xs=>xs.all fl5
 | _=>false
section
variable {K:PySem.W.Frag}{X:Cx}
def dLend (de:DTE) (env:En) (Q:R->En->Prop):Prop:=de (pur env) fun r _=>flL r=true/\Q r env
end
end U
namespace U
open PySem L2
end U
namespace U
open PySem L2
section
variable {K:PySem.W.Frag}{X:Cx}
def dMkC (C:Addr) (fs:List (Str × D)) (env:En) (Q:R->En->Prop):Prop:=Q (.dat (.obj C fs)) env
end
end U
namespace U
open PySem L2
def mdIns (xs ds:List D) (Q:R->List D->Prop):Prop:=match ds with | [.int i,y]=>(xs.length < 100000/\0<=i/\i < 1000000)/\Q (.dat .non) (xs.take i.toNat ++ [y] ++ xs.drop i.toNat) | _=>False
section
variable {K:PySem.W.Frag}
end
section
variable {X:Cx}{i:Nat}{x:Str}{px apos pos:Pos}{e:Expr}{es:List Expr}{tr:TA}{dr:DTA}
end
def zipD (xs ys:List D):List D:=(xs.zip ys).map fun p=>.tup [p.1,p.2]
def diZ (dr:DTA) (env:En) (Q:List D->En->Prop):Prop:=dr env fun ds e=>match ds with | [.lst xs,.lst ys]=>Q (zipD xs ys) e | _=>False
section
variable {K:PySem.W.Frag}{X:Cx}{a b:Expr}{pos:Pos}{ta tb:TE}{da db:DTE}
end
end U
namespace U
open PySem L2
abbrev WD:=Addr->List (Str × D)->En->Prop
section
variable {K:PySem.W.Frag}{X:Cx}{W:WX}{st:Stmt}{sts sa sb:List Stmt}{ts us:TS}{e c:Expr}{es:List Expr}{te:TE}{tr:TA}{dr:DTA}{pos:Pos}
abbrev XSp:=List D->(R->Prop)->(Addr->List (Str × D)->Prop)->Prop
def dCX (sp:XSp) (dr:DTA) (Wd:WD) (env:En) (Q:R->En->Prop):Prop:=dr env fun ds e=>sp ds (fun q=>Hold (fun q=>Q q e) ⟨q⟩) (fun C fs=>Wd C fs e)
end
section
variable {P:Program}{w:World}{K:PySem.W.Frag}{mg:Str->Option Value}{base:Heap}
end
end U
namespace U
open PySem L2
open PySem.Builtin PySem.Builtin.ObjectAttr PySem.HandSPX
structure MakeB (B:String) (bm:List Value):Prop where
 b:bm.contains (.type B)=true
 a:bm.contains (.type "AttributeError")=false
 n:bm.contains (.type "NameError")=false
section
variable {prog:Program}{w:World}{R:Result->Shared->Prop}{A:Around}{E:Value->Shared->Prop}{h:Heap}{t:Nat}{d:Drawn}{os:OsState}{g:Array GenState}
variable {C N:Addr}{nm q:Str}{bs bm tl:List Value}{sn:List Str}{sub:List Value}{hd0 ab:Bool}{col:Option Bool}{dd:Option Addr}{k0 k1 k2 k3 k5:Option Value}{B nw ini:String}
end
structure OexG (K:PySem.W.Frag) (C:Addr):Prop where
 cls:∃ nm q N bs bm sn sub ab col dd k0 k1 k2 k3 k5 B newId initId bmB,K.lookup C=some (excClassObj nm q C N bs bm true sn sub ab col dd k0 k1 k2 k3 k5 newId)/\ExcBaseFacts B newId initId bmB/\MakeB B bm/\(∀ self,refuseLoop self "__setattr__" (.ref C :: bm)=pure ())/\bm.contains (.type "object")=true
 sa:PySem.W.findIn K (.ref C) "__setattr__" = some (some (.builtin "object.__setattr__"))
 exC:PySem.W.subIn K (.ref C) (.type "BaseException")=some true
 tyC:PySem.W.typeIn K (.ref C)=some (.type "type")
 kC:PySem.W.keepIn K (.ref C)=true
theorem _root_.PySem.L2.OexC.g {K:PySem.W.Frag}{C:Addr} (T:OexC K C):OexG K C:=by
 obtain ⟨nm,q,N,bs,bm,sn,sub,ab,col,dd,k0,k1,k2,k3,k5,hC,hbm⟩:=T.cls
 exact ⟨⟨nm,q,N,bs,bm,sn,sub,ab,col,dd,k0,k1,k2,k3,k5,_,_,_,_,hC,F.excBase_ValueError,⟨(refsVE_contains _ bm hbm).trans (by decide +kernel),(refsVE_contains _ bm hbm).trans (by decide +kernel),(refsVE_contains _ bm hbm).trans (by decide +kernel)⟩,fun self=>refsVE_pass self _ (show refsVE (.ref C :: bm)=true from hbm),(refsVE_contains "object" bm hbm).trans (by decide +kernel)⟩,T.sa,T.exC,T.tyC,T.kC⟩
section
variable {X:Cx}{pins:List (Addr × Obj)}{σ:L2.St}{H:Hp}{s:Shared}{a C dx:Addr}{f:Str}{y:V}{u:Value}{Q:Unit->Shared->Prop}{E:Value->Shared->Prop}{A:Around}
end
end U
namespace U
open PySem L2
section
variable {X:Cx}{CX:CXT}{x:Str}{e:Expr}{es:List Expr}{ta:TA}{p pos:Pos}{C fI:Addr}{k:Nat}{fd:FuncData}{ps:List Str}{sp:Sp}
end
def dRaise1 (C:Addr) (f:Str) (de:DTE) (Wd:WD) (_:DEnds) (env:En):Prop:=de env fun r e=>Wd C [(f,r.d)] e
section
variable {K:PySem.W.Frag}{X:Cx}{W:WX}{e:Expr}{te:TE}{de:DTE}{x f:Str}{C:Addr}{p pos pos2:Pos}
end
def dTryAs (K:PySem.W.Frag) (C:Addr) (i:Nat) (db:WD->DTS) (dsu:Addr->Value->Option Addr->DTS) (Dd:DEnds) (env:En):Prop:=
 db (fun C' fs env'=>PySem.W.exmOne K (.ref C') (.ref C)=some true/\∀ a dd,dsu a (.ref C') dd { nx:=fun e=>Dd.nx (e.set i none),rt:=Dd.rt,bk:=fun e=>Dd.bk (e.set i none),ct:=fun e=>Dd.ct (e.set i none) } (env'.set i (some (.dat (.exc a dd C' fs))))) Dd env
section
variable {K:PySem.W.Frag}{X:Cx}{x n:Str}{C:Addr}{i:Nat}{body suite:List Stmt}{b₀:Stmt}{np pos pos':Pos}{tb:WX->TS}{ts:Addr->Value->Option Addr->TS}{db:WD->DTS}{dsu:Addr->Value->Option Addr->DTS}
end
end U
namespace PySem.W
open PySem PySem.Spec PySem.Calls PyProof.Rows
section
variable {prog:Program}{w:World}{A:Around}{E:Value->Shared->Prop}{s:Shared}{K:Frag}{x B:Addr}{ox:Obj}{od:Option Obj}
end
end PySem.W
namespace U
open PySem L2
section
variable {X:Cx}
end
section
variable {P:Program}{w:World}{K:PySem.W.Frag}{mg:Str->Option Value}{base:Heap}
end
section
variable {X:Cx}{k:Nat}{f:Addr}{fd:FuncData}{ps:List Str}{sp:Addr × Obj->Sp}{x:Str}{q pos:Pos}{e:Expr}{es:List Expr}{t:TA}{p:Addr × Obj}
end
end U
namespace U
open PySem L2
section
variable {K:PySem.W.Frag}{X:Cx}{a e:Expr}{ta te:TE}{da de:DTE}{apos pos:Pos}
def dIndexB (da de:DTE) (env:En) (Q:R->En->Prop):Prop:=da env fun r e1=>match r.d with
 | .lst xs=>de e1 fun q e2=>match q.d with
  | .bl y=>∃ (bs:List Bool) (j:Nat),xs=bs.map D.bl/\bs[j]? = some y/\(∀ m,m < j->bs[m]? ≠ some y)/\Q (.dat (.int (j:Nat))) e2
  | _=>False
 | _=>False
def dCountB (da de:DTE) (env:En) (Q:R->En->Prop):Prop:=da env fun r e1=>match r.d with
 | .lst xs=>de e1 fun q e2=>match q.d with
  | .bl y=>∃ bs:List Bool,xs=bs.map D.bl/\Q (.dat (.int (bs.count y:Nat))) e2
  | _=>False
 | _=>False
def dIsP (K:PySem.W.Frag) (p:Addr × Obj) (cv:Value) (de:DTE) (env:En) (Q:R->En->Prop):Prop:=de env fun r e=>∃ (dd:Option Addr) (B:Addr) (fs:List (Str × D)) (b:Bool),r = .dat (.exc p.1 dd B fs)/\ExcC K B/\Zc (.ref B) dd p.2/\(∃ vs,p.2.data = .fields vs)/\PySem.W.kitOne K (.ref B) cv=some b/\Q (.dat (.bl b)) e
def dXf (a:Addr) (cls:Value) (d:Option Addr) (C:Addr) (f:Str) (de:DTE) (env:En) (Q:R->En->Prop):Prop:=de env fun r e=>∃ (dd:Option Addr) (fs:List (Str × D)) (v:D),r = .dat (.exc a dd C fs)/\cls = .ref C/\d=dd/\fs.lookup f=some v/\Q (.dat v) e
abbrev ESp:=Addr->(R->Prop)->Prop
def dCE (a:Addr) (cls:Value) (d:Option Addr) (sp:ESp) (de:DTE) (env:En) (Q:R->En->Prop):Prop:=de env fun r e=>∃ (dd:Option Addr) (C:Addr) (fs:List (Str × D)),r = .dat (.exc a dd C fs)/\cls = .ref C/\d=dd/\sp C fun q=>Hold (fun q=>Q q e) ⟨q⟩
end
section
variable {P:Program}{w:World}{K:PySem.W.Frag}{mg:Str->Option Value}{base:Heap}
end
end U
namespace U
open PySem L2
section
variable {K:PySem.W.Frag}{X:Cx}{a b e:Expr}{ta tb te:TE}{da db de:DTE}{pos apos:Pos}
open PySem.W (minOf) in
def rdMinS (ds:List D) (Q:R->Prop):Prop:=∃ (y:Str) (ys:List Str),ds=[.lst ((y :: ys).map D.str)]/\Q (.dat (.str (minOf y ys)))
def rdLtS (x y:D) (Q:R->Prop):Prop:=match x,y with | .str i,.str j=>Q (.dat (.bl (decide (i.cps.toList < j.cps.toList)))) | _,_=>False
def mdRemS (xs ds:List D) (Q:R->List D->Prop):Prop:=match ds with
 | [.str k]=>∃ (ns:List Str) (j:Nat),xs=ns.map D.str/\ns[j]? = some k/\(∀ m:Nat,m < j->ns[m]? ≠ some k)/\Q (.dat .non) ((ns.eraseIdx j).map D.str)
 | _=>False
end
end U
namespace U
open PySem PySem.Spec PyProof.Rows L2
section
variable {P:Program}{w:World}{A:Around}{E:Value->Shared->Prop}{s:Shared}{a:Addr}{ks:List Str}
end
end U
namespace U
open PySem PySem.Spec PyProof.Rows L2
def uniq:List Str->List Str
 | []=>[]
 | x :: xs=>if x∈uniq xs then uniq xs else x :: uniq xs
section
variable {prog:Program}{w:World}{A:Around}{R:Result->Shared->Prop}{I:Addr}{fp wr:List Addr}{G:Array GenState->Array GenState->Prop}{n:Nat}{P:Nat->Value->Prop}{St:Nat->Shared->Prop}
end
section
variable {prog:Program}{w:World}{A:Around}{E:Value->Shared->Prop}{s:Shared}
end
end U
namespace U
open PySem L2 PyProof.Rows
section
variable {X:Cx}
def dSortSet (de:DTE) (env:En) (Q:R->En->Prop):Prop:=de env fun r e=>match r.d with
 | .lst xs=>∃ ws:List Str,xs=ws.map D.str/\ws.length < 64/\Q (.own ((srt (uniq ws)).map D.str)) e
 | _=>False
end
end U
namespace U
open PySem L2
section
variable {K:PySem.W.Frag}{X:Cx}{a b:Expr}{ta tb:TE}{da db:DTE}{pos:Pos}
end
end U
namespace U
open PySem L2
section
variable {K:PySem.W.Frag}{X:Cx}{e:Expr}{te:TE}{de:DTE}{pos:Pos}{p:Addr × Obj}{cls:Value}{d:Option Addr}
end
section
variable {X:Cx}{x n:Str}{C:Addr}{i:Nat}{body suite:List Stmt}{b₀:Stmt}{np pos pos':Pos}{tb:WX->List (Addr × Obj)->(Value->Shared->Prop)->TS}{ts:Addr->Obj->Value->Option Addr->List (Addr × Obj)->TS}{db:WX->List (Addr × Obj)->(Value->Shared->Prop)->WD->DTS}{dsu:Addr->Obj->Value->Option Addr->List (Addr × Obj)->DTS}
end
end U
namespace U
open PySem PySem.W L2
end U
namespace PySem.W
open PySem PySem.Spec PySem.Calls PyProof.Rows
section
variable {prog:Program}{w:World}{A:Around}{E:Value->Shared->Prop}{s:Shared}{K:Frag}{x B f L:Addr}{ox:Obj}{od:Option Obj}{b tb:Value}{h₀:Heap}{m:Str->Option Value}
end
end PySem.W
namespace U
open PySem L2
section
variable {X:Cx}{k j:Nat}{C:Addr}{sp:PSp}
end
end U
namespace PySem.W
open PySem PySem.Spec PySem.Calls PyProof.Rows
section
variable {prog:Program}{w:World}{A:Around}{E:Value->Shared->Prop}{s:Shared}{K:Frag}{x B f:Addr}{ox:Obj}{od:Option Obj}{u:Value}
end
end PySem.W
namespace U
open PySem L2
abbrev ER:=V->V->Hp->(Bool->Hp->Prop)->Prop
def EqB (X:Cx) (n:Nat) (r:ER):Prop:=∀ (A:Around) (pins:List (Addr × Obj)) (s:Shared) (σ:L2.St) (H:Hp) (x y:V) (u v:Value) (Q:Bool->Hp->Prop),Sub X n A->Inv X pins σ H s->RelV x u->RelV y v->r x y H Q ->
 wpAny (model X.prog X.w) A (eqBool u v) (fun b s'=>∃ H',Inv X pins σ H' s'/\Ext H H'/\Q b H') X.xe s
def RcB (X:Cx) (n:Nat) (r:ER):Prop:=∀ (A:Around) (pins:List (Addr × Obj)) (s:Shared) (σ:L2.St) (H:Hp) (x y:V) (u v:Value) (Q:Bool->Hp->Prop),Sub X n A->Inv X pins σ H s->RelV x u->RelV y v->r x y H Q ->
 wpAny (model X.prog X.w) A (richCompare .Eq u v) (fun z s'=>∃ b,z = .bool b/\∃ H',Inv X pins σ H' s'/\Ext H H'/\Q b H') X.xe s
section
variable {X:Cx}{k n m j:Nat}{C:Addr}{sp:PSp}{r r':ER}
theorem EqB.mono (h:EqB X n r) (hn:n<=m):EqB X m r:=fun A pins s σ H x y u v Q sb=>h A pins s σ H x y u v Q (sb.mono hn)
theorem RcB.mono (h:RcB X n r) (hn:n<=m):RcB X m r:=fun A pins s σ H x y u v Q sb=>h A pins s σ H x y u v Q (sb.mono hn)
theorem EqB.or (h:EqB X n r) (h':EqB X n r'):EqB X n (fun x y H Q=>r x y H Q\/r' x y H Q):=fun A pins s σ H x y u v Q sb I rx ry d=>d.elim (h A pins s σ H x y u v Q sb I rx ry) (h' A pins s σ H x y u v Q sb I rx ry)
theorem RcB.or (h:RcB X n r) (h':RcB X n r'):RcB X n (fun x y H Q=>r x y H Q\/r' x y H Q):=fun A pins s σ H x y u v Q sb I rx ry d=>d.elim (h A pins s σ H x y u v Q sb I rx ry) (h' A pins s σ H x y u v Q sb I rx ry)
end
end U
namespace U
open PySem L2
section
variable {K:PySem.W.Frag}{X:Cx}{C:Addr}{sp:PSp}
section
variable {a b e:Expr}{pos:Pos}{ta tb te:TE}{da db de:DTE}{j k:Nat}
end
end
end U
namespace U
open PySem PySem.Spec PyProof.Rows L2
section
variable {prog:Program}{w:World}{A:Around}{E:Value->Shared->Prop}{s:Shared}
end
end U
namespace U
open PySem L2
section
variable {X:Cx}{n:Nat}{r:ER}
end
section
variable {X:Cx}{k n:Nat}{C:Addr}{sp:PSp}
end
end U
namespace U
open PySem L2
section
variable {K:PySem.W.Frag}{X:Cx}{C:Addr}{sp:PSp}
end
end U
namespace U
open PySem L2
end U
namespace U
open PySem L2
section
variable {K:PySem.W.Frag}{X:Cx}
end
end U
namespace U
open PySem L2 PyProof.Rows
section
variable {prog:Program}{w:World}{A:Around}{E:Value->Shared->Prop}{s:Shared}
end
section
variable {X:Cx}{K:PySem.W.Frag}
end
end U
namespace U
open PySem L2
def gset (g:GH) (q:Addr) (o:MO):GH:=fun x=>if x=q then some o else g x
theorem gset_same {g:GH}{q:Addr}{o:MO}:gset g q o q=some o:=by unfold gset;rw [if_pos rfl]
theorem gset_ne {g:GH}{q x:Addr}{o:MO} (h:x ≠ q):gset g q o x=g x:=by unfold gset;rw [if_neg h]
section
variable {K:PySem.W.Frag}{X:Cx}{Z:Zt}{F H H':Hp}{e:En}{tm:Tm}{σ:L2.St}{j:Nat}{b:Bool}{a q:Addr}{g:GH}{o o':MO}
theorem RelF.hat (h:RelF K Z F e tm σ H) (ej:e[j]? = some (some (.hp b a g))) (hq:g q=some o):F q=none/\MOk K F H q o:=by
 obtain ⟨v,hv⟩:=h.sl j _ ej
 obtain ⟨_,_,k⟩:=h.ok (.s j) v (.hp b a g) ⟨hv,ej⟩
 exact k q o hq
theorem RelF.hput (h:RelF K Z F e tm σ H) (ej:e[j]? = some (some (.hp b a g))) (hq:g q=some o) (hg:Grow (fun x=>x=q) F H F H') (mo:MOk K F H' q o'):RelF K Z F (e.set j (some (.hp b a (gset g q o')))) tm σ H':=by
 obtain ⟨v,hv⟩:=h.sl j _ ej
 have c:Cell σ e tm (.s j) v (.hp b a g):=⟨hv,ej⟩
 obtain ⟨ev,ha,k⟩:=h.ok _ _ _ c
 refine h.chgF (a:=.s j) (r:=.hp b a g) (r':=.hp b a (gset g q o')) hg c (fun x m=>?_) (fun x f=>.inl ?_) ⟨ev,?_,fun p u hu=>?_⟩ rfl (fun a w q c=>cell_setS c hv) (by rw [List.length_set];exact h.len) (set_sl h.sl hv) fun z=>set_bg (fun _=>rfl) z
 ·have m:x=q:=m
  subst m
  show (g x).isSome=true
  rw [hq];rfl
 ·have f:(gset g q o' x).isSome=true:=f
  show (g x).isSome=true
  by_cases hx:x=q
  ·subst hx;rw [hq];rfl
  ·rw [gset_ne hx] at f;exact f
 ·by_cases hx:a=q
  ·subst hx;rw [gset_same];rfl
  ·rw [gset_ne hx];exact ha
 ·by_cases hx:p=q
  ·subst hx
   rw [gset_same] at hu
   cases hu
   exact ⟨(k p o hq).1,mo⟩
  ·rw [gset_ne hx] at hu
   exact ⟨(k p u hu).1,(k p u hu).2.mono (Same.refl F) fun u' e'=>hg.kp p u' hx e'⟩
end
end U
namespace U
open PySem L2
section
variable {K:PySem.W.Frag}{Z:Zt}{F F' H H':Hp}{env env':En}{tm tm':Tm}{σ:L2.St}
theorem RelF.chgS {M:Addr->Prop} (S:Ix->V->R->R->Prop) (h:RelF K Z F env tm σ H) (g:Grow M F H F' H')
  (hS:∀ a v r r',S a v r r'->Cell σ env tm a v r/\ROk K F' H' v r'/\∀ x,Fp v r' x->H x=none\/∃ b w q q',S b w q q'/\Fp w q x/\(q.lend=true->r'.lend=true))
  (hM:∀ x,M x->∃ a v r r',S a v r r'/\Fp v r x) (hD:∀ a v r r' b w q q' x,S a v r r'->S b w q q'->Fp v r' x->Fp w q' x->a=b)
  (hc:∀ b w q,Cell σ env' tm' b w q->(∃ r,S b w r q)\/((∀ v r r',¬ S b v r r')/\Cell σ env tm b w q)) (hl:σ.length=env'.length) (hs:∀ (i:Nat) (r:R),env'[i]? = some (some r)->∃ v,σ[i]? = some (some v))
  (hb:SpcAt env'->SpcAt env):RelF K Z F' env' tm' σ H':=by
 have apart:∀ b w q x a v r r',(∀ v r r',¬ S b v r r')->Cell σ env tm b w q->Fp w q x->S a v r r'->¬ Fp v r' x:=fun b w q x a v r r' nb c f s f'=>by
  rcases (hS _ _ _ _ s).2.2 x f' with z | ⟨b2,w2,q2,q2',s2,f2,_⟩
  ·obtain ⟨_,u,hu,_⟩:=(h.ok _ _ _ c).fp f
   rw [z] at hu;cases hu
  ·have e:=h.ap _ _ _ _ _ _ x c (hS _ _ _ _ s2).1 f f2
   subst e
   exact nb _ _ _ s2
 refine ⟨g.sub,h.f0.trans g.ff,fun a e ne=>g.nw a (h.nw a e ne) fun z=>ne (h.th a z),fun x o nb e=>g.kp x o (fun mx=>?_) (h.kp x o nb e),fun a e=>h.th a (g.th a e),hl,hs,fun b w q c'=>?_,fun b w q x c' f=>?_,fun b b' w w' q q' x c1 c2 f1 f2=>?_,fun e=>h.bg (hb e)⟩
 ·obtain ⟨a,v,r,r',s,f⟩:=hM x mx
  rcases h.ow _ _ _ x (hS _ _ _ _ s).1 f with z | z
  ·rw [e] at z;cases z
  ·exact nb z.2
 ·rcases hc b w q c' with ⟨r,s⟩ | ⟨n,c'⟩
  ·exact (hS _ _ _ _ s).2.1
  ·refine (h.ok _ _ _ c').monoF g.ff fun x f=>?_
   obtain ⟨n1,o,q1,nt⟩:=(h.ok _ _ _ c').fp f
   have nx:¬ M x:=fun mx=>by
    obtain ⟨a,v,r,r',s,f2⟩:=hM x mx
    have e:=h.ap _ _ _ _ _ _ x c' (hS _ _ _ _ s).1 f f2
    subst e
    exact n _ _ _ s
   exact ⟨nt_no (g.nw x (nt_of n1) (by rw [q1];simp)) g.sub (g.kp x o nx q1) nt,fun o e=>g.kp x o nx e⟩
 ·rcases hc b w q c' with ⟨r,s⟩ | ⟨n,c'⟩
  ·rcases (hS _ _ _ _ s).2.2 x f with z | ⟨b2,w2,q2,q2',s2,f2,el⟩
   ·exact .inl (h.th x z)
   ·refine (?_:_\/_)
    refine Or.imp id (fun z:q2.lend=true/\_=>⟨el z.1,z.2⟩) ?_
    exact h.ow _ _ _ x (hS _ _ _ _ s2).1 f2
  ·exact h.ow _ _ _ x c' f
 ·rcases hc b w q c1 with ⟨r,s⟩ | ⟨n1,c1⟩
  ·rcases hc b' w' q' c2 with ⟨r2,s2⟩ | ⟨n2,c2⟩
   ·exact hD _ _ _ _ _ _ _ _ x s s2 f1 f2
   ·exact absurd f1 (apart _ _ _ x _ _ _ _ n2 c2 f2 s)
  ·rcases hc b' w' q' c2 with ⟨r2,s2⟩ | ⟨n2,c2⟩
   ·exact absurd f2 (apart _ _ _ x _ _ _ _ n1 c1 f1 s2)
   ·exact h.ap _ _ _ _ _ _ x c1 c2 f1 f2
end
inductive Ag where
 | d (x:D)
 | m (a:Addr) (g:GH)
 | b (n:Nat)
def Ag.r:Ag->R
 | .d x=>.dat x
 | .m a g=>.hp true a g
 | .b n=>.bag n
def Ag.own:Ag->Bool
 | .d _=>false
 | _=>true
def Ags (K:PySem.W.Frag) (F H:Hp) (as:List Ag) (vs:List V):Prop:=as.length=vs.length/\∀ (i:Nat) ag v,as[i]? = some ag->vs[i]? = some v->ROk K F H v ag.r
def AgD (as:List Ag) (vs:List V):Prop:=∀ (i j:Nat) ag ah v w x,as[i]? = some ag->vs[i]? = some v->as[j]? = some ah->vs[j]? = some w->Fp v ag.r x->Fp w ah.r x->i=j
def AgB (as:List Ag) (vs:List V) (x:Addr):Prop:=∃ (i:Nat) (ag:Ag) (v:V),as[i]? = some ag/\vs[i]? = some v/\Fp v ag.r x
def AgW (as:List Ag):Prop:=∀ (i:Nat) n,as[i]? = some (.b n)->i=0
def AgC:Ag->Ag->Prop
 | .d x,.d y=>x=y
 | .m a _,.m b _=>a=b
 | .b _,.b _=>True
 | _,_=>False
structure AgS (as as':List Ag):Prop where
 len:as'.length=as.length
 c:∀ (i:Nat) ag ag',as[i]? = some ag->as'[i]? = some ag'->AgC ag ag'
abbrev MSp:=List Ag->(R->List Ag->Prop)->Prop
def spM (K:PySem.W.Frag) (sp:MSp):Sp:=fun vs H Q _=>∃ F as Qd,Same F H/\Ags K F H as vs/\AgD as vs/\AgW as/\sp as Qd /\
 ∀ v q as' F' H',Grow (AgB as vs) F H F' H'->AgS as as'->Ags K F' H' as' vs->AgD as' vs->(∀ x,AgB as' vs x->AgB as vs x\/H x=none)->RNew K H F' H' v q->(∀ x,Fp v q x->¬ AgB as' vs x)->Qd q as'->Q v H'
section
variable {P:Program}{w:World}{K:PySem.W.Frag}{mg:Str->Option Value}{base:Heap}
theorem fp_own {v:V}{ag:Ag}{x:Addr} (f:Fp v ag.r x):ag.own=true:=by cases ag <;> first | rfl | exact f.elim
end
end U
namespace U
open PySem L2
def over (G g g':GH):GH:=fun x=>if (g x).isSome || (g' x).isSome then g' x else G x
def SubG (g G:GH):Prop:=∀ x,(g x).isSome=true->G x=g x
abbrev Wh:=Option (Nat × Addr × GH)
def slotR (bb:Bool) (a:Addr) (G:GH):Ag->R
 | .b n=>.bag n
 | _=>.hp bb a G
def backR (bb:Bool) (a:Addr) (G:GH):Ag->Ag->R
 | .m _ g,.m _ g'=>.hp bb a (over G g g')
 | _,.b n=>.bag n
 | _,_=>.hp bb a G
def putAgs (bb:Bool):List Wh->List Ag->List Ag->En->En
 | some (j,a,G) :: ws,ag :: as,ag' :: as',e=>putAgs bb ws as as' (e.set j (some (backR bb a G ag ag')))
 | none :: ws,_ :: as,_ :: as',e=>putAgs bb ws as as' e
 | _,_,_,e=>e
theorem putAgs_len {bb:Bool}:∀ (ws:List Wh) (as as':List Ag) (e:En),(putAgs bb ws as as' e).length=e.length
 | [],_,_,e=>by unfold putAgs;rfl
 | none :: ws,[],_,e=>rfl
 | none :: ws,_ :: _,[],e=>rfl
 | some (j,a,G) :: ws,[],_,e=>rfl
 | some (j,a,G) :: ws,_ :: _,[],e=>rfl
 | none :: ws,x :: as,y :: as',e=>by show (putAgs bb ws as as' e).length=_;exact putAgs_len ws as as' e
 | some (j,a,G) :: ws,x :: as,y :: as',e=>by show (putAgs bb ws as as' _).length=_;rw [putAgs_len ws as as',List.length_set]
theorem putAgs_get {bb:Bool}:∀ (ws:List Wh) (as as':List Ag) (e:En) (k:Nat) (r:R),ws.length=as.length->as'.length=as.length->(putAgs bb ws as as' e)[k]? = some (some r) ->
  (∃ (i:Nat) (a:Addr) (G:GH) (ag ag':Ag),ws[i]? = some (some (k,a,G))/\as[i]? = some ag/\as'[i]? = some ag'/\r=backR bb a G ag ag')\/((∀ (i:Nat) a G,ws[i]? ≠ some (some (k,a,G)))/\e[k]? = some (some r))
 | [],_,_,e,k,r,_,_,h=>.inr ⟨fun i a G z=>by simp at z,h⟩
 | none :: ws,[],_,e,k,r,l1,_,h=>by simp at l1
 | some (j,a,G) :: ws,[],_,e,k,r,l1,_,h=>by simp at l1
 | none :: ws,_ :: _,[],e,k,r,_,l2,h=>by simp at l2
 | some (j,a,G) :: ws,_ :: _,[],e,k,r,_,l2,h=>by simp at l2
 | none :: ws,x :: as,y :: as',e,k,r,l1,l2,h=>by
  have h:(putAgs bb ws as as' e)[k]? = some (some r):=h
  rcases putAgs_get ws as as' e k r (by simpa using l1) (by simpa using l2) h with ⟨i,a,G,ag,ag',h1,h2,h3,h4⟩ | ⟨h1,h2⟩
  ·exact .inl ⟨i+1,a,G,ag,ag',h1,h2,h3,h4⟩
  ·refine .inr ⟨fun i a G z1=>?_,h2⟩
   cases i with
   | zero=>simp at z1
   | succ i=>exact h1 i a G (by simpa using z1)
 | some (j,a,G) :: ws,x :: as,y :: as',e,k,r,l1,l2,h=>by
  have h:(putAgs bb ws as as' (e.set j (some (backR bb a G x y))))[k]? = some (some r):=h
  rcases putAgs_get ws as as' _ k r (by simpa using l1) (by simpa using l2) h with ⟨i,a2,G2,ag,ag',h1,h2,h3,h4⟩ | ⟨h1,h2⟩
  ·exact .inl ⟨i+1,a2,G2,ag,ag',h1,h2,h3,h4⟩
  ·by_cases hk:j=k
   ·subst hk
    rw [List.getElem?_set,if_pos rfl] at h2
    split at h2
    ·exact .inl ⟨0,a,G,x,y,rfl,rfl,rfl,by cases h2;rfl⟩
    ·cases h2
   ·rw [List.getElem?_set,if_neg hk] at h2
    refine .inr ⟨fun i a2 G2 z1=>?_,h2⟩
    cases i with
    | zero=>
     simp at z1
     exact hk z1.1
    | succ i=>exact h1 i a2 G2 (by simpa using z1)
def InSlot (σ:L2.St) (e:En) (bb:Bool) (v:V) (j:Nat) (a:Addr) (G:GH) (ag:Ag):Prop:=∃ u,σ[j]? = some (some u)/\e[j]? = some (some (slotR bb a G ag))/\match ag with
 | .d _=>False
 | .m q g=>SubG g G/\(q=a\/g a=none)
 | .b _=>u=v
structure Hand (σ:L2.St) (e:En) (bb:Bool) (ws:List Wh) (as:List Ag) (vs:List V):Prop where
 len:as.length=vs.length
 wlen:ws.length=as.length
 nd:∀ (i i' j:Nat) a G a' G',ws[i]? = some (some (j,a,G))->ws[i']? = some (some (j,a',G'))->i=i'
 dat:∀ (i:Nat) ag,as[i]? = some ag->ws[i]? = some none->ag.own=false
 own:∀ (i j:Nat) a G ag v,as[i]? = some ag->vs[i]? = some v->ws[i]? = some (some (j,a,G))->InSlot σ e bb v j a G ag
theorem agc_own {ag ag':Ag} (h:AgC ag ag'):ag'.own=ag.own:=by cases ag <;> cases ag' <;> first | rfl | cases h
section
variable {K:PySem.W.Frag}{Z:Zt}{F F' H H':Hp}{e:En}{tm:Tm}{σ:L2.St}{bb:Bool}{ws:List Wh}{as as':List Ag}{vs:List V}
theorem Hand.cell (hd:Hand σ e bb ws as vs) {i:Nat}{ag:Ag}{v:V} (e1:as[i]? = some ag) (e2:vs[i]? = some v) (o:ag.own=true):∃ j a G u,ws[i]? = some (some (j,a,G))/\Cell σ e tm (.s j) u (slotR bb a G ag)/\(∀ x,Fp v ag.r x->Fp u (slotR bb a G ag) x):=by
 have hi:i < ws.length:=by rw [hd.wlen];exact (List.getElem?_eq_some_iff.mp e1).1
 cases hm:ws[i]'hi with
 | none=>
  have:=hd.dat i ag e1 (by rw [List.getElem?_eq_getElem hi,hm])
  rw [o] at this;cases this
 | some z=>
  obtain ⟨j,a,G⟩:=z
  have em:ws[i]? = some (some (j,a,G)):=by rw [List.getElem?_eq_getElem hi,hm]
  obtain ⟨u,h1,h2,h3⟩:=hd.own i j a G ag v e1 e2 em
  refine ⟨j,a,G,u,em,⟨h1,h2⟩,fun x f=>?_⟩
  cases ag with
  | d y=>exact f.elim
  | b n=>rw [h3];exact f
  | m q g=>
   show (G x).isSome=true
   rw [h3.1 x f];exact f
theorem Hand.dis (hd:Hand σ e bb ws as vs) (h:RelF K Z F e tm σ H):AgD as vs:=fun i j ag ah v w x e1 e2 e3 e4 f1 f2=>by
 obtain ⟨k1,a1,G1,u1,m1,c1,g1⟩:=hd.cell (tm:=tm) e1 e2 (fp_own f1)
 obtain ⟨k2,a2,G2,u2,m2,c2,g2⟩:=hd.cell (tm:=tm) e3 e4 (fp_own f2)
 have:=h.ap _ _ _ _ _ _ x c1 c2 (g1 x f1) (g2 x f2)
 cases this
 exact hd.nd i j k1 _ _ _ _ m1 m2
theorem slot_lend {bb:Bool}{a a':Addr}{G G':GH}{ag ah:Ag} (h1:ag.own=true) (h2:ah.own=true) (h:∀ n,ag ≠ .b n) (h':∀ n,ah ≠ .b n):(slotR bb a G ag).lend=(slotR bb a' G' ah).lend:=by
 cases ag <;> cases ah <;> first | rfl | (cases h1;done) | (cases h2;done) | exact absurd rfl (h _) | exact absurd rfl (h' _)
theorem back_lend {bb:Bool}{a:Addr}{G:GH}{ag ag':Ag} (h:AgC ag ag') (o:ag.own=true):(backR bb a G ag ag').lend=(slotR bb a G ag).lend:=by
 cases ag <;> cases ag' <;> first | rfl | cases h | cases o
theorem back_spc {bb:Bool}{a:Addr}{G:GH}{ag ag':Ag} (h:AgC ag ag'):(backR bb a G ag ag').spc=(slotR bb a G ag).spc:=by
 cases ag <;> cases ag' <;> first | rfl | cases h
theorem back_fp {bb:Bool}{a:Addr}{G:GH}{ag ag':Ag}{u v:V}{x:Addr} (c:AgC ag ag') (hb:∀ n,ag = .b n->u=v) (f:Fp u (backR bb a G ag ag') x):Fp v ag'.r x\/(¬ Fp v ag.r x/\Fp u (slotR bb a G ag) x):=by
 cases ag with
 | d y=>
  cases ag' with
  | d z=>exact .inr ⟨fun z=>z,f⟩
  | m q g=>cases c
  | b n=>cases c
 | b n=>
  cases ag' with
  | d z=>cases c
  | m q g=>cases c
  | b n'=>
   left
   have:=hb n rfl
   rw [<-this]
   exact f
 | m q g=>
  cases ag' with
  | d z=>cases c
  | b n=>cases c
  | m q' g'=>
   have f:(over G g g' x).isSome=true:=f
   unfold over at f
   by_cases h1:(g' x).isSome=true
   ·exact .inl h1
   ·by_cases h2:(g x).isSome=true
    ·rw [h2] at f
     simp only [Bool.true_or,if_true] at f
     exact absurd f h1
    ·right
     refine ⟨h2,?_⟩
     have e1:(g x).isSome=false:=by simpa using h2
     have e2:(g' x).isSome=false:=by simpa using h1
     rw [e1,e2] at f
     show (G x).isSome=true
     simpa using f
theorem Hand.back (hd:Hand σ e bb ws as vs) (h:RelF K Z F e tm σ H) (g:Grow (AgB as vs) F H F' H') (ss:AgS as as') (ok:Ags K F' H' as' vs) (dj:AgD as' vs) (fr:∀ x,AgB as' vs x->AgB as vs x\/H x=none):RelF K Z F' (putAgs bb ws as as' e) tm σ H':=by
 have d0:=hd.dis h
 have ln:as'.length=as.length:=ss.len
 have at_:∀ (i j:Nat) (a:Addr) (G:GH) (ag:Ag),ws[i]? = some (some (j,a,G))->as[i]? = some ag->∃ (ag':Ag) (v u:V),as'[i]? = some ag'/\vs[i]? = some v/\AgC ag ag'/\ag.own=true/\Cell σ e tm (.s j) u (slotR bb a G ag)/\InSlot σ e bb v j a G ag/\(∀ n,ag = .b n->u=v)/\(∀ x,Fp v ag.r x->Fp u (slotR bb a G ag) x):=fun i j a G ag m1 e1=>by
  have hi:i < vs.length:=by rw [<-hd.len];exact (List.getElem?_eq_some_iff.mp e1).1
  have hi':i < as'.length:=by rw [ln,hd.len];exact hi
  have hin:=hd.own i j a G ag _ e1 (List.getElem?_eq_getElem hi) m1
  obtain ⟨u,h1,h2,h3⟩:=id hin
  have o:ag.own=true:=by cases ag <;> first | rfl | exact h3.elim
  refine ⟨as'[i],vs[i],u,List.getElem?_eq_getElem hi',List.getElem?_eq_getElem hi,ss.c i ag _ e1 (List.getElem?_eq_getElem hi'),o,⟨h1,h2⟩,hin,fun n en=>?_,fun x f=>?_⟩
  ·subst en;exact h3
  ·cases ag with
   | d y=>exact f.elim
   | b n=>rw [h3];exact f
   | m q g=>
    show (G x).isSome=true
    rw [h3.1 x f];exact f
 have was:∀ (i:Nat) (ag ag':Ag) (v:V) (x:Addr),as[i]? = some ag->as'[i]? = some ag'->vs[i]? = some v->Fp v ag'.r x->H x=none\/∃ (i2 j2:Nat) (a2:Addr) (G2:GH) (ag2:Ag) (v2:V),ws[i2]? = some (some (j2,a2,G2))/\as[i2]? = some ag2/\vs[i2]? = some v2/\Fp v2 ag2.r x/\∀ j a G,ws[i]? = some (some (j,a,G))->(slotR bb a2 G2 ag2).lend=(backR bb a G ag ag').lend:=fun i ag ag' v x e1 e2 e3 f=>by
  rcases fr x ⟨i,ag',v,e2,e3,f⟩ with ⟨i2,ag2,v2,z1,z2,z3⟩ | z
  ·right
   obtain ⟨j2,a2,G2,u2,m2,c2,g2⟩:=hd.cell (tm:=tm) z1 z2 (fp_own z3)
   refine ⟨i2,j2,a2,G2,ag2,v2,m2,z1,z2,z3,fun j a G m1=>?_⟩
   have c12:=ss.c i ag ag' e1 e2
   have o1:ag.own=true:=by rw [<-agc_own c12];exact fp_own f
   rw [back_lend c12 o1]
   have hi2:i2 < as'.length:=by rw [ln];exact (List.getElem?_eq_some_iff.mp z1).1
   have c22:=ss.c i2 ag2 _ z1 (List.getElem?_eq_getElem hi2)
   by_cases b2:∃ n,ag2 = .b n
   ·obtain ⟨n2,rfl⟩:=b2
    have fb:Fp v2 (as'[i2]'hi2).r x:=by
     cases h4:as'[i2]'hi2 with
     | b n3=>exact z3
     | d y=>rw [h4] at c22;exact c22.elim
     | m a g=>rw [h4] at c22;exact c22.elim
    have:=dj i i2 ag' _ v v2 x e2 e3 (List.getElem?_eq_getElem hi2) z2 f fb
    subst this
    rw [e1] at z1
    cases z1
    rfl
   ·by_cases b1:∃ n,ag = .b n
    ·obtain ⟨n1,rfl⟩:=b1
     have fb:Fp v (Ag.b n1).r x:=by
      cases h4:ag' with
      | b n4=>rw [h4] at f;exact f
      | d y=>rw [h4] at c12;exact c12.elim
      | m a g=>rw [h4] at c12;exact c12.elim
     have:=d0 i i2 _ ag2 v v2 x e1 e3 z1 z2 fb z3
     subst this
     rw [e1] at z1
     cases z1
     exact absurd ⟨n1,rfl⟩ b2
    ·exact slot_lend (fp_own z3) o1 (fun n z=>b2 ⟨n,z⟩) (fun n z=>b1 ⟨n,z⟩)
  ·exact .inl z
 refine h.chgS (fun a v r r'=>∃ (i j:Nat) (a0:Addr) (G:GH) (ag ag':Ag),ws[i]? = some (some (j,a0,G))/\a = .s j/\as[i]? = some ag/\as'[i]? = some ag'/\σ[j]? = some (some v)/\r=slotR bb a0 G ag/\r'=backR bb a0 G ag ag') g ?_ ?_ ?_ ?_ (by rw [putAgs_len];exact h.len) ?_ ?_
 ·rintro a u r r' ⟨i,j,a0,G,ag,ag',m1,rfl,e1,e2,e3,rfl,rfl⟩
  obtain ⟨ag2,v,u2,z1,z2,c12,o,cl,hin,hb,hsub⟩:=at_ i j a0 G ag m1 e1
  rw [e2] at z1
  cases z1
  obtain ⟨cl1,cl2⟩:=cl
  rw [e3] at cl1
  cases cl1
  refine ⟨⟨e3,cl2⟩,?_,fun x f=>?_⟩
  ·have ok0:=h.ok (.s j) u _ ⟨e3,cl2⟩
   have ok1:=ok.2 i ag' v e2 z2
   cases ag with
   | d y=>cases o
   | b n=>
    cases ag' with
    | d y=>cases c12
    | m q g=>cases c12
    | b n'=>rw [hb n rfl];exact ok1
   | m q g0=>
    cases ag' with
    | d y=>cases c12
    | b n=>cases c12
    | m q' g'=>
     have c12:q=q':=c12
     subst c12
     obtain ⟨_,w1,w2,w3,w4⟩:=hin
     obtain ⟨ev,ha,k0⟩:=ok0
     obtain ⟨ev1,ha1,k1⟩:=ok1
     refine ⟨ev,?_,fun p o hp=>?_⟩
     ·unfold over
      by_cases hz:((g0 a0).isSome || (g' a0).isSome)=true
      ·rw [if_pos hz]
       rcases w4 with rfl | w4
       ·exact ha1
       ·rw [w4] at hz
        simpa using hz
      ·rw [if_neg hz];exact ha
     ·unfold over at hp
      by_cases hz:((g0 p).isSome || (g' p).isSome)=true
      ·rw [if_pos hz] at hp
       exact k1 p o hp
      ·rw [if_neg hz] at hp
       obtain ⟨n1,mo⟩:=k0 p o hp
       have npb:¬ AgB as vs p:=fun ⟨i3,ag3,v3,y1,y2,y3⟩=>by
        obtain ⟨j3,a3,G3,u3,m3,c3,g3⟩:=hd.cell (tm:=tm) y1 y2 (fp_own y3)
        have:=h.ap _ _ _ _ _ _ p c3 (show Cell σ e tm (.s j) u (.hp bb a0 G) from ⟨e3,cl2⟩) (g3 p y3) (show (G p).isSome=true by rw [hp];rfl)
        cases this
        have:=hd.nd i3 i j _ _ _ _ m3 m1
        subst this
        rw [e1] at y1
        cases y1
        have y3:(g0 p).isSome=true:=y3
        rw [y3] at hz
        exact hz rfl
       obtain ⟨uo,hu,nt⟩:=mo.at
       exact ⟨nt_no (g.nw p (nt_of n1) (by rw [hu];simp)) g.sub (g.kp p uo npb hu) nt,mo.mono g.ff fun o' e'=>g.kp p o' npb e'⟩
  ·rcases back_fp c12 hb f with z | ⟨z1,z3⟩
   ·rcases was i ag ag' v x e1 e2 z2 z with y | ⟨i2,j2,a2,G2,ag2,v2,m2,y1,y2,y3,y4⟩
    ·exact .inl y
    ·obtain ⟨ag2',v2',u2,x1,x2,x3,x4,x5,x6,x7,x8⟩:=at_ i2 j2 a2 G2 ag2 m2 y1
     rw [y2] at x2
     cases x2
     exact .inr ⟨.s j2,u2,_,_,⟨i2,j2,a2,G2,ag2,ag2',m2,rfl,y1,x1,x5.1,rfl,rfl⟩,x8 x y3,fun z=>by rw [<-y4 j a0 G m1];exact z⟩
   ·exact .inr ⟨.s j,u,_,_,⟨i,j,a0,G,ag,ag',m1,rfl,e1,e2,e3,rfl,rfl⟩,z3,fun z=>by rw [back_lend c12 o];exact z⟩
 ·rintro x ⟨i,ag,v,e1,e2,f⟩
  obtain ⟨j,a0,G,u,m1,c,gg⟩:=hd.cell (tm:=tm) e1 e2 (fp_own f)
  have hi:i < as'.length:=by rw [ln];exact (List.getElem?_eq_some_iff.mp e1).1
  exact ⟨.s j,u,_,_,⟨i,j,a0,G,ag,_,m1,rfl,e1,List.getElem?_eq_getElem hi,c.1,rfl,rfl⟩,gg x f⟩
 ·rintro a u r r' b u2 q q' x ⟨i,j,a0,G,ag,ag',m1,rfl,e1,e2,e3,rfl,rfl⟩ ⟨i2,j2,a2,G2,ah,ah',m2,rfl,z1,z2,z3,rfl,rfl⟩ f f2
  obtain ⟨_,v,_,x1,x2,c12,o,cl,hin,hb,hsub⟩:=at_ i j a0 G ag m1 e1
  obtain ⟨_,v2,_,y1,y2,c22,o2,cl2,hin2,hb2,hsub2⟩:=at_ i2 j2 a2 G2 ah m2 z1
  rw [e2] at x1;cases x1
  rw [z2] at y1;cases y1
  obtain ⟨cla,clb⟩:=cl
  rw [e3] at cla;cases cla
  obtain ⟨clc,cld⟩:=cl2
  rw [z3] at clc;cases clc
  have mix:∀ (i j:Nat) (a0:Addr) (G:GH) (ag ag':Ag) (v u:V) (i2 j2:Nat) (a2:Addr) (G2:GH) (ah:Ag) (v2 u2:V),ws[i]? = some (some (j,a0,G))->as[i]? = some ag->as'[i]? = some ag'->vs[i]? = some v->ws[i2]? = some (some (j2,a2,G2))->as[i2]? = some ah->vs[i2]? = some v2->Cell σ e tm (.s j2) u2 (slotR bb a2 G2 ah)->Fp v ag'.r x->¬ Fp v2 ah.r x->Fp u2 (slotR bb a2 G2 ah) x->False:=fun i j a0 G ag ag' v u i2 j2 a2 G2 ah v2 u2 m1 e1 e2 x2 m2 z1 y2 cl f n2 f2=>by
   obtain ⟨_,uu,hu,_⟩:=(h.ok _ _ _ cl).fp f2
   rcases was i ag ag' v x e1 e2 x2 f with y | ⟨i3,j3,a3,G3,ag3,v3,m3,w1,w2,w3,_⟩
   ·rw [hu] at y;cases y
   ·obtain ⟨j4,a4,G4,u4,m4,c4,g4⟩:=hd.cell (tm:=tm) w1 w2 (fp_own w3)
    have:=h.ap _ _ _ _ _ _ x c4 cl (g4 x w3) f2
    cases this
    have:=hd.nd i3 i2 j2 _ _ _ _ m4 m2
    subst this
    rw [z1] at w1;cases w1
    rw [y2] at w2;cases w2
    exact n2 w3
  rcases back_fp c12 hb f with w1 | ⟨w1,w2⟩
  ·rcases back_fp c22 hb2 f2 with w3 | ⟨w3,w4⟩
   ·have:=dj i i2 ag' ah' v v2 x e2 x2 z2 y2 w1 w3
    subst this
    rw [m1] at m2;cases m2;rfl
   ·exact (mix i j a0 G ag ag' v u i2 j2 a2 G2 ah v2 u2 m1 e1 e2 x2 m2 z1 y2 ⟨z3,cld⟩ w1 w3 w4).elim
  ·rcases back_fp c22 hb2 f2 with w3 | ⟨w3,w4⟩
   ·exact (mix i2 j2 a2 G2 ah ah' v2 u2 i j a0 G ag v u m2 z1 z2 y2 m1 e1 x2 ⟨e3,clb⟩ w3 w1 w2).elim
   ·exact h.ap _ _ _ _ _ _ x ⟨e3,clb⟩ ⟨z3,cld⟩ w2 w4
 ·rintro b u q c
  cases b with
  | t k=>exact .inr ⟨(fun v r r' ⟨i,j,_,_,_,_,_,z,_⟩=>by cases z),c⟩
  | s k=>
   obtain ⟨c1,c2⟩:=c
   rcases putAgs_get ws as as' e k q hd.wlen ln c2 with ⟨i,a,G,ag,ag',m1,e1,e2,rfl⟩ | ⟨n1,e2⟩
   ·exact .inl ⟨_,i,k,a,G,ag,ag',m1,rfl,e1,e2,c1,rfl,rfl⟩
   ·refine .inr ⟨fun v r r' ⟨i,j,a,G,ag,ag',m1,z,_⟩=>?_,c1,e2⟩
    cases z
    exact n1 i a G m1
 ·intro k r e2
  rcases putAgs_get ws as as' e k r hd.wlen ln e2 with ⟨i,a,G,ag,ag',m1,e1,e3,rfl⟩ | ⟨n1,e3⟩
  ·obtain ⟨_,_,u,_,_,_,_,cl,_⟩:=at_ i k a G ag m1 e1
   exact ⟨u,cl.1⟩
  ·exact h.sl k r e3
 ·rintro ⟨r,e2,sp⟩
  rcases putAgs_get ws as as' e 0 r hd.wlen ln e2 with ⟨i,a,G,ag,ag',m1,e1,e3,rfl⟩ | ⟨n1,e3⟩
  ·obtain ⟨ag2,_,u,z1,_,c12,_,cl,_⟩:=at_ i 0 a G ag m1 e1
   rw [e3] at z1;cases z1
   rw [back_spc c12] at sp
   exact ⟨_,cl.2,sp⟩
  ·exact ⟨r,e3,sp⟩
end
section
variable {K:PySem.W.Frag}{X:Cx}{F H:Hp}{σ:L2.St}{bb:Bool}
theorem Hand.push {Z:Zt}{F' H':Hp}{e:En}{tm:Tm}{ws:List Wh}{as as':List Ag}{vs:List V}{v:V}{r:R} (hd:Hand σ e bb ws as vs) (h2:RelF K Z F e tm σ H) (h3:RelF K Z F' (putAgs bb ws as as' e) tm σ H') (ss:AgS as as') (fr:∀ x,Fp v r x->H x=none) (nb:ROk K F' H' v r) (far:∀ x,Fp v r x->¬ AgB as' vs x):RelF K Z F' (putAgs bb ws as as' e) (tm ++ [(v,r)]) σ H':=h3.push nb fun x f=>by
 refine ⟨.inl (h2.th x (fr x f)),fun a w q c f'=>?_⟩
 have old:Cell σ e tm a w q->False:=fun c=>by
  obtain ⟨_,u,hu,_⟩:=(h2.ok _ _ _ c).fp f'
  rw [fr x f] at hu;cases hu
 cases a with
 | t i=>exact old c
 | s i=>
  obtain ⟨c1,c2⟩:=c
  rcases putAgs_get ws as as' e i q hd.wlen ss.len c2 with ⟨m,a,G,ag,ag',m1,e1,e2,rfl⟩ | ⟨_,e2⟩
  ·have hi:m < vs.length:=by rw [<-hd.len];exact (List.getElem?_eq_some_iff.mp e1).1
   obtain ⟨u,z1,z2,z3⟩:=hd.own m i a G ag _ e1 (List.getElem?_eq_getElem hi) m1
   rw [c1] at z1;cases z1
   rcases back_fp (v:=vs[m]) (ss.c m ag ag' e1 e2) (fun n en=>by subst en;exact z3) f' with y | ⟨y1,y2⟩
   ·exact far x f ⟨m,ag',_,e2,List.getElem?_eq_getElem hi,y⟩
   ·obtain ⟨_,uu,hu,_⟩:=(h2.ok (.s i) w _ ⟨c1,z2⟩).fp y2
    rw [fr x f] at hu;cases hu
  ·exact old ⟨c1,e2⟩
end
end U
namespace U
open PySem L2
section
variable {X:Cx}{CX:CXT}{k:Nat}{f C:Addr}{fd:FuncData}{ps:List Str}{sp:Sp}{dvs:List V}{ds:List Value}{E:L2.St->XK}{x:Str}{p pos:Pos}{e:Expr}{es:List Expr}{t:TA}
end
section
variable {K:PySem.W.Frag}{X:Cx}{W:WX}
end
end U
namespace U
open PySem L2
section
variable {K:PySem.W.Frag}{X:Cx}{W:WX}{wi:TI}{di:DTI}{g:TG}{dg:DTG}{own:List Nat}{ts:TS}{ds:WD->DTS}{t:TT}{dt:DTT}{tg:Expr}{pos:Pos}
end
section
variable {X:Cx}{CX:CXT}{k:Nat}{f C:Addr}{fd:FuncData}{ps:List Str}{sp:Sp}{E:L2.St->XK}{m:Str}{pos apos:Pos}{o e:Expr}{es:List Expr}{ta:TE}{t:TA}
end
section
variable {K:PySem.W.Frag}{X:Cx}{W:WX}{C:Addr}{m:Str}{sp:XSp}{ta:TE}{da:DTE}{tr:TA}{dr:DTA}
end
section
variable {X:Cx}{k:Nat}{C:Addr}{sp:PSp}
end
section
variable {X:Cx}{K:PySem.W.Frag}{i:Nat}{x:Str}{px apos pos:Pos}
end
section
variable {X:Cx}{k j:Nat}{C:Addr}{m:Str}{ps ks:List Str}{gZ:List V->List V}{pos apos:Pos}{o:Expr}{kws:List Keyword}{ta:TE}{tk:TA}{da:DTE}{dk:DTA}
end
section
variable {K:PySem.W.Frag}{X:Cx}{a b:Expr}{pos:Pos}{ta tb:TE}{da db:DTE}
end
end U
namespace U
open PySem L2
theorem iteFB {b:Bool}{P Q:Prop} (h:b=false) (q:Q):if b=true then P else Q:=by rw [if_neg (by rw [h];simp)];exact q
section
variable {K:PySem.W.Frag}{X:Cx}{F G:Hp}
end
end U
namespace U
open PySem L2
section
variable {K:PySem.W.Frag}{X:Cx}{a:Addr}{oe:Obj}{cls:Value}{d:Option Addr}{e:Expr}{te:TE}{de:DTE}{pos:Pos}
end
def Low (w:Str):Prop:=∃ cs,w=tx cs/\∀ c∈cs,lc c
theorem Low.ok {w:Str} (h:Low w):PyData.strOk w=true:=by
 obtain ⟨cs,rfl,h⟩:=h
 exact strOk_tx h
end U
namespace U
open PySem L2 PyProof.Rows
section
variable {X:Cx}{e:Expr}{te:TE}{p apos cpos pos:Pos}
end
section
variable {K:PySem.W.Frag}{X:Cx}{C:Addr}{e:Expr}{te:TE}{de:DTE}{pos:Pos}
end
section
variable {K:PySem.W.Frag}{X:Cx}
end
section
variable {dg:DTG}{dt:DTT}{dk dv:DTE}{own:List Nat}{env e0:En}{Q:R->En->Prop}
end
section
variable {X:Cx}{k j:Nat}{C:Addr}{m:Str}{ps ks:List Str}{gZ:List V->List V}{pos apos:Pos}{o:Expr}{kws:List Keyword}{ta:TE}{tk:TA}{da:DTE}{dk:DTA}{CX:CXT}{n:Nat}{fd:FuncData}{f:Addr}{E:L2.St->XK}
end
end U
namespace U
open PySem L2
def isDk:MO->Bool
 | .dK _=>true
 | .dT _=>true
 | _=>false
section
variable (L:Addr->MO->Prop)
mutual
def SnD:D->D->Prop
 | .lst ys,d=>d = .lst ys\/∃ p xs,d = .pt p/\L p (.lst xs)/\SnL ys xs
 | .dK ys,d=>d = .dK ys\/∃ p xs,d = .pt p/\L p (.dK xs)/\SnK ys xs
 | .dT ys,d=>d = .dT ys\/∃ p xs,d = .pt p/\L p (.dT xs)/\SnT ys xs
 | .obj C ys,d=>d = .obj C ys\/∃ p xs,d = .pt p/\L p (.ins C xs)/\SnF ys xs
 | .tup ys,d=>d = .tup ys\/∃ xs,d = .tup xs/\SnL ys xs
 | .non,d=>d = .non
 | .bl b,d=>d = .bl b
 | .int i,d=>d = .int i
 | .str s,d=>d = .str s
 | .sq xs,d=>d = .sq xs
 | .exc a dd C fs,d=>d = .exc a dd C fs
 | .pt a,d=>d = .pt a
 | .uK kvs,d=>d = .uK kvs
def SnL:List D->List D->Prop
 | [],xs=>xs=[]
 | y :: ys,xs=>∃ x r,xs=x :: r/\SnD y x/\SnL ys r
def SnK:List (Key × D)->List (Key × D)->Prop
 | [],xs=>xs=[]
 | (k,y) :: ys,xs=>∃ x r,xs=(k,x) :: r/\SnD y x/\SnK ys r
def SnT:List (List Key × D)->List (List Key × D)->Prop
 | [],xs=>xs=[]
 | (k,y) :: ys,xs=>∃ x r,xs=(k,x) :: r/\SnD y x/\SnT ys r
def SnF:List (Str × D)->List (Str × D)->Prop
 | [],xs=>xs=[]
 | (k,y) :: ys,xs=>∃ x r,xs=(k,x) :: r/\SnD y x/\SnF ys r
end
theorem SnD.self:∀ d:D,SnD L d d
 | .lst ys=>by simp [SnD]
 | .dK ys=>by simp [SnD]
 | .dT ys=>by simp [SnD]
 | .obj C ys=>by simp [SnD]
 | .tup ys=>by simp [SnD]
 | .non=>by simp [SnD]
 | .bl b=>by simp [SnD]
 | .int i=>by simp [SnD]
 | .str s=>by simp [SnD]
 | .sq xs=>by simp [SnD]
 | .exc a dd C fs=>by simp [SnD]
 | .pt a=>by simp [SnD]
 | .uK kvs=>by simp [SnD]
theorem SnL.self:∀ ds:List D,SnL L ds ds
 | []=>by simp [SnL]
 | d :: ds=>by simp only [SnL];exact ⟨d,ds,rfl,SnD.self L d,SnL.self ds⟩
theorem SnK.self:∀ ds:List (Key × D),SnK L ds ds
 | []=>by simp [SnK]
 | (k,d) :: ds=>by simp only [SnK];exact ⟨d,ds,rfl,SnD.self L d,SnK.self ds⟩
end
section
variable {K:PySem.W.Frag}{F F':Hp}{L:Addr->MO->Prop}
def MV (K:PySem.W.Frag) (F F':Hp) (p:Addr):MO->Prop
 | .lst xs=>∃ vs,F' p=some (.lst vs)/\Dts K F xs vs
 | .dK xs=>∃ od ws,F' p=some (.frz od (.dK ws))/\DtK K F xs ws
 | .dT xs=>∃ od ws,F' p=some (.frz od (.dT ws))/\DtT K F xs ws
 | .ins C fs=>∃ dx ws,F' p=some (.ins C dx ws)/\DtF K F fs ws
mutual
theorem snD_dt (ff:Same F F') (hL:∀ p o,L p o->MV K F F' p o):∀ (t d:D) (v:V),SnD L t d->Dt K F d v->Dt K F' t v
 | .lst ys,d,v,h,q=>by
  simp only [SnD] at h
  rcases h with rfl | ⟨p,xs,rfl,hp,hs⟩
  ·exact Dt.mono ff _ _ q
  ·simp only [Dt] at q;subst q
   obtain ⟨vs,e,dv⟩:=hL _ _ hp
   simp only [Dt]
   exact ⟨p,vs,rfl,e,snL_dt ff hL ys xs vs hs dv⟩
 | .dK ys,d,v,h,q=>by
  simp only [SnD] at h
  rcases h with rfl | ⟨p,xs,rfl,hp,hs⟩
  ·exact Dt.mono ff _ _ q
  ·simp only [Dt] at q;subst q
   obtain ⟨od,vs,e,dv⟩:=hL _ _ hp
   simp only [Dt]
   exact ⟨p,od,vs,rfl,e,snK_dt ff hL ys xs vs hs dv⟩
 | .dT ys,d,v,h,q=>by
  simp only [SnD] at h
  rcases h with rfl | ⟨p,xs,rfl,hp,hs⟩
  ·exact Dt.mono ff _ _ q
  ·simp only [Dt] at q;subst q
   obtain ⟨od,vs,e,dv⟩:=hL _ _ hp
   simp only [Dt]
   exact ⟨p,od,vs,rfl,e,snT_dt ff hL ys xs vs hs dv⟩
 | .obj C ys,d,v,h,q=>by
  simp only [SnD] at h
  rcases h with rfl | ⟨p,xs,rfl,hp,hs⟩
  ·exact Dt.mono ff _ _ q
  ·simp only [Dt] at q;subst q
   obtain ⟨dx,vs,e,dv⟩:=hL _ _ hp
   simp only [Dt]
   exact ⟨p,dx,vs,rfl,e,snF_dt ff hL ys xs vs hs dv⟩
 | .tup ys,d,v,h,q=>by
  simp only [SnD] at h
  rcases h with rfl | ⟨xs,rfl,hs⟩
  ·exact Dt.mono ff _ _ q
  ·simp only [Dt] at q ⊢
   obtain ⟨a,vs,e,ta,dv⟩:=q
   exact ⟨a,vs,e,ta.mono ff,snL_dt ff hL ys xs vs hs dv⟩
 | .non,d,v,h,q=>by simp only [SnD] at h;subst h;exact Dt.mono ff _ _ q
 | .bl b,d,v,h,q=>by simp only [SnD] at h;subst h;exact Dt.mono ff _ _ q
 | .int i,d,v,h,q=>by simp only [SnD] at h;subst h;exact Dt.mono ff _ _ q
 | .str s,d,v,h,q=>by simp only [SnD] at h;subst h;exact Dt.mono ff _ _ q
 | .sq xs,d,v,h,q=>by simp only [SnD] at h;subst h;exact Dt.mono ff _ _ q
 | .exc a dd C fs,d,v,h,q=>by simp only [SnD] at h;subst h;exact Dt.mono ff _ _ q
 | .pt a,d,v,h,q=>by simp only [SnD] at h;subst h;exact Dt.mono ff _ _ q
 | .uK kvs,d,v,h,q=>by simp only [SnD] at h;subst h;exact Dt.mono ff _ _ q
theorem snL_dt (ff:Same F F') (hL:∀ p o,L p o->MV K F F' p o):∀ (ts ds:List D) (vs:List V),SnL L ts ds->Dts K F ds vs->Dts K F' ts vs
 | [],ds,vs,h,q=>by simp only [SnL] at h;subst h;simpa only [Dts] using q
 | t :: ts,ds,vs,h,q=>by
  simp only [SnL] at h
  obtain ⟨x,r,rfl,h1,h2⟩:=h
  simp only [Dts] at q ⊢
  obtain ⟨v,vr,e,q1,q2⟩:=q
  exact ⟨v,vr,e,snD_dt ff hL t x v h1 q1,snL_dt ff hL ts r vr h2 q2⟩
theorem snK_dt (ff:Same F F') (hL:∀ p o,L p o->MV K F F' p o):∀ (ts ds:List (Key × D)) (vs:List (Key × V)),SnK L ts ds->DtK K F ds vs->DtK K F' ts vs
 | [],ds,vs,h,q=>by simp only [SnK] at h;subst h;simpa only [DtK] using q
 | (k,t) :: ts,ds,vs,h,q=>by
  simp only [SnK] at h
  obtain ⟨x,r,rfl,h1,h2⟩:=h
  simp only [DtK] at q ⊢
  obtain ⟨v,vr,e,q1,q2⟩:=q
  exact ⟨v,vr,e,snD_dt ff hL t x v h1 q1,snK_dt ff hL ts r vr h2 q2⟩
theorem snT_dt (ff:Same F F') (hL:∀ p o,L p o->MV K F F' p o):∀ (ts ds:List (List Key × D)) (vs:List (List Key × V)),SnT L ts ds->DtT K F ds vs->DtT K F' ts vs
 | [],ds,vs,h,q=>by simp only [SnT] at h;subst h;simpa only [DtT] using q
 | (k,t) :: ts,ds,vs,h,q=>by
  simp only [SnT] at h
  obtain ⟨x,r,rfl,h1,h2⟩:=h
  simp only [DtT] at q ⊢
  obtain ⟨v,vr,e,q1,q2⟩:=q
  exact ⟨v,vr,e,snD_dt ff hL t x v h1 q1,snT_dt ff hL ts r vr h2 q2⟩
theorem snF_dt (ff:Same F F') (hL:∀ p o,L p o->MV K F F' p o):∀ (ts ds:List (Str × D)) (vs:List (Str × V)),SnF L ts ds->DtF K F ds vs->DtF K F' ts vs
 | [],ds,vs,h,q=>by simp only [SnF] at h;subst h;simpa only [DtF] using q
 | (k,t) :: ts,ds,vs,h,q=>by
  simp only [SnF] at h
  obtain ⟨x,r,rfl,h1,h2⟩:=h
  simp only [DtF] at q ⊢
  obtain ⟨v,vr,e,q1,q2⟩:=q
  exact ⟨v,vr,e,snD_dt ff hL t x v h1 q1,snF_dt ff hL ts r vr h2 q2⟩
end
end
def tLockN:Nat->TE->TE
 | 0,t=>t
 | n+1,t=>tLockE (tLockN n t)
def tLockV (t:TE):TE:=fun σ H Q=>∃ n,tLockN n t σ H Q
section
variable {X:Cx}
theorem pe_lockN {e:Expr}{t:TE} (h:PE X e t):∀ n,PE X e (tLockN n t)
 | 0=>h
 | n+1=>pe_lock (pe_lockN h n)
theorem pe_lockV {e:Expr}{t:TE} (h:PE X e t):PE X e (tLockV t):=⟨fun pins s σ H Q I ⟨n,q⟩=>(pe_lockN h n).run pins s σ H Q I q⟩
end
theorem lockN {t:TE}{σ:L2.St}:∀ (ls:List Addr) (H:Hp) (Q:VK),ls.Nodup->(∀ p,p∈ls->∃ u,H p=some u/\Mut (some u)) ->
  (∀ (HL:Hp) (Q':VK),(∀ p,p∈ls->∃ od u,H p=some u/\HL p=some (.frz od u))->(∀ p,p ∉ ls->HL p=H p) ->
   (∀ v H2,(∀ p,p∈ls->H2 p=HL p)->(∀ H3,(∀ p,p∈ls->H3 p=H p)->(∀ p,p ∉ ls->H3 p=H2 p)->Q v H3)->Q' v H2)->t σ HL Q')->tLockN ls.length t σ H Q
 | [],H,Q,_,_,k=>k H Q (fun p h=>by cases h) (fun _ _=>rfl) fun v H2 _ z=>z H2 (fun p h=>by cases h) fun _ _=>rfl
 | p :: ls,H,Q,nd,hm,k=>by
  rw [List.nodup_cons] at nd
  obtain ⟨u,hu,mu⟩:=hm p (List.mem_cons_self ..)
  refine ⟨p,u,hu,mu,fun od=>?_⟩
  refine lockN ls (upd H p (.frz od u)) _ nd.2 (fun q hq=>?_) fun HL Q' c1 c2 kk=>?_
  ·obtain ⟨u',hu',mu'⟩:=hm q (List.mem_cons_of_mem _ hq)
   have:q ≠ p:=fun z=>nd.1 (z ▸ hq)
   exact ⟨u',by rw [upd_ne this];exact hu',mu'⟩
  ·have hp:HL p=some (.frz od u):=by rw [c2 p nd.1,upd_same]
   refine k HL Q' (fun q hq=>?_) (fun q hq=>?_) fun v H2 d1 d2=>?_
   ·rcases List.mem_cons.mp hq with rfl | hq
    ·exact ⟨od,u,hu,hp⟩
    ·have:q ≠ p:=fun z=>nd.1 (z ▸ hq)
     obtain ⟨o2,u2,e1,e2⟩:=c1 q hq
     rw [upd_ne this] at e1
     exact ⟨o2,u2,e1,e2⟩
   ·have:q ≠ p:=fun z=>hq (z ▸ List.mem_cons_self ..)
    rw [c2 q (fun z=>hq (List.mem_cons_of_mem _ z)),upd_ne this]
   ·refine kk v H2 (fun q hq=>d1 q (List.mem_cons_of_mem _ hq)) fun H3 f1 f2=>⟨?_,d2 _ (fun q hq=>?_) fun q hq=>?_⟩
    ·rw [f2 p nd.1,d1 p (List.mem_cons_self ..),hp]
    ·rcases List.mem_cons.mp hq with rfl | hq
     ·rw [upd_same,hu]
     ·have:q ≠ p:=fun z=>nd.1 (z ▸ hq)
      rw [upd_ne this,f1 q hq,upd_ne this]
    ·have:q ≠ p:=fun z=>hq (z ▸ List.mem_cons_self ..)
     rw [upd_ne this,f2 q (fun z=>hq (List.mem_cons_of_mem _ z))]
def ded:List Nat->List Nat
 | []=>[]
 | x :: xs=>if x∈ded xs then ded xs else x :: ded xs
theorem ded_mem:∀ {xs:List Nat}{x:Nat},x∈ded xs ↔ x∈xs
 | [],x=>Iff.rfl
 | y :: xs,x=>by
  unfold ded
  by_cases h:y∈ded xs
  ·rw [if_pos h,List.mem_cons,ded_mem (xs:=xs)]
   exact ⟨.inr,fun z=>z.elim (fun e=>by rw [e];exact ded_mem.mp h) id⟩
  ·rw [if_neg h,List.mem_cons,List.mem_cons,ded_mem (xs:=xs)]
theorem ded_nd:∀ xs:List Nat,(ded xs).Nodup
 | []=>List.nodup_nil
 | y :: xs=>by
  unfold ded
  by_cases h:y∈ded xs
  ·rw [if_pos h];exact ded_nd xs
  ·rw [if_neg h];exact List.nodup_cons.mpr ⟨h,ded_nd xs⟩
def AtHp (env:En) (p:Addr) (o:MO):Prop:=∃ (j:Nat) (b:Bool) (a:Addr) (g:GH),env[j]? = some (some (.hp b a g))/\g p=some o
def Lk (env:En) (ls:List Addr) (p:Addr) (o:MO):Prop:=AtHp env p o/\(isDk o=true->p∈ls)
def VwR (L:Addr->MO->Prop):R->D->Prop
 | .dat d,t=>SnD L t d
 | .own xs,t=>∃ ys,t = .lst ys/\SnL L ys xs
 | .hp _ a _,t=>SnD L t (.pt a)
 | _,_=>False
def VwE (L:Addr->MO->Prop):En->En->Prop
 | [],[]=>True
 | _ :: e,none :: e'=>VwE L e e'
 | some r :: e,some (.dat t) :: e'=>VwR L r t/\VwE L e e'
 | _,_=>False
theorem VwE.len {L:Addr->MO->Prop}:∀ {e e':En},VwE L e e'->e'.length=e.length
 | [],[],_=>rfl
 | [],_ :: _,h=>h.elim
 | _ :: _,[],h=>by simp [VwE] at h
 | none :: e,none :: e',h=>by rw [List.length_cons,List.length_cons,VwE.len (e:=e) (e':=e') (by simpa [VwE] using h)]
 | some r :: e,none :: e',h=>by rw [List.length_cons,List.length_cons,VwE.len (e:=e) (e':=e') (by simpa [VwE] using h)]
 | none :: e,some q :: e',h=>by simp [VwE] at h
 | some r :: e,some q :: e',h=>by
  cases q with
  | dat t=>rw [List.length_cons,List.length_cons,VwE.len (e:=e) (e':=e') h.2]
  | _=>exact h.elim
theorem VwE.get {L:Addr->MO->Prop}:∀ {e e':En}{i:Nat}{q:R},VwE L e e'->e'[i]? = some (some q)->∃ r t,e[i]? = some (some r)/\q = .dat t/\VwR L r t
 | [],[],i,q,_,e=>by simp at e
 | [],_ :: _,_,_,h,_=>h.elim
 | _ :: _,[],_,_,h,_=>by simp [VwE] at h
 | none :: e,none :: e',0,q,h,x=>by simp at x
 | some r :: e,none :: e',0,q,h,x=>by simp at x
 | none :: e,some q' :: e',i,q,h,x=>by simp [VwE] at h
 | some r :: e,some q' :: e',0,q,h,x=>by
  cases q' with
  | dat t=>simp at x;exact ⟨r,t,rfl,x.symm,h.1⟩
  | _=>exact h.elim
 | none :: e,none :: e',i+1,q,h,x=>by
  obtain ⟨r,t,h1,h2,h3⟩:=VwE.get (e:=e) (e':=e') (i:=i) (q:=q) (by simpa [VwE] using h) (by simpa using x)
  exact ⟨r,t,by simpa using h1,h2,h3⟩
 | some r0 :: e,none :: e',i+1,q,h,x=>by
  obtain ⟨r,t,h1,h2,h3⟩:=VwE.get (e:=e) (e':=e') (i:=i) (q:=q) (by simpa [VwE] using h) (by simpa using x)
  exact ⟨r,t,by simpa using h1,h2,h3⟩
 | some r0 :: e,some q' :: e',i+1,q,h,x=>by
  cases q' with
  | dat t0=>
   obtain ⟨r,t,h1,h2,h3⟩:=VwE.get (e:=e) (e':=e') (i:=i) (q:=q) h.2 (by simpa using x)
   exact ⟨r,t,by simpa using h1,h2,h3⟩
  | _=>exact h.elim
mutual
def noV:D->Bool
 | .non=>true
 | .bl _=>true
 | .int _=>true
 | .str _=>true
 | .pt _=>true
 | .tup xs=>noVs xs
 | _=>false
def noVs:List D->Bool
 | []=>true
 | x :: xs=>noV x && noVs xs
end
def noVK:List (Key × D)->Bool
 | []=>true
 | (_,x) :: xs=>noV x && noVK xs
def noVR:R->Bool
 | .dat d=>noV d
 | .own xs=>noVs xs
 | .oK kvs=>noVK kvs
 | _=>false
section
variable {K:PySem.W.Frag}{F G:Hp}
mutual
theorem noV_dt (s:∀ a vs,F a=some (.tup vs)->G a=some (.tup vs)):∀ (d:D) (v:V),noV d=true->Dt K F d v->Dt K G d v
 | .non,v,_,h=>by simpa only [Dt] using h
 | .bl b,v,_,h=>by simpa only [Dt] using h
 | .int i,v,_,h=>by simpa only [Dt] using h
 | .str x,v,_,h=>by simpa only [Dt] using h
 | .pt a,v,_,h=>by simpa only [Dt] using h
 | .tup xs,v,f,h=>by
  simp only [noV] at f
  simp only [Dt] at h ⊢
  obtain ⟨a,vs,e,q,r⟩:=h
  exact ⟨a,vs,e,q.imp (fun z=>s _ _ z) fun z=>z,noV_dts s xs vs f r⟩
 | .lst xs,v,f,h=>by simp [noV] at f
 | .sq xs,v,f,h=>by simp [noV] at f
 | .dK xs,v,f,h=>by simp [noV] at f
 | .dT xs,v,f,h=>by simp [noV] at f
 | .obj C xs,v,f,h=>by simp [noV] at f
 | .exc a dd C xs,v,f,h=>by simp [noV] at f
 | .uK xs,v,f,h=>by simp [noV] at f
theorem noV_dts (s:∀ a vs,F a=some (.tup vs)->G a=some (.tup vs)):∀ (d:List D) (v:List V),noVs d=true->Dts K F d v->Dts K G d v
 | [],v,_,h=>by simpa only [Dts] using h
 | x :: xs,vs,f,h=>by
  simp only [noVs,Bool.and_eq_true] at f
  simp only [Dts] at h ⊢
  obtain ⟨v,r,e,q,t⟩:=h
  exact ⟨v,r,e,noV_dt s x v f.1 q,noV_dts s xs r f.2 t⟩
end
theorem noV_dtK (s:∀ a vs,F a=some (.tup vs)->G a=some (.tup vs)):∀ (d:List (Key × D)) (v:List (Key × V)),noVK d=true->DtK K F d v->DtK K G d v
 | [],v,_,h=>by simpa only [DtK] using h
 | (k,x) :: xs,vs,f,h=>by
  simp only [noVK,Bool.and_eq_true] at f
  simp only [DtK] at h ⊢
  obtain ⟨v,r,e,q,t⟩:=h
  exact ⟨v,r,e,noV_dt s x v f.1 q,noV_dtK s xs r f.2 t⟩
end
def dPurV (de:DTE) (env:En) (Q:R->En->Prop):Prop:=∃ (ls:List Addr) (env':En),(∀ p,p∈ls->∃ o,AtHp env p o/\isDk o=true)/\VwE (Lk env ls) env env'/\de env' fun r _=>noVR r=true/\Q r env
section
variable {K:PySem.W.Frag}{X:Cx}
def seenP (env:En) (σ:L2.St) (a:Addr):Prop:=(∃ (o:MO),AtHp env a o)\/∃ (i:Nat) (xs:List D),env[i]? = some (some (.own xs))/\σ[i]? = some (some (.ref a))
open Classical in
noncomputable def seenH (F HL:Hp) (env:En) (σ:L2.St):Hp:=fun a=>if seenP env σ a then HL a else F a
theorem se_purV {te:TE}{de:DTE} (he:SE K te de):SE K (tLockV te) (dPurV de):=fun Z env tm σ H Q Qd h q k=>by
 obtain ⟨F,h1⟩:=h
 obtain ⟨ls,env',hls,hvw,q⟩:=q
 have hat:∀ {p o},AtHp env p o->F p=none/\MOk K F H p o:=fun {p o} ⟨j,b,a,g,ej,hg⟩=>h1.hat ej hg
 have uniq:∀ {p o o'},AtHp env p o->AtHp env p o'->o=o':=fun {p o o'} ⟨j,b,a,g,ej,hg⟩ ⟨j',b',a',g',ej',hg'⟩=>by
  obtain ⟨v,hv⟩:=h1.sl j _ ej
  obtain ⟨v',hv'⟩:=h1.sl j' _ ej'
  have:=h1.ap (.s j) (.s j') v v' _ _ p ⟨hv,ej⟩ ⟨hv',ej'⟩ (show (g p).isSome=true by rw [hg];rfl) (show (g' p).isSome=true by rw [hg'];rfl)
  cases this
  rw [ej] at ej'
  cases ej'
  rw [hg] at hg'
  exact Option.some.inj hg'
 have own:∀ {i:Nat} {xs:List D} {a:Addr},env[i]? = some (some (.own xs))->σ[i]? = some (some (.ref a))->F a=none/\(∀ o,¬ AtHp env a o)/\∃ vs,H a=some (.lst vs)/\Dts K F xs vs:=fun {i xs a} e1 e2=>by
  obtain ⟨p,vs,ep,nF,hp,dv⟩:=h1.ok (.s i) (.ref a) (.own xs) ⟨e2,e1⟩
  cases ep
  refine ⟨nF,fun o ⟨j,b,a',g,ej,hg⟩=>?_,vs,hp,dv⟩
  obtain ⟨v,hv⟩:=h1.sl j _ ej
  have:=h1.ap (.s i) (.s j) _ v _ _ a ⟨e2,e1⟩ ⟨hv,ej⟩ rfl (show (g a).isSome=true by rw [hg];rfl)
  cases this
  rw [ej] at e1
  cases e1
 have seenF:∀ {a},seenP env σ a->F a=none:=fun {a} z=>by
  rcases z with ⟨o,ho⟩ | ⟨i,xs,e1,e2⟩
  ·exact (hat ho).1
  ·exact (own e1 e2).1
 have lsd:∀ {p},p∈ls->∃ o,AtHp env p o/\isDk o=true:=fun {p} hp=>hls p hp
 have lsF:∀ {p},p∈ls->F p=none:=fun {p} hp=>by
  obtain ⟨o,ho,_⟩:=lsd hp
  exact (hat ho).1
 have lsM:∀ {p},p∈ls->∃ u,H p=some u/\Mut (some u)/\∀ vs,u ≠ .tup vs:=fun {p} hp=>by
  obtain ⟨o,ho,hd⟩:=lsd hp
  have mo:=(hat ho).2
  cases o with
  | lst xs=>cases hd
  | ins C xs=>cases hd
  | dK xs=>obtain ⟨ws,e,_⟩:=mo;exact ⟨_,e,trivial,fun _ z=>by cases z⟩
  | dT xs=>obtain ⟨ws,e,_⟩:=mo;exact ⟨_,e,trivial,fun _ z=>by cases z⟩
 refine ⟨(ded ls).length,lockN (ded ls) H Q (ded_nd ls) (fun p hp=>?_) fun HL Q' c1 c2 kk=>?_⟩
 ·obtain ⟨u,e,m,_⟩:=lsM (ded_mem.mp hp)
  exact ⟨u,e,m⟩
 have c1:∀ p,p∈ls->∃ od u,H p=some u/\HL p=some (.frz od u):=fun p hp=>c1 p (ded_mem.mpr hp)
 have c2:∀ p,p ∉ ls->HL p=H p:=fun p hp=>c2 p fun z=>hp (ded_mem.mp z)
 have ff:Same F (seenH F HL env σ):=fun a o e=>by
  unfold seenH
  split
  ·rename_i hx
   rw [seenF hx] at e;cases e
  ·exact e
 have sb:Same (seenH F HL env σ) HL:=fun a o e=>by
  unfold seenH at e
  split at e
  ·exact e
  ·have:a ∉ ls:=fun z=>by rw [lsF z] at e;cases e
   rw [c2 a this]
   exact h1.sub a o e
 have mv:∀ p o,Lk env ls p o->MV K F (seenH F HL env σ) p o:=fun p o ⟨ho,hd⟩=>by
  have se:seenH F HL env σ p=HL p:=by unfold seenH;rw [if_pos (.inl ⟨o,ho⟩)]
  have nl:isDk o=false->HL p=H p:=fun z=>c2 p fun hp=>by
   obtain ⟨o',ho',hd'⟩:=lsd hp
   rw [uniq ho ho',hd'] at z;cases z
  have mo:=(hat ho).2
  cases o with
  | lst xs=>obtain ⟨vs,e,d⟩:=mo;exact ⟨vs,by rw [se,nl rfl];exact e,d⟩
  | ins C xs=>obtain ⟨dx,vs,e,d⟩:=mo;exact ⟨dx,vs,by rw [se,nl rfl];exact e,d⟩
  | dK xs=>
   obtain ⟨ws,e,d⟩:=mo
   obtain ⟨od,u,e1,e2⟩:=c1 p (hd rfl)
   rw [e] at e1;cases e1
   exact ⟨od,ws,by rw [se];exact e2,d⟩
  | dT xs=>
   obtain ⟨ws,e,d⟩:=mo
   obtain ⟨od,u,e1,e2⟩:=c1 p (hd rfl)
   rw [e] at e1;cases e1
   exact ⟨od,ws,by rw [se];exact e2,d⟩
 have dat:∀ {a v r},Cell σ env' [] a v r->∃ d,r = .dat d/\Dt K (seenH F HL env σ) d v:=fun {a v r} c=>by
  cases a with
  | t j=>cases (show ([]:Tm)[j]? = some (v,r) from c)
  | s i=>
   obtain ⟨r0,t,e,rfl,vw⟩:=hvw.get c.2
   refine ⟨t,rfl,?_⟩
   have ok:=h1.ok (.s i) v r0 ⟨c.1,e⟩
   cases r0 with
   | dat d=>exact snD_dt ff mv t d v vw ok
   | own xs=>
    obtain ⟨p,vs,rfl,nF,hp,dv⟩:=ok
    obtain ⟨ys,rfl,hs⟩:=vw
    obtain ⟨_,nat,_⟩:=own e c.1
    simp only [Dt]
    refine ⟨p,vs,rfl,?_,snL_dt ff mv ys xs vs hs dv⟩
    unfold seenH
    rw [if_pos (.inr ⟨i,xs,e,c.1⟩),c2 p fun z=>?_]
    ·exact hp
    ·obtain ⟨o,ho,_⟩:=lsd z
     exact nat o ho
   | hp b a g=>exact snD_dt ff mv t (.pt a) v vw (by simp only [Dt];exact ok.1)
   | _=>exact vw.elim
 have h2:RelF K ⟨seenH F HL env σ,HL,0,fun _=>False⟩ (seenH F HL env σ) env' [] σ HL:=by
  refine ⟨sb,Same.refl _,fun _ h _=>h,fun _ _ _ h=>h,fun _ h=>h,by rw [hvw.len];exact h1.len,fun i r e=>?_,fun a v r c=>?_,fun a v r x c f=>?_,fun a b v w r q x c c' f f'=>?_,fun e=>?_⟩
  ·obtain ⟨r0,t,e0,_,_⟩:=hvw.get e
   exact h1.sl i _ e0
  ·obtain ⟨d,rfl,dd⟩:=dat c;exact dd
  ·obtain ⟨d,rfl,dd⟩:=dat c;exact f.elim
  ·obtain ⟨d,rfl,dd⟩:=dat c;exact f.elim
  ·obtain ⟨r,e,sp⟩:=e
   obtain ⟨r0,t,e0,rfl,_⟩:=hvw.get e
   cases sp
 refine he _ _ [] σ HL _ _ ⟨_,h2⟩ q fun v r e H2 h3 nb q3=>?_
 obtain ⟨G,g,n⟩:=rel_out h3 nb
 refine kk v H2 (fun p hp=>?_) fun H3 d1 d2=>?_
 ·obtain ⟨od,u,_,e2⟩:=c1 p (ded_mem.mp hp)
  rw [e2]
  exact g.kp p _ id e2
 have d1:∀ p,p∈ls->H3 p=H p:=fun p hp=>d1 p (ded_mem.mpr hp)
 have d2:∀ p,p ∉ ls->H3 p=H2 p:=fun p hp=>d2 p fun z=>hp (ded_mem.mp z)
 have sG:Same F G:=ff.trans g.ff
 have hl2:∀ a o,a ∉ ls->H a=some o->H2 a=some o:=fun a o na e=>g.kp a o id (by rw [c2 a na];exact e)
 let G2:Hp:=fun a=>match F a with
  | some o=>some o
  | none=>match H a with
   | some (.tup vs)=>G a
   | some _=>none
   | none=>G a
 have g2le:∀ a o,G2 a=some o->G a=some o/\a ∉ ls:=fun a o e=>by
  simp only [G2] at e
  cases ef:F a with
  | some o'=>
   rw [ef] at e;cases e
   exact ⟨sG a _ ef,fun z=>by rw [lsF z] at ef;cases ef⟩
  | none=>
   rw [ef] at e
   refine ⟨?_,fun z=>?_⟩
   ·cases eh:H a with
    | none=>rw [eh] at e;exact e
    | some u=>rw [eh] at e;cases u <;> first | exact e | cases e
   ·obtain ⟨u,eu,_,nt⟩:=lsM z
    rw [eu] at e
    cases u <;> first | exact nt _ rfl | cases e
 have tp:∀ a vs,G a=some (.tup vs)->G2 a=some (.tup vs):=fun a vs e=>by
  simp only [G2]
  cases ef:F a with
  | some o'=>have:=sG a _ ef;rw [e] at this;cases this;rfl
  | none=>
   cases eh:H a with
   | none=>exact e
   | some u=>
    have e2:=g.sub a _ e
    by_cases hz:a∈ls
    ·obtain ⟨od,u',_,e3⟩:=c1 a hz
     have:=g.kp a _ id e3
     rw [e2] at this;cases this
    ·have:=hl2 a u hz eh
     rw [e2] at this;cases this
     exact e
 refine k v r env H3 (RelF.new h1 (F':=G2) ⟨fun a o e=>by simp only [G2];rw [e],fun a o e=>?_,fun a na ha o e=>?_,fun a o _ e=>?_,fun a e=>?_⟩ ⟨?_,nb,fun x f=>?_⟩) nb q3.2
 ·obtain ⟨e1,na⟩:=g2le a o e
  rw [d2 a na]
  exact g.sub a o e1
 ·obtain ⟨e1,nl⟩:=g2le a o e
  simp only [G2] at e
  cases ef:F a with
  | some o'=>rw [ef] at e;cases e;exact na _ ef
  | none=>
   rw [ef] at e
   cases eh:H a with
   | none=>exact absurd eh ha
   | some u=>
    rw [eh] at e
    have e2:=g.sub a o e1
    have e3:=hl2 a u nl eh
    rw [e2] at e3;cases e3
    cases o <;> first | exact ⟨_,rfl⟩ | cases e
 ·by_cases hz:a∈ls
  ·rw [d1 a hz];exact e
  ·rw [d2 a hz];exact hl2 a o hz e
 ·by_cases hz:a∈ls
  ·rw [d1 a hz] at e;exact e
  ·rw [d2 a hz] at e
   have:=g.th a e
   rw [c2 a hz] at this
   exact this
 ·have nls:∀ p,HL p=none->p ∉ ls:=fun p e z=>by
   obtain ⟨od,u,_,e2⟩:=c1 p z
   rw [e] at e2;cases e2
  have g2n:∀ p,G p=none->G2 p=none:=fun p e=>by
   cases e2:G2 p with
   | none=>rfl
   | some o=>have:=(g2le p o e2).1;rw [e] at this;cases this
  obtain ⟨f,_⟩:=q3
  cases r with
  | dat d=>exact noV_dt tp d v f n.ok
  | own xs=>
   obtain ⟨p,vs,rfl,nG,hp,dv⟩:=n.ok
   exact ⟨p,vs,rfl,g2n p nG,by rw [d2 p (nls p (n.nw p rfl))];exact hp,noV_dts tp xs vs f dv⟩
  | oK kvs=>
   obtain ⟨p,vs,rfl,nG,hp,dv⟩:=n.ok
   exact ⟨p,vs,rfl,g2n p nG,by rw [d2 p (nls p (n.nw p rfl))];exact hp,noV_dtK tp kvs vs f dv⟩
  | _=>cases f
 ·have e:=n.nw x f
  have:x ∉ ls:=fun z=>by
   obtain ⟨od,u,_,e2⟩:=c1 x z
   rw [e] at e2;cases e2
  rw [c2 x this] at e
  exact e
theorem de_purV {e:Expr}{te:TE}{de:DTE} (he:DE X e te de):DE X e (tLockV te) (dPurV de):=⟨pe_lockV he.1,se_purV he.2⟩
end
end U
namespace L2
open PySem PySem.Spec PySem.Calls PyProof.Rows PySem.W
section
variable {X:Cx}{pos sp:Pos}
end
end L2
namespace U
open PySem L2
section
variable {K:PySem.W.Frag}{X:Cx}{own:List Nat}{pos sp:Pos}
end
end U
namespace U
open PySem L2
def gN:GH:=fun _=>none
theorem g1_at {p x:Addr}{o:MO} (h:(gset gN p o x).isSome=true):x=p:=by
 by_cases hx:x=p
 ·exact hx
 ·rw [gset_ne hx] at h;cases h
section
variable {K:PySem.W.Frag}{X:Cx}
end
section
variable {K:PySem.W.Frag}{X:Cx}
end
def gun (g gg:GH):GH:=fun x=>match gg x with | some o=>some o | none=>g x
theorem gun_some {g gg:GH}{x:Addr}{o:MO} (h:gg x=some o):gun g gg x=some o:=by unfold gun;rw [h]
theorem gun_none {g gg:GH}{x:Addr} (h:gg x=none):gun g gg x=g x:=by unfold gun;rw [h]
theorem gun_one (g:GH) (p:Addr) (o:MO):gun g (gset gN p o)=gset g p o:=by
 funext x
 by_cases hx:x=p
 ·subst hx;rw [gun_some gset_same,gset_same]
 ·rw [gun_none (by rw [gset_ne hx];rfl),gset_ne hx]
def rG:R->Addr->GH->Prop
 | .own xs,p,gg=>gg=gset gN p (.lst xs)
 | .oK kvs,p,gg=>gg=gset gN p (.dK kvs)
 | .oI C fs,p,gg=>gg=gset gN p (.ins C fs)
 | .hp _ a g,p,gg=>p=a/\gg=g
 | _,_,_=>False
section
variable {K:PySem.W.Frag}{X:Cx}{Z:Zt}{F H:Hp}{e:En}{tm:Tm}{σ:L2.St}{j:Nat}{b:Bool}{a:Addr}{g:GH}
theorem rG_of {v:V}{r:R} (ok:ROk K F H v r) (nb:r.nobag=true) (m:r.mine=true):∃ p gg,rG r p gg/\v = .ref p/\(gg p).isSome=true/\(∀ x,(gg x).isSome=true ↔ Fp v r x)/\∀ x o,gg x=some o->F x=none/\MOk K F H x o:=by
 have one:∀ {p:Addr} {o:MO} {r:R},r.one=true->F p=none->MOk K F H p o->((gset gN p o) p).isSome=true/\(∀ x,((gset gN p o) x).isSome=true ↔ Fp (.ref p) r x)/\∀ x o',(gset gN p o) x=some o'->F x=none/\MOk K F H x o':=fun {p o r} ho nF mo=>by
  refine ⟨by rw [gset_same];rfl,fun x=>⟨fun z=>?_,fun z=>?_⟩,fun x o' hx=>?_⟩
  ·rw [g1_at z];exact fp_one ho
  ·have:=z.one ho
   cases this
   rw [gset_same];rfl
  ·have:=g1_at (p:=p) (o:=o) (x:=x) (by rw [hx];rfl)
   subst this
   rw [gset_same] at hx;cases hx
   exact ⟨nF,mo⟩
 cases r with
 | dat d=>cases m
 | own xs=>
  obtain ⟨p,vs,rfl,nF,hp,dv⟩:=ok
  obtain ⟨x1,x2,x3⟩:=one (r:=.own xs) (o:=.lst xs) rfl nF ⟨vs,hp,dv⟩
  exact ⟨p,_,rfl,rfl,x1,x2,x3⟩
 | oK xs=>
  obtain ⟨p,vs,rfl,nF,hp,dv⟩:=ok
  obtain ⟨x1,x2,x3⟩:=one (r:=.oK xs) (o:=.dK xs) rfl nF ⟨vs,hp,dv⟩
  exact ⟨p,_,rfl,rfl,x1,x2,x3⟩
 | oT xs=>cases nb
 | oI C xs=>
  obtain ⟨p,dx,vs,rfl,nF,hp,dv⟩:=ok
  obtain ⟨x1,x2,x3⟩:=one (r:=.oI C xs) (o:=.ins C xs) rfl nF ⟨dx,vs,hp,dv⟩
  exact ⟨p,_,rfl,rfl,x1,x2,x3⟩
 | slf C xs=>cases nb
 | bag n=>cases nb
 | hp b a g=>
  obtain ⟨ev,ha,kg⟩:=ok
  exact ⟨a,g,⟨rfl,rfl⟩,ev,ha,fun x=>Iff.rfl,kg⟩
def dGh (i:Nat) (de:DTE) (env:En) (Q:R->En->Prop):Prop:=match env[i]? with
 | some (some r)=>(r.one=true/\r.nobag=true)/\∀ p gg,rG r p gg->de (env.set i (some (.hp false p gg))) Q
 | _=>False
theorem RelF.gh {i:Nat}{r:R} (h:RelF K Z F e tm σ H) (ei:e[i]? = some (some r)) (on:r.one=true) (nb:r.nobag=true):∃ p gg,rG r p gg/\RelF K Z F (e.set i (some (.hp false p gg))) tm σ H:=by
 obtain ⟨v,hv⟩:=h.sl i _ ei
 have c:Cell σ e tm (.s i) v r:=⟨hv,ei⟩
 obtain ⟨p,gg,hg,rfl,hpp,hf,hk⟩:=rG_of (h.ok _ _ _ c) nb (one_mine on)
 refine ⟨p,gg,hg,?_⟩
 refine h.chgF (M:=fun _=>False) (a:=.s i) (r:=r) (r':=.hp false p gg) (Grow.refl h.sub) c (fun x z=>z.elim) (fun x f=>.inl ((hf x).mp f)) ⟨rfl,hpp,hk⟩ (by rw [nobag_lend nb];rfl) (fun a w q c=>cell_setS c hv) (by rw [List.length_set];exact h.len) (set_sl h.sl hv) fun z=>set_bg (fun _=>rfl) z
theorem se_gh {i:Nat}{te:TE}{de:DTE} (he:SE K te de):SE K te (dGh i de):=fun Z env tm σ H Q Qd ⟨F,h⟩ q k=>by
 unfold dGh at q
 split at q
 ·rename_i r ei
  obtain ⟨p,gg,hg,h2⟩:=h.gh ei q.1.1 q.1.2
  exact he Z _ tm σ H Q Qd ⟨F,h2⟩ (q.2 p gg hg) k
 ·exact q.elim
theorem de_gh (i:Nat) {ex:Expr}{te:TE}{de:DTE} (he:DE X ex te de):DE X ex te (dGh i de):=⟨he.1,se_gh he.2⟩
end
end U
namespace U
open PySem L2
section
variable {K:PySem.W.Frag}{X:Cx}
end
end U
namespace U
open PySem L2
section
variable {K:PySem.W.Frag}{X:Cx}{te:TE}{de:DTE}{e:Expr}
end
end U
namespace U
open PySem L2
def tLockTE (t:TT):TT:=fun σ H Q=>∃ d u,H d=some u/\Mut (some u)/\∀ od,t σ (upd H d (.frz od u)) fun b H'=>H' d=some (.frz od u)/\Q b (upd H' d u)
theorem pt_lock {X:Cx}{e:Expr}{t:TT} (h:PT X e t):PT X e (tLockTE t):=by
 refine ⟨fun pins s σ H Q I hw=>?_⟩
 obtain ⟨d,u,hd,mu,hw⟩:=hw
 obtain ⟨od,I1⟩:=I.lock hd mu
 refine thn (h.run pins s σ _ _ I1 (hw od)) fun v s1 ⟨H1,I2,e2,q⟩=>?_
 exact ⟨_,I2.unlock e2 (I.nofrz hd mu),q⟩
def tLockTN:Nat->TT->TT
 | 0,t=>t
 | n+1,t=>tLockTE (tLockTN n t)
def tLockTV (t:TT):TT:=fun σ H Q=>∃ n,tLockTN n t σ H Q
theorem pt_lockN {X:Cx}{e:Expr}{t:TT} (h:PT X e t):∀ n,PT X e (tLockTN n t)
 | 0=>h
 | n+1=>pt_lock (pt_lockN h n)
theorem pt_lockV {X:Cx}{e:Expr}{t:TT} (h:PT X e t):PT X e (tLockTV t):=⟨fun pins s σ H Q I ⟨n,q⟩=>(pt_lockN h n).run pins s σ H Q I q⟩
theorem lockTN {t:TT}{σ:L2.St}:∀ (ls:List Addr) (H:Hp) (Q:Bool->Hp->Prop),ls.Nodup->(∀ p,p∈ls->∃ u,H p=some u/\Mut (some u)) ->
  (∀ (HL:Hp) (Q':Bool->Hp->Prop),(∀ p,p∈ls->∃ od u,H p=some u/\HL p=some (.frz od u))->(∀ p,p ∉ ls->HL p=H p) ->
   (∀ v H2,(∀ p,p∈ls->H2 p=HL p)->(∀ H3,(∀ p,p∈ls->H3 p=H p)->(∀ p,p ∉ ls->H3 p=H2 p)->Q v H3)->Q' v H2)->t σ HL Q')->tLockTN ls.length t σ H Q
 | [],H,Q,_,_,k=>k H Q (fun p h=>by cases h) (fun _ _=>rfl) fun v H2 _ z=>z H2 (fun p h=>by cases h) fun _ _=>rfl
 | p :: ls,H,Q,nd,hm,k=>by
  rw [List.nodup_cons] at nd
  obtain ⟨u,hu,mu⟩:=hm p (List.mem_cons_self ..)
  refine ⟨p,u,hu,mu,fun od=>?_⟩
  refine lockTN ls (upd H p (.frz od u)) _ nd.2 (fun q hq=>?_) fun HL Q' c1 c2 kk=>?_
  ·obtain ⟨u',hu',mu'⟩:=hm q (List.mem_cons_of_mem _ hq)
   have:q ≠ p:=fun z=>nd.1 (z ▸ hq)
   exact ⟨u',by rw [upd_ne this];exact hu',mu'⟩
  ·have hp:HL p=some (.frz od u):=by rw [c2 p nd.1,upd_same]
   refine k HL Q' (fun q hq=>?_) (fun q hq=>?_) fun v H2 d1 d2=>?_
   ·rcases List.mem_cons.mp hq with rfl | hq
    ·exact ⟨od,u,hu,hp⟩
    ·have:q ≠ p:=fun z=>nd.1 (z ▸ hq)
     obtain ⟨o2,u2,e1,e2⟩:=c1 q hq
     rw [upd_ne this] at e1
     exact ⟨o2,u2,e1,e2⟩
   ·have:q ≠ p:=fun z=>hq (z ▸ List.mem_cons_self ..)
    rw [c2 q (fun z=>hq (List.mem_cons_of_mem _ z)),upd_ne this]
   ·refine kk v H2 (fun q hq=>d1 q (List.mem_cons_of_mem _ hq)) fun H3 f1 f2=>⟨?_,d2 _ (fun q hq=>?_) fun q hq=>?_⟩
    ·rw [f2 p nd.1,d1 p (List.mem_cons_self ..),hp]
    ·rcases List.mem_cons.mp hq with rfl | hq
     ·rw [upd_same,hu]
     ·have:q ≠ p:=fun z=>nd.1 (z ▸ hq)
      rw [upd_ne this,f1 q hq,upd_ne this]
    ·have:q ≠ p:=fun z=>hq (z ▸ List.mem_cons_self ..)
     rw [upd_ne this,f2 q (fun z=>hq (List.mem_cons_of_mem _ z))]
section
variable {K:PySem.W.Frag}{X:Cx}
theorem RelF.seen {Z:Zt}{F H HL:Hp}{env env':En}{tm:Tm}{σ:L2.St}{ls:List Addr} (h1:RelF K Z F env tm σ H) (hls:∀ p,p∈ls->∃ o,AtHp env p o/\isDk o=true) (hvw:VwE (Lk env ls) env env') (c1:∀ p,p∈ls->∃ od u,H p=some u/\HL p=some (.frz od u)) (c2:∀ p,p ∉ ls->HL p=H p) :
  RelF K ⟨seenH F HL env σ,HL,0,fun _=>False⟩ (seenH F HL env σ) env' [] σ HL:=by
 have hat:∀ {p o},AtHp env p o->F p=none/\MOk K F H p o:=fun {p o} ⟨j,b,a,g,ej,hg⟩=>h1.hat ej hg
 have uniq:∀ {p o o'},AtHp env p o->AtHp env p o'->o=o':=fun {p o o'} ⟨j,b,a,g,ej,hg⟩ ⟨j',b',a',g',ej',hg'⟩=>by
  obtain ⟨v,hv⟩:=h1.sl j _ ej
  obtain ⟨v',hv'⟩:=h1.sl j' _ ej'
  have:=h1.ap (.s j) (.s j') v v' _ _ p ⟨hv,ej⟩ ⟨hv',ej'⟩ (show (g p).isSome=true by rw [hg];rfl) (show (g' p).isSome=true by rw [hg'];rfl)
  cases this
  rw [ej] at ej'
  cases ej'
  rw [hg] at hg'
  exact Option.some.inj hg'
 have own:∀ {i:Nat} {xs:List D} {a:Addr},env[i]? = some (some (.own xs))->σ[i]? = some (some (.ref a))->F a=none/\(∀ o,¬ AtHp env a o)/\∃ vs,H a=some (.lst vs)/\Dts K F xs vs:=fun {i xs a} e1 e2=>by
  obtain ⟨p,vs,ep,nF,hp,dv⟩:=h1.ok (.s i) (.ref a) (.own xs) ⟨e2,e1⟩
  cases ep
  refine ⟨nF,fun o ⟨j,b,a',g,ej,hg⟩=>?_,vs,hp,dv⟩
  obtain ⟨v,hv⟩:=h1.sl j _ ej
  have:=h1.ap (.s i) (.s j) _ v _ _ a ⟨e2,e1⟩ ⟨hv,ej⟩ rfl (show (g a).isSome=true by rw [hg];rfl)
  cases this
  rw [ej] at e1
  cases e1
 have seenF:∀ {a},seenP env σ a->F a=none:=fun {a} z=>by
  rcases z with ⟨o,ho⟩ | ⟨i,xs,e1,e2⟩
  ·exact (hat ho).1
  ·exact (own e1 e2).1
 have lsd:∀ {p},p∈ls->∃ o,AtHp env p o/\isDk o=true:=fun {p} hp=>hls p hp
 have lsF:∀ {p},p∈ls->F p=none:=fun {p} hp=>by
  obtain ⟨o,ho,_⟩:=lsd hp
  exact (hat ho).1
 have lsM:∀ {p},p∈ls->∃ u,H p=some u/\Mut (some u)/\∀ vs,u ≠ .tup vs:=fun {p} hp=>by
  obtain ⟨o,ho,hd⟩:=lsd hp
  have mo:=(hat ho).2
  cases o with
  | lst xs=>cases hd
  | ins C xs=>cases hd
  | dK xs=>obtain ⟨ws,e,_⟩:=mo;exact ⟨_,e,trivial,fun _ z=>by cases z⟩
  | dT xs=>obtain ⟨ws,e,_⟩:=mo;exact ⟨_,e,trivial,fun _ z=>by cases z⟩
 have ff:Same F (seenH F HL env σ):=fun a o e=>by
  unfold seenH
  split
  ·rename_i hx
   rw [seenF hx] at e;cases e
  ·exact e
 have sb:Same (seenH F HL env σ) HL:=fun a o e=>by
  unfold seenH at e
  split at e
  ·exact e
  ·have:a ∉ ls:=fun z=>by rw [lsF z] at e;cases e
   rw [c2 a this]
   exact h1.sub a o e
 have mv:∀ p o,Lk env ls p o->MV K F (seenH F HL env σ) p o:=fun p o ⟨ho,hd⟩=>by
  have se:seenH F HL env σ p=HL p:=by unfold seenH;rw [if_pos (.inl ⟨o,ho⟩)]
  have nl:isDk o=false->HL p=H p:=fun z=>c2 p fun hp=>by
   obtain ⟨o',ho',hd'⟩:=lsd hp
   rw [uniq ho ho',hd'] at z;cases z
  have mo:=(hat ho).2
  cases o with
  | lst xs=>obtain ⟨vs,e,d⟩:=mo;exact ⟨vs,by rw [se,nl rfl];exact e,d⟩
  | ins C xs=>obtain ⟨dx,vs,e,d⟩:=mo;exact ⟨dx,vs,by rw [se,nl rfl];exact e,d⟩
  | dK xs=>
   obtain ⟨ws,e,d⟩:=mo
   obtain ⟨od,u,e1,e2⟩:=c1 p (hd rfl)
   rw [e] at e1;cases e1
   exact ⟨od,ws,by rw [se];exact e2,d⟩
  | dT xs=>
   obtain ⟨ws,e,d⟩:=mo
   obtain ⟨od,u,e1,e2⟩:=c1 p (hd rfl)
   rw [e] at e1;cases e1
   exact ⟨od,ws,by rw [se];exact e2,d⟩
 have dat:∀ {a v r},Cell σ env' [] a v r->∃ d,r = .dat d/\Dt K (seenH F HL env σ) d v:=fun {a v r} c=>by
  cases a with
  | t j=>cases (show ([]:Tm)[j]? = some (v,r) from c)
  | s i=>
   obtain ⟨r0,t,e,rfl,vw⟩:=hvw.get c.2
   refine ⟨t,rfl,?_⟩
   have ok:=h1.ok (.s i) v r0 ⟨c.1,e⟩
   cases r0 with
   | dat d=>exact snD_dt ff mv t d v vw ok
   | own xs=>
    obtain ⟨p,vs,rfl,nF,hp,dv⟩:=ok
    obtain ⟨ys,rfl,hs⟩:=vw
    obtain ⟨_,nat,_⟩:=own e c.1
    simp only [Dt]
    refine ⟨p,vs,rfl,?_,snL_dt ff mv ys xs vs hs dv⟩
    unfold seenH
    rw [if_pos (.inr ⟨i,xs,e,c.1⟩),c2 p fun z=>?_]
    ·exact hp
    ·obtain ⟨o,ho,_⟩:=lsd z
     exact nat o ho
   | hp b a g=>exact snD_dt ff mv t (.pt a) v vw (by simp only [Dt];exact ok.1)
   | _=>exact vw.elim
 ·refine ⟨sb,Same.refl _,fun _ h _=>h,fun _ _ _ h=>h,fun _ h=>h,by rw [hvw.len];exact h1.len,fun i r e=>?_,fun a v r c=>?_,fun a v r x c f=>?_,fun a b v w r q x c c' f f'=>?_,fun e=>?_⟩
  ·obtain ⟨r0,t,e0,_,_⟩:=hvw.get e
   exact h1.sl i _ e0
  ·obtain ⟨d,rfl,dd⟩:=dat c;exact dd
  ·obtain ⟨d,rfl,dd⟩:=dat c;exact f.elim
  ·obtain ⟨d,rfl,dd⟩:=dat c;exact f.elim
  ·obtain ⟨r,e,sp⟩:=e
   obtain ⟨r0,t,e0,rfl,_⟩:=hvw.get e
   cases sp
theorem RelF.lsM {Z:Zt}{F H:Hp}{env:En}{tm:Tm}{σ:L2.St}{ls:List Addr} (h1:RelF K Z F env tm σ H) (hls:∀ p,p∈ls->∃ o,AtHp env p o/\isDk o=true) (p:Addr) (hp:p∈ls):∃ u,H p=some u/\Mut (some u):=by
 obtain ⟨o,⟨j,b,a,g,ej,hg⟩,hd⟩:=hls p hp
 have mo:=(h1.hat ej hg).2
 cases o with
 | lst xs=>cases hd
 | ins C xs=>cases hd
 | dK xs=>obtain ⟨ws,e,_⟩:=mo;exact ⟨_,e,trivial⟩
 | dT xs=>obtain ⟨ws,e,_⟩:=mo;exact ⟨_,e,trivial⟩
def dPurVT (dt:DTT) (env:En) (Q:Bool->En->Prop):Prop:=∃ (ls:List Addr) (env':En),(∀ p,p∈ls->∃ o,AtHp env p o/\isDk o=true)/\VwE (Lk env ls) env env'/\dt env' fun b _=>Q b env
theorem st_purV {tt:TT}{dt:DTT} (he:ST K tt dt):ST K (tLockTV tt) (dPurVT dt):=fun Z env tm σ H Q Qd h q k=>by
 obtain ⟨F,h1⟩:=h
 obtain ⟨ls,env',hls,hvw,q⟩:=q
 refine ⟨(ded ls).length,lockTN (ded ls) H Q (ded_nd ls) (fun p hp=>h1.lsM hls p (ded_mem.mp hp)) fun HL Q' c1 c2 kk=>?_⟩
 have c1:∀ p,p∈ls->∃ od u,H p=some u/\HL p=some (.frz od u):=fun p hp=>c1 p (ded_mem.mpr hp)
 have c2:∀ p,p ∉ ls->HL p=H p:=fun p hp=>c2 p fun z=>hp (ded_mem.mp z)
 refine he _ _ [] σ HL _ _ ⟨_,h1.seen hls hvw c1 c2⟩ q fun b e H2 h3 q3=>?_
 obtain ⟨F2,h4⟩:=h3
 refine kk b H2 (fun p hp=>?_) fun H3 d1 d2=>?_
 ·obtain ⟨od,u,_,e2⟩:=c1 p (ded_mem.mp hp)
  rw [e2]
  exact h4.kp p _ id e2
 have d1:∀ p,p∈ls->H3 p=H p:=fun p hp=>d1 p (ded_mem.mpr hp)
 have d2:∀ p,p ∉ ls->H3 p=H2 p:=fun p hp=>d2 p fun z=>hp (ded_mem.mp z)
 refine k b env H3 ⟨F,h1.grow0 (Grow.pure (fun a o e=>?_) h1.sub)⟩ q3
 by_cases hz:a∈ls
 ·rw [d1 a hz];exact e
 ·rw [d2 a hz];exact h4.kp a o id (show HL a=some o by rw [c2 a hz];exact e)
theorem dt_purV {e:Expr}{tt:TT}{dt:DTT} (he:DT X e tt dt):DT X e (tLockTV tt) (dPurVT dt):=⟨pt_lockV he.1,st_purV he.2⟩
end
end U
namespace U
open PySem PySem.Spec PyProof.Rows L2 PpSet
section
variable {X:Cx}
end
end U
namespace U
open PySem L2 PyProof.Rows
def Zk (Z:Zt) (D:Addr) (o:HO):Zt:={ Z with H:=upd Z.H D o,B:=fun a=>Z.B a/\a ≠ D }
section
variable {K:PySem.W.Frag}{Z:Zt}{F H:Hp}{env:En}{tm:Tm}{σ:L2.St}{D:Addr}{o o':HO}
theorem RelF.keepIn (h:RelF K Z F env tm σ H) (hD:H D=some o) (nF:F D=none) (nf:∀ a v r,Cell σ env tm a v r->¬ Fp v r D):RelF K (Zk Z D o) F env tm σ H:=by
 refine ⟨h.sub,h.f0,fun a e ne=>?_,fun a u nb e=>?_,fun a e=>?_,h.len,h.sl,h.ok,fun a v r x c f=>?_,h.ap,h.bg⟩
 ·by_cases ha:a=D
  ·subst ha;exact nt_of nF
  ·have ne:(upd Z.H D o) a ≠ none:=ne
   rw [upd_ne ha] at ne
   exact h.nw a e ne
 ·have e:(upd Z.H D o) a=some u:=e
  by_cases ha:a=D
  ·subst ha;rw [upd_same] at e;cases e;exact hD
  ·rw [upd_ne ha] at e
   exact h.kp a u (fun z=>nb ⟨z,ha⟩) e
 ·have ha:a ≠ D:=fun z=>by subst z;rw [hD] at e;cases e
  show (upd Z.H D o) a=none
  rw [upd_ne ha];exact h.th a e
 ·have hx:x ≠ D:=fun z=>by subst z;exact nf a v r c f
  rcases h.ow a v r x c f with z | ⟨z1,z2⟩
  ·left;show (upd Z.H D o) x=none;rw [upd_ne hx];exact z
  ·exact .inr ⟨z1,z2,hx⟩
end
section
variable {K:PySem.W.Frag}{X:Cx}{te:TE}{de:DTE}{e tg:Expr}{wi:TI}{di:DTI}{g:TG}{dg:DTG}{t:TT}{dt:DTT}{own:List Nat}
end
end U
namespace U
open PySem L2 PyProof.Rows
section
variable {K:PySem.W.Frag}{X:Cx}{a b e:Expr}{ta tb te:TE}{da db de:DTE}{pos:Pos}
theorem dSeq_cut {t u:DTS}{D:DEnds}{env:En} (M:En->Prop) (h1:∀ U:En->Prop,(∀ e,M e->U e)->t { D with nx:=U } env) (h2:∀ e,M e->u D e):dSeq t u D env:=h1 (u D) h2
end
end U
namespace U
open PySem L2 PyProof.Rows
section
variable {K:PySem.W.Frag}{X:Cx}{a b e:Expr}{ta tb te:TE}{da db de:DTE}{pos:Pos}
section
variable {x:Str}{C:Addr}{body suite:List Stmt}{b₀:Stmt}{np pos':Pos}{tb:WX->List (Addr × Obj)->(Value->Shared->Prop)->TS}{ts:Addr->Obj->Value->Option Addr->List (Addr × Obj)->TS}{db:WX->List (Addr × Obj)->(Value->Shared->Prop)->WD->DTS}{dsu:Addr->Obj->Value->Option Addr->List (Addr × Obj)->DTS}
end
end
end U
namespace U
open PySem L2 PyProof.Rows
section
variable {K:PySem.W.Frag}{X:Cx}{a b e:Expr}{ta tb te:TE}{da db de:DTE}{pos:Pos}
end
end U
namespace U
open PySem L2
section
variable {K:PySem.W.Frag}{X:Cx}{Z:Zt}{F H:Hp}{e:En}{tm:Tm}{σ:L2.St}
end
end U
namespace U
open PySem L2
section
variable {K:PySem.W.Frag}{X:Cx}{a b c:Expr}{ta tb tc:TE}{da db dc:DTE}{pos:Pos}{f g:Int->Int->Bool}
end
end U
namespace U
open PySem L2
section
variable {X:Cx}{k j:Nat}{x:Str}{ps ks:List Str}{gZ:List V->List V}{p pos:Pos}{kws:List Keyword}{tk:TA}{dk:DTA}
end
end U
namespace U
open PySem L2 PyProof.Rows
section
variable {K:PySem.W.Frag}{X:Cx}{a b e:Expr}{ta tb tc te:TE}{da db dc de:DTE}{pos:Pos}
end
end U
namespace U
open PySem L2 PyProof.Rows
open PySem.W (minOf maxOf)
section
variable {X:Cx}
end
section
variable {K:PySem.W.Frag}
end
end U
namespace U
open PySem L2
section
variable {K:PySem.W.Frag}{X:Cx}{a b c:Expr}{ta tb tc:TE}{da db dc:DTE}{pos:Pos}
end
end U
namespace U
open PySem L2
section
variable {K:PySem.W.Frag}{X:Cx}{W:WX}{x m:Str}{C:Addr}{p p2 pos pos2:Pos}{jj:Nat}
end
section
variable {K:PySem.W.Frag}{X:Cx}{o e ix value:Expr}{pos apos tpos:Pos}{ta tb te tv:TE}{da db de dv:DTE}
def LstAt (e:En) (q:Addr) (xs:List D) (j:Nat) (b:Bool) (a:Addr) (g:GH):Prop:=e[j]? = some (some (.hp b a g))/\g q=some (.lst xs)
def dAppP (da de:DTE) (env:En) (Q:R->En->Prop):Prop:=da env fun r e1=>∃ (q:Addr),r.d = .pt q/\(∃ xs j b a g,LstAt e1 q xs j b a g)/\de e1 fun s e=>∃ xs j b a g,LstAt e q xs j b a g/\xs.length < 100000/\Q (.dat .non) (e.set j (some (.hp b a (gset g q (.lst (xs ++ [s.d]))))))
theorem se_appP (ha:SE K ta da) (he:SE K te de):SE K (tBM K "list" rAppend ta (tCons te tNil)) (dAppP da de):=fun Z env tm σ H Q Qd h q k=>ha Z env tm σ H _ _ h q fun v r e1 H1 h1 n1 q1=>by
 obtain ⟨F,h2⟩:=h1.frzT n1
 obtain ⟨p,er,⟨xs0,j0,b0,a0,g0,ej0,hq0⟩,q2⟩:=q1
 have dt:=h2.top
 rw [er] at dt
 simp only [Dt] at dt
 subst dt
 obtain ⟨_,vs0,hw0,_⟩:=h2.pop.hat ej0 hq0
 refine ⟨.inl ⟨rfl,_,SqL.of hw0⟩,he Z e1 _ σ H1 _ _ ⟨F,h2⟩ q2 fun w s e H2 h3 n3 q3=>?_⟩
 obtain ⟨F3,h4⟩:=h3.frzT n3
 obtain ⟨xs,j,b,a,g,⟨ej,hq⟩,hl,q4⟩:=q3
 have dw:=h4.top
 have h5:=h4.pop.pop
 obtain ⟨nF,vs,hw,dv⟩:=h5.hat ej hq
 refine ⟨p,vs,w,rfl,rfl,hw,sz1000' (by rw [<-dv.len];exact hl),?_⟩
 have h6:=h5.hput (o':=.lst (xs ++ [s.d])) ej hq (grow_mu h5.sub nF (Mu.of hw)) ⟨_,upd_same,dv.append (.one dw)⟩
 exact k .non (.dat .non) _ _ ⟨F3,h6.pushD nonDt⟩ rfl q4
theorem de_appP (ho:DE X o ta da) (he:DE X e te de)
  (hbase:attributeBase o "append" X.env (eval o X.env)=eval o X.env:=by rfl)
  (hfew:((backTo pos (starEach [e] X.env)).all (fun x=>!x.1) && (backToKw pos (keywordEach [] X.env)).all (fun x=>x.1.isSome) && decide ([e].length+([]:List Keyword).length+(if ([]:List Keyword).isEmpty then 0 else 1) < 30))=true:=by rfl)
  (hline:(apos.endLine == pos.line)=true:=by rfl) (hs:starEach [e] X.env=(false,eval e X.env) :: starEach [] X.env:=by rfl) (hplain:(backTo pos (starEach [] X.env)).any (·.1)=false:=by rfl) :
  DE X (.Call (.Attribute o "append" apos) [e] [] pos) (tBM X.K "list" rAppend ta (tCons te tNil)) (dAppP da de):=
 ⟨pe_bm PySem.F.plainAttrs_list PySem.F.slot_list_append PySem.F.type_list_append mt_append ho.1 (pa_cons he.1 pa_nil hs) hbase hfew hline hs hplain,se_appP ho.2 he.2⟩
end
end U
namespace U
open PySem L2
section
variable (cs:List Addr)
end
section
variable {K:PySem.W.Frag}{F G:Hp}{cs:List Addr}
end
section
variable {K:PySem.W.Frag}{X:Cx}
end
end U
namespace U
open PySem L2
section
variable {K:PySem.W.Frag}{X:Cx}{Z:Zt}{F H:Hp}{env:En}{tm:Tm}{σ:L2.St}{t tk:TA}{dr dk:DTA}
end
abbrev XMSp:=List Ag->(R->List Ag->Prop)->(Addr->List (Str × D)->List Ag->Prop)->Prop
section
variable {P:Program}{w:World}{K:PySem.W.Frag}{mg:Str->Option Value}{base:Heap}
end
section
variable {K:PySem.W.Frag}{X:Cx}{W:WX}
end
section
variable {X:Cx}{W:WX}{k j:Nat}{C:Addr}{m:Str}{ps ks:List Str}{sp:XMSp}{o e:Expr}{es:List Expr}{kws:List Keyword}{ta:TE}{da:DTE}{tr tk:TA}{dr dk:DTA}{apos pos:Pos}{pl:Sem Bool}{ms:List (Option Nat)}
end
end U
namespace U
open PySem L2
section
variable {K:PySem.W.Frag}{X:Cx}{Z:Zt}{F F' H H':Hp}{e:En}{tm:Tm}{σ:L2.St}
end
section
variable {K:PySem.W.Frag}{X:Cx}
end
end U
namespace U
open PySem L2
section
variable {K:PySem.W.Frag}{X:Cx}{Z:Zt}{F F' H H':Hp}{e:En}{tm ts:Tm}{σ:L2.St}
end
section
variable {K:PySem.W.Frag}{X:Cx}
end
end U
namespace U
open PySem L2
section
variable {K:PySem.W.Frag}{X:Cx}{a b e:Expr}{es:List Expr}{ta tb te:TE}{da db de:DTE}{tr:TA}{dr:DTA}{pos:Pos}
end
section
variable {K:PySem.W.Frag}{X:Cx}{W:WX}{fe e:Expr}{es:List Expr}{tf:TE}{df:DTE}{tr:TA}{dr:DTA}{pos:Pos}
end
section
variable {K:PySem.W.Frag}{X:Cx}
end
section
variable {K:PySem.W.Frag}{X:Cx}
end
end U
namespace U
open PySem L2
section
variable {K:PySem.W.Frag}{X:Cx}{e:Expr}{te:TE}{de:DTE}
end
section
variable {X:Cx}
end
section
variable {K:PySem.W.Frag}{X:Cx}
end
end U
namespace U
open PySem L2 L2H
section
variable {X:Cx}{a b e tg:Expr}{es:List Expr}{pos:Pos}{t:TT}{dt:DTT}{ta tb te:TE}{da db de:DTE}{tr:TA}{dr:DTA}{ts:TS}{ds:DTS}{g:TG}{dg:DTG}{wi:TI}{di:DTI}{own:List Nat}{gs:TGs}
section
variable {elt iter:Expr}{ifs:List Expr}{scope:Scope}{ow:List (Str × Nat)}{gF:Fm TG}{dgF:Fm DTG}{tF:Fm TT}{dtF:Fm DTT}{teF:Fm TE}{deF:Fm DTE}
end
section
variable {kx vx iter:Expr}{ifs:List Expr}{scope:Scope}{ow:List (Str × Nat)}{gF:Fm TG}{dgF:Fm DTG}{tF:Fm TT}{dtF:Fm DTT}{tk tv:Fm TE}{dk dv:Fm DTE}
end
end
section
variable {X:Cx}{k j:Nat}{ps:List Str}{sp:Sp}{x:Str}{p pos:Pos}{e o:Expr}{es:List Expr}{t:TA}{ta:TE}{C:Addr}{m:Str}{apos:Pos}
end
section
variable {X:Cx}{k j:Nat}{ps:List Str}{x:Str}{p pos:Pos}{e o:Expr}{es:List Expr}{tr:TA}{dr:DTA}{ta:TE}{da:DTE}{C:Addr}{m:Str}{apos:Pos}
end
section
variable {P:Program}{w:World}{K:PySem.W.Frag}{mg:Str->Option Value}{base:Heap}
end
end U
namespace UH
open PySem PySem.Spec PySem.Calls PyProof.Rows L2 L2H HotX
section
variable {X:Cx}
end
end UH
namespace U
open PySem PySem.Spec PyProof.Rows L2 L2H SrtO
section
variable {X:Cx}{tg:Expr}{wi:TI}{di:DTI}{pos:Pos}
end
end U
namespace U
open PySem L2 L2H
section
variable {X:Cx}{k j:Nat}{f:Addr}{fd:FuncData}{ps:List Str}{sp:Sp}{e o:Expr}{es:List Expr}{ta:TE}{t:TA}{C:Addr}{m:Str}{apos pos:Pos}
end
section
variable {X:Cx}{k j:Nat}{ps:List Str}{e o:Expr}{es:List Expr}{ta:TE}{da:DTE}{tr:TA}{dr:DTA}{C:Addr}{m:Str}{apos pos:Pos}
end
end U
namespace U
open PySem L2 L2H
section
variable {P:Program}{w:World}{K:PySem.W.Frag}{mg:Str->Option Value}{base:Heap}
end
end U
namespace U
open PySem PySem.Spec PyProof.Rows L2 L2H HotX
section
variable {prog:Program}{w:World}{A:Around}{E:Value->Shared->Prop}{s:Shared}
end
section
variable {X:Cx}
end
end U
namespace UH
open PySem PySem.Spec PyProof.Rows HotX
section
variable {prog:Program}{w:World}{A:Around}{E:Value->Shared->Prop}{s:Shared}
end
section
open L2 L2H
variable {P:Program}{w:World}{K:PySem.W.Frag}{elts:List Expr}{kk:Nat}{tpos:Pos}{a b:Addr}
end
end UH
namespace U
open PySem PySem.Spec PyProof.Rows L2 L2H
section
variable {X:Cx}{a b:Expr}{pos:Pos}{ta tb:TE}{da db:DTE}
end
end U
namespace U
open PySem PySem.Spec PyProof.Rows L2 SrtO
abbrev PrI:=Int × Str
def IsPrI (h:Heap) (v:Value) (p:PrI):Prop:=∃ a o t u n,v = .ref a/\h.get? a=some o/\o.cls = .type "tuple"/\o.data = .seq #[.int p.1 t,.str p.2 u] n
theorem IsPrI.keeps {h h':Heap}{v:Value}{p:PrI} (q:IsPrI h v p) (k:∀ b o,h.get? b=some o->o.cls = .type "tuple"->h'.get? b=some o):IsPrI h' v p:=by
 obtain ⟨a,o,t,u,n,e,ho,hc,hd⟩:=q
 exact ⟨a,o,t,u,n,e,k _ _ ho hc,hc,hd⟩
section
variable {prog:Program}{w:World}{A:Around}{E:Value->Shared->Prop}{s:Shared}
end
section
variable {K:PySem.W.Frag}{X:Cx}
end
end U
namespace U
open PySem PySem.Spec PyProof.Rows L2
def wSure (K:PySem.W.Frag) (c:Value) (ts:Addr->Value->Option Addr->TS) (D:Ends):WX:=fun cls d σ H=>PySem.W.exmOne K cls c=some true/\∀ a,H a=none->ts a cls d D σ H
section
variable {X:Cx}{x:Str}{C:Addr}{body suite orelse:List Stmt}{b₀:Stmt}{np pos pos':Pos}{tb:WX->TS}{ts:Addr->Value->Option Addr->TS}{u:TS}
theorem caught {xe:Value->Shared->Prop}{pins:List (Addr × Obj)}{D:Ends}{e:Value}{s1 s:Shared} (ok:∃ σ H,Inv X pins σ H s) (hs:X.stack=X.env :: X.outer) (hf:X.env.frame=some X.env.locals) (hg:Gl X x) (hm:X.mg x=some (.ref C)) (hdb:(x == ("__debug__" : Str))=false)
  (hsu:∀ (a:Addr) (oe:Obj) (cls:Value) (d:Option Addr) (pn:List (Addr × Obj)),L2N.Zn cls d oe->(∃ vs,oe.data = .fields vs)->PSs (X.suite a ((a,oe) :: pn)) (b₀ :: suite) (ts a cls d))
  (xx:L2N.XE (X.tr (X.pn ++ pins) xe) (wSure X.K (.ref C) ts D) e s1) :
  wpAny (model X.prog X.w) X.A (noteFrame e X.env) (fun _ s2=>wpAny (model X.prog X.w) X.A (setFlight e none) (fun _ s3=>wpAny (model X.prog X.w) X.A (handleBy e X.env [.ExceptHandler (some (.Name x np)) none (b₀ :: suite) pos']) (SP X pins D) X.xe s3) X.xe s2) X.xe s1:=by
 obtain ⟨σ0,H0,I0⟩:=ok
 obtain ⟨a,B,sI,pins',σ',H',cls,d,rfl,J',nb,up,sky,na,os,ag,hw,sure⟩:=xx
 have J:=J'.ofTry I0.ok
 have fs:X.A.frames=some (X.env :: X.outer):=I0.ok.frames.trans (congrArg some hs)
 have sk:=sky
 rw [show (X.tr (X.pn ++ pins) xe).stack=X.env :: X.outer from hs] at sk
 refine L2N.Sky.land L2N.Zn.steady fs hf sk fun h3 l3 u3=>?_
 obtain ⟨o3,v3,g3,z3,d3⟩:=l3.there
 have off:a ∉ frs (X.env :: X.outer):=fun hm=>by
  obtain ⟨_,o',e',no⟩:=l3.2.2.1.mem hm
  have:=g3.symm.trans e'
  cases this
  exact no _ d3
 have nl:a ≠ X.env.locals:=fun z=>off (List.mem_filterMap.mpr ⟨X.env,List.mem_cons_self,z ▸ hf⟩)
 have nf:a ∉ X.fs:=fun hm=>let ⟨e,he,q⟩:=List.mem_filterMap.mp hm;off (List.mem_filterMap.mpr ⟨e,List.mem_cons_of_mem _ he,q⟩)
 have J3:Inv X pins σ' H' { s1 with heap:=h3 }:=J.landed nb l3.1 (up.trans u3) os ag
 have S3:=J3.suite g3 d3 na nl nf
 refine wpAny_handleBy_cons (codeAny_handlers_test (ld_glob (X:=X.suite a ((a,o3) :: (X.pn ++ pins))) S3 hg hm ?_ hdb)) nofun
 refine (PySem.W.exm_one (M:=model X.prog X.w) J3.kIn (fun A Q E s k q=>wpAny_typeOf_ref (k _ _ g3) (z3.1.symm ▸ q)) hw).here (codeAny_handlers_suite (HandSPX.lands_againZ l3 fun h4 l4 u4=>?_))
 obtain ⟨o4,v4,g4,z4,d4⟩:=l4.there
 have S4:=(J.landed (s':={ s1 with heap:=h4 }) nb l4.1 ((up.trans u3).trans u4) os ag).suite g4 d4 na nl nf
 refine wpAny_mono ((hsu a o4 cls d (X.pn ++ pins) z4 ⟨_,d4⟩).run [] _ _ H' _ S4 (sure a na)) (fun f s6 hp=>?_) fun _ _ z=>z.elim
 match f,hp with
 | .next,⟨σ6,H6,S6,q6⟩=>exact ⟨σ6,H6,S6.unsuite I0.ok,q6⟩
 | .brk,⟨σ6,H6,S6,q6⟩=>exact ⟨σ6,H6,S6.unsuite I0.ok,q6⟩
 | .cont,⟨σ6,H6,S6,q6⟩=>exact ⟨σ6,H6,S6.unsuite I0.ok,q6⟩
 | .ret u,⟨v6,σ6,H6,S6,r6,q6⟩=>exact ⟨v6,σ6,H6,S6.unsuite I0.ok,r6,q6⟩
end
section
variable {X:Cx}{x:Str}{C:Addr}{body suite orelse:List Stmt}{b₀:Stmt}{np pos pos':Pos}{tb:WX->List (Addr × Obj)->(Value->Shared->Prop)->TS}{ts:Addr->Obj->Value->Option Addr->List (Addr × Obj)->TS}{db:WX->List (Addr × Obj)->(Value->Shared->Prop)->WD->DTS}{dsu:Addr->Obj->Value->Option Addr->List (Addr × Obj)->DTS}{u:TS}{du:DTS}
end
section
variable {K:PySem.W.Frag}{Z:Zt}{F H:Hp}{e:En}{tm:Tm}{σ:L2.St}
end
section
variable {K:PySem.W.Frag}{X:Cx}{o ix e:Expr}{pos apos:Pos}{ta tx te:TE}{da dx de:DTE}
end
end U
namespace U
open PySem L2
section
variable {X:Cx}{W:WX}{c a b:Expr}{pos:Pos}{t:TT}{dt:DTT}{ta tb:TE}{da db:WD->DTE}
end
end U
namespace U
open PySem PySem.Spec PyProof.Rows L2
abbrev TH:Type:=Value->Option Addr->Addr->TS
section
variable {X:Cx}{x n:Str}{C:Addr}{i:Nat}{body suite orelse:List Stmt}{b₀:Stmt}{np pos pos':Pos}{h₀:ExceptHandler}{rest:List ExceptHandler}{tb:WX->TS}{ts:Addr->Value->Option Addr->TS}{th:TH}{u:TS}
end
abbrev DTH:Type:=Addr->List (Str × D)->DTS
section
variable {X:Cx}{x n:Str}{C:Addr}{i:Nat}{body suite orelse:List Stmt}{b₀:Stmt}{np pos pos':Pos}{h₀:ExceptHandler}{rest:List ExceptHandler}{th:TH}{dh:DTH}
 {tb:WX->List (Addr × Obj)->(Value->Shared->Prop)->TS} {ts:Addr->Obj->Value->Option Addr->List (Addr × Obj)->TS} {db:WX->List (Addr × Obj)->(Value->Shared->Prop)->WD->DTS} {dsu:Addr->Obj->Value->Option Addr->List (Addr × Obj)->DTS} {u:TS} {du:DTS}
end
end U
namespace U
open PySem PySem.Spec PyProof.Rows L2
section
variable {X:Cx}{x1 x2 x3:Str}{C1 C2 C3:Addr}{suite:List Stmt}{b₀:Stmt}{p1 p2 p3 tp pos':Pos}{rest:List ExceptHandler}{th:TH}
end
end U
namespace U
open PySem PySem.Spec PyProof.Rows L2
structure FnG (P:Program) (w:World) (K:PySem.W.Frag) (mg:Str->Option Value) (base:Heap) (CX:CXT) (k:Nat) (f:Addr) (fd:FuncData) (ps:List Str) (sp:Sp):Prop where
 ln:∀ vs H Q E,sp vs H Q E->vs.length=ps.length
 go:∀ (A:Around) (outer:List Env) (s:Shared) (H:Hp) (args:Args) (us:List Value) (vs:List V) (Q:VK) (E:XK),A.guards=some []->Room k A->Env0 P w K mg base A outer s H->BindsTo s fd args (ps.zip us)->Vals vs us->sp vs H Q E ->
  codeAny (model P w) A (.call (.ref f) args) (CR CX outer P w H s Q E) s
theorem FnG.of {P:Program}{w:World}{K:PySem.W.Frag}{mg:Str->Option Value}{base:Heap}{CX:CXT}{k:Nat}{f:Addr}{fd:FuncData}{ps:List Str}{sp:Sp} (F:FnOk P w K mg base CX k f fd ps sp):FnG P w K mg base CX k f fd ps sp:=
 ⟨F.len,fun A outer s H args us vs Q E _=>F.run A outer s H args us vs Q E⟩
section
variable {P:Program}{w:World}{K:PySem.W.Frag}{mg:Str->Option Value}{base:Heap}
theorem Fun.okG0 {CX:CXT}{x qual:Str}{st:Stmt}{f:Addr}{fd:FuncData}{N ps:List Str}{k:Nat}{sp:Sp} (F:Fun K x qual st f fd) (S:FnScope N ps (defScope st)) (hl:∀ vs H Q E,sp vs H Q E->vs.length=ps.length)
  (hb:∀ (cdv:Value) (A:Around) (outer:List Env) (s:Shared) (H:Hp) (vs:List V) (Q:VK) (E:XK),A.guards=some []->Room k (A.deeper (PyProof.Rows.envOfC qual (defScope st) s.heap.objs.size f cdv))->sp vs H Q E ->
   ∃ t,PSs (cxOf CX P w K mg base N qual (defScope st) f cdv A outer s H E) (defBody st) t/\t { nx:=fun _ H'=>Q .non H',rt:=Q } (L2.start N vs) H):FnG P w K mg base CX (k+1) f fd ps sp:=by
 obtain ⟨oc,od,kV,doc,pm,an,cdv,ct,osl,rfl,lk,hcd⟩:=F.ex
 refine ⟨hl,fun A outer s H args us vs Q E hg hr e0 hbd r hsp=>?_⟩
 have hln:=hl _ _ _ _ hsp
 have kx:K.In s.heap:=e0.mod.kin.keeps fun b o z=>(e0.bs b o z).1
 have lm:s.heap.NoLimit:=e0.mod.nolimit.keeps fun b o z=>(e0.bs b o z).1
 refine codeAny_call_function hr.depth (kx _ _ lk) rfl S.co S.gen rfl (PySem.W.codeRec_of kx hcd) (hbd _ _ _ _ ?_)
 refine PySem.wpAny_newFunctionEnv_cells S.kind (fun ⟨n,v⟩ hy=>?_) fun env he s1 ic=>?_
 ·rcases S.par n (List.of_mem_zip hy).1 with z | z
  ·exact .inl z
  ·exact .inr ⟨z,PySem.W.cellsFrom_some _ _ _ (.inl z)⟩
 ·subst he
  obtain ⟨t,ht,hq⟩:=hb cdv A outer s H vs Q E hg (hr.deeper _) hsp
  have I0:=inv_start (CX:=CX) (E:=E) S hr.hd e0 hln r ic
  refine ⟨lm.keeps ic.toInCall.keep,codeAny_func (wpAny_mono (ht.run [] s1 _ H _ I0 hq) (fun fl s' z=>?_) fun e s' z=>z)⟩
  cases fl with
  | ret u=>
   obtain ⟨v,σ',H',J,rv,q⟩:=z
   exact ⟨v,H',J.os,J.bare,J.base,J.hok,rv,q⟩
  | next=>
   obtain ⟨σ',H',J,q⟩:=z
   exact ⟨V.non,H',J.os,J.bare,J.base,J.hok,rfl,q⟩
  | brk=>obtain ⟨_,_,_,q⟩:=z;exact q.elim
  | cont=>obtain ⟨_,_,_,q⟩:=z;exact q.elim
theorem Fun.okPG {x qual:Str}{st:Stmt}{f:Addr}{fd:FuncData}{N ps:List Str}{k:Nat}{sp:PSp} (F:Fun K x qual st f fd) (S:FnScope N ps (defScope st)) (hl:∀ ds Q,sp ds Q->ds.length=ps.length)
  (hb:∀ (cdv:Value) (A:Around) (outer:List Env) (s:Shared) (H:Hp) (E:XK),A.guards=some []->Room k (A.deeper (PyProof.Rows.envOfC qual (defScope st) s.heap.objs.size f cdv)) ->
   ∃ ts db,DSs (cxOf CX0 P w K mg base N qual (defScope st) f cdv A outer s H E).nox (defBody st) ts db/\∀ ds Qd,sp ds Qd->db { nx:=fun _=>Qd (.dat .non),rt:=fun r _=>Qd r } (stE N ds)):FnG P w K mg base CX0 (k+1) f fd ps (spP K sp):=by
 refine Fun.okG0 F S (fun vs H Q E h=>?_) (fun cdv A outer s H vs Q E hg hr h=>?_)
 ·obtain ⟨F,ds,Qd,_,d,q,_⟩:=h
  rw [<-d.len];exact hl _ _ q
 ·obtain ⟨F,ds,Qd,sb,d,q,kk⟩:=h
  obtain ⟨ts,db,⟨p1,p2⟩,rd⟩:=hb cdv A outer s H E hg hr
  refine ⟨ts,p1.nox,p2 _ _ [] _ H _ { nx:=fun _=>Qd (.dat .non),rt:=fun r _=>Qd r } ⟨F,rel_start (N:=N) sb d⟩ ⟨fun env σ H' h' q'=>?_,fun v r env σ H' h' nb q'=>?_,fun _ _ _ _ z=>z.elim,fun _ _ _ _ z=>z.elim⟩ (rd ds Qd q)⟩
  ·obtain ⟨F1,h1⟩:=h'
   have h2:Rel K _ env ([] ++ [(V.non,R.dat .non)]) σ H':=⟨F1,RelF.pushD h1 nonDt⟩
   obtain ⟨F',g,n⟩:=rel_out h2 rfl
   exact kk _ _ F' H' g n q'
  ·obtain ⟨F',g,n⟩:=rel_out (tm:=[]) h' nb
   exact kk _ _ F' H' g n q'
end
section
variable {X:Cx}{e:Expr}{es:List Expr}{tr:TA}{dr:DTA}{k j:Nat}{x:Str}{ps:List Str}{p pos:Pos}{t:TA}
end
mutual
def pyd:D->PyData
 | .bl b=>.bool b
 | .int i=>.int i
 | .str s=>.str s
 | .lst xs=>.list (pyds xs)
 | .sq xs=>.list (pyds xs)
 | .tup xs=>.tuple (pyds xs)
 | _=>.none
def pyds:List D->List PyData
 | []=>[]
 | x :: xs=>pyd x :: pyds xs
end
mutual
def plD:D->Bool
 | .non=>true
 | .bl _=>true
 | .int i=>decide (i.natAbs.log2 < 1920)
 | .str _=>true
 | .lst xs=>plDs xs
 | .sq xs=>plDs xs
 | .tup xs=>plDs xs
 | _=>false
def plDs:List D->Bool
 | []=>true
 | x :: xs=>plD x && plDs xs
end
mutual
theorem plD_show:∀ d:D,plD d=true->(pyd d).showable=true
 | .non,_=>by simp only [pyd,PyData.showable]
 | .bl _,_=>by simp only [pyd,PyData.showable]
 | .int i,h=>by simpa only [pyd,PyData.showable,plD] using h
 | .str _,_=>by simp only [pyd,PyData.showable]
 | .lst xs,h=>by simp only [plD] at h;simp only [pyd,PyData.showable];exact plDs_show xs h
 | .sq xs,h=>by simp only [plD] at h;simp only [pyd,PyData.showable];exact plDs_show xs h
 | .tup xs,h=>by simp only [plD] at h;simp only [pyd,PyData.showable];exact plDs_show xs h
theorem plDs_show:∀ ds:List D,plDs ds=true->PyData.showableAll (pyds ds)=true
 | [],_=>by simp only [pyds,PyData.showableAll]
 | x :: xs,h=>by
  simp only [plDs,Bool.and_eq_true] at h
  simp only [pyds,PyData.showableAll,Bool.and_eq_true]
  exact ⟨plD_show x h.1,plDs_show xs h.2⟩
end
mutual
theorem pyd_nodict:∀ d:D,(pyd d).hasDict=false
 | .non=>by simp only [pyd,PyData.hasDict]
 | .bl _=>by simp only [pyd,PyData.hasDict]
 | .int i=>by simp only [pyd,PyData.hasDict]
 | .str _=>by simp only [pyd,PyData.hasDict]
 | .lst xs=>by simp only [pyd,PyData.hasDict];exact pyds_nodict xs
 | .sq xs=>by simp only [pyd,PyData.hasDict];exact pyds_nodict xs
 | .tup xs=>by simp only [pyd,PyData.hasDict];exact pyds_nodict xs
 | .dK _=>by simp only [pyd,PyData.hasDict]
 | .dT _=>by simp only [pyd,PyData.hasDict]
 | .obj _ _=>by simp only [pyd,PyData.hasDict]
 | .exc _ _ _ _=>by simp only [pyd,PyData.hasDict]
 | .pt _=>by simp only [pyd,PyData.hasDict]
 | .uK _=>by simp only [pyd,PyData.hasDict]
theorem pyds_nodict:∀ ds:List D,PyData.hasDictAll (pyds ds)=false
 | []=>by simp only [pyds,PyData.hasDictAll]
 | x :: xs=>by simp only [pyds,PyData.hasDictAll,pyd_nodict x,pyds_nodict xs,Bool.or_self]
end
section
variable {P:Program}{w:World}{K:PySem.W.Frag}{F H:Hp}{h:Heap}
theorem sqL_obj (ok:HOk P w H h) (X:K.In h) {a:Addr}{vs:List V} (z:SqL K H a vs):∃ (o:Obj) (its:Array Value) (n:Nat),h.get? a=some o/\o.cls = .type "list"/\o.data = .seq its n/\Vals vs its.toList:=by
 rcases z with (z | ⟨ob,z⟩) | ⟨o,its,n,lk,c,_,d,_,r⟩
 ·obtain ⟨_,its,n,r,g⟩:=ok a _ z
  exact ⟨_,its.toArray,n,g,rfl,rfl,by simpa using r⟩
 ·obtain ⟨_,_,its,n,r,g⟩:=ok a _ z
  exact ⟨_,its.toArray,n,g,rfl,rfl,by simpa using r⟩
 ·exact ⟨o,its,n,X _ _ lk,c,d,r⟩
theorem sqT_obj (ok:HOk P w H h) (X:K.In h) {a:Addr}{vs:List V} (z:SqT K H a vs):∃ (o:Obj) (its:Array Value) (n:Nat),h.get? a=some o/\o.cls = .type "tuple"/\o.data = .seq its n/\Vals vs its.toList:=by
 rcases z with (z | ⟨ob,z⟩) | ⟨o,its,n,lk,c,d,_,r⟩
 ·obtain ⟨_,its,r,o,g,c,n,d⟩:=ok a _ z
  exact ⟨_,its.toArray,n,g,c,d,by simpa using r⟩
 ·obtain ⟨_,_,its,r,o,g,c,n,d⟩:=ok a _ z
  exact ⟨_,its.toArray,n,g,c,d,by simpa using r⟩
 ·exact ⟨o,its,n,X _ _ lk,c,d,r⟩
mutual
theorem reads_of (s:Same F H) (ok:HOk P w H h) (X:K.In h):∀ (d:D) (v:V) (u:Value),plD d=true->Dt K F d v->RelV v u->∃ as,Reads h u (pyd d) as
 | .non,v,u,_,e,r=>by
  simp only [Dt] at e;subst e
  obtain rfl:u=Value.none:=r
  simp only [pyd];exact ⟨_,.none⟩
 | .bl b,v,u,_,e,r=>by
  simp only [Dt] at e;subst e
  obtain rfl:u=Value.bool b:=r
  simp only [pyd];exact ⟨_,.bool b⟩
 | .int i,v,u,_,e,r=>by
  simp only [Dt] at e;subst e
  obtain ⟨t,rfl⟩:∃ t,u=Value.int i t:=r
  simp only [pyd];exact ⟨_,.int i t⟩
 | .str x,v,u,_,e,r=>by
  simp only [Dt] at e;subst e
  obtain ⟨t,rfl⟩:∃ t,u=Value.str x t:=r
  simp only [pyd];exact ⟨_,.str x t⟩
 | .lst xs,v,u,p,e,r=>by
  simp only [Dt] at e
  obtain ⟨a,vs,rfl,q,ds⟩:=e
  obtain rfl:u=Value.ref a:=r
  obtain ⟨o,its,n,g,c,d,rv⟩:=sqL_obj ok X (SqL.of (s _ _ q))
  simp only [plD] at p
  obtain ⟨as,ra⟩:=readss_of s ok X xs vs its.toList p ds rv
  simp only [pyd];exact ⟨_,.list g c d ra⟩
 | .sq xs,v,u,p,e,r=>by
  simp only [Dt] at e
  obtain ⟨a,vs,rfl,q,ds⟩:=e
  obtain rfl:u=Value.ref a:=r
  obtain ⟨o,its,n,g,c,d,rv⟩:=sqL_obj ok X (s.seq q)
  simp only [plD] at p
  obtain ⟨as,ra⟩:=readss_of s ok X xs vs its.toList p ds rv
  simp only [pyd];exact ⟨_,.list g c d ra⟩
 | .tup xs,v,u,p,e,r=>by
  simp only [Dt] at e
  obtain ⟨a,vs,rfl,q,ds⟩:=e
  obtain rfl:u=Value.ref a:=r
  obtain ⟨o,its,n,g,c,d,rv⟩:=sqT_obj ok X (q.mono s).seqT
  simp only [plD] at p
  obtain ⟨as,ra⟩:=readss_of s ok X xs vs its.toList p ds rv
  simp only [pyd];exact ⟨_,.tuple g c d ra⟩
theorem readss_of (s:Same F H) (ok:HOk P w H h) (X:K.In h):∀ (ds:List D) (vs:List V) (us:List Value),plDs ds=true->Dts K F ds vs->Vals vs us->∃ as,ReadsAll h us (pyds ds) as
 | [],vs,us,_,e,r=>by
  simp only [Dts] at e;subst e
  cases r
  simp only [pyds];exact ⟨_,.nil⟩
 | x :: xs,vs,us,p,e,r=>by
  simp only [Dts] at e
  obtain ⟨v,r',rfl,e1,e2⟩:=e
  simp only [plDs,Bool.and_eq_true] at p
  cases r with
  | cons r1 r2=>
   obtain ⟨as,ra⟩:=reads_of s ok X x v _ p.1 e1 r1
   obtain ⟨bs,rb⟩:=readss_of s ok X xs _ _ p.2 e2 r2
   simp only [pyds];exact ⟨_,.cons ra rb⟩
end
end
def ShOk (d:D):Prop:=plD d=true/\(pyd d).depth<=100/\(pyd d).shown.length<=sizeLine
section
variable {X:Cx}{k:Nat}
theorem call_reprD {R:Nat->PySem.Around->Prop} [IsRoom R] (gd:X.A.guards=some []) (hr:R k X.A):CallR X (.builtin "repr") (fun xs H Q=>∃ v d F,xs=[v]/\Same F H/\Dt X.K F d v/\ShOk d/\Q (.str (pyd d).shown) H):=by
 rintro pins s σ H xs us Q I r ⟨v,d,F,rfl,sb,hd,⟨pl,dp,sz⟩,q⟩
 obtain ⟨u,rfl,ru⟩:∃ u,us=[u]/\RelV v u:=by
  cases r with
  | cons a b=>cases b;exact ⟨_,rfl,a⟩
 obtain ⟨as,rd⟩:=reads_of sb I.hok I.kIn d v u pl hd ru
 have fin:∀ (h':Heap) (x:Str) (t tk:Nat),x=(pyd d).shown->(∀ b o,s.heap.get? b=some o->h'.get? b=some o)->EP X pins σ Q (.str x t) { s with heap:=h',toks:=tk }:=fun h' x t tk e kp=>by
  subst e
  exact ⟨.str (pyd d).shown,H,I.kept (t':=tk) kp,⟨t,rfl⟩,q⟩
 have un:=(IsRoom.toH hr).un
 cases d with
 | non=>
  simp only [Dt] at hd;subst hd
  obtain rfl:u=Value.none:=ru
  exact PySem.P.repr_of_none (fin _ _ _ _ (by simp only [pyd,PyData.shown]) fun _ _ z=>z)
 | bl b=>
  simp only [Dt] at hd;subst hd
  obtain rfl:u=Value.bool b:=ru
  exact PySem.P.repr_of_bool (fin _ _ _ _ (by simp only [pyd,PyData.shown]) fun _ _ z=>z)
 | int i=>
  simp only [Dt] at hd;subst hd
  obtain ⟨t,rfl⟩:∃ t,u=Value.int i t:=ru
  simp only [plD,decide_eq_true_eq] at pl
  exact PySem.P.repr_of_int pl (fin _ _ _ _ (by simp only [pyd,PyData.shown]) fun _ _ z=>z)
 | str x=>
  simp only [Dt] at hd;subst hd
  obtain ⟨t,rfl⟩:∃ t,u=Value.str x t:=ru
  exact PySem.P.repr_of_str (fin _ _ _ _ (by simp only [pyd,PyData.shown]) fun _ _ z=>z) (by simpa only [pyd,PyData.shown] using sz)
 | lst xs=>
  simp only [Dt] at hd
  obtain ⟨a,vs,rfl,_,_⟩:=hd
  obtain rfl:u=Value.ref a:=ru
  exact repr_of_reads' rd (plD_show _ pl) (PyData.noDict_hsm (pyd_nodict _)) gd (by omega) (fun _ _ z=>z) (fun h' t tk kp=>fin h' _ t tk rfl kp) sz
 | sq xs=>
  simp only [Dt] at hd
  obtain ⟨a,vs,rfl,_,_⟩:=hd
  obtain rfl:u=Value.ref a:=ru
  exact repr_of_reads' rd (plD_show _ pl) (PyData.noDict_hsm (pyd_nodict _)) gd (by omega) (fun _ _ z=>z) (fun h' t tk kp=>fin h' _ t tk rfl kp) sz
 | tup xs=>
  simp only [Dt] at hd
  obtain ⟨a,vs,rfl,_,_⟩:=hd
  obtain rfl:u=Value.ref a:=ru
  exact repr_of_reads' rd (plD_show _ pl) (PyData.noDict_hsm (pyd_nodict _)) gd (by omega) (fun _ _ z=>z) (fun h' t tk kp=>fin h' _ t tk rfl kp) sz
 | dK _=>simp only [plD] at pl;cases pl
 | dT _=>simp only [plD] at pl;cases pl
 | obj _ _=>simp only [plD] at pl;cases pl
 | exc _ _ _ _=>simp only [plD] at pl;cases pl
 | pt _=>simp only [plD] at pl;cases pl
 | uK _=>simp only [plD] at pl;cases pl
def rdRepr (ds:List D) (Q:R->Prop):Prop:=match ds with
 | [d]=>ShOk d/\Q (.dat (.str (pyd d).shown))
 | _=>False
theorem sn_repr {K:PySem.W.Frag}:SN K (fun xs H Q=>∃ v d F,xs=[v]/\Same F H/\Dt K F d v/\ShOk d/\Q (.str (pyd d).shown) H) rdRepr:=by
 intro F H vs ds Q Qd s h q k
 unfold rdRepr at q
 split at q
 ·obtain ⟨v,rfl,h1⟩:=dts1 h
  exact ⟨v,_,F,rfl,s,h1,q.1,flatk s k strD q.2⟩
 ·exact q.elim
end
section
variable {P:Program}{w:World}{K:PySem.W.Frag}{mg mb:Str->Option Value}{CX:CXT}{k:Nat}{fa a:Addr}{fd:FuncData}{x:Str}{sp:Sp}{s:Shared}{vs:List Value}{ns:List Int}
theorem callG_core {H:Hp} (KX:K.In s.heap) (hns:s.heap.Ns mainGlobals mg) (hb:s.heap.Ns builtinsNs mb) (hbb:∀ x:Str,x ≠ "__name__"->mb x=bootBuiltins x) (lm:s.heap.NoLimit) (g0:s.gens = #[]) (ha:s.heap.get? a=some { cls:=.type "list",data:=.seq vs.toArray })
  (hr:Room k callerA) (F:∀ base:Heap,K.In base->base.Ns mainGlobals mg->FnG P w K mg base CX k fa fd [x] sp) (bd:∀ (s:Shared) (u:Value),BindsTo s fd ⟨[u],[]⟩ [(x,u)])
  (hsp:sp [.ref a] H (fun v _=>v = .bl true) fun _ _ _=>False) (hCX:∀ H e s',CX [] H s (fun _ _ _=>False) e s'->False) (hO:Only H) (hok:HOk P w H s.heap) (hA:∀ b,H b ≠ none->b=a) (hK:H a ≠ none->K.lookup a=none) :
  codeAny (model P w) callerA (.call (.ref fa) ⟨[.ref a],[]⟩) (fun r z=>r = .ok (.ret (.bool true))/\OldK s.heap z.heap/\z.os=s.os/\AllBare z.gens) s:=by
 have isA:∀ {b:Addr} {u:HO},H b=some u->b=a:=fun {b u} q=>hA b (by rw [q];exact fun z=>nomatch z)
 have hid:∀ {b:Addr} {o:Obj},s.heap.get? b=some o->H b=none->(hidT s.heap H).get? b=some o:=fun e n=>hidT_get e n
 have nsK:∀ {b:Addr} {m:Str->Option Value},s.heap.Ns b m->(hidT s.heap H).Ns b m:=fun {b m} ⟨o,es,ep,e,d,r⟩=>by
  refine ⟨o,es,ep,hid e ?_,d,r⟩
  cases q:H b with
  | none=>rfl
  | some u=>
   obtain rfl:=isA q
   rw [ha] at e;cases e
   exact nomatch (d:Data.seq vs.toArray _=Data.dict es ep)
 have kb:K.In (hidT s.heap H):=fun b o e=>hid (KX b o e) (by
  cases q:H b with
  | none=>rfl
  | some u=>
   obtain rfl:=isA q
   rw [hK (by rw [q];exact fun z=>nomatch z)] at e;cases e)
 have md:Mod K mg (hidT s.heap H):=⟨kb,nsK hns,⟨mb,nsK hb,hbb⟩,let ⟨mc,x1,x2⟩:=lm;⟨mc,nsK x1,x2⟩⟩
 have e0:Env0 P w K mg (hidT s.heap H) callerA [] s H:=⟨rfl,md,fun b o e=>of_hidT e,Nat.le_of_eq (hidT_size _ _),trivial,(fun b z=>nomatch (show b∈([]:List Addr) from z)),hok,.of_eq g0⟩
 refine codeAny_mono ((F _ kb (nsK hns)).go callerA [] s H ⟨[.ref a],[]⟩ [.ref a] [.ref a] _ _ rfl hr e0 (bd s (.ref a)) (.cons rfl .nil) hsp) fun r z y=>?_
 cases r with
 | error e=>exact (hCX H e z y).elim
 | ok fl=>
  cases fl with
  | next=>exact y.elim
  | brk=>exact y.elim
  | cont=>exact y.elim
  | ret u=>
   obtain ⟨v,H',os,bare,un,ok2,r2,q⟩:=y
   obtain rfl:v = .bl true:=q
   obtain rfl:u=Value.bool true:=r2
   refine ⟨rfl,OldK.of_keep fun b o e=>?_,os,bare⟩
   cases q:H b with
   | none=>exact un.keep b o e q (fun z=>nomatch (show b∈([]:List Addr) from z)) (by simp)
   | some u=>
    rcases hO b with z | ⟨ob,xs,z⟩
    ·rw [q] at z;cases z
    ·obtain ⟨e1,_⟩:=hok b _ z
     obtain ⟨e2,_⟩:=ok2 b _ (un.frzs b ob _ z)
     rw [e] at e1;cases e1
     exact e2
theorem law_callG (KX:K.In s.heap) (hns:s.heap.Ns mainGlobals mg) (hb:s.heap.Ns builtinsNs mb) (hbb:∀ x:Str,x ≠ "__name__"->mb x=bootBuiltins x) (lm:s.heap.NoLimit) (g0:s.gens = #[]) (ha:s.heap.get? a=some { cls:=.type "list",data:=.seq vs.toArray })
  (hi:IntsAre vs ns) (hl:ns.length<=sizeLine) (hr:Room k callerA) (F:∀ base:Heap,K.In base->base.Ns mainGlobals mg->FnG P w K mg base CX k fa fd [x] sp) (bd:∀ (s:Shared) (u:Value),BindsTo s fd ⟨[u],[]⟩ [(x,u)])
  (hsp:∀ H:Hp,Only H->SqL K H a (ns.map V.int)->sp [.ref a] H (fun v _=>v = .bl true) fun _ _ _=>False) (hCX:∀ H e s',CX [] H s (fun _ _ _=>False) e s'->False) :
  codeAny (model P w) callerA (.call (.ref fa) ⟨[.ref a],[]⟩) (fun r z=>r = .ok (.ret (.bool true))/\OldK s.heap z.heap/\z.os=s.os/\AllBare z.gens) s:=by
 have rv:=vals_ints hi
 have lv:=hi.length
 cases lk:K.lookup a with
 | some o=>
  have e:=KX a o lk
  rw [ha] at e
  cases e
  have hO:Only (fun _=>none):=fun _=>.inl rfl
  exact callG_core (H:=fun _=>none) KX hns hb hbb lm g0 ha hr F bd (hsp _ hO (.inr ⟨_,vs.toArray,_,lk,rfl,rfl,rfl,by rw [List.size_toArray,lv];exact hl,by simpa using rv⟩)) hCX hO (fun b u z=>nomatch (show (none:Option HO)=some u from z)) (fun b z=>absurd rfl z) fun z=>absurd rfl z
 | none=>
  let Hs:Hp:=fun b=>if b=a then some (.frz { cls:=.type "list",data:=.seq vs.toArray } (.lst (ns.map V.int))) else none
  have at_a:Hs a=some (.frz { cls:=.type "list",data:=.seq vs.toArray } (.lst (ns.map V.int))):=if_pos rfl
  have off_a:∀ {b},b ≠ a->Hs b=none:=fun z=>if_neg z
  have hO:Only Hs:=fun b=>by
   by_cases c:b=a
   ·subst c;exact .inr ⟨_,_,at_a⟩
   ·exact .inl (off_a c)
  refine callG_core (H:=Hs) KX hns hb hbb lm g0 ha hr F bd (hsp _ hO (.inl (.inr ⟨_,at_a⟩))) hCX hO (fun b u z=>?_) (fun b z=>?_) fun _=>lk
  ·by_cases c:b=a
   ·subst c
    rw [at_a] at z;cases z
    exact ⟨ha,by rw [List.length_map];exact hl,vs,_,rv,ha⟩
   ·rw [off_a c] at z;cases z
  ·by_cases c:b=a
   ·exact c
   ·exact absurd (off_a c) z
end
theorem walk_ofG {l:PySem.W.OpenLaw}{n k:Nat}{q:Program}{loose:List Str}{XP:(Str->Option Value)->Heap->Prop}{YP:World->Heap->Prop}{d:DefRec}{CX:CXT}{x:Str} (hn:l.most=some n) (hz:n<=sizeLine) (hd:d.params.defaults=[]) (hr:Room k callerA)
  (F:∀ (w:World) (mg:Str->Option Value) (fa:Addr) (h:Heap),YP w h->h.Ns mainGlobals mg->mg d.name=some (.ref fa)->∃ (K:PySem.W.Frag) (fd:FuncData) (sp:Sp),K.In h/\(∀ (s:Shared) (u:Value),BindsTo s fd ⟨[u],[]⟩ [(x,u)]) /\
    (∀ (H:Hp) (a:Addr) (ns:List Int),ns.length<=n->Only H->SqL K H a (ns.map V.int)->sp [.ref a] H (fun v _=>v = .bl true) fun _ _ _=>False)/\∀ base:Heap,K.In base->base.Ns mainGlobals mg->FnG l.prog w K mg base CX k fa fd [x] sp)
  (hCX:∀ (H:Hp) (s:Shared) (e:Value) (s':Shared),CX [] H s (fun _ _ _=>False) e s'->False):PySem.W.WalkO q loose XP YP l.row.toRowW d [] (fun f vs=>PySem.call f vs):=by
 refine Att.attach_call hn hd fun w s0 s1 mg mb fa o pm cd doc a vs ns G Y ho h1 h2 hmg h3 hi hlen hg=>?_
 obtain ⟨K,fd,sp,KX,hb,hsp,hF⟩:=F w mg fa _ Y G.T.g hmg
 exact law_callG KX G.T.g G.T.b G.T.builtins G.T.nolimit hg h3 hi (Nat.le_trans hlen hz) hr hF hb (fun H hO hS=>hsp H a ns hlen hO hS) fun H e s'=>hCX H s1 e s'
end U
namespace U
open PySem PySem.Spec PyProof.Rows L2
mutual
def wD:D->Nat
 | .str s=>10 * s.length+2
 | .int _=>1921
 | .lst xs=>wDs xs+3
 | .sq xs=>wDs xs+3
 | .tup xs=>wDs xs+3
 | _=>5
def wDs:List D->Nat
 | []=>0
 | x :: xs=>wD x+2+wDs xs
end
mutual
def soD:D->Bool
 | .str s=>PyData.strOk s
 | .lst xs=>soDs xs
 | .sq xs=>soDs xs
 | .tup xs=>soDs xs
 | _=>true
def soDs:List D->Bool
 | []=>true
 | x :: xs=>soD x && soDs xs
end
mutual
def hD:D->Nat
 | .lst xs=>hDs xs+1
 | .sq xs=>hDs xs+1
 | .tup xs=>hDs xs+1
 | _=>0
def hDs:List D->Nat
 | []=>0
 | x :: xs=>max (hD x) (hDs xs)
end
mutual
theorem depth_le:∀ d:D,(pyd d).depth<=hD d
 | .non=>by simp only [pyd,PyData.depth,hD,Nat.le_refl]
 | .bl _=>by simp only [pyd,PyData.depth,hD,Nat.le_refl]
 | .int _=>by simp only [pyd,PyData.depth,hD,Nat.le_refl]
 | .str _=>by simp only [pyd,PyData.depth,hD,Nat.le_refl]
 | .lst xs=>by simp only [pyd,PyData.depth,hD];exact Nat.succ_le_succ (depths_le xs)
 | .sq xs=>by simp only [pyd,PyData.depth,hD];exact Nat.succ_le_succ (depths_le xs)
 | .tup xs=>by simp only [pyd,PyData.depth,hD];exact Nat.succ_le_succ (depths_le xs)
 | .dK _=>by simp only [pyd,PyData.depth,hD,Nat.le_refl]
 | .dT _=>by simp only [pyd,PyData.depth,hD,Nat.le_refl]
 | .obj _ _=>by simp only [pyd,PyData.depth,hD,Nat.le_refl]
 | .exc _ _ _ _=>by simp only [pyd,PyData.depth,hD,Nat.le_refl]
 | .pt _=>by simp only [pyd,PyData.depth,hD,Nat.le_refl]
 | .uK _=>by simp only [pyd,PyData.depth,hD,Nat.le_refl]
theorem depths_le:∀ ds:List D,PyData.depthAll (pyds ds)<=hDs ds
 | []=>by simp only [pyds,PyData.depthAll,hDs,Nat.le_refl]
 | x :: xs=>by
  simp only [pyds,PyData.depthAll,hDs]
  have h1:=depth_le x
  have h2:=depths_le xs
  omega
end
theorem strOk_le {x:Str} (h:PyData.strOk x=true):(reprText x).length<=10 * x.length+2:=StrLaws.reprText_len x fun c hc=>by
 have h3:=Array.all_eq_true_iff_forall_mem.mp h c (Array.mem_toList_iff.mp hc)
 have h4:c < 0x110000:=by simpa using h3
 have e:(16:Nat) ^ 8=4294967296:=by decide
 omega
mutual
theorem shown_le:∀ d:D,plD d=true->soD d=true->(pyd d).shown.length<=wD d
 | .non,_,_=>by simp only [pyd,PyData.shown,wD];decide
 | .bl b,_,_=>by
  simp only [pyd,PyData.shown,wD]
  cases b <;> decide
 | .int i,p,_=>by
  simp only [plD,decide_eq_true_eq] at p
  simp only [pyd,PyData.shown,wD]
  exact int_text_len_1921 p
 | .str s,_,h=>by
  simp only [soD] at h
  simp only [pyd,PyData.shown,wD]
  exact strOk_le h
 | .lst xs,p,h=>by
  simp only [soD] at h
  simp only [plD] at p
  simp only [pyd,PyData.shown,wD]
  have h1:=listText_len_le (PyData.shownAll (pyds xs))
  have h2:=showns_le xs p h
  omega
 | .sq xs,p,h=>by
  simp only [soD] at h
  simp only [plD] at p
  simp only [pyd,PyData.shown,wD]
  have h1:=listText_len_le (PyData.shownAll (pyds xs))
  have h2:=showns_le xs p h
  omega
 | .tup xs,p,h=>by
  simp only [soD] at h
  simp only [plD] at p
  simp only [pyd,PyData.shown,wD]
  have h1:=tupleText_len_le (PyData.shownAll (pyds xs))
  have h2:=showns_le xs p h
  omega
 | .dK _,p,_=>by simp only [plD] at p;cases p
 | .dT _,p,_=>by simp only [plD] at p;cases p
 | .obj _ _,p,_=>by simp only [plD] at p;cases p
 | .exc _ _ _ _,p,_=>by simp only [plD] at p;cases p
 | .pt _,p,_=>by simp only [plD] at p;cases p
 | .uK _,p,_=>by simp only [plD] at p;cases p
theorem showns_le:∀ ds:List D,plDs ds=true->soDs ds=true->((PyData.shownAll (pyds ds)).map (·.length)).sum+2 * (PyData.shownAll (pyds ds)).length<=wDs ds
 | [],_,_=>by simp only [pyds,PyData.shownAll,wDs];exact Nat.le_refl _
 | x :: xs,p,h=>by
  simp only [soDs,Bool.and_eq_true] at h
  simp only [plDs,Bool.and_eq_true] at p
  simp only [pyds,PyData.shownAll,wDs,List.map_cons,List.sum_cons,List.length_cons]
  have h1:=shown_le x p.1 h.1
  have h2:=showns_le xs p.2 h.2
  omega
end
theorem shOk_of {d:D} (p:plD d=true) (s:soD d=true) (h:hD d<=100) (w:wD d<=100000):ShOk d:=
 ⟨p,Nat.le_trans (depth_le d) h,sz1000 (Nat.le_trans (shown_le d p s) w)⟩
theorem ok_of {x:Str} (h:∀ c∈x.cps.toList,c < 0x110000):PyData.strOk x=true:=Array.all_eq_true_iff_forall_mem.mpr fun c hc=>by simpa using h c (Array.mem_toList_iff.mpr hc)
theorem ok_mem {x:Str} (h:PyData.strOk x=true):∀ c∈x.cps.toList,c < 0x110000:=fun c hc=>by simpa using Array.all_eq_true_iff_forall_mem.mp h c (Array.mem_toList_iff.mp hc)
theorem ok_app {a b:Str} (ha:PyData.strOk a=true) (hb:PyData.strOk b=true):PyData.strOk (a ++ b)=true:=ok_of fun c hc=>by
 have e:(a ++ b).cps.toList=a.cps.toList ++ b.cps.toList:=by show (a.cps ++ b.cps).toList=_;simp
 rw [e] at hc
 rcases List.mem_append.mp hc with z | z
 ·exact ok_mem ha c z
 ·exact ok_mem hb c z
theorem ok_ofS (s:String):PyData.strOk (Str.ofString s)=true:=ok_of fun c hc=>by
 rw [Str.ofString_eq_toList] at hc
 simp only [List.toList_toArray] at hc
 obtain ⟨d,_,rfl⟩:=List.mem_map.mp hc
 have:=d.valid
 rcases this with h | ⟨_,h⟩
 ·have h2:d.toNat < 0xd800:=h
  omega
 ·exact h
theorem ok_join {sep:Str} (hs:PyData.strOk sep=true):∀ ts:List Str,(∀ t∈ts,PyData.strOk t=true)->PyData.strOk (Str.join sep ts)=true
 | [],_=>ok_of fun c hc=>nomatch (show c∈([]:List Nat) from hc)
 | [x],h=>h x (List.mem_cons_self ..)
 | x :: y :: r,h=>ok_app (ok_app (h x (List.mem_cons_self ..)) hs) (ok_join hs (y :: r) fun t ht=>h t (List.mem_cons_of_mem _ ht))
theorem ok_char {q c:Nat} (hc:c < 0x110000):∀ d∈Builtin.Str.reprChar q c,d < 0x110000:=by
 have hex:∀ (w:Nat),∀ d∈(List.replicate (w - ((Nat.toDigits 16 c).map Char.toNat).length) 48 ++ (Nat.toDigits 16 c).map Char.toNat),d < 0x110000:=fun w d hd=>by
  rcases List.mem_append.mp hd with z | z
  ·rw [(List.mem_replicate.mp z).2];decide
  ·obtain ⟨e,_,rfl⟩:=List.mem_map.mp z
   rcases e.valid with h | ⟨_,h⟩
   ·have h2:e.toNat < 0xd800:=h
    omega
   ·exact h
 intro d hd
 unfold Builtin.Str.reprChar at hd
 dsimp only at hd
 have two:∀ {a b:Nat} {l:List Nat},a < 0x110000->b < 0x110000->(∀ d∈l,d < 0x110000)->d∈([a,b] ++ l)->d < 0x110000:=fun {a b l} ha hb hl h=>by
  rcases List.mem_append.mp h with z | z
  ·simp only [List.mem_cons,List.not_mem_nil,or_false] at z
   rcases z with rfl | rfl
   ·exact ha
   ·exact hb
  ·exact hl d z
 have pair:∀ {a b:Nat},a < 0x110000->b < 0x110000->d∈[a,b]->d < 0x110000:=fun {a b} ha hb h=>by
  simp only [List.mem_cons,List.not_mem_nil,or_false] at h
  rcases h with rfl | rfl
  ·exact ha
  ·exact hb
 split at hd
 ·exact pair (by decide) hc hd
 ·split at hd
  ·exact pair (by decide) (by decide) hd
  ·split at hd
   ·exact pair (by decide) (by decide) hd
   ·split at hd
    ·exact pair (by decide) (by decide) hd
    ·split at hd
     ·rw [List.mem_singleton.mp hd];exact hc
     ·split at hd
      ·exact two (by decide) (by decide) (hex 2) hd
      ·split at hd
       ·exact two (by decide) (by decide) (hex 4) hd
       ·exact two (by decide) (by decide) (hex 8) hd
theorem ok_repr {x:Str} (h:PyData.strOk x=true):PyData.strOk (reprText x)=true:=ok_of fun c hc=>by
 have hx:=ok_mem h
 have hq:reprQuote x < 0x110000:=by unfold reprQuote;split <;> decide
 have fold:∀ (l:List Nat) (acc:Array Nat),(∀ c∈l,c < 0x110000)->(∀ c∈acc.toList,c < 0x110000)->∀ c∈(l.foldl (fun out c=>out ++ (Builtin.Str.reprChar (reprQuote x) c).toArray) acc).toList,c < 0x110000:=fun l=>by
  induction l with
  | nil=>intro acc _ ha;exact ha
  | cons a l ih=>
   intro acc hl ha
   refine ih _ (fun c hc=>hl c (List.mem_cons_of_mem _ hc)) fun c hc=>?_
   simp only [Array.toList_append,List.toList_toArray] at hc
   rcases List.mem_append.mp hc with z | z
   ·exact ha c z
   ·exact ok_char (hl a (List.mem_cons_self ..)) c z
 unfold reprText at hc
 have hc2:c∈((x.cps.foldl (fun out c=>out ++ (Builtin.Str.reprChar (reprQuote x) c).toArray) #[reprQuote x]).push (reprQuote x)).toList:=hc
 rw [Array.toList_push,<-Array.foldl_toList] at hc2
 rcases List.mem_append.mp hc2 with z | z
 ·exact fold _ _ hx (fun c hc=>by
   have:c=reprQuote x:=by simpa using hc
   rw [this];exact hq) c z
 ·rw [List.mem_singleton.mp z];exact hq
theorem ok_from:∀ (ts:List Str) (k:Nat) (acc:Str),PyData.strOk acc=true->(∀ t∈ts,PyData.strOk t=true)->PyData.strOk (textFrom k acc ts)=true
 | [],_,acc,ha,_=>ha
 | t :: r,k,acc,ha,h=>ok_from r (k+1) _ (ok_app (ok_app ha (ok_ofS _)) (h t (List.mem_cons_self ..))) fun x hx=>h x (List.mem_cons_of_mem _ hx)
theorem ok_list {ts:List Str} (h:∀ t∈ts,PyData.strOk t=true):PyData.strOk (listText ts)=true:=ok_app (ok_from ts 0 _ (ok_ofS _) h) (ok_ofS _)
theorem ok_tuple {ts:List Str} (h:∀ t∈ts,PyData.strOk t=true):PyData.strOk (tupleText ts)=true:=ok_app (ok_app (ok_ofS _) (ok_join (ok_ofS _) ts h)) (ok_ofS _)
mutual
theorem shown_ok:∀ d:D,soD d=true->PyData.strOk (pyd d).shown=true
 | .non,_=>by simp only [pyd,PyData.shown];exact ok_ofS _
 | .bl b,_=>by
  simp only [pyd,PyData.shown]
  cases b <;> exact ok_ofS _
 | .int i,_=>by simp only [pyd,PyData.shown];exact ok_ofS _
 | .str s,h=>by
  simp only [soD] at h
  simp only [pyd,PyData.shown]
  exact ok_repr h
 | .lst xs,h=>by
  simp only [soD] at h
  simp only [pyd,PyData.shown]
  exact ok_list (showns_ok xs h)
 | .sq xs,h=>by
  simp only [soD] at h
  simp only [pyd,PyData.shown]
  exact ok_list (showns_ok xs h)
 | .tup xs,h=>by
  simp only [soD] at h
  simp only [pyd,PyData.shown]
  exact ok_tuple (showns_ok xs h)
 | .dK _,_=>by simp only [pyd,PyData.shown];exact ok_ofS _
 | .dT _,_=>by simp only [pyd,PyData.shown];exact ok_ofS _
 | .obj _ _,_=>by simp only [pyd,PyData.shown];exact ok_ofS _
 | .exc _ _ _ _,_=>by simp only [pyd,PyData.shown];exact ok_ofS _
 | .pt _,_=>by simp only [pyd,PyData.shown];exact ok_ofS _
 | .uK _,_=>by simp only [pyd,PyData.shown];exact ok_ofS _
theorem showns_ok:∀ ds:List D,soDs ds=true->∀ t∈PyData.shownAll (pyds ds),PyData.strOk t=true
 | [],_,t,ht=>by simp only [pyds,PyData.shownAll] at ht;cases ht
 | x :: xs,h,t,ht=>by
  simp only [soDs,Bool.and_eq_true] at h
  simp only [pyds,PyData.shownAll] at ht
  rcases List.mem_cons.mp ht with rfl | z
  ·exact shown_ok x h.1
  ·exact showns_ok xs h.2 t z
end
theorem shOk_pairs {ps:List Pr} (hs:∀ p∈ps,PyData.strOk p.1=true/\PyData.strOk p.2=true) (hl:∀ p∈ps,p.1.length<=100/\p.2.length<=100) (hn:ps.length<=40):ShOk (.lst (ps.map fun p=>.tup [.str p.1,.str p.2])):=by
 have h1:∀ ps:List Pr,plDs (ps.map fun p=>.tup [.str p.1,.str p.2])=true:=fun ps=>by
  induction ps with
  | nil=>simp only [List.map_nil,plDs]
  | cons a ps ih=>simp only [List.map_cons,plDs,plD,ih,Bool.and_self]
 have h2:∀ ps:List Pr,(∀ p∈ps,PyData.strOk p.1=true/\PyData.strOk p.2=true)->soDs (ps.map fun p=>.tup [.str p.1,.str p.2])=true:=fun ps=>by
  induction ps with
  | nil=>intro _;simp only [List.map_nil,soDs]
  | cons a ps ih=>
   intro h
   have ha:=h a (List.mem_cons_self ..)
   simp only [List.map_cons,soDs,soD,ha.1,ha.2,ih fun p hp=>h p (List.mem_cons_of_mem _ hp),Bool.and_self]
 have h3:∀ ps:List Pr,hDs (ps.map fun p=>.tup [.str p.1,.str p.2])<=1:=fun ps=>by
  induction ps with
  | nil=>simp only [List.map_nil,hDs];omega
  | cons a ps ih=>simp only [List.map_cons,hDs,hD];omega
 have h4:∀ ps:List Pr,(∀ p∈ps,p.1.length<=100/\p.2.length<=100)->wDs (ps.map fun p=>.tup [.str p.1,.str p.2])<=2100 * ps.length:=fun ps=>by
  induction ps with
  | nil=>intro _;simp only [List.map_nil,wDs];omega
  | cons a ps ih=>
   intro h
   have ha:=h a (List.mem_cons_self ..)
   have:=ih fun p hp=>h p (List.mem_cons_of_mem _ hp)
   simp only [List.map_cons,wDs,wD,List.length_cons]
   omega
 refine shOk_of (by simp only [plD];exact h1 ps) (by simp only [soD];exact h2 ps hs) ?_ ?_
 ·simp only [hD]
  have:=h3 ps
  omega
 ·simp only [wD]
  have:=h4 ps hl
  omega
end U
namespace U
open PySem L2
section
variable {K:PySem.W.Frag}{X:Cx}{ea eb ec ed ee:Expr}{ta tb tc td te:TE}{da db dc dd de:DTE}{pos:Pos}
end
end U
namespace U
open PySem L2
section
variable {K:PySem.W.Frag}{X:Cx}
end
theorem soDs_all:∀ {xs:List D},(∀ x∈xs,soD x=true)->soDs xs=true
 | [],_=>by simp only [soDs]
 | x :: xs,h=>by simp only [soDs,h x (List.mem_cons_self ..),soDs_all fun y hy=>h y (List.mem_cons_of_mem _ hy),Bool.and_self]
end U
namespace U
open PySem L2
section
variable {K:PySem.W.Frag}{X:Cx}{pos:Pos}
end
end U
namespace U
open PySem L2
section
variable {P:Program}{w:World}{K:PySem.W.Frag}{mg:Str->Option Value}{base:Heap}{CX:CXT}{k:Nat}{f:Addr}{fd:FuncData}{ps:List Str}
end
section
variable {K:PySem.W.Frag}{X:Cx}{o:Expr}{to:TE}{de:DTE}
end
section
variable {X:Cx}{K:PySem.W.Frag}{k n m j:Nat}{C:Addr}{sp:PSp}{r r':ER}
end
end U
namespace U
open PySem L2
section
variable {K:PySem.W.Frag}{X:Cx}
variable {tg elt iter:Expr}{ifs:List Expr}{scope:Scope}{own:List (Str × Nat)}{pos:Pos}{wi:TI}{di:DTI}{g:Fm TG}{dg:Fm DTG}{t:Fm TT}{te:Fm TE}{de:Fm DTE}
end
def dForP (de:DTE) (dg:DTG) (db:DTS) (D:DEnds) (env:En):Prop:=de env fun r e1=>∃ (q:Addr) (xs:List U.D),r.d = .pt q/\(∃ j b a g,LstAt e1 q xs j b a g)/\∃ W:Nat->En->Prop,W 0 e1/\(∀ (i:Nat) e,W i e->∃ j b a g,LstAt e q xs j b a g) /\
 (∀ (i:Nat) e x,xs[i]? = some x->W i e->dg (.dat x) e fun e2=>db { D with nx:=W (i+1),ct:=W (i+1),bk:=D.nx } e2)/\∀ e,W xs.length e->D.nx e
section
variable {K:PySem.W.Frag}{X:Cx}{te:TE}{de:DTE}{own:List Nat}{g:TG}{dg:DTG}{ts:TS}{ds:DTS}{tg:Expr}{pos:Pos}
theorem ss_forP (he:SE K te de) (hg:SG K own g dg) (hb:SS K ts ds):SS K (tFor (iList K te) g ts) (dForP de dg ds):=fun Z env tm σ H D Dd h k q=>he Z env tm σ H _ _ h q fun v r e1 H1 h1 n1 ⟨p,xs,er,⟨j0,b0,a0,g0,ej0,hq0⟩,W,w0,lst,turn,fin⟩=>by
 obtain ⟨F,h2⟩:=h1.frzT n1
 have dt:=h2.top
 rw [er] at dt
 simp only [Dt] at dt
 subst dt
 have at_:∀ {e:En} {tms:Tm} {σ:L2.St} {H:Hp} {i:Nat},Rel K Z e tms σ H->W i e->∃ F vs,RelF K Z F e tms σ H/\H p=some (.lst vs)/\Dts K F xs vs:=fun {e tms σ H i} hr w=>by
  obtain ⟨F,h3⟩:=hr
  obtain ⟨j,b,a,gg,ej,hq⟩:=lst i e w
  obtain ⟨_,vs,hw,dv⟩:=h3.hat ej hq
  exact ⟨F,vs,h3,hw,dv⟩
 have h3:Rel K Z e1 tm σ H1:=⟨F,h2.pop⟩
 obtain ⟨_,vs0,_,hw0,_⟩:=at_ h3 w0
 refine ⟨p,rfl,⟨vs0,SqL.of hw0⟩,fun i m σ H=>m=xs.length - i/\i<=xs.length/\∃ e,Rel K Z e tm σ H/\W i e,⟨xs.length,by simp,Nat.zero_le _,e1,h3,w0⟩,?_⟩
 rintro i m σ H ⟨rfl,hi,e,hr,w⟩
 obtain ⟨F2,vs,hr2,hw,dv⟩:=at_ hr w
 by_cases hlt:i < xs.length
 ·have ex:xs[i]? = some xs[i]:=by simp [hlt]
  obtain ⟨u,hu,du⟩:=dv.get ex
  refine .inr ⟨⟨vs,u,SqL.of hw,hu⟩,fun σ' H'=>∃ e',Rel K Z e' tm σ' H'/\W (i+1) e',fun σ' H' ⟨e',r',w'⟩=>⟨xs.length - (i+1),by omega,rfl,hlt,e',r',w'⟩,fun v H' y=>?_⟩
  obtain ⟨rfl,hv⟩:=y
  have hv:=hv vs (SqL.of hw)
  rw [hu] at hv;cases hv
  refine hg Z e tm σ _ _ _ _ _ ⟨F2,hr2.pushD du⟩ rfl (turn i e _ ex w) fun e2 σ2 H2 h2 _ q2=>?_
  refine hb Z e2 tm σ2 H2 _ { Dd with nx:=W (i+1),ct:=W (i+1),bk:=Dd.nx } h2 ⟨fun e3 σ3 H3 h3 q3=>⟨e3,h3,q3⟩,fun v r e3 σ3 H3 h3=>k.rt v r e3 σ3 H3 h3,fun e3 σ3 H3 h3 q3=>k.nx e3 σ3 H3 h3 q3,fun e3 σ3 H3 h3 q3=>⟨e3,h3,q3⟩⟩ q2
 ·have:i=xs.length:=by omega
  subst this
  exact .inl ⟨⟨vs,SqL.of hw,by rw [<-dv.len];exact Nat.le_refl _⟩,k.nx e σ H hr (fin e w)⟩
theorem ds_forP {iter:Expr}{body:List Stmt} (hp:PassesOwn (model X.prog X.w) X.A X.env X.xe) (hc:X.calm=true) (hi:DE X iter te de) (hg:DG X own tg g dg) (hb:DSs X body ts ds) (hs:∀ x,foldedSetIterable iter X.env x=pure x:=by intro _;rfl) :
  DS X (.For tg iter body [] pos) (tFor (iList X.K te) g ts) (dForP de dg ds):=⟨ps_for hp hc (pi_list hi.1) hg.1 hb.1 hs,ss_forP hi.2 hg.2 hb.2⟩
end
end U
namespace U
open PySem L2
section
variable {K:PySem.W.Frag}{X:Cx}{Z:Zt}{F H:Hp}{e:En}{tm:Tm}{σ:L2.St}{st:Stmt}{ts:TS}{ds:DTS}
def ghE (i:Nat) (env:En) (Q:En->Prop):Prop:=match env[i]? with
 | some (some r)=>(r.one=true/\r.nobag=true)/\∀ p gg,rG r p gg->Q (env.set i (some (.hp false p gg)))
 | _=>False
def dGhS (i:Nat) (ds:DTS) (D:DEnds) (env:En):Prop:=ds { D with nx:=fun e=>ghE i e D.nx } env
theorem ss_ghS {i:Nat} (h:SS K ts ds):SS K ts (dGhS i ds):=fun Z env tm σ H D Dd hr k q=>h Z env tm σ H D { Dd with nx:=fun e=>ghE i e Dd.nx } hr ⟨fun e1 σ1 H1 r1 q1=>by
 have q1:ghE i e1 Dd.nx:=q1
 unfold ghE at q1
 split at q1
 ·rename_i r ei
  obtain ⟨F,h2⟩:=r1
  obtain ⟨p,gg,hg,h3⟩:=h2.gh ei q1.1.1 q1.1.2
  exact k.nx _ σ1 H1 ⟨F,h3⟩ (q1.2 p gg hg)
 ·exact q1.elim,k.rt,k.bk,k.ct⟩ q
theorem ds_ghS (i:Nat) (h:DS X st ts ds):DS X st ts (dGhS i ds):=⟨h.1,ss_ghS h.2⟩
theorem RelF.mrg {i j:Nat}{a p:Addr}{g gg:GH} (h:RelF K Z F e tm σ H) (ij:i ≠ j) (ei:e[i]? = some (some (.hp false a g))) (ej:e[j]? = some (some (.hp false p gg))) :
  RelF K Z F ((e.set i (some (.hp false a (gun g gg)))).set j (some (.dat (.pt p)))) tm σ H/\∀ x,(gg x).isSome=true->g x=none:=by
 obtain ⟨v,hv⟩:=h.sl i _ ei
 obtain ⟨w,hw⟩:=h.sl j _ ej
 have c:Cell σ e tm (.s i) v (.hp false a g):=⟨hv,ei⟩
 have ct:Cell σ e tm (.s j) w (.hp false p gg):=⟨hw,ej⟩
 have apart:∀ x,(gg x).isSome=true->g x=none:=fun x hx=>by
  cases eg:g x with
  | none=>rfl
  | some o=>
   have:=h.ap _ _ _ _ _ _ x c ct (show (g x).isSome=true by rw [eg];rfl) hx
   injection this with this
   exact absurd this ij
 obtain ⟨rfl,ha,k⟩:=h.ok _ _ _ c
 obtain ⟨rfl,hp,kk⟩:=h.ok _ _ _ ct
 refine ⟨?_,apart⟩
 have li:=(List.getElem?_eq_some_iff.mp ei).1
 have lj:=(List.getElem?_eq_some_iff.mp ej).1
 refine h.chgS (M:=fun _=>False) (fun a0 v0 r0 r'=>(a0 = .s i/\v0 = .ref a/\r0 = .hp false a g/\r' = .hp false a (gun g gg))\/(a0 = .s j/\v0 = .ref p/\r0 = .hp false p gg/\r' = .dat (.pt p))) (Grow.refl h.sub) ?_ (fun x z=>z.elim) ?_ ?_ (by rw [List.length_set,List.length_set];exact h.len) ?_ ?_
 ·rintro a0 v0 r0 r' (⟨rfl,rfl,rfl,rfl⟩ | ⟨rfl,rfl,rfl,rfl⟩)
  ·refine ⟨c,⟨rfl,?_,fun x o hx=>?_⟩,fun x f=>?_⟩
   ·cases eg:gg a with
    | none=>rw [gun_none eg];exact ha
    | some o=>rw [gun_some eg];rfl
   ·cases eg:gg x with
    | none=>rw [gun_none eg] at hx;exact k x o hx
    | some o'=>rw [gun_some eg] at hx;cases hx;exact kk x _ eg
   ·have f:(gun g gg x).isSome=true:=f
    cases eg:gg x with
    | none=>
     rw [gun_none eg] at f
     exact .inr ⟨_,_,_,_,.inl ⟨rfl,rfl,rfl,rfl⟩,f,id⟩
    | some o'=>exact .inr ⟨_,_,_,_,.inr ⟨rfl,rfl,rfl,rfl⟩,(show (gg x).isSome=true by rw [eg];rfl),fun z=>by cases z⟩
  ·exact ⟨ct,by show Dt K F (.pt p) (.ref p);simp only [Dt],fun x f=>f.elim⟩
 ·rintro a0 v0 r0 r' b0 w q q' x (⟨rfl,rfl,rfl,rfl⟩ | ⟨rfl,rfl,rfl,rfl⟩) (⟨rfl,rfl,rfl,rfl⟩ | ⟨rfl,rfl,rfl,rfl⟩) f1 f2
  ·rfl
  ·exact f2.elim
  ·exact f1.elim
  ·rfl
 ·intro b0 w0 q c'
  cases b0 with
  | t n=>
   refine .inr ⟨fun v r r' z=>?_,c'⟩
   rcases z with ⟨z,_⟩ | ⟨z,_⟩ <;> cases z
  | s n=>
   obtain ⟨c1,c2⟩:=c'
   by_cases hj:j=n
   ·subst hj
    rw [List.getElem?_set,if_pos rfl,if_pos (by rw [List.length_set];exact lj)] at c2
    rw [hw] at c1
    cases c1;cases c2
    exact .inl ⟨_,.inr ⟨rfl,rfl,rfl,rfl⟩⟩
   ·rw [List.getElem?_set,if_neg hj] at c2
    by_cases hi:i=n
    ·subst hi
     rw [List.getElem?_set,if_pos rfl,if_pos li] at c2
     rw [hv] at c1
     cases c1;cases c2
     exact .inl ⟨_,.inl ⟨rfl,rfl,rfl,rfl⟩⟩
    ·rw [List.getElem?_set,if_neg hi] at c2
     refine .inr ⟨fun v r r' z=>?_,c1,c2⟩
     rcases z with ⟨z,_⟩ | ⟨z,_⟩
     ·injection z with z;exact hi z.symm
     ·injection z with z;exact hj z.symm
 ·exact set_sl (set_sl h.sl hv) hw
 ·intro z
  exact set_bg (fun _=>rfl) (set_bg (fun _=>rfl) z)
def mrE (i j:Nat) (env:En) (Q:En->Prop):Prop:=∃ a p g gg,i ≠ j/\env[i]? = some (some (.hp false a g))/\env[j]? = some (some (.hp false p gg))/\((∀ x,(gg x).isSome=true->g x=none)->Q ((env.set i (some (.hp false a (gun g gg)))).set j (some (.dat (.pt p)))))
def dMrS (i j:Nat) (ds:DTS) (D:DEnds) (env:En):Prop:=ds { D with nx:=fun e=>mrE i j e D.nx } env
theorem ss_mrS {i j:Nat} (h:SS K ts ds):SS K ts (dMrS i j ds):=fun Z env tm σ H D Dd hr k q=>h Z env tm σ H D { Dd with nx:=fun e=>mrE i j e Dd.nx } hr ⟨fun e1 σ1 H1 ⟨F,r1⟩ ⟨a,p,g,gg,ij,ei,ej,q1⟩=>by
 obtain ⟨h2,ap⟩:=r1.mrg ij ei ej
 exact k.nx _ σ1 H1 ⟨F,h2⟩ (q1 ap),k.rt,k.bk,k.ct⟩ q
theorem ds_mrS (i j:Nat) (h:DS X st ts ds):DS X st ts (dMrS i j ds):=⟨h.1,ss_mrS h.2⟩
end
end U
namespace U
open PySem L2
structure Tx (mg:Str->Option Value):Prop where
 n_abs:mg "abs" = none
 n_any:mg "any" = none
 n_int:mg "int" = none
 n_isinstance:mg "isinstance" = none
 n_len:mg "len" = none
 n_list:mg "list" = none
 n_max:mg "max" = none
 n_min:mg "min" = none
 n_range:mg "range" = none
 n_repr:mg "repr" = none
 n_sorted:mg "sorted" = none
 n_str:mg "str" = none
 n_tuple:mg "tuple" = none
local macro_rules | `(tactic| wtm_at "hp") => `(tactic| first | assumption | exact g_same (by assumption) (by wtm_at "hp") | exact Sm.at (by assumption) (by wtm_at "hp") (by rfl) | exact Mu.at (by assumption) (by wtm_at "hp") (by wtm_at "ne"))
local macro_rules | `(tactic| wtm_at "ne") => `(tactic| first | assumption | (refine Ne.symm ?_; assumption) | exact ne_fr (by assumption) (by wtm_at "hp") | exact ne_fl (by assumption) (by wtm_at "hp"))
local macro_rules | `(tactic| wtm_at "neb") => `(tactic| first | assumption | exact Bag.ne_lst (by wtm_at "bag") (by assumption) (by rfl) | exact Bag.neF (by assumption) (by wtm_at "bag"))
local macro_rules | `(tactic| wtm_at "bag") => `(tactic| first | assumption | exact Bag.same (by assumption) (by wtm_at "bag") | exact Bag.mu (by assumption) (by wtm_at "bag") (by wtm_at "neb"))
local macro_rules | `(tactic| wtm_at "sm") => `(tactic| first | assumption | exact Sm.refl _ | exact Sm.same (by assumption) (by wtm_at "sm") | exact Sm.sm (by assumption) (by wtm_at "sm") | exact Sm.mu (by assumption) (by wtm_at "sm") (by wtm_at "fr"))
local macro_rules | `(tactic| wtm_at "fr") => `(tactic| first | assumption | exact Sm.fresh (by assumption) (by wtm_at "sm"))
local macro_rules | `(tactic| wtm_at "sa") => `(tactic| first | assumption | exact Same.refl _ | exact Same.tr (by assumption) (by wtm_at "sa") | exact Same.mu (by assumption) (by wtm_at "sa") (by wtm_at "fs"))
local macro_rules | `(tactic| wtm_at "fs") => `(tactic| first | assumption | exact Same.fresh (by assumption) (by wtm_at "sa"))
local macro_rules | `(tactic| wtm_at "sq") => `(tactic| first | exact SqL.of (by wtm_at "hp") | assumption | exact Same.seq (by assumption) (by wtm_at "sq") | exact Sm.seq (by assumption) (by wtm_at "sq") | exact Mu.seq (by assumption) (by wtm_at "sq") (by wtm_at "ne"))
local macro_rules | `(tactic| wtm_at "st") => `(tactic| first | exact SqT.of (by wtm_at "hp") | assumption | exact Same.seqT (by assumption) (by wtm_at "st") | exact Sm.tup (by assumption) (by wtm_at "st"))
local macro_rules | `(tactic| wtm_at "side") => `(tactic| first | ((try dsimp only); omega) | exact ⟨by omega, by omega⟩ | exact Or.inl ⟨by omega, by omega⟩ | exact Or.inr ⟨by omega, by omega⟩ | exact ⟨by decide, by decide, by decide⟩)
local macro_rules | `(tactic| wtm_at "len") => `(tactic| first | exact Nat.lt_of_ble_eq_true rfl | exact Nat.le_of_ble_eq_true rfl | (simp only [List.length_append, List.length_map, List.length_cons, List.length_nil]; omega))
local macro_rules | `(tactic| wtm_at "at") => `(tactic| first
 | ((with_reducible show ∃ v,atI _ (OfNat.ofNat _)=some v/\_);refine g_at rfl ?_)
 | with_reducible refine g_menu2 (by omega) (by omega) (fun m hm=>?_) | with_reducible refine g_menu3 (by omega) (by omega) (fun m hm=>?_) | with_reducible refine g_menu4 (by omega) (by omega) (fun m hm=>?_) | with_reducible refine g_menu5 (by omega) (by omega) (fun m hm=>?_))
local macro_rules | `(tactic| wtm_at "go1") => `(tactic| first
 | with_reducible refine g_seq ?_ | with_reducible refine g_asg ?_ | with_reducible refine g_name ?_ | with_reducible refine g_op ?_ | with_reducible refine g_c ?_ | with_reducible refine g_I0 ?_
 | ((with_reducible show tVar _ _ _ _);refine g_var rfl ?_) | with_reducible refine g_cons ?_ | with_reducible refine g_nil ?_
 | with_reducible refine g_test ?_ | with_reducible refine g_B ?_ | with_reducible refine g_bl ?_ | with_reducible refine g_nxt ?_ | with_reducible refine g_drop ?_ | with_reducible refine g_ret ?_ | with_reducible refine g_ifs ?_
 | with_reducible refine g_un ?_ | with_reducible refine g_U ?_ | with_reducible refine g_and ?_ | with_reducible refine g_or ?_ | with_reducible refine g_not ?_ | with_reducible refine g_andV ?_ | with_reducible refine g_orV ?_ | with_reducible refine g_notV ?_
 | with_reducible refine g_ifE ?_ | with_reducible refine g_isN ?_ | with_reducible refine g_notN ?_ | with_reducible refine g_cb ?_ | with_reducible refine g_lst ?_ | with_reducible refine g_tup ?_ | with_reducible refine g_sub ?_ | with_reducible refine g_call ?_ | with_reducible refine g_bm ?_ | with_reducible refine g_bm0 ?_
 | ((with_reducible show rI _ (fun i j=>V.int (i ^ j.toNat)) (V.int 10) (V.int 18) _ _);refine g_pow (z:=1000000000000000000) ⟨by decide,by decide,by decide⟩ (by decide) ?_)
 | ((with_reducible show rI _ (fun i j=>V.int (i ^ j.toNat)) (V.int 10) (V.int 6) _ _);refine g_pow (z:=1000000) ⟨by decide,by decide,by decide⟩ (by decide) ?_)
 | ((with_reducible refine g_I ?c ?_);case c=>wtm_at "side")
 | ((with_reducible refine g_eq ?c ?_);case c=>rfl) | ((with_reducible refine g_ne ?c ?_);case c=>rfl)
 | ((with_reducible show rIxL _ (V.ref _) (V.int _) _ _);refine g_ixL (by wtm_at "sq") ?_;wtm_at "at")
 | ((with_reducible show rIxT _ (V.ref _) (V.int _) _ _);refine g_ixT (by wtm_at "st") ?_;wtm_at "at")
 | ((with_reducible show rSetA (V.ref _) (V.int (OfNat.ofNat _)) _ _ _);refine g_setL (by wtm_at "hp") (by rfl) (fun H' mu hp=>?_))
 | ((with_reducible show tyV _ _ (V.ref _) _/\_);refine g_ty (by wtm_at "hp") ?_)
 | ((with_reducible refine g_new ?c (fun p H' np sa hp=>?_));case c=>exact Nat.le_of_ble_eq_true rfl)
 | ((with_reducible show rAppA (V.ref _) [_] _ _);refine g_app (by wtm_at "hp") (by wtm_at "len") (fun H' mu hp=>?_))
 | ((with_reducible show rCatA (V.ref _) (V.ref _) _ _);refine g_cat (by wtm_at "hp") (by wtm_at "hp") (by wtm_at "len") (fun p H' np sa hp=>?_))
 | ((with_reducible show rTupleA _ [V.ref _] _ _);refine g_tuple (by wtm_at "sq") (fun p H' np sa hp=>?_))
 | ((with_reducible show rListA _ [V.ref _] _ _);first | refine g_listL (by wtm_at "sq") (fun p H' np sa hp=>?_) | refine g_listT (by wtm_at "st") (fun p H' np sa hp=>?_))
 | ((with_reducible show rLenA _ [V.ref _] _ _);first | refine g_lenL (by wtm_at "sq") ?_ | refine g_lenT (by wtm_at "st") ?_)
 | with_reducible refine g_dnew (fun p H' np sa hp=>?_)
 | with_reducible refine g_fld0 ?_
 | with_reducible refine g_intB (fun i hi1 hi0 hi=>?_) | with_reducible refine g_intI ?_ | with_reducible refine g_abs (fun a a0 ha=>?_) | with_reducible refine g_min ?_ | with_reducible refine g_max ?_)
local macro_rules | `(tactic| wtm_at "go") => `(tactic| repeat wtm_at "go1")
theorem sc_take:FnScope ["_law_bag_here","_law_size","_law_digit","_law_primes","_law_stage","_law_basis","_law_found"] ["_law_bag_here","_law_size"] (defScope s_take):=⟨rfl,rfl,rfl,by decide +kernel,rfl,by decide +kernel,by decide +kernel⟩
theorem sc_bag:FnScope ["_law_script","_law_at","_law_cell","_law_far"] ["_law_script","_law_at"] (defScope s_bag):=⟨rfl,rfl,rfl,by decide +kernel,rfl,by decide +kernel,by decide +kernel⟩
def primes8:List V:=[.int 2147483647,.int 2147483629,.int 2147483587,.int 2147483579,.int 2147483563,.int 2147483549,.int 2147483543,.int 2147483497]
theorem primes_at {i:Int} (h0:0<=i) (h1:i < 8):∃ p,atI primes8 i=some (.int p)/\0 < p/\p < 2147483648:=by
 obtain rfl | rfl | rfl | rfl | rfl | rfl | rfl | rfl:i=0\/i=1\/i=2\/i=3\/i=4\/i=5\/i=6\/i=7:=by omega
 all_goals exact ⟨_,rfl,by decide,by decide⟩
theorem basis_lt {y z:Int} (y0:0<=y) (y1:y < 2 ^ 62) (z0:0<=z) (z1:z<=2 ^ 31):(y * (2 * z+1)+7919 * z * z+29).natAbs < 2 ^ 200:=by
 have h1:0<=y * (2 * z+1):=Int.mul_nonneg y0 (by omega)
 have h2:y * (2 * z+1)<=2 ^ 62 * 2 ^ 33:=Int.mul_le_mul (by omega) (by omega) (by omega) (by decide)
 have h3:0<=7919 * z * z:=Int.mul_nonneg (by omega) z0
 have h4:7919 * z * z<=2 ^ 45 * 2 ^ 31:=Int.mul_le_mul (by omega) (by omega) (by omega) (by decide)
 generalize y * (2 * z+1)=a at *
 generalize 7919 * z * z=b at *
 omega
def spTakeR:Sp:=fun vs H Q _=>∃ (b:Addr) (k x y z:Int) (m:Nat),vs=[.ref b,.int k]/\0 < k/\k < 2 ^ 30/\H b=some (.lst [.int x,.int y,.int z])/\BagV m x y z/\m<=10 ^ 9 /\
 ∀ v x' y' z' H',0<=v->v < k->BagV (m+1) x' y' z'->(∀ a o,a ≠ b->H a=some o->H' a=some o)->(∀ a,H' a=none->H a=none)->H' b=some (.lst [.int x',.int y',.int z'])->Q (.int v) H'
section
variable {P:Program}{w:World}{K:PySem.W.Frag}{mg:Str->Option Value}{base:Heap}
theorem ok_takeR {f:Addr}{fd:FuncData} (F:Fun K "_law_take" "_law_take" s_take f fd):FnOk P w K mg base CX0 1 f fd ["_law_bag_here","_law_size"] spTakeR:=by
 refine F.ok sc_take (fun vs H Q E h=>?_) (fun cdv A outer s H vs Q E hr h=>?_)
 ·obtain ⟨b,k,x,y,z,m,rfl,_⟩:=h
  rfl
 ·obtain ⟨b,k,x,y,z,m,rfl,k0,k1,hb,hv,hm,q⟩:=h
  obtain ⟨x0,y0,y1,z0,z1⟩:=id hv
  refine ⟨_,(pss_cons (ps_if (pt_cmpR op_gt (pe_ix ix_list (pv 0) pe_int (fun _ _=>rfl)) pe_int (nomark _)) (pss_cons (ps_set (i:=2) sc_take.nd rfl (by first | exact Or.inl rfl | exact Or.inr rfl) (pe_op op_mod (pe_ix ix_list (pv 0) pe_int (fun _ _=>rfl)) (pv 1)))
   (pss_cons (ps_asg (pe_op op_fdiv (pe_ix ix_list (pv 0) pe_int (fun _ _=>rfl)) (pv 1)) (pg_sub (pv 0) pe_int set_listA))
   (pss_one (ps_ret (pv 2))))) pss_nil)
   (pss_cons (ps_set (i:=3) sc_take.nd rfl (by first | exact Or.inl rfl | exact Or.inr rfl) (pe_tupA (pa_cons pe_int (pa_cons pe_int (pa_cons pe_int (pa_cons pe_int (pa_cons pe_int (pa_cons pe_int (pa_cons pe_int (pa_cons pe_int pa_nil))))))))))
   (pss_cons (ps_asg (pe_op op_add (pe_ix ix_list (pv 0) pe_int (fun _ _=>rfl)) pe_int) (pg_sub (pv 0) pe_int set_listA))
   (pss_cons (ps_set (i:=4) sc_take.nd rfl (by first | exact Or.inl rfl | exact Or.inr rfl) (pe_ix ix_list (pv 0) pe_int (fun _ _=>rfl)))
   (pss_cons (ps_set (i:=5) sc_take.nd rfl (by first | exact Or.inl rfl | exact Or.inr rfl) (pe_op op_add (pe_op op_add (pe_op op_mul (pe_ix ix_list (pv 0) pe_int (fun _ _=>rfl)) (pe_op op_add (pe_op op_mul pe_int (pv 4)) pe_int)) (pe_op op_mul (pe_op op_mul pe_int (pv 4)) (pv 4))) pe_int))
   (pss_cons (ps_set (i:=6) sc_take.nd rfl (by first | exact Or.inl rfl | exact Or.inr rfl) (pe_op op_mod (pe_op op_powW (pv 5) pe_int) (pe_ix ix_tup (pv 3) (pe_op op_mod (pv 4) pe_int) (fun _ _=>rfl))))
   (pss_one (ps_ret (pe_op op_mod (pe_op op_fdiv (pe_op op_mod (pe_op op_mul (pv 6) (pe_op op_add (pe_op op_fdiv (pv 6) pe_int) pe_int)) (pe_ix ix_tup (pv 3) (pe_op op_mod (pe_op op_add (pv 4) pe_int) pe_int) (fun _ _=>rfl))) pe_int) (pv 1)))))))))),?_⟩
  wtm_at "go"
  refine ite2 (fun hx=>?_) (fun hx=>?_)
  ·have hx:0 < x:=of_decide_eq_true hx
   wtm_at "go"
   rename_i H2 mu hb2
   exact q _ (x / k) y z H2 (Int.emod_nonneg _ (by omega)) (Int.emod_lt_of_pos _ k0) ⟨Int.ediv_nonneg x0 (by omega),y0,y1,z0,by omega⟩ mu.keep mu.there hb2
  ·wtm_at "go"
   rename_i p H1 np sa hp1 H2 mu hb2
   refine g_I ⟨by decide,by decide,basis_lt y0 y1 (by omega) (by omega)⟩ ?_
   wtm_at "go"
   obtain ⟨p1,e1,p10,p11⟩:=primes_at (i:=(z+1) % 8) (by omega) (by omega)
   refine g_ixT (by wtm_at "st") (g_at e1 ?_)
   have f0:=Int.emod_nonneg ((y * (2 * (z+1)+1)+7919 * (z+1) * (z+1)+29) ^ Int.toNat 3) (b:=p1) (by omega)
   have f1:=Int.emod_lt_of_pos ((y * (2 * (z+1)+1)+7919 * (z+1) * (z+1)+29) ^ Int.toNat 3) p10
   wtm_at "go"
   obtain ⟨p2,e2,p20,p21⟩:=primes_at (i:=(z+1+5) % 8) (by omega) (by omega)
   refine g_ixT (by wtm_at "st") (g_at e2 ?_)
   wtm_at "go"
   exact q _ x y (z+1) H2 (Int.emod_nonneg _ (by omega)) (Int.emod_lt_of_pos _ k0) ⟨x0,y0,y1,by omega,by omega⟩ (fun a o n h=>mu.keep a o n (sa a o h)) (fun a h=>sa.free (mu.there a h)) hb2
def bsTake:BSp:=fun n ds Q=>match ds with | [.int k]=>(0 < k/\k < 2 ^ 30/\n<=10 ^ 9)/\∀ v,0<=v->v < k->Q (.dat (.int v)) (n+1) | _=>False
theorem ok_take {f:Addr}{fd:FuncData} (F:Fun K "_law_take" "_law_take" s_take f fd):FnOk P w K mg base CX0 1 f fd ["_law_bag_here","_law_size"] (spB K bsTake):=by
 let spM:Sp:=fun vs H Q _=>∃ (b:Addr) (k x y z:Int) (m:Nat),vs=[.ref b,.int k]/\0 < k/\k < 2 ^ 30/\H b=some (.lst [.int x,.int y,.int z])/\BagV m x y z/\m<=10 ^ 9 /\
  ∀ v H',0<=v->v < k->(∀ a o,a ≠ b->H a=some o->H' a=some o)->(∀ a,H' a=none->H a=none)->H' b=some (bagHO (m+1) b)->Q (.int v) H'
 have M:FnOk P w K mg base CX0 1 f fd ["_law_bag_here","_law_size"] spM:=by
  refine FnOk.toBag (ok_takeR F) fun vs H Q E h=>?_
  obtain ⟨b,k,x,y,z,m,e,k0,k1,hb,hv,hm,q⟩:=h
  refine ⟨b,k,x,y,z,m,e,k0,k1,hb,hv,hm,fun v x' y' z' H' v0 v1 bv h1 h2 h3=>⟨b,x',y',z',m+1,h3,bv,q v _ v0 v1 (fun a o n h=>?_) (fun a h=>?_) upd_same⟩⟩
  ·rw [upd_ne n];exact h1 a o n h
  ·by_cases e:a=b
   ·subst e;rw [upd_same] at h;cases h
   ·rw [upd_ne e] at h;exact h2 a h
 refine FnOk.ofBag M fun vs H Q E h=>?_
 obtain ⟨b,n,ws,F,ds,Qd,rfl,nF,⟨m,hm,hb⟩,sub,dv,q,kk⟩:=h
 unfold bsTake at q
 split at q
 ·rename_i k
  obtain ⟨v1,rfl,d1⟩:=dts1 dv
  have e1:=dint d1
  subst e1
  obtain ⟨⟨k0,k1,hn⟩,q⟩:=q
  refine ⟨rfl,b,m,hb,fun x y z bv=>⟨b,k,x,y,z,m,rfl,k0,k1,upd_same,bv,by omega,fun v H' v0 v1 h1 h2 h3=>?_⟩⟩
  have kp:∀ a o,¬ a=b->H a=some o->H' a=some o:=fun a o na h=>h1 a o na (by rw [upd_ne na];exact h)
  refine kk (.int v) (.dat (.int v)) (n+1) F H' ⟨Same.refl F,fun a o e=>kp a o (ne_of_none e nF) (sub a o e),fun _ h _=>h,kp,fun a h=>?_⟩ ⟨m+1,by omega,h3⟩ (RNew.dat intD) (q v v0 v1)
  have h4:=h2 a h
  by_cases e:a=b
  ·subst e;rw [upd_same] at h4;cases h4
  ·rw [upd_ne e] at h4;exact h4
 ·exact q.elim
theorem dts_ints {F:Hp}:∀ {ss:List Int}{vs:List V},Dts K F (ss.map D.int) vs->vs=ss.map V.int
 | [],vs,h=>by simpa only [List.map_nil,Dts] using h
 | s :: ss,vs,h=>by
  simp only [List.map_cons,Dts] at h
  obtain ⟨v,r,rfl,q,t⟩:=h
  rw [dint q,dts_ints t];rfl
def spNB (K:PySem.W.Frag) (sp:List D->Prop):Sp:=fun vs H Q _=>∃ F ds,Same F H/\Dts K F ds vs/\sp ds/\∀ p H',H p=none->Same H H'->Bag 0 H' p->Q (.ref p) H'
def nbBag:List D->Prop:=fun ds=>match ds with | [.sq xs,.int k]=>∃ is:List Int,xs=is.map D.int/\is.length<=63/\0<=k/\k<=100 | _=>False
def dSetBag (i:Nat) (sp:List D->Prop) (dr:DTA) (D:DEnds) (env:En):Prop:=(dr env fun ds e=>sp ds/\D.nx (e.set i (some (.bag 0))))/\0 < i
theorem ss_setBag {i:Nat}{sp:List D->Prop}{E:XK}{tr:TA}{dr:DTA} (ha:SA K tr dr):SS K (tAsg (tCall (spNB K sp) [] E tr) (gName i)) (dSetBag i sp dr):=fun Z env tm σ H D Dd h k ⟨q,hi⟩=>ha Z env tm σ H _ _ h q fun vs ds e H1 ⟨F,h1⟩ hl q1=>
 ⟨F,ds,h1.sub,by rw [List.append_nil];exact h1.dts hl,q1.1,fun p H' np sa bg=>by
  have h2:RelF K Z F e tm σ H1:=h1.pops
  have h3:RelF K Z F e tm σ H':=h2.grow0 (Grow.pure sa h1.sub)
  have h4:RelF K Z F e (tm ++ [(.ref p,.bag 0)]) σ H':=h3.pushN h2 np ⟨p,rfl,h2.sub.free np,bg⟩
  refine k.nx _ _ _ ?_ q1.2
  by_cases hl:i < e.length
  ·exact ⟨F,h4.asg hl fun z=>absurd z (by omega)⟩
  ·have e1:e.set i (some (R.bag 0))=e:=List.set_eq_of_length_le (by omega)
   have e2:σ.set i (some (V.ref p))=σ:=List.set_eq_of_length_le (by rw [h3.len];omega)
   rw [e1,e2];exact ⟨F,h3⟩⟩
theorem ds_setBag {X:Cx}{i:Nat}{sp:List D->Prop}{k j:Nat}{x y:Str}{ps:List Str}{p py pos pos':Pos}{e:Expr}{es:List Expr}{tr:TA}{dr:DTA} (c:Cal X.prog X.w X.K X.mg X.base CX0 k x ps (spNB X.K sp)) (hr:Room j X.A) (hN:X.N.Nodup) (hi:X.N[i]? = some y) (hx:Loc X.env.scope y) (ha:DA X (e :: es) tr dr) (hg:Gl X x:=by rfl) (hj:k<=j:=by decide) (hdb:(x == ("__debug__" : Str))=false:=by decide)
  (he:starEach (e :: es) X.env=(false,eval e X.env) :: starEach es X.env:=by rfl) (hpl:(backTo pos (starEach es X.env)).any (·.1)=false:=by rfl) (hs:swapsWith (.Call (.Name x p) (e :: es) [] pos) (some (.Name y py)) pos'.line X.env=pure false:=by rfl) (hf:X.fn y=true\/X.env.scope.names.lookup y=some .local:=by first | exact .inl rfl | exact .inr rfl | assumption) :
  DS X (.Assign [.Name y py] (.Call (.Name x p) (e :: es) [] pos) pos') (tAsg (tCall (spNB X.K sp) [] E0 tr) (gName i)) (dSetBag i sp dr):=⟨ps_set hN hi hx (pe_cal c hr ha.1 hg hj hdb he hpl) hs hf,ss_setBag ha.2⟩
theorem ok_bag {f:Addr}{fd:FuncData} (F:Fun K "_law_bag" "_law_bag" s_bag f fd) (T:Tx mg):FnOk P w K mg base CX0 1 f fd ["_law_script","_law_at"] (spNB K nbBag):=by
 let spM:Sp:=fun vs H Q _=>∃ (a:Addr) (ns:List Int) (k:Int),vs=[.ref a,.int k]/\SqL K H a (ns.map V.int)/\ns.length<=63/\0<=k/\k<=100/\∀ p x y z H',H p=none->BagV 0 x y z->Same H H'->H' p=some (.lst [.int x,.int y,.int z])->Q (.ref p) H'
 have M:FnOk P w K mg base CX0 1 f fd ["_law_script","_law_at"] spM:=by
  refine F.ok sc_bag (fun vs H Q E h=>?_) (fun cdv A outer s H vs Q E hr h=>?_)
  ·obtain ⟨a,ns,k,rfl,_⟩:=h
   rfl
  ·obtain ⟨a,ns,k,rfl,hS,hl,k0,k1,q⟩:=h
   refine ⟨_,(pss_cons (ps_set (i:=2) sc_bag.nd rfl (by first | exact Or.inl rfl | exact Or.inr rfl) (pe_op op_add (pe_op op_add (pe_op op_mul (pe_op op_mul pe_int (pv 1)) (pv 1)) (pe_op op_mul pe_int (pv 1))) pe_int))
   (pss_cons (ps_if (pt_cmpR op_lt (pv 1) (pe_callB call_lenA (by rfl) T.n_len (by decide +kernel) (pa_cons (pv 0) pa_nil)) (nomark _)) (pss_one (ps_set (i:=2) sc_bag.nd rfl (by first | exact Or.inl rfl | exact Or.inr rfl) (pe_ix ix_list (pv 0) (pv 1) (fun _ _=>rfl)))) pss_nil)
   (pss_cons (ps_set (i:=3) sc_bag.nd rfl (by first | exact Or.inl rfl | exact Or.inr rfl) (pe_callB call_absA (by rfl) T.n_abs (by decide +kernel) (pa_cons (pv 2) pa_nil)))
   (pss_one (ps_ret (pe_lstA (pa_cons (pe_op op_mul (pv 3) (pe_callTy call_intA (by rfl) T.n_int (by decide +kernel) (pa_cons (pe_cmpR op_ge (pv 3) (pe_op op_pow pe_int pe_int) (nomark _)) pa_nil))) (pa_cons (pe_op op_add (pe_op op_mod (pv 2) (pe_op op_add (pe_op op_pow pe_int pe_int) pe_int)) (pe_op op_mul pe_int (pv 1))) (pa_cons pe_int pa_nil))))))))),?_⟩
   have fin:∀ (p:Addr) (c far i:Int) (H':Hp),H p=none->0<=far->(i=0\/i=1)->Same H H'->H' p=some (.lst [.int (far * i),.int (c % (1000000000000000000+9)+1299709 * k),.int 0])->Q (.ref p) H':=fun p c far i H' np hf hi sa hp=>by
    refine q p _ _ _ H' np ⟨?_,by omega,by omega,by omega,by omega⟩ sa hp
    rcases hi with rfl | rfl
    ·omega
    ·omega
   wtm_at "go"
   refine iteD (fun hk=>?_) (fun hk=>?_)
   ·rw [List.length_map] at hk
    obtain ⟨c,hc⟩:∃ c,atI (ns.map V.int) k=some (.int c):=⟨ns[k.toNat]'(by omega),at_of (j:=k.toNat) (by omega) (by simp)⟩
    wtm_at "go"
    refine g_ixL (by wtm_at "sq") (g_at hc ?_)
    wtm_at "go"
    exact fin _ c _ _ _ (by assumption) (by assumption) (by assumption) (by assumption) (by assumption)
   ·wtm_at "go"
    exact fin _ _ _ _ _ (by assumption) (by assumption) (by assumption) (by assumption) (by assumption)
 refine FnOk.toBag M fun vs H Q E h=>?_
 obtain ⟨F,ds,sub,dv,q,kk⟩:=h
 unfold nbBag at q
 split at q
 ·rename_i ns k
  obtain ⟨u1,u2,rfl,d1,d2⟩:=dts2 dv
  have e2:=dint d2
  subst e2
  obtain ⟨a,ws,rfl,hs,dw⟩:=dsq d1
  obtain ⟨is,hi,hl,k0,k1⟩:=q
  have ew:ws=is.map V.int:=by rw [hi] at dw;exact dts_ints dw
  subst ew
  refine ⟨a,is,k,rfl,sub.seq hs,hl,k0,k1,fun p x y z H' np bv sa hp=>⟨p,x,y,z,0,hp,bv,?_⟩⟩
  refine kk p _ np (fun c o e=>?_) ⟨0,Nat.le_refl _,upd_same⟩
  rw [upd_ne (ne_of_none e np)];exact sa c o e
 ·exact q.elim
end
end U
namespace U
open PySem L2
theorem sc_name:FnScope ["_law_bag_here","_law_letters","_law_size","_law_spot"] ["_law_bag_here"] (defScope s_name):=⟨rfl,rfl,rfl,by decide +kernel,rfl,by decide +kernel,by decide +kernel⟩
theorem sc_names:FnScope ["_law_bag_here","_law_size","_law_found","_law_spot","_law_word","_law_one"] ["_law_bag_here","_law_size"] (defScope s_names):=⟨rfl,rfl,rfl,by decide +kernel,rfl,by decide +kernel,by decide +kernel⟩
def bsName:BSp:=fun n ds Q=>ds=[]/\n<=10 ^ 8/\∀ (w:Str) (n':Nat),IsNm w->n'<=n+12->Q (.dat (.str w)) n'
def bsNames:BSp:=fun n ds Q=>∃ k:Int,ds=[.int k]/\(0<=k/\k<=25/\n<=10 ^ 7)/\∀ (ws:List Str) (n':Nat),(ws.length:Int)=k->ws.Nodup->(∀ w∈ws,IsNm w)->n'<=n+400->Q (.dat (.lst (ws.map D.str))) n'
theorem e0:(Str.ofString "")=tx []:=by decide +kernel
local macro_rules | `(tactic| wtm_at "d") => `(tactic| simp -dsimp only [↓dSeq,↓dAsg,↓dLst,↓dCons,↓dNil,↓dOp,↓dC,↓dCalB,↓dgName,↓dgNameF,↓dDrop,↓dMeth,↓dRet,↓dVar,↓dCB,↓dIfS,↓dB,↓dFor,↓dLc,↓dYes,↓diS,↓diR1,↓dJoin,↓dPureT,↓dSl,↓dNoPart,↓dPart,↓dNext,↓bagOf,↓rdAdd,↓rdEq,↓rdIn,↓rdIx,↓rdInt,↓mdApp,tkD_2,tkD_prD,Hold_dat,Hold_own,Hold_oK,Hold_oI,pur,Rd_dat,Rd_own,Rd_oI,Rn_dat,Rn_own,RN_non,RN_int,RN_str,RN_bl,RN_lst,RN_tup,RN_obj,RN_own,kD_int,kD_str,fO_dat,fO_own,f4_non,f4_int,f4_str,f4_bl,nO_non,nO_int,nO_str,nO_bl,nO_lst,nO_tup,nO_dK,fR_non,fR_int,fR_str,fR_bl,pR_dat,pR_own,pR_none,pR_bag,pR_oK,ty_list_non,ty_list_bl,ty_list_int,ty_list_str,ty_list_lst,ty_list_tup,ty_int_non,ty_int_bl,ty_int_int,ty_int_str,ty_int_lst,ty_int_tup,ty_bool_non,ty_bool_bl,ty_bool_int,ty_bool_str,ty_bool_lst,ty_bool_tup,ty_str_non,ty_str_bl,ty_str_int,ty_str_str,ty_str_lst,ty_str_tup,ty_tuple_non,ty_tuple_bl,ty_tuple_int,ty_tuple_str,ty_tuple_lst,ty_tuple_tup,ty_dict_non,ty_dict_bl,ty_dict_int,ty_dict_str,ty_dict_lst,ty_dict_tup,trues_add,trues_len,stE,wipeE,Bool.not_true,Bool.not_false,decide_true,decide_false,if_true,if_false,reduceIte,List.getElem?_cons_zero,List.getElem?_cons_succ,List.set_cons_zero,List.set_cons_succ,List.drop_succ_cons,List.drop_zero,List.map_nil,List.map_cons,List.nil_append,List.cons_append,List.length_cons,List.length_nil,List.replicate,List.getElem?_nil,D.int.injEq,D.bl.injEq,D.str.injEq,R.dat.injEq,exists_eq_left',true_and,and_true,Int.reduceToNat,Int.reducePow,Int.reduceNeg,Int.reduceAdd,Int.reduceMul,Nat.reduceAdd,Nat.reduceLeDiff,Nat.reduceLT,Nat.reduceSub,reduceCtorEq,cx_K,blk_K,nox_K,sh_int,sh_bl,sh_non,sh_str,sh_lst,sh_tup,List.all_cons,List.all_nil,Bool.and_true,Bool.true_and,eqD_int,eqD_str,eqD_bl,eqD_nn,eqD_ni,eqD_in,eqD_ns,eqD_sn,decide_eq_true_eq,decide_eq_false_iff_not,rngD_len,and_self,List.length_map,List.length_append,atI_0,atI_1,atI_2,atI_3,atI_4,atI_5,atI_6,atI_7,Option.some.injEq,Bool.false_eq_true,Bool.true_eq_false,bsTake,letters_eq,e0,diS])
local macro_rules | `(tactic| wtm_at "side") => `(tactic| first | assumption | omega | (refine putD_lt0 ?_; (repeat refine putD_ltk ?_); decide) | exact cpow106 | exact cpow1018 | exact cmulL (by omega) (by omega) | exact cmulR (by omega) (by omega) | exact ⟨by omega, by omega⟩ | exact ⟨by assumption, by assumption⟩ | decide)
local macro_rules | `(tactic| wtm_at "s1") => `(tactic| first
 | ((with_reducible refine And.intro ?c ?_);(case c=>wtm_at "side"))
 | with_reducible refine menu2 (by omega) (by omega) ?_ | with_reducible refine menu3 (by omega) (by omega) ?_ | with_reducible refine menu4 (by omega) (by omega) ?_ | with_reducible refine menu5 (by omega) (by omega) ?_
 | (with_reducible intro _))
local macro_rules | `(tactic| wtm_at "w") => `(tactic| repeat (first | wtm_at "s1" | (wtm_at "d"; done) | wtm_at "d"))
section
variable {P:Program}{w:World}{K:PySem.W.Frag}{mg:Str->Option Value}{base:Heap}
theorem ok_name {f:Addr}{fd:FuncData} (F:Fun K "_law_name" "_law_name" s_name f fd) (T:Tx mg) (c__law_take:Cal P w K mg base CX0 1 "_law_take" ["_law_bag_here","_law_size"] (spB K bsTake)):FnOk P w K mg base CX0 2 f fd ["_law_bag_here"] (spB K bsName):=by
 refine Fun.okB F sc_name (by decide) (fun n ds Q h=>?_) (fun cdv A outer s H E hr=>?_)
 ·obtain ⟨rfl,_⟩:=h
  rfl
 ·refine ⟨_,_,(dss_cons (ds_setF (i:=1) sc_name.nd rfl (by first | exact Or.inl rfl | exact Or.inr rfl) de_str)
   (dss_cons (ds_setF (i:=2) sc_name.nd rfl (by first | exact Or.inl rfl | exact Or.inr rfl) (de_add de_int (de_calB c__law_take hr (pv 0) (da_cons (de_ix (de_lst (da_cons de_int (da_cons de_int da_nil))) (de_callTy call_intA sn_int (by rfl) T.n_int (by decide +kernel) (da_cons (de_eq hr (de_calB c__law_take hr (pv 0) (da_cons de_int da_nil)) de_int) da_nil)) (fun _ _=>rfl)) da_nil))))
   (dss_one (ds_ret (de_join de_str (de_lc (own:=[("_law_spot",3)]) (by rfl) sc_name.nd (di_r1 (by rfl) T.n_range (da_cons (dv 2) da_nil)) (blkOk_by (own:=[("_law_spot",3)]) (N:=["_law_bag_here","_law_letters","_law_size","_law_spot"]) (sc:=defScope s_name) (by decide +kernel)) (fun _ _ _ _ _=>(dg_name (own:=_) (i:=3) sc_name.nd rfl (by first | exact Or.inl rfl | exact Or.inr rfl))) (fun _ _ _ _ _=>dts_nil) (fun _ _ _ _ _=>(de_ix (dv 1) (de_calB c__law_take hr (pv 0) (da_cons de_int da_nil)) (fun _ _=>rfl))))))))),fun n ds Qd h=>?_⟩
  obtain ⟨rfl,hn,q⟩:=h
  wtm_at "w"
  rename_i v1 h1 h2 k hk m hm v h3 h4
  refine lcL (fun i acc e=>∃ (cs:List Nat) (o:Option R),e=[some (.bag (n+1+1+i)),some (.dat (.str (tx letters))),some (.dat (.int (1+v))),o]/\cs.length=i/\(∀ c∈cs,lc c)/\acc=cs.map fun c=>.str (tx [c])) ⟨[],_,rfl,rfl,by simp,rfl⟩ ?_ ?_
  ·rintro i acc e x hx ⟨cs,o,rfl,hcs,hc,rfl⟩
   obtain ⟨hi,rfl⟩:=rng_get hx
   wtm_at "w"
   rename_i v2 h5 h6
   refine letter_at h5 h6 fun c hcc=>?_
   refine ⟨by omega,cs ++ [c],_,rfl,by rw [List.length_append,hcs];rfl,fun d hd=>?_,by rw [List.map_append];rfl⟩
   rcases List.mem_append.mp hd with z | z
   ·exact hc d z
   ·rw [List.mem_singleton.mp z];exact hcc
  ·rintro acc e ⟨cs,o,rfl,hcs,hc,rfl⟩
   rw [rngD_len] at hcs
   wtm_at "w"
   refine ⟨cs.map fun c=>tx [c],by rw [List.map_map];rfl,?_,?_⟩
   ·have e1:((cs.map fun c=>tx [c]).map fun x=>x.length)=List.replicate cs.length 1:=by
     rw [List.map_map]
     refine List.eq_replicate_iff.mpr ⟨by simp,fun b hb=>?_⟩
     obtain ⟨c,_,rfl⟩:=List.mem_map.mp hb
     rfl
    rw [e1,List.sum_replicate_nat,tx_len]
    simp
    omega
   ·rw [tx_join0]
    wtm_at "w"
    exact q _ _ ⟨cs,rfl,by omega,by omega,hc⟩ (by omega)
theorem ok_names {f:Addr}{fd:FuncData} (F:Fun K "_law_names" "_law_names" s_names f fd) (T:Tx mg) (c__law_name:Cal P w K mg base CX0 2 "_law_name" ["_law_bag_here"] (spB K bsName)):FnOk P w K mg base CX0 3 f fd ["_law_bag_here","_law_size"] (spB K bsNames):=by
 refine Fun.okB F sc_names (by decide) (fun n ds Q h=>?_) (fun cdv A outer s H E hr=>?_)
 ·obtain ⟨k,rfl,_⟩:=h
  rfl
 ·refine ⟨_,_,(dss_cons (ds_set (i:=2) sc_names.nd rfl (by first | exact Or.inl rfl | exact Or.inr rfl) (de_lst da_nil))
   (dss_cons (ds_for PassesOwn.never rfl (di_r1 (by rfl) T.n_range (da_cons (dv 1) da_nil)) (dg_name (own:=[3]) (i:=3) sc_names.nd rfl (by first | exact Or.inl rfl | exact Or.inr rfl)) (dss_cons (ds_setF (i:=4) sc_names.nd rfl (by first | exact Or.inl rfl | exact Or.inr rfl) (de_calB c__law_name hr (pv 0) da_nil))
   (dss_cons (ds_if (dt_pure (dt_in hr (dv 4) (dv 2))) (dss_one (ds_setF (i:=4) sc_names.nd rfl (by first | exact Or.inl rfl | exact Or.inr rfl) (de_ix (de_lc (own:=[("_law_one",5)]) (by rfl) sc_names.nd (di_str de_str) (blkOk_by (own:=[("_law_one",5)]) (N:=["_law_bag_here","_law_size","_law_found","_law_spot","_law_word","_law_one"]) (sc:=defScope s_names) (by decide +kernel)) (fun _ _ _ _ _=>(dg_name (own:=_) (i:=5) sc_names.nd rfl (by first | exact Or.inl rfl | exact Or.inr rfl))) (fun _ _ _ _ _=>(dts_one (dt_pure (dt_notIn hr (de_add (dv 5) (de_slice (dv 4) (do_some de_int) do_none)) (dv 2))))) (fun _ _ _ _ _=>(de_add (dv 5) (de_slice (dv 4) (do_some de_int) do_none)))) de_int (fun _ _=>rfl)))) dss_nil)
   (dss_one (ds_expr (de_app' (pv 2) (da_cons (dv 4) da_nil)))))))
   (dss_one (ds_ret (dv 2))))),fun n ds Qd h=>?_⟩
  obtain ⟨k,rfl,⟨hk0,hk1,hn⟩,q⟩:=h
  wtm_at "w"
  refine forL (fun i e=>∃ (ws:List Str) (n':Nat) (o3 o4 o5:Option R),e=[some (.bag n'),some (.dat (.int k)),some (.own (ws.map D.str)),o3,o4,o5]/\ws.length=i/\ws.Nodup/\(∀ w∈ws,IsNm w)/\n'<=n+12 * i) ⟨[],n,_,_,_,rfl,rfl,List.nodup_nil,by simp,by omega⟩ ?_ ?_
  ·rintro i e x hx ⟨ws,n',o3,o4,o5,rfl,hl,hd,hw,hn'⟩
   obtain ⟨hi,rfl⟩:=rng_get hx
   wtm_at "w"
   refine ⟨rfl,by omega,fun w n2 hnm hn2=>?_⟩
   wtm_at "w"
   refine ⟨⟨hnm.ok,strs_sh fun w h=>(hw w h).ok⟩,?_⟩
   rw [inD_strs]
   by_cases hin:w∈ws
   ·rw [decide_eq_true hin]
    wtm_at "w"
    obtain ⟨cs,rfl,hc1,hc2,hc3⟩:=id hnm
    obtain ⟨c0,r0,hf0,hlc,hnew⟩:=fresh_letter (ws:=ws) (by omega) (cs.drop 1)
    have hcd:∀ c∈cs.drop 1,lc c:=fun c h=>hc3 c (List.mem_of_mem_drop h)
    refine lcT (fun c=>D.str (tx [c])) letters (fun c=>!decide (tx (c :: cs.drop 1)∈ws)) (fun c=>.str (tx (c :: cs.drop 1))) rfl (by decide) ?_ ?_
    ·intro j c hj L W1 W2 hL h1 h2
     have hlc1:lc c:=letters_lc c (List.mem_of_getElem? hj)
     have ht:tx [c] ++ tx (cs.drop 1)=tx (c :: cs.drop 1):=tx_app _ _
     have hok:PyData.strOk (tx (c :: cs.drop 1))=true:=strOk_tx fun d hd=>by
      rcases List.mem_cons.mp hd with rfl | hd
      ·exact hlc1
      ·exact hcd d hd
     wtm_at "w"
     rw [tx_cut1,ht]
     wtm_at "w"
     have l1:(tx cs).length<=100000:=by rw [tx_len];omega
     have l2:(tx [c]).length+(tx (cs.drop 1)).length<=100000:=by rw [tx_len,tx_len,List.length_drop];simp;omega
     refine ⟨l1,l2,⟨hok,strs_sh fun w h=>(hw w h).ok⟩,?_⟩
     rw [inD_strs]
     by_cases hz:tx (c :: cs.drop 1)∈ws
     ·rw [decide_eq_true hz]
      exact h2 (by rw [decide_eq_true hz];rfl)
     ·rw [decide_eq_false hz]
      exact ⟨l1,l2,hL,h1 (by rw [decide_eq_false hz];rfl)⟩
    ·wtm_at "w"
     rw [hf0,List.map_cons,atI_0]
     have e1:ws.map D.str ++ [D.str (tx (c0 :: cs.drop 1))]=(ws ++ [tx (c0 :: cs.drop 1)]).map D.str:=by rw [List.map_append];rfl
     refine ⟨_,rfl,by omega,_,_,_,_,_,by rw [e1],by rw [List.length_append,hl];rfl,?_,fun z hz=>?_,by omega⟩
     ·rw [List.nodup_append]
      exact ⟨hd,by simp,fun a ha b hb=>by rw [List.mem_singleton.mp hb];rintro rfl;exact hnew ha⟩
     ·rcases List.mem_append.mp hz with z' | z'
      ·exact hw z z'
      ·rw [List.mem_singleton.mp z']
       refine ⟨_,rfl,by simp,by rw [List.length_cons,List.length_drop];omega,fun d hd=>?_⟩
       rcases List.mem_cons.mp hd with rfl | hd
       ·exact hlc
       ·exact hcd d hd
   ·rw [decide_eq_false hin]
    wtm_at "w"
    have e1:ws.map D.str ++ [D.str w]=(ws ++ [w]).map D.str:=by rw [List.map_append];rfl
    rw [e1]
    refine ⟨_,_,_,_,_,rfl,by rw [List.length_append,hl];rfl,?_,fun z hz=>?_,by omega⟩
    ·rw [List.nodup_append]
     exact ⟨hd,by simp,fun a ha b hb=>by rw [List.mem_singleton.mp hb];rintro rfl;exact hin ha⟩
    ·rcases List.mem_append.mp hz with z' | z'
     ·exact hw z z'
     ·rw [List.mem_singleton.mp z'];exact hnm
  ·rintro e ⟨ws,n',o3,o4,o5,rfl,hl,hd,hw,hn'⟩
   rw [rngD_len] at hl hn'
   wtm_at "w"
   exact q ws n' (by omega) hd hw (by omega)
end
end U
namespace U
open PySem L2
theorem sc_Rule_init:FnScope ["self","first","times","top","burst","span"] ["self","first","times","top","burst","span"] (defScope s_Rule_init):=⟨rfl,rfl,rfl,by decide +kernel,rfl,by decide +kernel,by decide +kernel⟩
theorem sc_rule_parts:FnScope ["_law_bag_here","_law_some_here"] ["_law_bag_here"] (defScope s_rule_parts):=⟨rfl,rfl,rfl,by decide +kernel,rfl,by decide +kernel,by decide +kernel⟩
theorem sc_rule:FnScope ["_law_five"] ["_law_five"] (defScope s_rule):=⟨rfl,rfl,rfl,by decide +kernel,rfl,by decide +kernel,by decide +kernel⟩
structure Five (f t u b s:Int):Prop where
 f0:1<=f
 f1:f<=1000
 t0:1<=t
 t1:t<=10
 u0:1<=u
 u1:u<=1000000
 b0:0<=b
 b1:b<=20
 s0:0<=s
 s1:s<=1000000
def fiveD (f t u b s:Int):D:=.tup [.int f,.int t,.int u,.int b,.int s]
def bsParts:BSp:=fun n ds Q=>ds=[]/\n<=10 ^ 8/\∀ f t u b s:Int,Five f t u b s->Q (.dat (fiveD f t u b s)) (n+10)
def ruleF (a b c d e:D):List (Str × D):=putD "span" e (putD "burst" d (putD "top" c (putD "times" b (putD "first" a []))))
section
variable {a b c d e:D}
theorem rule_span:(ruleF a b c d e).lookup ("span" : Str)=some e:=by unfold ruleF;simp only [lookup_putD];rfl
theorem rule_burst:(ruleF a b c d e).lookup ("burst" : Str)=some d:=by unfold ruleF;simp only [lookup_putD];rw [if_neg (by decide +kernel)];rfl
theorem rule_top:(ruleF a b c d e).lookup ("top" : Str)=some c:=by unfold ruleF;simp only [lookup_putD];rw [if_neg (by decide +kernel),if_neg (by decide +kernel)];rfl
theorem rule_times:(ruleF a b c d e).lookup ("times" : Str)=some b:=by unfold ruleF;simp only [lookup_putD];rw [if_neg (by decide +kernel),if_neg (by decide +kernel),if_neg (by decide +kernel)];rfl
theorem rule_first:(ruleF a b c d e).lookup ("first" : Str)=some a:=by unfold ruleF;simp only [lookup_putD];rw [if_neg (by decide +kernel),if_neg (by decide +kernel),if_neg (by decide +kernel),if_neg (by decide +kernel)];rfl
end
def isRule:ISp:=fun ds Q=>match ds with | [a,b,c,d,e]=>Q (ruleF a b c d e) | _=>False
structure RuleT (K:PySem.W.Frag) (mg:Str->Option Value) (C:Addr):Prop where
 first:Cls K C/\NoAttr K C "first"
 times:Cls K C/\NoAttr K C "times"
 top:Cls K C/\NoAttr K C "top"
 burst:Cls K C/\NoAttr K C "burst"
 span:Cls K C/\NoAttr K C "span"
 mgC:mg "Rule" = some (.ref C)
def ruleD (C:Addr) (f t u b s:Int):D:=.obj C (ruleF (.int f) (.int t) (.int u) (.int b) (.int s))
def psRule (C:Addr):PSp:=fun ds Q=>∃ f t u b s:Int,ds=[fiveD f t u b s]/\Q (.dat (ruleD C f t u b s))
local macro_rules | `(tactic| wtm_at "d") => `(tactic| simp -dsimp only [↓dSeq,↓dAsg,↓dLst,↓dCons,↓dNil,↓dOp,↓dC,↓dCalB,↓dgName,↓dDrop,↓dMeth,↓dRet,↓dVar,↓dCB,↓dMk0,↓dSelf,↓bagOf,↓slfOf,↓iiD,↓rdAdd,↓rdIx,↓rdTuple,↓mdApp,tkD_2,tkD_prD,Hold_dat,Hold_own,Hold_oK,Hold_oI,pur,Rd_dat,Rd_own,Rd_oI,Rn_dat,Rn_own,RN_non,RN_int,RN_str,RN_bl,RN_lst,RN_tup,RN_obj,RN_own,kD_int,kD_str,fO_dat,fO_own,f4_non,f4_int,f4_str,f4_bl,nO_non,nO_int,nO_str,nO_bl,nO_lst,nO_tup,nO_dK,fR_non,fR_int,fR_str,fR_bl,pR_dat,pR_own,pR_none,pR_bag,pR_oK,ty_list_non,ty_list_bl,ty_list_int,ty_list_str,ty_list_lst,ty_list_tup,ty_int_non,ty_int_bl,ty_int_int,ty_int_str,ty_int_lst,ty_int_tup,ty_bool_non,ty_bool_bl,ty_bool_int,ty_bool_str,ty_bool_lst,ty_bool_tup,ty_str_non,ty_str_bl,ty_str_int,ty_str_str,ty_str_lst,ty_str_tup,ty_tuple_non,ty_tuple_bl,ty_tuple_int,ty_tuple_str,ty_tuple_lst,ty_tuple_tup,ty_dict_non,ty_dict_bl,ty_dict_int,ty_dict_str,ty_dict_lst,ty_dict_tup,trues_add,trues_len,stE,wipeE,Bool.not_true,Bool.not_false,decide_true,decide_false,if_true,if_false,reduceIte,List.getElem?_cons_zero,List.getElem?_cons_succ,List.set_cons_zero,List.set_cons_succ,List.drop_succ_cons,List.drop_zero,List.map_nil,List.map_cons,List.nil_append,List.cons_append,List.length_cons,List.length_nil,List.replicate,List.getElem?_nil,D.int.injEq,D.bl.injEq,D.str.injEq,R.dat.injEq,exists_eq_left',true_and,and_true,Int.reduceToNat,Int.reducePow,Int.reduceNeg,Int.reduceAdd,Int.reduceMul,Nat.reduceAdd,Nat.reduceLeDiff,Nat.reduceLT,Nat.reduceSub,reduceCtorEq,cx_K,blk_K,nox_K,sh_int,sh_bl,sh_non,sh_str,sh_lst,sh_tup,List.all_cons,List.all_nil,Bool.and_true,Bool.true_and,eqD_int,eqD_str,eqD_bl,eqD_nn,eqD_ni,eqD_in,eqD_ns,eqD_sn,decide_eq_true_eq,decide_eq_false_iff_not,rngD_len,and_self,List.length_map,List.length_append,atI_0,atI_1,atI_2,atI_3,atI_4,atI_5,atI_6,atI_7,Option.some.injEq,Bool.false_eq_true,Bool.true_eq_false,bsTake,bsParts,isRule,slfOf,dSelf,dMk0,fiveD,rule_span,rule_burst,rule_top,rule_times,rule_first,Option.some.injEq])
local macro_rules | `(tactic| wtm_at "side") => `(tactic| first | assumption | omega | (refine putD_lt0 ?_; (repeat refine putD_ltk ?_); decide) | exact cpow106 | exact cpow1018 | exact cmulL (by omega) (by omega) | exact cmulR (by omega) (by omega) | exact ⟨by omega, by omega⟩ | exact ⟨by assumption, by assumption⟩ | decide)
local macro_rules | `(tactic| wtm_at "s1") => `(tactic| first
 | ((with_reducible refine And.intro ?c ?_);(case c=>wtm_at "side"))
 | with_reducible refine menu2 (by omega) (by omega) ?_ | with_reducible refine menu3 (by omega) (by omega) ?_ | with_reducible refine menu4 (by omega) (by omega) ?_ | with_reducible refine menu5 (by omega) (by omega) ?_
 | (with_reducible intro _))
local macro_rules | `(tactic| wtm_at "w") => `(tactic| repeat (first | wtm_at "s1" | (wtm_at "d"; done) | wtm_at "d"))
section
variable {P:Program}{w:World}{K:PySem.W.Frag}{mg:Str->Option Value}{base:Heap}
theorem ok_parts {f:Addr}{fd:FuncData} (F:Fun K "_law_rule_parts" "_law_rule_parts" s_rule_parts f fd) (T:Tx mg) (c__law_take:Cal P w K mg base CX0 1 "_law_take" ["_law_bag_here","_law_size"] (spB K bsTake)):FnOk P w K mg base CX0 2 f fd ["_law_bag_here"] (spB K bsParts):=by
 refine Fun.okB F sc_rule_parts (by decide) (fun n ds Q h=>?_) (fun cdv A outer s H E hr=>?_)
 ·obtain ⟨rfl,_⟩:=h
  rfl
 ·refine ⟨_,_,(dss_cons (ds_set (i:=1) sc_rule_parts.nd rfl (by first | exact Or.inl rfl | exact Or.inr rfl) (de_lst (da_cons (de_add de_int (de_calB c__law_take hr (pv 0) (da_cons (de_ix (de_lst (da_cons de_int (da_cons de_int da_nil))) (de_calB c__law_take hr (pv 0) (da_cons de_int da_nil)) (fun _ _=>rfl)) da_nil))) (da_cons (de_add de_int (de_calB c__law_take hr (pv 0) (da_cons (de_ix (de_lst (da_cons de_int (da_cons de_int da_nil))) (de_calB c__law_take hr (pv 0) (da_cons de_int da_nil)) (fun _ _=>rfl)) da_nil))) da_nil))))
   (dss_cons (ds_expr (de_app' (pv 1) (da_cons (de_add de_int (de_calB c__law_take hr (pv 0) (da_cons (de_ix (de_lst (da_cons de_int (da_cons de_int (da_cons (de_pow de_int de_int) da_nil)))) (de_calB c__law_take hr (pv 0) (da_cons de_int da_nil)) (fun _ _=>rfl)) da_nil))) da_nil)))
   (dss_cons (ds_expr (de_app' (pv 1) (da_cons (de_calB c__law_take hr (pv 0) (da_cons (de_ix (de_lst (da_cons de_int (da_cons de_int da_nil))) (de_calB c__law_take hr (pv 0) (da_cons de_int da_nil)) (fun _ _=>rfl)) da_nil)) da_nil)))
   (dss_one (ds_ret (de_callTy call_tuple_of sn_tuple (by rfl) T.n_tuple (by decide +kernel) (da_cons (de_add (dv 1) (de_lst (da_cons (de_calB c__law_take hr (pv 0) (da_cons (de_ix (de_lst (da_cons de_int (da_cons de_int (da_cons (de_add (de_pow de_int de_int) de_int) da_nil)))) (de_calB c__law_take hr (pv 0) (da_cons de_int da_nil)) (fun _ _=>rfl)) da_nil)) da_nil))) da_nil))))))),fun n ds Qd h=>?_⟩
  obtain ⟨rfl,hn,q⟩:=h
  wtm_at "w"
  exact q _ _ _ _ _ ⟨by omega,by omega,by omega,by omega,by omega,by omega,by omega,by omega,by omega,by omega⟩
theorem ok_Rule_init {f C:Addr}{fd:FuncData} (F:Fun K "__init__" "Rule.__init__" s_Rule_init f fd) (R:RuleT K mg C):FnOk P w K mg base CX0 1 f fd ["self","first","times","top","burst","span"] (spI K C isRule):=by
 refine Fun.okI F sc_Rule_init (by decide) (fun ds Q h=>?_) (fun cdv A outer s H E hr=>?_)
 ·unfold isRule at h
  split at h
  ·rfl
  ·exact h.elim
 ·refine ⟨_,_,(dss_cons (ds_self (pv 0) (dv 1))
   (dss_cons (ds_self (pv 0) (dv 2))
   (dss_cons (ds_self (pv 0) (dv 3))
   (dss_cons (ds_self (pv 0) (dv 4))
   (dss_one (ds_self (pv 0) (dv 5))))))),fun ds Qd h=>?_⟩
  unfold isRule at h
  split at h
  ·have h1:=R.first
   have h2:=R.times
   have h3:=R.top
   have h4:=R.burst
   have h5:=R.span
   wtm_at "w"
   exact h
  ·exact h.elim
theorem ok_rule {f C fR:Addr}{fd fdR:FuncData}{g:List Value->List Value->List Value} (F:Fun K "_law_rule" "_law_rule" s_rule f fd) (R:RuleT K mg C) (M_Rule:Mk K C fR) (F_Rule:FnOk P w K mg base CX0 1 fR fdR ["self","first","times","top","burst","span"] (spI K C isRule)) (b_Rule:KBn K fdR ["self","first","times","top","burst","span"] 1 ["first","times","top","burst","span"] g (fun us ws=>us ++ ws)):FnOk P w K mg base CX0 3 f fd ["_law_five"] (spP K (psRule C)):=by
 refine Fun.okP F sc_rule (fun ds Q h=>?_) (fun cdv A outer s H E hr=>?_)
 ·obtain ⟨f,t,u,b,s,rfl,_⟩:=h
  rfl
 ·have m_Rule:=R.mgC
  have g_Rule:∀ (x:Addr) (zs:List V),zs.length=(["first","times","top","burst","span"]:List Str).length->([V.ref x] ++ zs) = .ref x :: zs:=fun _ _ _=>rfl
  have d_Rule:∀ (F:Hp) (ds:List D) (zs:List V),ds.length=(["first","times","top","burst","span"]:List Str).length->Dts K F ds zs->Dts K F ds zs:=fun _ _ _ _ h=>h
  refine ⟨_,_,(dss_one (ds_ret (de_mk0 M_Rule F_Rule (hr.mono (by decide)) m_Rule b_Rule g_Rule d_Rule (dk_cons (de_ix (dv 0) de_int (fun _ _=>rfl)) (dk_cons (de_ix (dv 0) de_int (fun _ _=>rfl)) (dk_cons (de_ix (dv 0) de_int (fun _ _=>rfl)) (dk_cons (de_ix (dv 0) de_int (fun _ _=>rfl)) (dk_cons (de_ix (dv 0) de_int (fun _ _=>rfl)) dk_nil)))))))),fun ds Qd h=>?_⟩
  obtain ⟨f,t,u,b,s,rfl,q⟩:=h
  wtm_at "w"
  exact q
end
end U
namespace U
open PySem L2
theorem sc_some:FnScope ["_law_bag_here","_law_pool","_law_most","_law_left","_law_found","_law_turn"] ["_law_bag_here","_law_pool","_law_most"] (defScope s_some):=⟨rfl,rfl,rfl,by decide +kernel,rfl,by decide +kernel,by decide +kernel⟩
def bsSome:BSp:=fun n ds Q=>∃ (pool:List Str) (m:Int),ds=[.lst (pool.map D.str),.int m]/\(0<=m/\m<=100/\pool.length<=100/\n<=10 ^ 8)/\pool.Nodup/\(∀ w∈pool,PyData.strOk w=true)/\∀ (ws:List Str) (n':Nat),ws.Nodup->(∀ w∈ws,w∈pool)->(ws.length:Int)<=m->n'<=n+101+1->Q (.dat (.tup (ws.map D.str))) n'
theorem map_erase {α β:Type} (f:α->β):∀ (l:List α) (i:Nat),(l.eraseIdx i).map f=(l.map f).eraseIdx i
 | [],i=>by simp
 | x :: l,0=>by simp
 | x :: l,i+1=>by simp [map_erase f l i]
theorem erase_perm {α:Type}:∀ {l:List α}{i:Nat}{x:α},l[i]? = some x->(x :: l.eraseIdx i).Perm l
 | [],i,x,h=>by simp at h
 | y :: l,0,x,h=>by simp at h;subst h;simp
 | y :: l,i+1,x,h=>by
  rw [List.getElem?_cons_succ] at h
  rw [List.eraseIdx_cons_succ]
  exact (List.Perm.swap ..).trans ((erase_perm h).cons y)
local macro_rules | `(tactic| wtm_at "d") => `(tactic| simp -dsimp only [↓dSeq,↓dAsg,↓dLst,↓dCons,↓dNil,↓dOp,↓dC,↓dCalB,↓dgName,↓dDrop,↓dMeth,↓dRet,↓dVar,↓dCB,↓dIfS,↓dB,↓dFor,↓diR1,↓dPure,↓dPureT,↓dNext,↓bagOf,↓rdAdd,↓rdNe,↓rdLen,↓rdList,↓rdTuple,↓mdApp,↓mdPop,tkD_2,tkD_prD,Hold_dat,Hold_own,Hold_oK,Hold_oI,pur,Rd_dat,Rd_own,Rd_oI,Rn_dat,Rn_own,RN_non,RN_int,RN_str,RN_bl,RN_lst,RN_tup,RN_obj,RN_own,kD_int,kD_str,fO_dat,fO_own,f4_non,f4_int,f4_str,f4_bl,nO_non,nO_int,nO_str,nO_bl,nO_lst,nO_tup,nO_dK,fR_non,fR_int,fR_str,fR_bl,pR_dat,pR_own,pR_none,pR_bag,pR_oK,ty_list_non,ty_list_bl,ty_list_int,ty_list_str,ty_list_lst,ty_list_tup,ty_int_non,ty_int_bl,ty_int_int,ty_int_str,ty_int_lst,ty_int_tup,ty_bool_non,ty_bool_bl,ty_bool_int,ty_bool_str,ty_bool_lst,ty_bool_tup,ty_str_non,ty_str_bl,ty_str_int,ty_str_str,ty_str_lst,ty_str_tup,ty_tuple_non,ty_tuple_bl,ty_tuple_int,ty_tuple_str,ty_tuple_lst,ty_tuple_tup,ty_dict_non,ty_dict_bl,ty_dict_int,ty_dict_str,ty_dict_lst,ty_dict_tup,trues_add,trues_len,stE,wipeE,Bool.not_true,Bool.not_false,decide_true,decide_false,if_true,if_false,reduceIte,List.getElem?_cons_zero,List.getElem?_cons_succ,List.set_cons_zero,List.set_cons_succ,List.drop_succ_cons,List.drop_zero,List.map_nil,List.map_cons,List.nil_append,List.cons_append,List.length_cons,List.length_nil,List.replicate,List.getElem?_nil,D.int.injEq,D.bl.injEq,D.str.injEq,R.dat.injEq,exists_eq_left',true_and,and_true,Int.reduceToNat,Int.reducePow,Int.reduceNeg,Int.reduceAdd,Int.reduceMul,Nat.reduceAdd,Nat.reduceLeDiff,Nat.reduceLT,Nat.reduceSub,reduceCtorEq,cx_K,blk_K,nox_K,sh_int,sh_bl,sh_non,sh_str,sh_lst,sh_tup,List.all_cons,List.all_nil,Bool.and_true,Bool.true_and,eqD_int,eqD_str,eqD_bl,eqD_nn,eqD_ni,eqD_in,eqD_ns,eqD_sn,decide_eq_true_eq,decide_eq_false_iff_not,rngD_len,and_self,List.length_map,List.length_append,atI_0,atI_1,atI_2,atI_3,atI_4,atI_5,atI_6,atI_7,Option.some.injEq,Bool.false_eq_true,Bool.true_eq_false,bsTake])
local macro_rules | `(tactic| wtm_at "side") => `(tactic| first | assumption | omega | (refine putD_lt0 ?_; (repeat refine putD_ltk ?_); decide) | exact cpow106 | exact cpow1018 | exact cmulL (by omega) (by omega) | exact cmulR (by omega) (by omega) | exact ⟨by omega, by omega⟩ | exact ⟨by assumption, by assumption⟩ | decide)
local macro_rules | `(tactic| wtm_at "s1") => `(tactic| first
 | ((with_reducible refine And.intro ?c ?_);(case c=>wtm_at "side"))
 | with_reducible refine menu2 (by omega) (by omega) ?_ | with_reducible refine menu3 (by omega) (by omega) ?_ | with_reducible refine menu4 (by omega) (by omega) ?_ | with_reducible refine menu5 (by omega) (by omega) ?_
 | (with_reducible intro _))
local macro_rules | `(tactic| wtm_at "w") => `(tactic| repeat (first | wtm_at "s1" | (wtm_at "d"; done) | wtm_at "d"))
section
variable {P:Program}{w:World}{K:PySem.W.Frag}{mg:Str->Option Value}{base:Heap}
theorem ok_some {f:Addr}{fd:FuncData} (F:Fun K "_law_some" "_law_some" s_some f fd) (T:Tx mg) (c__law_take:Cal P w K mg base CX0 1 "_law_take" ["_law_bag_here","_law_size"] (spB K bsTake)):FnOk P w K mg base CX0 2 f fd ["_law_bag_here","_law_pool","_law_most"] (spB K bsSome):=by
 refine Fun.okB F sc_some (by decide) (fun n ds Q h=>?_) (fun cdv A outer s H E hr=>?_)
 ·obtain ⟨pool,m,rfl,_⟩:=h
  rfl
 ·refine ⟨_,_,(dss_cons (ds_set (i:=3) sc_some.nd rfl (by first | exact Or.inl rfl | exact Or.inr rfl) (de_callTy call_listA sn_list (by rfl) T.n_list (by decide +kernel) (da_cons (dv 1) da_nil)))
   (dss_cons (ds_set (i:=4) sc_some.nd rfl (by first | exact Or.inl rfl | exact Or.inr rfl) (de_lst da_nil))
   (dss_cons (ds_for PassesOwn.never rfl (di_r1 (by rfl) T.n_range (da_cons (de_calB c__law_take hr (pv 0) (da_cons (de_add (dv 2) de_int) da_nil)) da_nil)) (dg_name (own:=[5]) (i:=5) sc_some.nd rfl (by first | exact Or.inl rfl | exact Or.inr rfl)) (dss_one (ds_if (dt_pure (dt_ne hr (dv 3) (de_lst da_nil))) (dss_one (ds_expr (de_app' (pv 4) (da_cons (de_popAt (pv 3) (da_cons (de_calB c__law_take hr (pv 0) (da_cons (de_pure (de_callB call_lenP sn_len (by rfl) T.n_len (by decide +kernel) (da_cons (dv 3) da_nil))) da_nil)) da_nil)) da_nil)))) dss_nil)))
   (dss_one (ds_ret (de_callTy call_tuple_of sn_tuple (by rfl) T.n_tuple (by decide +kernel) (da_cons (dv 4) da_nil))))))),fun n ds Qd h=>?_⟩
  obtain ⟨pool,m,rfl,⟨hm0,hm1,hp,hn⟩,hd,hok,q⟩:=h
  wtm_at "w"
  rename_i v hv0 hv1
  refine forL (fun i e=>∃ (left found:List Str) (n':Nat) (o5:Option R),e=[some (.bag n'),some (.dat (.lst (pool.map D.str))),some (.dat (.int m)),some (.own (left.map D.str)),some (.own (found.map D.str)),o5]/\(found ++ left).Perm pool/\found.length<=i/\n'<=n+1+i) ⟨pool,[],_,_,rfl,by simp,by simp,by omega⟩ ?_ ?_
  ·rintro i e x hx ⟨left,found,n',o5,rfl,hpm,hfl,hn'⟩
   obtain ⟨hi,rfl⟩:=rng_get hx
   have hlen:=hpm.length_eq
   rw [List.length_append] at hlen
   wtm_at "w"
   refine ⟨strs_sh fun w h=>hok w (hpm.mem_iff.mp (List.mem_append_right _ h)),?_⟩
   cases left with
   | nil=>
    rw [List.map_nil,eqD_nil]
    exact ⟨[],found,_,_,rfl,hpm,by omega,by omega⟩
   | cons a r=>
    rw [List.map_cons,eqD_cons_nil]
    rw [<-List.map_cons]
    refine ⟨⟨by rw [List.length_cons];omega,by omega,by omega⟩,fun v2 h0 h1=>⟨⟨h0,h1,by omega⟩,fun y hy=>⟨by omega,?_⟩⟩⟩
    obtain ⟨z,hz,rfl⟩:=map_getD hy
    refine ⟨(a :: r).eraseIdx v2.toNat,found ++ [z],_,_,by rw [List.map_append,map_erase];rfl,?_,by rw [List.length_append];simp;omega,by omega⟩
    rw [List.append_assoc]
    exact ((erase_perm hz).append_left found).trans hpm
  ·rintro e ⟨left,found,n',o5,rfl,hpm,hfl,hn'⟩
   rw [rngD_len] at hfl hn'
   wtm_at "w"
   have hd2:(found ++ left).Nodup:=hpm.nodup_iff.mpr hd
   exact q found n' (List.nodup_append.mp hd2).1 (fun w hw=>hpm.mem_iff.mp (List.mem_append_left _ hw)) (by omega) (by omega)
end
end U
namespace U
open PySem L2
theorem sc_facts:FnScope ["_law_bag_here","_law_most","_law_named","_law_strange","_law_one","_law_loose","_law_found","_law_word","_law_pool","_law_wide","_law_musts","_law_likes","_law_foes","_law_elders","_law_sort","_law_goal","_law_five"] ["_law_bag_here","_law_most"] (defScope s_facts):=⟨rfl,rfl,rfl,by decide +kernel,rfl,by decide +kernel,by decide +kernel⟩
structure Fact where
 kind:Str
 needs:List Str
 wants:List Str
 bars:List Str
 after:List Str
 opens:Option Str
 five:Option (Int × Int × Int × Int × Int)
def strsT (l:List Str):D:=.tup (l.map D.str)
def fiveO:Option (Int × Int × Int × Int × Int)->D
 | none=>.non
 | some (f,t,u,b,s)=>fiveD f t u b s
def factD (f:Fact):D:=.tup [.str f.kind,strsT f.needs,strsT f.wants,strsT f.bars,strsT f.after,oS f.opens,fiveO f.five]
abbrev Facts:=List (Str × Fact)
def factsK (l:Facts):List (Key × D):=l.map fun p=>(.inr p.1,factD p.2)
def factsD (l:Facts):D:=.dK (factsK l)
structure LstOk (n:Str) (l:List Str):Prop where
 nd:l.Nodup
 le:l.length<=8
 nm:∀ x∈l,IsNm x/\x ≠ n
structure FactOk (n:Str) (f:Fact):Prop where
 kind:f.kind = "work"\/f.kind = "goal"\/f.kind = "door"
 needs:LstOk n f.needs
 wants:LstOk n f.wants
 bars:LstOk n f.bars
 after:LstOk n f.after
 opens:∀ x,f.opens=some x->IsNm x/\x ≠ n
 door:f.kind = "door" ↔ f.opens ≠ none
 five:∀ a b c d e,f.five=some (a,b,c,d,e)->Five a b c d e
structure FactsOk (l:Facts):Prop where
 nd:(l.map (·.1)).Nodup
 le:l.length<=16
 nm:∀ p∈l,IsNm p.1
 ok:∀ p∈l,FactOk p.1 p.2
def FactIn (B:List Str) (f:Fact):Prop:=∀ x,(x∈f.needs\/x∈f.wants\/x∈f.bars\/x∈f.after\/f.opens=some x)->x∈B
def FactsIn (l:Facts):Prop:=∃ two:List Str,two.length=2/\∀ p∈l,FactIn (l.map (·.1) ++ two) p.2
def bsFacts2:BSp:=fun n ds Q=>∃ m:Int,ds=[.int m]/\(1<=m/\m<=16/\n<=10 ^ 6)/\∀ (l:Facts) (n':Nat),FactsOk l->FactsIn l->1<=l.length->(l.length:Int)<=m->n'<=n+20000->Q (.dat (factsD l)) n'
def bsFacts:BSp:=fun n ds Q=>∃ m:Int,ds=[.int m]/\(1<=m/\m<=16/\n<=10 ^ 6)/\∀ (l:Facts) (n':Nat),FactsOk l->1<=l.length->(l.length:Int)<=m->n'<=n+20000->Q (.dat (factsD l)) n'
def zlet:List Nat:=letters.reverse
theorem zlet_eq:(Str.ofString "zyxwvutsrqponmlkjihgfedcba")=tx zlet:=by decide +kernel
theorem zz_eq:(Str.ofString "zz")=tx [122,122]:=by decide +kernel
theorem zlet_lc:∀ c∈zlet,lc c:=fun c hc=>letters_lc c (List.mem_reverse.mp hc)
structure Two (ws two:List Str):Prop where
 len:two.length=2
 nd:two.Nodup
 nm:∀ x∈two,IsNm x/\x ∉ ws
theorem two_ok {ws:List Str} (hl:ws.length<=20):Two ws (((zlet.filter fun c=>!decide (tx [c,122,122]∈ws)).map fun c=>tx [c,122,122]).take 2):=by
 have hinj:∀ a b:Nat,tx [a,122,122]=tx [b,122,122]->a=b:=fun a b h=>(List.cons.inj (tx_inj h)).1
 have hz:zlet.Nodup:=by decide
 have hz26:zlet.length=26:=by decide
 have hn:((zlet.filter fun c=>!decide (tx [c,122,122]∈ws)).map fun c=>tx [c,122,122]).Nodup:=
  List.Pairwise.map _ (fun a b hab h=>hab (hinj a b h)) (hz.sublist List.filter_sublist)
 refine ⟨?_,hn.sublist (List.take_sublist _ _),fun x hx=>?_⟩
 ·rw [List.length_take,List.length_map]
  have h1:(zlet.filter fun c=>decide (tx [c,122,122]∈ws)).length<=ws.length:=by
   have h2:((zlet.filter fun c=>decide (tx [c,122,122]∈ws)).map fun c=>tx [c,122,122]).Nodup:=
    List.Pairwise.map _ (fun a b hab h=>hab (hinj a b h)) (hz.sublist List.filter_sublist)
   have:=nodup_len h2 (m:=ws) fun x hx=>by
    obtain ⟨c,hc,rfl⟩:=List.mem_map.mp hx
    exact of_decide_eq_true (List.mem_filter.mp hc).2
   rwa [List.length_map] at this
  have h3:∀ l:List Nat,(l.filter fun c=>decide (tx [c,122,122]∈ws)).length+(l.filter fun c=>!decide (tx [c,122,122]∈ws)).length=l.length:=fun l=>by
   induction l with
   | nil=>rfl
   | cons a l ih=>by_cases h:tx [a,122,122]∈ws <;> simp [h] at ih ⊢ <;> omega
  have:=h3 zlet
  omega
 ·obtain ⟨c,hc,rfl⟩:=List.mem_map.mp (List.mem_of_mem_take hx)
  obtain ⟨h1,h2⟩:=List.mem_filter.mp hc
  refine ⟨⟨_,rfl,by simp,by simp,fun d hd=>?_⟩,by simpa using h2⟩
  have hcl:=zlet_lc c h1
  simp at hd
  rcases hd with rfl | rfl
  ·exact hcl
  ·exact ⟨by decide,by decide⟩
theorem spB_imp {K:PySem.W.Frag}{sp sp2:BSp} (h:∀ n ds Q,sp n ds Q->sp2 n ds Q):∀ vs H Q E,spB K sp vs H Q E->spB K sp2 vs H Q E:=fun vs H Q E z=>by
 obtain ⟨b,n,ws,F,ds,Qd,e,h1,h2,h3,h4,h5,h6⟩:=z
 exact ⟨b,n,ws,F,ds,Qd,e,h1,h2,h3,h4,h _ _ _ h5,h6⟩
local macro_rules | `(tactic| wtm_at "d") => `(tactic| simp -dsimp only [↓dSeq,↓dAsg,↓dLst,↓dTup,↓dCons,↓dNil,↓dOp,↓dC,↓dCalB,↓dgName,↓dgNameF,↓dRet,↓dVar,↓dCB,↓dB,↓dNotV,↓dIf,↓dFor,↓dLc,↓diL,↓diS,↓dSetD,↓dDput,↓dLk,↓dSl,↓dNoPart,↓dPart,↓bagOf,↓iiD,↓iD,↓rdAdd,↓rdEq,↓rdNe,↓rdIn,↓rdIx,↓rdLen,↓rdInt,tkD_2,tkD_prD,Hold_dat,Hold_own,Hold_oK,Hold_oI,pur,Rd_dat,Rd_own,Rd_oI,Rn_dat,Rn_own,RN_non,RN_int,RN_str,RN_bl,RN_lst,RN_tup,RN_obj,RN_own,kD_int,kD_str,fO_dat,fO_own,f4_non,f4_int,f4_str,f4_bl,nO_non,nO_int,nO_str,nO_bl,nO_lst,nO_tup,nO_dK,fR_non,fR_int,fR_str,fR_bl,pR_dat,pR_own,pR_none,pR_bag,pR_oK,ty_list_non,ty_list_bl,ty_list_int,ty_list_str,ty_list_lst,ty_list_tup,ty_int_non,ty_int_bl,ty_int_int,ty_int_str,ty_int_lst,ty_int_tup,ty_bool_non,ty_bool_bl,ty_bool_int,ty_bool_str,ty_bool_lst,ty_bool_tup,ty_str_non,ty_str_bl,ty_str_int,ty_str_str,ty_str_lst,ty_str_tup,ty_tuple_non,ty_tuple_bl,ty_tuple_int,ty_tuple_str,ty_tuple_lst,ty_tuple_tup,ty_dict_non,ty_dict_bl,ty_dict_int,ty_dict_str,ty_dict_lst,ty_dict_tup,trues_add,trues_len,stE,wipeE,Bool.not_true,Bool.not_false,decide_true,decide_false,if_true,if_false,reduceIte,List.getElem?_cons_zero,List.getElem?_cons_succ,List.set_cons_zero,List.set_cons_succ,List.drop_succ_cons,List.drop_zero,List.map_nil,List.map_cons,List.nil_append,List.cons_append,List.length_cons,List.length_nil,List.replicate,List.getElem?_nil,D.int.injEq,D.bl.injEq,D.str.injEq,R.dat.injEq,exists_eq_left',true_and,and_true,Int.reduceToNat,Int.reducePow,Int.reduceNeg,Int.reduceAdd,Int.reduceMul,Nat.reduceAdd,Nat.reduceLeDiff,Nat.reduceLT,Nat.reduceSub,reduceCtorEq,cx_K,blk_K,nox_K,sh_int,sh_bl,sh_non,sh_str,sh_lst,sh_tup,List.all_cons,List.all_nil,Bool.and_true,Bool.true_and,eqD_int,eqD_str,eqD_bl,eqD_nn,eqD_ni,eqD_in,eqD_ns,eqD_sn,decide_eq_true_eq,decide_eq_false_iff_not,rngD_len,and_self,List.length_map,List.length_append,atI_0,atI_1,atI_2,atI_3,atI_4,atI_5,atI_6,atI_7,Option.some.injEq,Bool.false_eq_true,Bool.true_eq_false,bsTake,zlet_eq,zz_eq])
local macro_rules | `(tactic| wtm_at "side") => `(tactic| first | assumption | omega | (refine putD_lt0 ?_; (repeat refine putD_ltk ?_); decide) | exact cpow106 | exact cpow1018 | exact cmulL (by omega) (by omega) | exact cmulR (by omega) (by omega) | exact ⟨by omega, by omega⟩ | exact ⟨by assumption, by assumption⟩ | decide)
local macro_rules | `(tactic| wtm_at "s1") => `(tactic| first
 | ((with_reducible refine And.intro ?c ?_);(case c=>wtm_at "side"))
 | with_reducible refine menu2 (by omega) (by omega) ?_ | with_reducible refine menu3 (by omega) (by omega) ?_ | with_reducible refine menu4 (by omega) (by omega) ?_ | with_reducible refine menu5 (by omega) (by omega) ?_
 | (with_reducible intro _))
local macro_rules | `(tactic| wtm_at "w") => `(tactic| repeat (first | wtm_at "s1" | (wtm_at "d"; done) | wtm_at "d"))
section
variable {P:Program}{w:World}{K:PySem.W.Frag}{mg:Str->Option Value}{base:Heap}
theorem ok_facts2 {f:Addr}{fd:FuncData} (F:Fun K "_law_facts" "_law_facts" s_facts f fd) (T:Tx mg) (c__law_take:Cal P w K mg base CX0 1 "_law_take" ["_law_bag_here","_law_size"] (spB K bsTake)) (c__law_names:Cal P w K mg base CX0 3 "_law_names" ["_law_bag_here","_law_size"] (spB K bsNames)) (c__law_some:Cal P w K mg base CX0 2 "_law_some" ["_law_bag_here","_law_pool","_law_most"] (spB K bsSome)) (c__law_rule_parts:Cal P w K mg base CX0 2 "_law_rule_parts" ["_law_bag_here"] (spB K bsParts)):FnOk P w K mg base CX0 4 f fd ["_law_bag_here","_law_most"] (spB K bsFacts2):=by
 refine Fun.okB F sc_facts (by decide) (fun n ds Q h=>?_) (fun cdv A outer s H E hr=>?_)
 ·obtain ⟨m,rfl,_⟩:=h
  rfl
 ·refine ⟨_,_,(dss_cons (ds_setF (i:=2) sc_facts.nd rfl (by first | exact Or.inl rfl | exact Or.inr rfl) (de_calB c__law_names hr (pv 0) (da_cons (de_add de_int (de_calB c__law_take hr (pv 0) (da_cons (dv 1) da_nil))) da_nil)))
   (dss_cons (ds_setF (i:=3) sc_facts.nd rfl (by first | exact Or.inl rfl | exact Or.inr rfl) (de_slice (de_lc (own:=[("_law_one",4)]) (by rfl) sc_facts.nd (di_str de_str) (blkOk_by (own:=[("_law_one",4)]) (N:=["_law_bag_here","_law_most","_law_named","_law_strange","_law_one","_law_loose","_law_found","_law_word","_law_pool","_law_wide","_law_musts","_law_likes","_law_foes","_law_elders","_law_sort","_law_goal","_law_five"]) (sc:=defScope s_facts) (by decide +kernel)) (fun _ _ _ _ _=>(dg_name (own:=_) (i:=4) sc_facts.nd rfl (by first | exact Or.inl rfl | exact Or.inr rfl))) (fun _ _ _ _ _=>(dts_one (dt_notIn hr (de_add (dv 4) de_str) (dv 2)))) (fun _ _ _ _ _=>(de_add (dv 4) de_str))) do_none (do_some de_int)))
   (dss_cons (ds_setF (i:=5) sc_facts.nd rfl (by first | exact Or.inl rfl | exact Or.inr rfl) (de_eq hr (de_calB c__law_take hr (pv 0) (da_cons de_int da_nil)) de_int))
   (dss_cons (ds_setD (i:=6) sc_facts.nd rfl (by first | exact Or.inl rfl | exact Or.inr rfl))
   (dss_cons (ds_for PassesOwn.never rfl (di_list (dv 2)) (dg_name (own:=[7]) (i:=7) sc_facts.nd rfl (by first | exact Or.inl rfl | exact Or.inr rfl)) (dss_cons (ds_setLcF (i:=8) (own:=[("_law_one",4)]) (by rfl) sc_facts.nd rfl rfl (sw_true rfl rfl rfl (by decide +kernel)) (di_list (dv 2)) (blkOk_by (own:=[("_law_one",4)]) (N:=["_law_bag_here","_law_most","_law_named","_law_strange","_law_one","_law_loose","_law_found","_law_word","_law_pool","_law_wide","_law_musts","_law_likes","_law_foes","_law_elders","_law_sort","_law_goal","_law_five"]) (sc:=defScope s_facts) (by decide +kernel)) (fun _ _ _ _ _=>(dg_name (own:=_) (i:=4) sc_facts.nd rfl (by first | exact Or.inl rfl | exact Or.inr rfl))) (fun _ _ _ _ _=>(dts_one (dt_ne hr (dv 4) (dv 7)))) (fun _ _ _ _ _=>(dv 4)))
   (dss_cons (ds_setF (i:=9) sc_facts.nd rfl (by first | exact Or.inl rfl | exact Or.inr rfl) (de_ix (de_lst (da_cons de_int (da_cons de_int (da_cons de_int (da_cons de_int (da_cons de_int da_nil)))))) (de_calB c__law_take hr (pv 0) (da_cons de_int da_nil)) (fun _ _=>rfl)))
   (dss_cons (ds_setF (i:=10) sc_facts.nd rfl (by first | exact Or.inl rfl | exact Or.inr rfl) (de_calB c__law_some hr (pv 0) (da_cons (de_add (dv 8) (de_slice (dv 3) do_none (do_some (de_callTy call_intA sn_int (by rfl) T.n_int (by decide +kernel) (da_cons (de_eq hr (de_calB c__law_take hr (pv 0) (da_cons de_int da_nil)) de_int) da_nil))))) (da_cons (dv 9) da_nil))))
   (dss_cons (ds_setF (i:=11) sc_facts.nd rfl (by first | exact Or.inl rfl | exact Or.inr rfl) (de_calB c__law_some hr (pv 0) (da_cons (de_add (dv 8) (de_slice (dv 3) do_none (do_some (de_callTy call_intA sn_int (by rfl) T.n_int (by decide +kernel) (da_cons (de_eq hr (de_calB c__law_take hr (pv 0) (da_cons de_int da_nil)) de_int) da_nil))))) (da_cons (de_ix (de_lst (da_cons de_int (da_cons de_int (da_cons de_int da_nil)))) (de_calB c__law_take hr (pv 0) (da_cons de_int da_nil)) (fun _ _=>rfl)) da_nil))))
   (dss_cons (ds_setF (i:=12) sc_facts.nd rfl (by first | exact Or.inl rfl | exact Or.inr rfl) (de_calB c__law_some hr (pv 0) (da_cons (de_add (dv 8) (de_slice (dv 3) do_none (do_some de_int))) (da_cons (de_mul (de_ix (de_lst (da_cons de_int (da_cons de_int (da_cons de_int (da_cons de_int da_nil))))) (de_calB c__law_take hr (pv 0) (da_cons de_int da_nil)) (fun _ _=>rfl)) (de_callTy call_intA sn_int (by rfl) T.n_int (by decide +kernel) (da_cons (de_not (dv 5)) da_nil))) da_nil))))
   (dss_cons (ds_setF (i:=13) sc_facts.nd rfl (by first | exact Or.inl rfl | exact Or.inr rfl) (de_calB c__law_some hr (pv 0) (da_cons (de_add (dv 8) (dv 3)) (da_cons (de_ix (de_lst (da_cons de_int (da_cons de_int (da_cons de_int (da_cons de_int da_nil))))) (de_calB c__law_take hr (pv 0) (da_cons de_int da_nil)) (fun _ _=>rfl)) da_nil))))
   (dss_cons (ds_setF (i:=14) sc_facts.nd rfl (by first | exact Or.inl rfl | exact Or.inr rfl) (de_ix (de_lst (da_cons de_str (da_cons de_str (da_cons de_str (da_cons de_str (da_cons de_str da_nil)))))) (de_calB c__law_take hr (pv 0) (da_cons de_int da_nil)) (fun _ _=>rfl)))
   (dss_cons (ds_setF (i:=15) sc_facts.nd rfl (by first | exact Or.inl rfl | exact Or.inr rfl) (de_if (dt_eq hr (dv 14) de_str) (de_ix (de_add (dv 8) (dv 3)) (de_calB c__law_take hr (pv 0) (da_cons (de_add (de_callB call_lenP sn_len (by rfl) T.n_len (by decide +kernel) (da_cons (dv 8) da_nil)) de_int) da_nil)) (fun _ _=>rfl)) de_non))
   (dss_cons (ds_setF (i:=16) sc_facts.nd rfl (by first | exact Or.inl rfl | exact Or.inr rfl) (de_if (dt_gt (de_calB c__law_take hr (pv 0) (da_cons de_int da_nil)) de_int) (de_calB c__law_rule_parts hr (pv 0) da_nil) de_non))
   (dss_one (ds_dput hr (pv 6) (dv 7) (de_tup (da_cons (dv 14) (da_cons (dv 10) (da_cons (dv 11) (da_cons (dv 12) (da_cons (dv 13) (da_cons (dv 15) (da_cons (dv 16) da_nil))))))))))))))))))))
   (dss_one (ds_ret (dlk 6)))))))),fun n ds Qd h=>?_⟩
  obtain ⟨m,rfl,⟨hm0,hm1,hn⟩,q⟩:=h
  wtm_at "w"
  rename_i v hv0 hv1
  refine ⟨1+v,rfl,⟨by omega,by omega,by omega⟩,fun ws n1 hwl hwd hw hn1=>?_⟩
  wtm_at "w"
  refine lcT (fun c=>D.str (tx [c])) zlet (fun c=>!decide (tx [c,122,122]∈ws)) (fun c=>.str (tx [c,122,122])) rfl (by decide) ?_ ?_
  ·intro j c hj L W1 W2 hL h1 h2
   have hlc1:lc c:=zlet_lc c (List.mem_of_getElem? hj)
   have ht:tx [c] ++ tx [122,122]=tx [c,122,122]:=tx_app _ _
   wtm_at "w"
   have l1:(tx [c]).length+(tx [122,122]).length<=100000:=by rw [tx_len,tx_len];simp
   rw [ht,inD_strs]
   have hok:PyData.strOk (tx [c,122,122])=true:=strOk_tx fun d hd=>by
    simp at hd
    rcases hd with rfl | rfl
    ·exact hlc1
    ·exact ⟨by decide,by decide⟩
   refine ⟨l1,⟨hok,strs_sh fun w h=>(hw w h).ok⟩,?_⟩
   by_cases hz:tx [c,122,122]∈ws
   ·rw [decide_eq_true hz]
    exact h2 (by rw [decide_eq_true hz];rfl)
   ·rw [decide_eq_false hz]
    exact ⟨l1,hL,h1 (by rw [decide_eq_false hz];rfl)⟩
  ·wtm_at "w"
   rename_i v2 hv2 hv3
   have h2:=two_ok (ws:=ws) (by omega)
   have e2:cutD ((zlet.filter fun c=>!decide (tx [c,122,122]∈ws)).map fun c=>D.str (tx [c,122,122])) none (some 2)=(((zlet.filter fun c=>!decide (tx [c,122,122]∈ws)).map fun c=>tx [c,122,122]).take 2).map D.str:=by
    rw [cut_to (by decide),List.map_take,List.map_map];rfl
   rw [e2]
   generalize ((zlet.filter fun c=>!decide (tx [c,122,122]∈ws)).map fun c=>tx [c,122,122]).take 2=two at h2 ⊢
   refine forL (fun i e=>∃ (l:Facts) (n':Nat) (o7 o8 o9 o10 o11 o12 o13 o14 o15 o16:Option R),e=[some (.bag n'),some (.dat (.int m)),some (.dat (.lst (ws.map D.str))),some (.dat (.lst (two.map D.str))),none,some (.dat (.bl (decide (v2=0)))),some (.oK (factsK l)),o7,o8,o9,o10,o11,o12,o13,o14,o15,o16]/\l.map (·.1)=ws.take i/\(∀ p∈l,FactOk p.1 p.2/\FactIn (ws ++ two) p.2)/\n'<=n1+1+600 * i) ⟨[],_,_,_,_,_,_,_,_,_,_,_,rfl,by simp,by simp,by omega⟩ ?_ ?_
   ·rintro i e x hx ⟨l,n',o7,o8,o9,o10,o11,o12,o13,o14,o15,o16,rfl,hl1,hl2,hn'⟩
    obtain ⟨nm,hnm,rfl⟩:=map_getD hx
    have hi:=get_lt hnm
    have hnw:nm∈ws:=List.mem_of_getElem? hnm
    have hno:=(hw nm hnw).ok
    wtm_at "w"
    refine lcT D.str ws (fun x=>!decide (x=nm)) D.str rfl (by omega) ?_ ?_
    ·intro j x hj L W1 W2 hL h3 h4
     have hxo:=(hw x (List.mem_of_getElem? hj)).ok
     wtm_at "w"
     by_cases hz:x=nm
     ·rw [decide_eq_true hz]
      exact h4 (by rw [decide_eq_true hz];rfl)
     ·rw [decide_eq_false hz]
      exact ⟨hL,h3 (by rw [decide_eq_false hz];rfl)⟩
    ·have hP1:∀ x∈ws.filter (fun x=>!decide (x=nm)),IsNm x/\x ≠ nm:=fun x hx=>by
      obtain ⟨z1,z2⟩:=List.mem_filter.mp hx
      exact ⟨hw x z1,by simpa using z2⟩
     have hP2:(ws.filter (fun x=>!decide (x=nm))).Nodup:=hwd.sublist List.filter_sublist
     have hP3:(ws.filter (fun x=>!decide (x=nm))).length<=16:=Nat.le_trans (List.length_filter_le _ _) (by omega)
     have hP4:∀ x∈ws.filter (fun x=>!decide (x=nm)),x∈ws:=fun x hx=>(List.mem_filter.mp hx).1
     generalize ws.filter (fun x=>!decide (x=nm))=P at hP1 hP2 hP3 hP4 ⊢
     have hA1:∀ k,∀ x∈P ++ two.take k,IsNm x/\x ≠ nm:=fun k x hx=>by
      rcases List.mem_append.mp hx with z | z
      ·exact hP1 x z
      ·have:=h2.nm x (List.mem_of_mem_take z)
       exact ⟨this.1,fun e=>this.2 (by rw [e];exact hnw)⟩
     have hA2:∀ k,(P ++ two.take k).Nodup:=fun k=>List.nodup_append.mpr ⟨hP2,h2.nd.sublist (List.take_sublist _ _),fun a ha b hb e=>(h2.nm b (List.mem_of_mem_take hb)).2 (by rw [<-e];exact hP4 a ha)⟩
     have hA3:∀ k,(P ++ two.take k).length<=20:=fun k=>by
      have:=h2.len
      rw [List.length_append,List.length_take];omega
     have hL:∀ k (ws':List Str) (b:Int),ws'.Nodup->(∀ w∈ws',w∈P ++ two.take k)->(ws'.length:Int)<=b->b<=8->LstOk nm ws':=fun k ws' b z1 z2 z3 z4=>⟨z1,by omega,fun x hx=>hA1 k x (z2 x hx)⟩
     have hT:two.take 2=two:=List.take_of_length_le (by rw [h2.len];exact Nat.le_refl _)
     have hC:∀ k:Int,0<=k->cutD (two.map D.str) none (some k)=(two.take k.toNat).map D.str:=fun k hk=>by rw [cut_to hk,List.map_take]
     have hCl:∀ k:Int,0<=k->P.length+(cutD (two.map D.str) none (some k)).length<=100000:=fun k hk=>by
      have:=h2.len
      rw [hC k hk,List.length_map,List.length_take];omega
     have ok3:∀ k,∀ x∈P ++ two.take k,PyData.strOk x=true:=fun k x hx=>(hA1 k x hx).1.ok
     wtm_at "w"
     rename_i v3 hv30 hv31 m3 hm3 v4 hv40 hv41 n3 hn3
     refine ⟨hCl n3 (by omega),?_⟩
     rw [hC n3 (by omega),<-List.map_append]
     refine ⟨_,_,rfl,⟨by omega,by omega,Nat.le_trans (hA3 _) (by decide),by omega⟩,hA2 _,ok3 _,fun musts n4 y1 y2 y3 y4=>?_⟩
     have k1:=hL _ musts _ y1 y2 y3 (by omega)
     wtm_at "w"
     rename_i v5 hv50 hv51 n5 hn5
     refine ⟨hCl n5 (by omega),?_⟩
     wtm_at "w"
     rename_i v6 hv60 hv61 m6 hm6
     rw [hC n5 (by omega),<-List.map_append]
     refine ⟨_,_,rfl,⟨by omega,by omega,Nat.le_trans (hA3 _) (by decide),by omega⟩,hA2 _,ok3 _,fun likes n6 y5 y6 y7 y8=>?_⟩
     have k2:=hL _ likes _ y5 y6 y7 (by omega)
     wtm_at "w"
     refine ⟨hCl 1 (by decide),?_⟩
     wtm_at "w"
     rename_i v7 hv70 hv71 m7 hm7 n7 hn7
     have hmn:0<=m7 * n7/\m7 * n7<=2:=by
      rcases hn7 with ⟨_,rfl⟩ | ⟨_,rfl⟩
      ·rw [Int.mul_one];omega
      ·rw [Int.mul_zero];decide
     rw [hC 1 (by decide),<-List.map_append]
     refine ⟨_,_,rfl,⟨hmn.1,by omega,Nat.le_trans (hA3 _) (by decide),by omega⟩,hA2 _,ok3 _,fun foes n8 y9 y10 y11 y12=>?_⟩
     have k3:=hL _ foes _ y9 y10 y11 (by omega)
     have hPT:P.length+two.length<=100000:=by have:=h2.len;omega
     refine ⟨by rw [List.length_map,List.length_map];exact hPT,?_⟩
     wtm_at "w"
     rename_i v8 hv80 hv81 m8 hm8
     have hA:=hA1 2;have hB:=hA2 2;have hD:=hA3 2;have hE:=ok3 2;have hF:=hL 2
     rw [hT] at hA hB hD hE hF
     rw [<-List.map_append]
     refine ⟨_,_,rfl,⟨by omega,by omega,Nat.le_trans hD (by decide),by omega⟩,hB,hE,fun elders n9 y13 y14 y15 y16=>?_⟩
     have k4:=hF elders _ y13 y14 y15 (by omega)
     wtm_at "w"
     rename_i v9 hv90 hv91
     refine menuG hv90 (by simpa using hv91) fun kd hkd=>?_
     have hk3:kd = .str "work"\/kd = .str "goal"\/kd = .str "door":=by
      simp only [List.mem_cons,List.not_mem_nil,or_false] at hkd
      rcases hkd with z | z | z | z | z <;> simp [z]
     have sok:PyData.strOk (Str.ofString "work")=true/\PyData.strOk (Str.ofString "goal")=true/\PyData.strOk (Str.ofString "door")=true:=by decide +kernel
     have fin:∀ (k:Str) (op:Option Str) (fv:Option (Int × Int × Int × Int × Int)) (n':Nat),(k = "work"\/k = "goal"\/k = "door")->(k = "door" ↔ op ≠ none)->(∀ x,op=some x->(IsNm x/\x ≠ nm)/\x∈ws ++ two)->(∀ a b c d e,fv=some (a,b,c,d,e)->Five a b c d e)->n'<=n1+1+600 * (i+1)->∀ o9 o10 o11 o12 o13 o14 o15 o16:Option R,
       ∃ (l':Facts) (n'':Nat) (o7 o8 o9' o10' o11' o12' o13' o14' o15' o16':Option R),[some (.bag n'),some (.dat (.int m)),some (.dat (.lst (ws.map D.str))),some (.dat (.lst (two.map D.str))),none,some (.dat (.bl (decide (v2=0)))),some (.oK (putDK (factsK l) (.inr nm) (factD ⟨k,musts,likes,foes,elders,op,fv⟩))),some (.dat (.str nm)),some (.dat (.lst (P.map D.str))),o9,o10,o11,o12,o13,o14,o15,o16]=[some (.bag n''),some (.dat (.int m)),some (.dat (.lst (ws.map D.str))),some (.dat (.lst (two.map D.str))),none,some (.dat (.bl (decide (v2=0)))),some (.oK (factsK l')),o7,o8,o9',o10',o11',o12',o13',o14',o15',o16']/\l'.map (·.1)=ws.take (i+1)/\(∀ p∈l',FactOk p.1 p.2/\FactIn (ws ++ two) p.2)/\n''<=n1+1+600 * (i+1):=by
      intro k op fv n' q1 q2 q3 q4 q5 o9 o10 o11 o12 o13 o14 o15 o16
      have hnew:getD? (factsK l) (.inr nm)=none:=by
       cases e:getD? (factsK l) (.inr nm) with
       | none=>rfl
       | some d=>
        exfalso
        unfold getD? factsK at e
        cases hf:(l.map fun p=>((.inr p.1:Key),factD p.2)).find? fun kv=>decide (kv.1 = .inr nm) with
        | none=>rw [hf] at e;cases e
        | some kv=>
         have h5:=List.find?_some hf
         have h6:=List.mem_of_find?_eq_some hf
         obtain ⟨p,hp,rfl⟩:=List.mem_map.mp h6
         have h7:p.1=nm:=Sum.inr.inj (of_decide_eq_true h5)
         have h8:nm∈ws.take i:=by rw [<-hl1,<-h7];exact List.mem_map.mpr ⟨p,hp,rfl⟩
         obtain ⟨j,hj⟩:=List.getElem?_of_mem h8
         have hj1:=get_lt hj
         rw [List.length_take] at hj1
         rw [List.getElem?_take_of_lt (by omega)] at hj
         obtain ⟨z1,z2⟩:=List.getElem?_eq_some_iff.mp hj
         obtain ⟨z3,z4⟩:=List.getElem?_eq_some_iff.mp hnm
         exact List.pairwise_iff_getElem.mp hwd j i z1 z3 (by omega) (by rw [z2,z4])
      refine ⟨l ++ [(nm,⟨k,musts,likes,foes,elders,op,fv⟩)],n',_,_,_,_,_,_,_,_,_,_,by rw [putDK_new _ _ _ hnew];unfold factsK;rw [List.map_append];rfl,by rw [List.map_append,hl1,take_snoc hnm];rfl,fun p hp=>?_,q5⟩
      rcases List.mem_append.mp hp with z | z
      ·exact hl2 p z
      ·rw [List.mem_singleton.mp z]
       refine ⟨⟨q1,k1,k2,k3,k4,fun x e=>(q3 x e).1,q2,q4⟩,fun x hx=>?_⟩
       have up:∀ k,x∈P ++ two.take k->x∈ws ++ two:=fun k hx=>(List.mem_append.mp hx).elim (fun z=>List.mem_append_left _ (hP4 x z)) (fun z=>List.mem_append_right _ (List.mem_of_mem_take z))
       have up2:x∈P ++ two->x∈ws ++ two:=fun hx=>(List.mem_append.mp hx).elim (fun z=>List.mem_append_left _ (hP4 x z)) (fun z=>List.mem_append_right _ z)
       rcases hx with z | z | z | z | z
       ·exact up _ (y2 x z)
       ·exact up _ (y6 x z)
       ·exact up _ (y10 x z)
       ·exact up2 (y14 x z)
       ·exact (q3 x z).2
     have five_ok:∀ a b c d e,Five a b c d e->∀ a' b' c' d' e',some (a,b,c,d,e)=some (a',b',c',d',e')->Five a' b' c' d' e':=fun a b c d e h a' b' c' d' e' z=>by cases z;exact h
     have nd1:decide ((Str.ofString "work")=Str.ofString "door")=false:=by decide +kernel
     have nd2:decide ((Str.ofString "goal")=Str.ofString "door")=false:=by decide +kernel
     have ne1:(("work" : Str) = "door" ↔ (none:Option Str) ≠ none):=⟨fun z=>absurd z (of_decide_eq_false nd1),fun z=>absurd rfl z⟩
     have ne2:(("goal" : Str) = "door" ↔ (none:Option Str) ≠ none):=⟨fun z=>absurd z (of_decide_eq_false nd2),fun z=>absurd rfl z⟩
     have hll:(factsK l).length < 100000:=by
      have h5:=congrArg List.length hl1
      rw [List.length_map,List.length_take] at h5
      unfold factsK
      rw [List.length_map];omega
     rcases hk3 with rfl | rfl | rfl
     ·refine ⟨⟨by rw [sh_str];exact sok.1,sok.2.2⟩,?_⟩
      rw [eqD_str,nd1]
      wtm_at "w"
      rename_i v10 hv100 hv101
      by_cases h0:0 < v10
      ·rw [if_pos h0]
       refine ⟨rfl,by omega,fun a b c d e h5=>?_⟩
       wtm_at "w"
       exact fin "work" none (some (a,b,c,d,e)) _ (by simp) ne1 (fun x z=>by cases z) (five_ok a b c d e h5) (by omega) _ _ _ _ _ _ _ _
      ·rw [if_neg h0]
       wtm_at "w"
       exact fin "work" none none _ (by simp) ne1 (fun x z=>by cases z) (fun _ _ _ _ _ z=>by cases z) (by omega) _ _ _ _ _ _ _ _
     ·refine ⟨⟨by rw [sh_str];exact sok.2.1,sok.2.2⟩,?_⟩
      rw [eqD_str,nd2]
      wtm_at "w"
      rename_i v10 hv100 hv101
      by_cases h0:0 < v10
      ·rw [if_pos h0]
       refine ⟨rfl,by omega,fun a b c d e h5=>?_⟩
       wtm_at "w"
       exact fin "goal" none (some (a,b,c,d,e)) _ (by simp) ne2 (fun x z=>by cases z) (five_ok a b c d e h5) (by omega) _ _ _ _ _ _ _ _
      ·rw [if_neg h0]
       wtm_at "w"
       exact fin "goal" none none _ (by simp) ne2 (fun x z=>by cases z) (fun _ _ _ _ _ z=>by cases z) (by omega) _ _ _ _ _ _ _ _
     ·refine ⟨⟨by rw [sh_str];exact sok.2.2,sok.2.2⟩,?_⟩
      rw [eqD_str,decide_eq_true rfl]
      wtm_at "w"
      rename_i v11 hv110 hv111
      have hPP:v11 < ((P ++ two).length:Int):=by have:=h2.len;rw [List.length_append];omega
      rw [<-List.map_append]
      refine ⟨_,atI_nn hv110 (by rw [List.length_map];exact hPP),?_⟩
      rw [List.getElem_map]
      have hgo:(P ++ two)[v11.toNat]'(by omega)∈P ++ two:=List.getElem_mem _
      generalize (P ++ two)[v11.toNat]'(by omega)=go at hgo ⊢
      have hgn:(IsNm go/\go ≠ nm)/\go∈ws ++ two:=⟨hA go hgo,(List.mem_append.mp hgo).elim (fun z=>List.mem_append_left _ (hP4 go z)) (fun z=>List.mem_append_right _ z)⟩
      wtm_at "w"
      rename_i v10 hv100 hv101
      by_cases h0:0 < v10
      ·rw [if_pos h0]
       refine ⟨rfl,by omega,fun a b c d e h5=>?_⟩
       wtm_at "w"
       exact fin "door" (some go) (some (a,b,c,d,e)) _ (by simp) (by simp) (fun x z=>by cases z;exact hgn) (five_ok a b c d e h5) (by omega) _ _ _ _ _ _ _ _
      ·rw [if_neg h0]
       wtm_at "w"
       exact fin "door" (some go) none _ (by simp) (by simp) (fun x z=>by cases z;exact hgn) (fun _ _ _ _ _ z=>by cases z) (by omega) _ _ _ _ _ _ _ _
   ·rintro e ⟨l,n',o7,o8,o9,o10,o11,o12,o13,o14,o15,o16,rfl,hl1,hl2,hn'⟩
    rw [List.length_map] at hl1 hn'
    rw [List.take_length] at hl1
    have hll:l.length=ws.length:=by rw [<-hl1,List.length_map]
    wtm_at "w"
    exact q l n' ⟨by rw [hl1];exact hwd,by omega,fun p hp=>hw _ (by rw [<-hl1];exact List.mem_map.mpr ⟨p,hp,rfl⟩),fun p hp=>(hl2 p hp).1⟩ ⟨two,h2.len,fun p hp=>by rw [hl1];exact (hl2 p hp).2⟩ (by omega) (by omega) (by omega)
theorem ok_facts {f:Addr}{fd:FuncData} (F:Fun K "_law_facts" "_law_facts" s_facts f fd) (T:Tx mg) (c__law_take:Cal P w K mg base CX0 1 "_law_take" ["_law_bag_here","_law_size"] (spB K bsTake)) (c__law_names:Cal P w K mg base CX0 3 "_law_names" ["_law_bag_here","_law_size"] (spB K bsNames)) (c__law_some:Cal P w K mg base CX0 2 "_law_some" ["_law_bag_here","_law_pool","_law_most"] (spB K bsSome)) (c__law_rule_parts:Cal P w K mg base CX0 2 "_law_rule_parts" ["_law_bag_here"] (spB K bsParts)):FnOk P w K mg base CX0 4 f fd ["_law_bag_here","_law_most"] (spB K bsFacts):=
 (ok_facts2 F T c__law_take c__law_names c__law_some c__law_rule_parts).imp (spB_imp fun n ds Q ⟨m,e,h,q⟩=>⟨m,e,h,fun l n' ok _=>q l n' ok⟩)
end
end U
namespace U
open PySem L2
theorem sc_Unit_init:FnScope ["self","name","kind","needs","wants","bars","after","opens","rule"] ["self","name","kind","needs","wants","bars","after","opens","rule"] (defScope s_Unit_init):=⟨rfl,rfl,rfl,by decide +kernel,rfl,by decide +kernel,by decide +kernel⟩
theorem sc_unit:FnScope ["_law_word","_law_facts_here","_law_sort","_law_musts","_law_likes","_law_foes","_law_elders","_law_goal","_law_five","_law_way_on"] ["_law_word","_law_facts_here"] (defScope s_unit):=⟨rfl,rfl,rfl,by decide +kernel,rfl,by decide +kernel,by decide +kernel⟩
def unitF (n k a b c d o r:D):List (Str × D):=putD "rule" r (putD "opens" o (putD "after" d (putD "bars" c (putD "wants" b (putD "needs" a (putD "kind" k (putD "name" n [])))))))
section
variable {n k a b c d o r:D}
theorem u_rule:(unitF n k a b c d o r).lookup ("rule" : Str)=some r:=by unfold unitF;simp only [lookup_putD];rfl
theorem u_opens:(unitF n k a b c d o r).lookup ("opens" : Str)=some o:=by unfold unitF;simp only [lookup_putD];repeat (rw [if_neg (by decide +kernel)]);rfl
theorem u_after:(unitF n k a b c d o r).lookup ("after" : Str)=some d:=by unfold unitF;simp only [lookup_putD];repeat (rw [if_neg (by decide +kernel)]);rfl
theorem u_bars:(unitF n k a b c d o r).lookup ("bars" : Str)=some c:=by unfold unitF;simp only [lookup_putD];repeat (rw [if_neg (by decide +kernel)]);rfl
theorem u_wants:(unitF n k a b c d o r).lookup ("wants" : Str)=some b:=by unfold unitF;simp only [lookup_putD];repeat (rw [if_neg (by decide +kernel)]);rfl
theorem u_needs:(unitF n k a b c d o r).lookup ("needs" : Str)=some a:=by unfold unitF;simp only [lookup_putD];repeat (rw [if_neg (by decide +kernel)]);rfl
theorem u_kind:(unitF n k a b c d o r).lookup ("kind" : Str)=some k:=by unfold unitF;simp only [lookup_putD];repeat (rw [if_neg (by decide +kernel)]);rfl
theorem u_name:(unitF n k a b c d o r).lookup ("name" : Str)=some n:=by unfold unitF;simp only [lookup_putD];repeat (rw [if_neg (by decide +kernel)]);rfl
end
def isUnit:ISp:=fun ds Q=>match ds with | [n,k,a,b,c,d,o,r]=>Q (unitF n k a b c d o r) | _=>False
structure UnitT (K:PySem.W.Frag) (mg:Str->Option Value) (C:Addr):Prop where
 name:Cls K C/\NoAttr K C "name"
 kind:Cls K C/\NoAttr K C "kind"
 needs:Cls K C/\NoAttr K C "needs"
 wants:Cls K C/\NoAttr K C "wants"
 bars:Cls K C/\NoAttr K C "bars"
 after:Cls K C/\NoAttr K C "after"
 opens:Cls K C/\NoAttr K C "opens"
 rule:Cls K C/\NoAttr K C "rule"
 mgC:mg "Unit" = some (.ref C)
def ruleO (CR:Addr):Option (Int × Int × Int × Int × Int)->D
 | none=>.non
 | some (f,t,u,b,s)=>ruleD CR f t u b s
def unitD (CU CR:Addr) (n:Str) (f:Fact):D:=.obj CU (unitF (.str n) (.str f.kind) (strsT f.needs) (strsT f.wants) (strsT f.bars) (strsT f.after) (oS f.opens) (ruleO CR f.five))
def lk (l:Facts) (n:Str):Option Fact:=(l.find? fun p=>decide (p.1=n)).map (·.2)
theorem getD_facts (l:Facts) (n:Str):getD? (factsK l) (.inr n)=(lk l n).map factD:=by
 unfold getD? factsK lk
 induction l with
 | nil=>rfl
 | cons p l ih=>
  rw [List.map_cons,List.find?_cons,List.find?_cons]
  by_cases h:p.1=n
  ·have e1:decide ((Sum.inr p.1:Key) = .inr n)=true:=decide_eq_true (by rw [h])
   rw [e1,decide_eq_true h];rfl
  ·have e1:decide ((Sum.inr p.1:Key) = .inr n)=false:=decide_eq_false fun z=>h (Sum.inr.inj z)
   rw [e1,decide_eq_false h];exact ih
theorem lk_some {l:Facts}{n:Str}{f:Fact} (h:lk l n=some f):(n,f)∈l:=by
 unfold lk at h
 cases e:l.find? fun p=>decide (p.1=n) with
 | none=>rw [e] at h;cases h
 | some p=>
  rw [e] at h
  have h1:=List.find?_some e
  have h2:=List.mem_of_find?_eq_some e
  obtain ⟨a,b⟩:=p
  cases h
  have h3:a=n:=of_decide_eq_true h1
  rw [<-h3];exact h2
theorem lk_mem {l:Facts}{n:Str} (h:n∈l.map (·.1)):∃ f,lk l n=some f:=by
 obtain ⟨p,hp,rfl⟩:=List.mem_map.mp h
 unfold lk
 cases e:l.find? fun q=>decide (q.1=p.1) with
 | none=>exact absurd (List.find?_eq_none.mp e p hp) (by simp)
 | some q=>exact ⟨q.2,rfl⟩
theorem lk_of {l:Facts} (hd:(l.map (·.1)).Nodup) {p:Str × Fact} (hp:p∈l):lk l p.1=some p.2:=by
 obtain ⟨f,hf⟩:=lk_mem (List.mem_map.mpr ⟨p,hp,rfl⟩:p.1∈l.map (·.1))
 have h2:=lk_some hf
 obtain ⟨i,hi⟩:=List.getElem?_of_mem hp
 obtain ⟨j,hj⟩:=List.getElem?_of_mem h2
 by_cases hij:i=j
 ·subst hij;rw [hi] at hj;exact hf.trans (congrArg some (congrArg Prod.snd (Option.some.inj hj)).symm)
 ·exfalso
  obtain ⟨z1,z2⟩:=List.getElem?_eq_some_iff.mp hi
  obtain ⟨z3,z4⟩:=List.getElem?_eq_some_iff.mp hj
  have pw:=List.pairwise_iff_getElem.mp hd
  have g1:(l.map (·.1))[i]'(by simpa using z1)=p.1:=by simp [z2]
  have g2:(l.map (·.1))[j]'(by simpa using z3)=p.1:=by simp [z4]
  rcases Nat.lt_or_gt_of_ne hij with h | h
  ·exact pw i j (by simpa using z1) (by simpa using z3) h (by rw [g1,g2])
  ·exact pw j i (by simpa using z3) (by simpa using z1) h (by rw [g1,g2])
def psUnit (CU CR:Addr):PSp:=fun ds Q=>∃ (n m:Str) (l:Facts) (f:Fact),ds=[.str n,factsD l]/\lk l n=some f/\Q (.dat (unitD CU CR n f))
local macro_rules | `(tactic| wtm_at "d") => `(tactic| simp -dsimp only [↓dSeq,↓dAsg,↓dCons,↓dNil,↓dOp,↓dC,↓dgName,↓dgNameF,↓dRet,↓dVar,↓dCB,↓dB,↓dIf,↓dIsN,↓dgTup,↓dgCons,↓dgNil,↓dSelf,↓slfOf,↓dMkP,↓rdDget,tkD_2,tkD_prD,Hold_dat,Hold_own,Hold_oK,Hold_oI,pur,Rd_dat,Rd_own,Rd_oI,Rn_dat,Rn_own,RN_non,RN_int,RN_str,RN_bl,RN_lst,RN_tup,RN_obj,RN_own,kD_int,kD_str,fO_dat,fO_own,f4_non,f4_int,f4_str,f4_bl,nO_non,nO_int,nO_str,nO_bl,nO_lst,nO_tup,nO_dK,fR_non,fR_int,fR_str,fR_bl,pR_dat,pR_own,pR_none,pR_bag,pR_oK,ty_list_non,ty_list_bl,ty_list_int,ty_list_str,ty_list_lst,ty_list_tup,ty_int_non,ty_int_bl,ty_int_int,ty_int_str,ty_int_lst,ty_int_tup,ty_bool_non,ty_bool_bl,ty_bool_int,ty_bool_str,ty_bool_lst,ty_bool_tup,ty_str_non,ty_str_bl,ty_str_int,ty_str_str,ty_str_lst,ty_str_tup,ty_tuple_non,ty_tuple_bl,ty_tuple_int,ty_tuple_str,ty_tuple_lst,ty_tuple_tup,ty_dict_non,ty_dict_bl,ty_dict_int,ty_dict_str,ty_dict_lst,ty_dict_tup,trues_add,trues_len,stE,wipeE,Bool.not_true,Bool.not_false,decide_true,decide_false,if_true,if_false,reduceIte,List.getElem?_cons_zero,List.getElem?_cons_succ,List.set_cons_zero,List.set_cons_succ,List.drop_succ_cons,List.drop_zero,List.map_nil,List.map_cons,List.nil_append,List.cons_append,List.length_cons,List.length_nil,List.replicate,List.getElem?_nil,D.int.injEq,D.bl.injEq,D.str.injEq,R.dat.injEq,exists_eq_left',true_and,and_true,Int.reduceToNat,Int.reducePow,Int.reduceNeg,Int.reduceAdd,Int.reduceMul,Nat.reduceAdd,Nat.reduceLeDiff,Nat.reduceLT,Nat.reduceSub,reduceCtorEq,cx_K,blk_K,nox_K,sh_int,sh_bl,sh_non,sh_str,sh_lst,sh_tup,List.all_cons,List.all_nil,Bool.and_true,Bool.true_and,eqD_int,eqD_str,eqD_bl,eqD_nn,eqD_ni,eqD_in,eqD_ns,eqD_sn,decide_eq_true_eq,decide_eq_false_iff_not,rngD_len,and_self,List.length_map,List.length_append,atI_0,atI_1,atI_2,atI_3,atI_4,atI_5,atI_6,atI_7,Option.some.injEq,Bool.false_eq_true,Bool.true_eq_false,isUnit,slfOf,dSelf,factD,strsT])
local macro_rules | `(tactic| wtm_at "side") => `(tactic| first | assumption | omega | (refine putD_lt0 ?_; (repeat refine putD_ltk ?_); decide) | exact cpow106 | exact cpow1018 | exact cmulL (by omega) (by omega) | exact cmulR (by omega) (by omega) | exact ⟨by omega, by omega⟩ | exact ⟨by assumption, by assumption⟩ | decide)
local macro_rules | `(tactic| wtm_at "s1") => `(tactic| first
 | ((with_reducible refine And.intro ?c ?_);(case c=>wtm_at "side"))
 | with_reducible refine menu2 (by omega) (by omega) ?_ | with_reducible refine menu3 (by omega) (by omega) ?_ | with_reducible refine menu4 (by omega) (by omega) ?_ | with_reducible refine menu5 (by omega) (by omega) ?_
 | (with_reducible intro _))
local macro_rules | `(tactic| wtm_at "w") => `(tactic| repeat (first | wtm_at "s1" | (wtm_at "d"; done) | wtm_at "d"))
section
variable {P:Program}{w:World}{K:PySem.W.Frag}{mg:Str->Option Value}{base:Heap}
theorem ok_Unit_init {f C:Addr}{fd:FuncData} (F:Fun K "__init__" "Unit.__init__" s_Unit_init f fd) (R:UnitT K mg C):FnOk P w K mg base CX0 1 f fd ["self","name","kind","needs","wants","bars","after","opens","rule"] (spI K C isUnit):=by
 refine Fun.okI F sc_Unit_init (by decide) (fun ds Q h=>?_) (fun cdv A outer s H E hr=>?_)
 ·unfold isUnit at h
  split at h
  ·rfl
  ·exact h.elim
 ·refine ⟨_,_,(dss_cons (ds_self (pv 0) (dv 1))
   (dss_cons (ds_self (pv 0) (dv 2))
   (dss_cons (ds_self (pv 0) (dv 3))
   (dss_cons (ds_self (pv 0) (dv 4))
   (dss_cons (ds_self (pv 0) (dv 5))
   (dss_cons (ds_self (pv 0) (dv 6))
   (dss_cons (ds_self (pv 0) (dv 7))
   (dss_one (ds_self (pv 0) (dv 8)))))))))),fun ds Qd h=>?_⟩
  unfold isUnit at h
  split at h
  ·have h1:=R.name
   have h2:=R.kind
   have h3:=R.needs
   have h4:=R.wants
   have h5:=R.bars
   have h6:=R.after
   have h7:=R.opens
   have h8:=R.rule
   wtm_at "w"
   exact h
  ·exact h.elim
abbrev uKs:List Str:=["kind","needs","wants","bars","after","opens","rule"]
theorem ok_unit {f C CR fU:Addr}{fd fdU:FuncData}{g:List Value->List Value->List Value} (F:Fun K "_law_unit" "_law_unit" s_unit f fd) (R:UnitT K mg C) (M_Unit:Mk K C fU) (F_Unit:FnOk P w K mg base CX0 1 fU fdU ["self","name","kind","needs","wants","bars","after","opens","rule"] (spI K C isUnit)) (b_Unit:KBn K fdU ["self","name","kind","needs","wants","bars","after","opens","rule"] 2 uKs g (fun us ws=>us ++ ws)) (c__law_rule:Cal P w K mg base CX0 3 "_law_rule" ["_law_five"] (spP K (psRule CR))):FnOk P w K mg base CX0 4 f fd ["_law_word","_law_facts_here"] (spP K (psUnit C CR)):=by
 refine Fun.okP F sc_unit (fun ds Q h=>?_) (fun cdv A outer s H E hr=>?_)
 ·obtain ⟨n,m,l,f,rfl,_⟩:=h
  rfl
 ·have m_Unit:=R.mgC
  have g_Unit:∀ (x:Addr) (vs zs:List V),vs.length=1->zs.length=uKs.length->(V.ref x :: vs) ++ zs = .ref x :: (vs ++ zs):=fun _ _ _ _ _=>rfl
  have d_Unit:∀ (F:Hp) (ds es:List D) (vs zs:List V),ds.length=1->es.length=uKs.length->Dts K F ds vs->Dts K F es zs->Dts K F (ds ++ es) (vs ++ zs):=fun _ _ _ _ _ _ _ h h'=>h.append h'
  refine ⟨_,_,(dss_cons (ds_tgt (de_dget hr (dv 1) (dv 0)) (dg_tup (n:=7) rfl (dgs_cons (dg_name (own:=[2,3,4,5,6,7,8]) (i:=2) sc_unit.nd rfl (by first | exact Or.inl rfl | exact Or.inr rfl)) (dgs_cons (dg_name (own:=[2,3,4,5,6,7,8]) (i:=3) sc_unit.nd rfl (by first | exact Or.inl rfl | exact Or.inr rfl)) (dgs_cons (dg_name (own:=[2,3,4,5,6,7,8]) (i:=4) sc_unit.nd rfl (by first | exact Or.inl rfl | exact Or.inr rfl)) (dgs_cons (dg_name (own:=[2,3,4,5,6,7,8]) (i:=5) sc_unit.nd rfl (by first | exact Or.inl rfl | exact Or.inr rfl)) (dgs_cons (dg_name (own:=[2,3,4,5,6,7,8]) (i:=6) sc_unit.nd rfl (by first | exact Or.inl rfl | exact Or.inr rfl)) (dgs_cons (dg_name (own:=[2,3,4,5,6,7,8]) (i:=7) sc_unit.nd rfl (by first | exact Or.inl rfl | exact Or.inr rfl)) (dgs_cons (dg_name (own:=[2,3,4,5,6,7,8]) (i:=8) sc_unit.nd rfl (by first | exact Or.inl rfl | exact Or.inr rfl)) dgs_nil)))))))))
   (dss_cons (ds_setF (i:=9) sc_unit.nd rfl (by first | exact Or.inl rfl | exact Or.inr rfl) (de_if (dt_isN (dv 8)) de_non (de_cal c__law_rule hr (da_cons (dv 8) da_nil))))
   (dss_one (ds_ret (de_mkP M_Unit F_Unit (hr.mono (by decide)) m_Unit b_Unit g_Unit d_Unit (da_cons (dv 0) da_nil) (dk_cons (dv 2) (dk_cons (dv 3) (dk_cons (dv 4) (dk_cons (dv 5) (dk_cons (dv 6) (dk_cons (dv 7) (dk_cons (dv 9) dk_nil)))))))))))),fun ds Qd h=>?_⟩
  obtain ⟨n,m,l,f,rfl,hf,q⟩:=h
  obtain ⟨kd,ne,wa,ba,af,op,fv⟩:=f
  have hg:=getD_facts l n
  rw [hf] at hg
  simp only [factsD]
  wtm_at "w"
  refine ⟨_,hg,?_⟩
  cases fv with
  | none=>
   simp only [fiveO]
   wtm_at "w"
   exact q
  | some z=>
   obtain ⟨a,b,c,d,e⟩:=z
   simp only [fiveO]
   wtm_at "w"
   rw [if_neg (show ¬ (U.R.dat (fiveO (some (a,b,c,d,e)))).isN=true from Bool.false_ne_true)]
   refine ⟨a,b,c,d,e,rfl,?_⟩
   wtm_at "w"
   exact q
end
end U
namespace U
open PySem L2
theorem sc_units:FnScope ["_law_facts_here","_law_word"] ["_law_facts_here"] (defScope s_units):=⟨rfl,rfl,rfl,by decide +kernel,rfl,by decide +kernel,by decide +kernel⟩
def psUnits (CU CR:Addr):PSp:=fun ds Q=>∃ (l:Facts),ds=[factsD l]/\FactsOk l/\Q (.own (l.map fun p=>unitD CU CR p.1 p.2))
local macro_rules | `(tactic| wtm_at "d") => `(tactic| simp -dsimp only [↓dCons,↓dNil,↓dgName,↓dRet,↓dVar,↓dCB,↓dLc,↓dYes,↓diK,tkD_2,tkD_prD,Hold_dat,Hold_own,Hold_oK,Hold_oI,pur,Rd_dat,Rd_own,Rd_oI,Rn_dat,Rn_own,RN_non,RN_int,RN_str,RN_bl,RN_lst,RN_tup,RN_obj,RN_own,kD_int,kD_str,fO_dat,fO_own,f4_non,f4_int,f4_str,f4_bl,nO_non,nO_int,nO_str,nO_bl,nO_lst,nO_tup,nO_dK,fR_non,fR_int,fR_str,fR_bl,pR_dat,pR_own,pR_none,pR_bag,pR_oK,ty_list_non,ty_list_bl,ty_list_int,ty_list_str,ty_list_lst,ty_list_tup,ty_int_non,ty_int_bl,ty_int_int,ty_int_str,ty_int_lst,ty_int_tup,ty_bool_non,ty_bool_bl,ty_bool_int,ty_bool_str,ty_bool_lst,ty_bool_tup,ty_str_non,ty_str_bl,ty_str_int,ty_str_str,ty_str_lst,ty_str_tup,ty_tuple_non,ty_tuple_bl,ty_tuple_int,ty_tuple_str,ty_tuple_lst,ty_tuple_tup,ty_dict_non,ty_dict_bl,ty_dict_int,ty_dict_str,ty_dict_lst,ty_dict_tup,trues_add,trues_len,stE,wipeE,Bool.not_true,Bool.not_false,decide_true,decide_false,if_true,if_false,reduceIte,List.getElem?_cons_zero,List.getElem?_cons_succ,List.set_cons_zero,List.set_cons_succ,List.drop_succ_cons,List.drop_zero,List.map_nil,List.map_cons,List.nil_append,List.cons_append,List.length_cons,List.length_nil,List.replicate,List.getElem?_nil,D.int.injEq,D.bl.injEq,D.str.injEq,R.dat.injEq,exists_eq_left',true_and,and_true,Int.reduceToNat,Int.reducePow,Int.reduceNeg,Int.reduceAdd,Int.reduceMul,Nat.reduceAdd,Nat.reduceLeDiff,Nat.reduceLT,Nat.reduceSub,reduceCtorEq,cx_K,blk_K,nox_K,sh_int,sh_bl,sh_non,sh_str,sh_lst,sh_tup,List.all_cons,List.all_nil,Bool.and_true,Bool.true_and,eqD_int,eqD_str,eqD_bl,eqD_nn,eqD_ni,eqD_in,eqD_ns,eqD_sn,decide_eq_true_eq,decide_eq_false_iff_not,rngD_len,and_self,List.length_map,List.length_append,atI_0,atI_1,atI_2,atI_3,atI_4,atI_5,atI_6,atI_7,Option.some.injEq,Bool.false_eq_true,Bool.true_eq_false,isUnit,slfOf,dSelf,factD,strsT])
local macro_rules | `(tactic| wtm_at "side") => `(tactic| first | assumption | omega | (refine putD_lt0 ?_; (repeat refine putD_ltk ?_); decide) | exact cpow106 | exact cpow1018 | exact cmulL (by omega) (by omega) | exact cmulR (by omega) (by omega) | exact ⟨by omega, by omega⟩ | exact ⟨by assumption, by assumption⟩ | decide)
local macro_rules | `(tactic| wtm_at "s1") => `(tactic| first
 | ((with_reducible refine And.intro ?c ?_);(case c=>wtm_at "side"))
 | with_reducible refine menu2 (by omega) (by omega) ?_ | with_reducible refine menu3 (by omega) (by omega) ?_ | with_reducible refine menu4 (by omega) (by omega) ?_ | with_reducible refine menu5 (by omega) (by omega) ?_
 | (with_reducible intro _))
local macro_rules | `(tactic| wtm_at "w") => `(tactic| repeat (first | wtm_at "s1" | (wtm_at "d"; done) | wtm_at "d"))
section
variable {P:Program}{w:World}{K:PySem.W.Frag}{mg:Str->Option Value}{base:Heap}
theorem ok_units {f C CR:Addr}{fd:FuncData} (F:Fun K "_law_units" "_law_units" s_units f fd) (c__law_unit:Cal P w K mg base CX0 4 "_law_unit" ["_law_word","_law_facts_here"] (spP K (psUnit C CR))):FnOk P w K mg base CX0 5 f fd ["_law_facts_here"] (spP K (psUnits C CR)):=by
 refine Fun.okP F sc_units (fun ds Q h=>?_) (fun cdv A outer s H E hr=>?_)
 ·obtain ⟨l,rfl,_⟩:=h
  rfl
 ·refine ⟨_,_,(dss_one (ds_ret (de_lc (own:=[("_law_word",1)]) (by rfl) sc_units.nd (di_keys (dv 0)) (blkOk_by (own:=[("_law_word",1)]) (N:=["_law_facts_here","_law_word"]) (sc:=defScope s_units) (by decide +kernel)) (fun _ _ _ _ _=>(dg_name (own:=_) (i:=1) sc_units.nd rfl (by first | exact Or.inl rfl | exact Or.inr rfl))) (fun _ _ _ _ _=>dts_nil) (fun _ _ _ _ _=>(de_cal c__law_unit hr (da_cons (dv 1) (da_cons (dv 0) da_nil))))))),fun ds Qd h=>?_⟩
  obtain ⟨l,rfl,ok,q⟩:=h
  have ek:(factsK l).map (fun p=>kD p.1)=l.map fun p=>D.str p.1:=by unfold factsK;rw [List.map_map];rfl
  simp only [factsD]
  wtm_at "w"
  rw [ek]
  refine lcM (fun p=>D.str p.1) l (fun p=>unitD C CR p.1 p.2) rfl (by have:=ok.le;omega) ?_ ?_
  ·intro i p hp L W1 W2 hL h1
   wtm_at "w"
   refine ⟨p.1,p.1,l,p.2,rfl,lk_of ok.nd (List.mem_of_getElem? hp),?_⟩
   wtm_at "w"
   exact h1
  ·wtm_at "w"
   exact q
end
end U
namespace U
open PySem L2
theorem sc_Shelf_init:FnScope ["self","units","unit"] ["self","units"] (defScope s_Shelf_init):=⟨rfl,rfl,rfl,by decide +kernel,rfl,by decide +kernel,by decide +kernel⟩
theorem sc_Shelf_names:FnScope ["self"] ["self"] (defScope s_Shelf_names):=⟨rfl,rfl,rfl,by decide +kernel,rfl,by decide +kernel,by decide +kernel⟩
theorem sc_Shelf_has:FnScope ["self","name"] ["self","name"] (defScope s_Shelf_has):=⟨rfl,rfl,rfl,by decide +kernel,rfl,by decide +kernel,by decide +kernel⟩
structure ShelfT (K:PySem.W.Frag) (mg:Str->Option Value) (C:Addr):Prop where
 cl:Cls K C
 by_:NoAttr K C "by_name"
 most:∃ t,mg "MOST" = some (.int 16 t)
def spShelfR (K:PySem.W.Frag) (C CU:Addr):Sp:=fun vs H Q _=>∃ (p l dx:Addr) (us:List (Str × Addr)),vs=[.ref p,.ref l]/\H p=some (.ins C dx [])/\H l=some (.lst (us.map fun u=>V.ref u.2))/\(∀ u∈us,∃ du fs,H u.2=some (.ins CU du fs)/\fs.lookup ("name" : Str)=some (.str u.1))/\(us.map (·.1)).Nodup/\us.length<=16 /\
 ∀ d od dx' H',H d=none->(∀ a o,a ≠ p->H a=some o->H' a=some o)->(∀ a,H' a=none->H a=none)->H' d=some (.frz od (.dK (us.map fun u=>(.inr u.1,V.ref u.2))))->H' p=some (.ins C dx' [("by_name",.ref d)])->Q .non H'
section
variable {P:Program}{w:World}{K:PySem.W.Frag}{mg:Str->Option Value}{base:Heap}
theorem ok_shelfR {f C CU:Addr}{fd:FuncData}{dvs:List V} (F:FnD K "__init__" "Shelf.__init__" s_Shelf_init dvs [] f fd) (S:ShelfT K mg C) (U:UnitT K mg CU) (T:Tx mg):FnOk P w K mg base CX0 1 f fd ["self","units"] (spShelfR K C CU):=by
 refine F.ok sc_Shelf_init (fun vs H Q E h=>?_) (fun cdv A outer s H vs Q E hr h=>?_)
 ·obtain ⟨p,l,dx,us,rfl,_⟩:=h
  rfl
 ·obtain ⟨p,l,dx,us,rfl,hp,hl,hu,hd,hle,q⟩:=h
  obtain ⟨t16,mM⟩:=S.most
  refine ⟨_,PSs.nox <| pss_lock (pss_cons (ps_fld (pv 0) pe_dnewK rfl) (pss_one (ps_for PassesOwn.never rfl (pi_list (pv 1)) (pg_name (i:=2) sc_Shelf_init.nd rfl (Or.inl rfl))
   (pss_cons (ps_if (PW.pt (pw_or (pt_cmp (pc_din (hu_of hr) (pe_fld (pv 2) rfl) (pe_fld (pv 0) rfl))) (pw_or1 (pt_cmpR op_eq (pe_callB call_lenD (by rfl) T.n_len PySem.boot_len (pa_cons (pe_fld (pv 0) rfl) pa_nil)) (pe_glob (v:=.int 16) rfl mM ⟨_,rfl⟩) (nomark _))))) (pss_one ps_never) pss_nil)
   (pss_one (ps_dput (hu_of hr) (pe_fld (pv 0) rfl) (pe_fld (pv 2) rfl) (pv 2) rfl)))))),?_⟩
  intro d nd
  have ep:p ≠ d:=ne_of_none hp nd
  have el:l ≠ d:=ne_of_none hl nd
  have elp:l ≠ p:=ne_of hl hp (by intro z;cases z)
  refine ⟨_,rfl,p,C,dx,[],rfl,by rw [upd_ne ep];exact hp,S.cl,S.by_,by decide,?_⟩
  refine ⟨_,rfl,l,rfl,⟨us.map fun u=>V.ref u.2,SqL.of (by rw [upd_ne elp,upd_ne el];exact hl)⟩,?_⟩
  refine for_list (xs:=us.map fun u=>V.ref u.2) (fun i σ H1=>∃ o,σ=[some (.ref p),some (.ref l),o]/\H1 d=some (.dK ((us.take i).map fun u=>(.inr u.1,V.ref u.2)))/\H1 p=some (.ins C dx [("by_name",.ref d)])/\(∀ a o,a ≠ p->H a=some o->H1 a=some o)/\∀ a,H1 a=none->H a=none) ?_ ?_ ?_ ?_
  ·refine ⟨none,rfl,by rw [upd_ne ep.symm,upd_same];rfl,by rw [upd_same];rfl,fun a o na ha=>by rw [upd_ne na,upd_ne (ne_of_none ha nd)];exact ha,fun a ha=>?_⟩
   by_cases e1:a=p
   ·subst e1;rw [upd_same] at ha;cases ha
   ·rw [upd_ne e1] at ha
    by_cases e2:a=d
    ·subst e2;exact nd
    ·rw [upd_ne e2] at ha;exact ha
  ·rintro i σ H1 hi ⟨o,rfl,h1,h2,h3,h4⟩
   exact SqL.of (h3 l _ elp hl)
  ·rintro i x σ H1 hx ⟨o,rfl,h1,h2,h3,h4⟩
   obtain ⟨u,hu1,rfl⟩:∃ u,us[i]? = some u/\x=V.ref u.2:=by
    rw [List.getElem?_map] at hx
    cases e:us[i]? with
    | none=>rw [e] at hx;cases hx
    | some u=>rw [e] at hx;cases hx;exact ⟨u,rfl,rfl⟩
   obtain ⟨du,fs,hU,hnm⟩:=hu u (List.mem_of_getElem? hu1)
   have hup:u.2 ≠ p:=fun z=>by
    rw [z,hp] at hU
    cases hU
    cases hnm
   have hU1:=h3 _ _ hup hU
   have hi:=get_lt hu1
   have hnew:valV ((us.take i).map fun u=>((.inr u.1:Key),V.ref u.2)) (.inr u.1)=none:=by
    unfold valV
    rw [Option.map_eq_none_iff,List.find?_eq_none]
    intro kv hkv
    obtain ⟨u',hu',rfl⟩:=List.mem_map.mp hkv
    intro z
    have z:u'.1=u.1:=Sum.inr.inj (of_decide_eq_true z)
    obtain ⟨j,hj⟩:=List.getElem?_of_mem hu'
    have hj1:=get_lt hj
    rw [List.length_take] at hj1
    rw [List.getElem?_take_of_lt (by omega)] at hj
    obtain ⟨z1,z2⟩:=List.getElem?_eq_some_iff.mp hj
    obtain ⟨z3,z4⟩:=List.getElem?_eq_some_iff.mp hu1
    exact List.pairwise_iff_getElem.mp hd j i (by simpa using z1) (by simpa using z3) (by omega) (by simp [z2,z4,z])
   have hput:putK ((us.take i).map fun u=>((.inr u.1:Key),V.ref u.2)) (.inr u.1) (V.ref u.2)=(us.take (i+1)).map fun u=>(.inr u.1,V.ref u.2):=by
    unfold putK
    have hany:((us.take i).map fun u=>((.inr u.1:Key),V.ref u.2)).any (fun kv=>decide (kv.1 = .inr u.1))=false:=by
     rw [List.any_eq_false]
     unfold valV at hnew
     rw [Option.map_eq_none_iff,List.find?_eq_none] at hnew
     exact hnew
    rw [hany,if_neg Bool.false_ne_true,take_snoc hu1,List.map_append]
    rfl
   refine ⟨_,rfl,u.2,CU,du,fs,.str u.1,rfl,hU1,U.name.1,U.name.2,hnm,?_⟩
   refine ⟨_,rfl,p,C,dx,_,.ref d,rfl,h2,S.cl,S.by_,rfl,?_⟩
   refine ⟨d,_,rfl,DGet.k (k:=.inr u.1) h1,_,rfl,?_⟩
   rw [hnew]
   refine iteF ?_
   refine ⟨_,rfl,p,C,dx,_,.ref d,rfl,h2,S.cl,S.by_,rfl,?_⟩
   refine ⟨d,_,rfl,h1,?_⟩
   refine ⟨rfl,_,rfl,?_⟩
   have hne:decide (V.int (((us.take i).map fun u=>((.inr u.1:Key),V.ref u.2)).length:Nat)=V.int 16)=false:=decide_eq_false fun z=>by
    have z:=V.int.inj z
    rw [List.length_map,List.length_take] at z
    omega
   rw [hne]
   refine iteF ?_
   refine ⟨_,rfl,?_⟩
   refine ⟨_,rfl,p,C,dx,_,.ref d,rfl,h2,S.cl,S.by_,rfl,?_⟩
   refine ⟨_,rfl,u.2,CU,du,fs,.str u.1,rfl,hU1,U.name.1,U.name.2,hnm,?_⟩
   refine ⟨d,_,rfl,DPut.k (k:=.inr u.1) h1 (by rw [List.length_map,List.length_take,sizeLine_eq];omega),?_⟩
   rw [hput]
   have hdp:d ≠ p:=ep.symm
   refine ⟨_,rfl,upd_same,by rw [upd_ne ep];exact h2,fun a o na ha=>by rw [upd_ne (ne_of_none ha nd)];exact h3 a o na ha,fun a ha=>?_⟩
   by_cases e1:a=d
   ·subst e1;exact nd
   ·rw [upd_ne e1] at ha;exact h4 a ha
  ·rintro σ H1 ⟨o,rfl,h1,h2,h3,h4⟩
   rw [List.length_map,List.take_length] at h1
   refine ⟨d,_,h1,trivial,fun od=>?_⟩
   refine q d od dx _ nd (fun a o na ha=>by rw [upd_ne (ne_of_none ha nd)];exact h3 a o na ha) (fun a ha=>?_) upd_same (by rw [upd_ne ep];exact h2)
   by_cases e1:a=d
   ·subst e1;exact nd
   ·rw [upd_ne e1] at ha;exact h4 a ha
theorem FnOk.weak {CX:CXT}{k:Nat}{f:Addr}{fd:FuncData}{ps:List Str}{sp sp':Sp} (F:FnOk P w K mg base CX k f fd ps sp) (h:∀ vs H Q E,sp' vs H Q E->sp vs H Q E):FnOk P w K mg base CX k f fd ps sp':=
 ⟨fun vs H Q E q=>F.len _ _ _ _ (h _ _ _ _ q),fun A outer s H args us vs Q E hr he hb hv hs=>F.run A outer s H args us vs Q E hr he hb hv (h _ _ _ _ hs)⟩
def isShelf (CU:Addr):ISp:=fun ds Q=>∃ us:List (Str × D),ds=[.lst (us.map (·.2))]/\(∀ u∈us,∃ fs,u.2 = .obj CU fs/\fs.lookup ("name" : Str)=some (.str u.1))/\(us.map (·.1)).Nodup/\us.length<=16/\Q [("by_name",.dK (us.map fun u=>(.inr u.1,u.2)))]
theorem objs_at {F:Hp}{CU:Addr}:∀ {us:List (Str × D)}{vs:List V},(∀ u∈us,∃ fs,u.2 = .obj CU fs/\fs.lookup ("name" : Str)=some (.str u.1))->Dts K F (us.map (·.2)) vs->∃ as:List (Str × Addr),vs=as.map (fun u=>V.ref u.2)/\as.map (·.1)=us.map (·.1)/\(∀ u∈as,∃ du fs,F u.2=some (.ins CU du fs)/\fs.lookup ("name" : Str)=some (.str u.1))/\∀ F',Same F F'->DtK K F' (us.map fun u=>((.inr u.1:Key),u.2)) (as.map fun u=>(.inr u.1,V.ref u.2))
 | [],vs,_,h=>by
  simp only [List.map_nil,Dts] at h
  subst h
  exact ⟨[],rfl,rfl,by simp,fun F' _=>by simp only [List.map_nil,DtK]⟩
 | (n,d) :: us,vs,hu,h=>by
  simp only [List.map_cons,Dts] at h
  obtain ⟨v,r,rfl,q,t⟩:=h
  obtain ⟨as,rfl,e1,h1,h2⟩:=objs_at (fun u z=>hu u (List.mem_cons_of_mem _ z)) t
  obtain ⟨fs,e,hn⟩:=hu (n,d) (List.mem_cons_self ..)
  simp only at e hn
  subst e
  obtain ⟨a,dx,ws,rfl,ha,df⟩:=dobj q
  obtain ⟨vn,hvn,dn⟩:=dtf_get df hn
  have:=dstr dn
  subst this
  refine ⟨(n,a) :: as,rfl,by simp [e1],fun u hu=>?_,fun F' s=>?_⟩
  ·rcases List.mem_cons.mp hu with rfl | hu
   ·exact ⟨dx,ws,ha,hvn⟩
   ·exact h1 u hu
  ·simp only [List.map_cons,DtK]
   exact ⟨V.ref a,_,rfl,Dt.mono s _ _ q,h2 F' s⟩
theorem ok_Shelf_init {f C CU:Addr}{fd:FuncData}{dvs:List V} (F:FnD K "__init__" "Shelf.__init__" s_Shelf_init dvs [] f fd) (S:ShelfT K mg C) (U:UnitT K mg CU) (T:Tx mg):FnOk P w K mg base CX0 1 f fd ["self","units"] (spI K C (isShelf CU)):=by
 refine FnOk.weak (ok_shelfR F S U T) fun vs H Q E h=>?_
 obtain ⟨p,dx,ws,F,ds,Qd,rfl,nF,hp,sub,dv,⟨us,rfl,hu,hd,hle,q⟩,k⟩:=h
 obtain ⟨v,rfl,d1⟩:=dts1 dv
 obtain ⟨l,vs,rfl,hl,dvs⟩:=dlst d1
 obtain ⟨as,rfl,e1,h1,h2⟩:=objs_at hu dvs
 have hlen:as.length=us.length:=by have:=congrArg List.length e1;simpa using this
 refine ⟨p,l,dx,as,rfl,hp,sub _ _ hl,fun u hu=>let ⟨du,fs,a,b⟩:=h1 u hu;⟨du,fs,sub _ _ a,b⟩,by rw [e1];exact hd,by omega,fun d od dx' H' nd fr th hdd hpp=>?_⟩
 have nFd:F d=none:=sub.free nd
 have sF:Same F (upd F d (.frz od (.dK (as.map fun u=>(.inr u.1,V.ref u.2))))):=Same.new1 nFd
 refine k _ dx' _ (upd F d (.frz od (.dK (as.map fun u=>(.inr u.1,V.ref u.2))))) H' ⟨sF,fun a o ea=>?_,fun a ea ne=>?_,fr,th⟩ hpp ?_ q
 ·by_cases e:a=d
  ·subst e;rw [upd_same] at ea;cases ea;exact hdd
  ·rw [upd_ne e] at ea
   exact fr a o (fun z=>by subst z;rw [nF] at ea;cases ea) (sub a o ea)
 ·exact nt_upd ea fun z=>ne (by rw [z];exact nd)
 ·simp only [DtF,Dt]
  exact ⟨_,[],rfl,⟨d,od,_,rfl,upd_same,h2 _ sF⟩,rfl⟩
theorem binds_all {x qual:Str}{params:Arguments}{body:List Stmt}{scope:Scope}{dvs:List V}{kws:List (Str × V)}{f:Addr}{fd:FuncData}{ps:List Str} (F:FunD K x qual params body scope dvs kws f fd) (m:Nat) (hm:dvs.length=m+1 - 1/\0 < m)
  (h:∀ (T:Addr) (kV doc pm:Value) (an:Option Addr) (cdv ct:Value) (us its:List Value),us.length=ps.length->its.length=m->∃ k,bindArgs (PySem.W.fnOf x qual params body scope (.ref T) kV doc pm an cdv ct) ⟨us,[]⟩=seqItems? (.ref T) >>= k/\k (some its.toArray)=pure (ps.zip us)):Binds K fd ps []:=by
 have hl:dvs.length=m:=by omega
 obtain ⟨ds,hv,hb⟩:=FunD.binds1 (ps:=ps) F ps.length m (by intro z;rw [z] at hl;simp at hl;omega) (by omega) (fun T kV doc pm an cdv ct us its h1 h2=>by
  have h3:its.length=m:=by omega
  obtain ⟨k,e1,e2⟩:=h T kV doc pm an cdv ct us its h1 h3
  exact ⟨k,e1,by rw [List.drop_of_length_le (by omega),List.append_nil];exact e2⟩)
 rw [List.drop_of_length_le (by omega)] at hv
 cases hv
 exact hb
end
end U
namespace U
open PySem L2
theorem sc_Shelf_unit:FnScope ["self","name"] ["self","name"] (defScope s_Shelf_unit):=⟨rfl,rfl,rfl,by decide +kernel,rfl,by decide +kernel,by decide +kernel⟩
def unitsK (CU CR:Addr) (l:Facts):List (Key × D):=l.map fun p=>(.inr p.1,unitD CU CR p.1 p.2)
def shelfF (CU CR:Addr) (l:Facts):List (Str × D):=[("by_name",.dK (unitsK CU CR l))]
def shelfD (C CU CR:Addr) (l:Facts):D:=.obj C (shelfF CU CR l)
theorem sh_by {CU CR:Addr}{l:Facts}:(shelfF CU CR l).lookup ("by_name" : Str)=some (.dK (unitsK CU CR l)):=by
 unfold shelfF
 rw [List.lookup_cons,beq_self_eq_true]
theorem sh_no {CU CR:Addr}{l:Facts}{m:Str} (h:(m == ("by_name" : Str))=false):(shelfF CU CR l).lookup m=none:=by
 unfold shelfF
 rw [List.lookup_cons,h];rfl
theorem sh_names {CU CR:Addr}{l:Facts}:(shelfF CU CR l).lookup ("names" : Str)=none:=sh_no (by decide +kernel)
theorem sh_has {CU CR:Addr}{l:Facts}:(shelfF CU CR l).lookup ("has" : Str)=none:=sh_no (by decide +kernel)
theorem sh_unit {CU CR:Addr}{l:Facts}:(shelfF CU CR l).lookup ("unit" : Str)=none:=sh_no (by decide +kernel)
theorem sh_waited {CU CR:Addr}{l:Facts}:(shelfF CU CR l).lookup ("waited" : Str)=none:=sh_no (by decide +kernel)
theorem sh_needing {CU CR:Addr}{l:Facts}:(shelfF CU CR l).lookup ("needing" : Str)=none:=sh_no (by decide +kernel)
theorem sh_barred {CU CR:Addr}{l:Facts}:(shelfF CU CR l).lookup ("barred" : Str)=none:=sh_no (by decide +kernel)
theorem getD_units (CU CR:Addr) (l:Facts) (n:Str):getD? (unitsK CU CR l) (.inr n)=(lk l n).map fun f=>unitD CU CR n f:=by
 unfold getD? unitsK lk
 induction l with
 | nil=>rfl
 | cons p l ih=>
  rw [List.map_cons,List.find?_cons,List.find?_cons]
  by_cases h:p.1=n
  ·have e1:decide ((Sum.inr p.1:Key) = .inr n)=true:=decide_eq_true (by rw [h])
   rw [e1,decide_eq_true h,<-h];rfl
  ·have e1:decide ((Sum.inr p.1:Key) = .inr n)=false:=decide_eq_false fun z=>h (Sum.inr.inj z)
   rw [e1,decide_eq_false h];exact ih
def nms (l:Facts):List Str:=l.map (·.1)
theorem lk_isSome (l:Facts) (n:Str):(lk l n).isSome=decide (n∈nms l):=by
 by_cases h:n∈nms l
 ·obtain ⟨f,hf⟩:=lk_mem h
  rw [hf,decide_eq_true h];rfl
 ·rw [decide_eq_false h]
  cases e:lk l n with
  | none=>rfl
  | some f=>exact absurd (List.mem_map.mpr ⟨_,lk_some e,rfl⟩) h
def hasD (l:Facts):D->Bool
 | .str n=>decide (n∈nms l)
 | _=>false
def needsOf (l:Facts) (n:Str):List Str:=match lk l n with | some f=>f.needs | none=>[]
def barsOf (l:Facts) (n:Str):List Str:=match lk l n with | some f=>f.bars | none=>[]
def afterOf (l:Facts) (n:Str):List Str:=match lk l n with | some f=>f.after | none=>[]
def opensOf (l:Facts) (n:Str):Option Str:=match lk l n with | some f=>f.opens | none=>none
def snms (l:Facts):List Str:=srt (nms l)
def waitP (l:Facts) (n one:Str):Bool:=decide (one∈needsOf l n ++ afterOf l n) || decide (opensOf l one=some n)
def waited (l:Facts) (n:Str):List Str:=(snms l).filter (waitP l n)
theorem fl_strs (ws:List Str):(ws.map D.str).all flD=true:=by
 rw [List.all_eq_true]
 intro d hd
 obtain ⟨x,_,rfl⟩:=List.mem_map.mp hd
 rfl
theorem mem_snms {l:Facts}{n:Str}:n∈snms l ↔ n∈nms l:=srt_mem
theorem snms_len (l:Facts):(snms l).length=l.length:=by unfold snms nms;rw [srt_len,List.length_map]
theorem isShelf_of {CU CR:Addr}{l:Facts}{Q:List (Str × D)->Prop} (ok:FactsOk l) (q:Q (shelfF CU CR l)):isShelf CU [.lst (l.map fun p=>unitD CU CR p.1 p.2)] Q:=by
 refine ⟨l.map fun p=>(p.1,unitD CU CR p.1 p.2),by rw [List.map_map];rfl,fun u hu=>?_,by rw [List.map_map];exact ok.nd,by rw [List.length_map];exact ok.le,?_⟩
 ·obtain ⟨p,_,rfl⟩:=List.mem_map.mp hu
  exact ⟨_,rfl,u_name⟩
 ·rw [List.map_map]
  exact q
theorem facts_keys (l:Facts):(factsK l).map (·.1)=(nms l).map Sum.inr:=by unfold factsK nms;rw [List.map_map,List.map_map];rfl
theorem nms_len (l:Facts):(nms l).length=l.length:=by unfold nms;rw [List.length_map]
theorem FactsOk.strs {l:Facts} (ok:FactsOk l):∀ x∈nms l,PyData.strOk x=true:=fun x hx=>by
 obtain ⟨p,hp,rfl⟩:=List.mem_map.mp hx
 exact (ok.nm p hp).ok
def psNames (C CU CR:Addr):PSp:=fun ds Q=>∃ l:Facts,ds=[shelfD C CU CR l]/\l.length<=60/\Q (.own ((snms l).map D.str))
def psHas (C CU CR:Addr):PSp:=fun ds Q=>∃ (l:Facts) (d:D),ds=[shelfD C CU CR l,d]/\noObj d=true/\Q (.dat (.bl (hasD l d)))
def psUnitOf (C CU CR:Addr):PSp:=fun ds Q=>∃ (l:Facts) (n:Str) (f:Fact),ds=[shelfD C CU CR l,.str n]/\lk l n=some f/\Q (.dat (unitD CU CR n f))
theorem units_keys (CU CR:Addr) (l:Facts):(unitsK CU CR l).map (·.1)=(nms l).map Sum.inr:=by unfold unitsK nms;rw [List.map_map,List.map_map];rfl
local macro_rules | `(tactic| wtm_at "d") => `(tactic| simp -dsimp only [↓dSeq,↓dCons,↓dNil,↓dOp,↓dRet,↓dVar,↓dCB,↓dIfS,↓dB,↓dNot,↓dAndV,↓dIsi,↓dFld,↓dNext,↓rdSorted2,↓dMth,↓dNever,↓rdDget,↓rdDin,tkD_2,tkD_prD,Hold_dat,Hold_own,Hold_oK,Hold_oI,pur,Rd_dat,Rd_own,Rd_oI,Rn_dat,Rn_own,RN_non,RN_int,RN_str,RN_bl,RN_lst,RN_tup,RN_obj,RN_own,kD_int,kD_str,fO_dat,fO_own,f4_non,f4_int,f4_str,f4_bl,nO_non,nO_int,nO_str,nO_bl,nO_lst,nO_tup,nO_dK,fR_non,fR_int,fR_str,fR_bl,pR_dat,pR_own,pR_none,pR_bag,pR_oK,ty_list_non,ty_list_bl,ty_list_int,ty_list_str,ty_list_lst,ty_list_tup,ty_int_non,ty_int_bl,ty_int_int,ty_int_str,ty_int_lst,ty_int_tup,ty_bool_non,ty_bool_bl,ty_bool_int,ty_bool_str,ty_bool_lst,ty_bool_tup,ty_str_non,ty_str_bl,ty_str_int,ty_str_str,ty_str_lst,ty_str_tup,ty_tuple_non,ty_tuple_bl,ty_tuple_int,ty_tuple_str,ty_tuple_lst,ty_tuple_tup,ty_dict_non,ty_dict_bl,ty_dict_int,ty_dict_str,ty_dict_lst,ty_dict_tup,trues_add,trues_len,stE,wipeE,Bool.not_true,Bool.not_false,decide_true,decide_false,if_true,if_false,reduceIte,List.getElem?_cons_zero,List.getElem?_cons_succ,List.set_cons_zero,List.set_cons_succ,List.drop_succ_cons,List.drop_zero,List.map_nil,List.map_cons,List.nil_append,List.cons_append,List.length_cons,List.length_nil,List.replicate,List.getElem?_nil,D.int.injEq,D.bl.injEq,D.str.injEq,R.dat.injEq,exists_eq_left',true_and,and_true,Int.reduceToNat,Int.reducePow,Int.reduceNeg,Int.reduceAdd,Int.reduceMul,Nat.reduceAdd,Nat.reduceLeDiff,Nat.reduceLT,Nat.reduceSub,reduceCtorEq,cx_K,blk_K,nox_K,sh_int,sh_bl,sh_non,sh_str,sh_lst,sh_tup,List.all_cons,List.all_nil,Bool.and_true,Bool.true_and,eqD_int,eqD_str,eqD_bl,eqD_nn,eqD_ni,eqD_in,eqD_ns,eqD_sn,decide_eq_true_eq,decide_eq_false_iff_not,rngD_len,and_self,List.length_map,List.length_append,atI_0,atI_1,atI_2,atI_3,atI_4,atI_5,atI_6,atI_7,Option.some.injEq,Bool.false_eq_true,Bool.true_eq_false,strsT,shelfD,sh_by,sh_names,sh_has,sh_unit,sh_waited,sh_needing,sh_barred,u_name,u_needs,u_after,u_bars,u_opens,u_kind,u_rule,u_wants])
local macro_rules | `(tactic| wtm_at "side") => `(tactic| first | assumption | omega | (refine putD_lt0 ?_; (repeat refine putD_ltk ?_); decide) | exact cpow106 | exact cpow1018 | exact cmulL (by omega) (by omega) | exact cmulR (by omega) (by omega) | exact ⟨by omega, by omega⟩ | exact ⟨by assumption, by assumption⟩ | decide)
local macro_rules | `(tactic| wtm_at "s1") => `(tactic| first
 | ((with_reducible refine And.intro ?c ?_);(case c=>wtm_at "side"))
 | with_reducible refine menu2 (by omega) (by omega) ?_ | with_reducible refine menu3 (by omega) (by omega) ?_ | with_reducible refine menu4 (by omega) (by omega) ?_ | with_reducible refine menu5 (by omega) (by omega) ?_
 | (with_reducible intro _))
local macro_rules | `(tactic| wtm_at "w") => `(tactic| repeat (first | wtm_at "s1" | (wtm_at "d"; done) | wtm_at "d"))
section
variable {P:Program}{w:World}{K:PySem.W.Frag}{mg:Str->Option Value}{base:Heap}
theorem ok_names_of {f C CU CR:Addr}{fd:FuncData} (F:Fun K "names" "Shelf.names" s_Shelf_names f fd) (S:ShelfT K mg C) (T:Tx mg):FnOk P w K mg base CX0 1 f fd ["self"] (spP K (psNames C CU CR)):=by
 refine Fun.okP F sc_Shelf_names (fun ds Q h=>?_) (fun cdv A outer s H E hr=>?_)
 ·obtain ⟨l,rfl,_⟩:=h
  rfl
 ·refine ⟨_,_,(dss_one (ds_ret (de_callB (cr_sorted2 rfl) sn_sorted2 (by rfl) T.n_sorted (by decide +kernel) (da_cons (de_fld (dv 0) rfl) da_nil)))),fun ds Qd h=>?_⟩
  obtain ⟨l,rfl,hl,q⟩:=h
  have h1:=S.cl
  have h2:=S.by_
  wtm_at "w"
  exact ⟨nms l,units_keys CU CR l,by unfold nms;rw [List.length_map];omega,q⟩
theorem ok_has {f C CU CR:Addr}{fd:FuncData} (F:Fun K "has" "Shelf.has" s_Shelf_has f fd) (S:ShelfT K mg C) (T:Tx mg):FnOk P w K mg base CX0 1 f fd ["self","name"] (spP K (psHas C CU CR)):=by
 refine Fun.okP F sc_Shelf_has (fun ds Q h=>?_) (fun cdv A outer s H E hr=>?_)
 ·obtain ⟨l,d,rfl,_⟩:=h
  rfl
 ·refine ⟨_,_,(dss_one (ds_ret (de_and (de_isi kb_str (by rfl) T.n_isinstance (by rfl) T.n_str (by decide +kernel) (dv 1)) (de_one (de_din hr (dv 1) (de_fld (dv 0) rfl)))))),fun ds Qd h=>?_⟩
  obtain ⟨l,d,rfl,hd,q⟩:=h
  have h1:=S.cl
  have h2:=S.by_
  have other:isTy "str" d=false->hasD l d=false->Qd (.dat (.bl false)):=fun _ e=>by rw [e] at q;exact q
  cases d with
  | str n=>
   wtm_at "w"
   rw [getD_units,Option.isSome_map,lk_isSome]
   exact q
  | obj C fs=>cases hd
  | exc a dd C fs=>cases hd
  | pt a=>cases hd
  | uK kvs=>cases hd
  | non=>wtm_at "w";exact q
  | bl b=>wtm_at "w";exact q
  | int i=>wtm_at "w";exact q
  | lst xs=>wtm_at "w";exact q
  | tup xs=>wtm_at "w";exact q
  | sq xs=>
   wtm_at "w"
   rw [show isTy "str" (D.sq xs)=false from (by decide:isTyS "str" "list" = false)]
   exact q
  | dK kvs=>
   wtm_at "w"
   rw [show isTy "str" (D.dK kvs)=false from (by decide:isTyS "str" "dict" = false)]
   exact q
  | dT kvs=>
   wtm_at "w"
   rw [show isTy "str" (D.dT kvs)=false from (by decide:isTyS "str" "dict" = false)]
   exact q
theorem ok_unit_of {f C CU CR:Addr}{fd:FuncData} (F:Fun K "unit" "Shelf.unit" s_Shelf_unit f fd) (S:ShelfT K mg C) (M_has:Mth P w K mg base 1 C "has" ["self","name"] (spP K (psHas C CU CR))):FnOk P w K mg base CX0 2 f fd ["self","name"] (spP K (psUnitOf C CU CR)):=by
 refine Fun.okP F sc_Shelf_unit (fun ds Q h=>?_) (fun cdv A outer s H E hr=>?_)
 ·obtain ⟨l,n,f,rfl,_⟩:=h
  rfl
 ·refine ⟨_,_,(dss_cons (ds_if (dt_not (dt_val (de_mth M_has hr (dv 0) (da_cons (dv 1) da_nil)))) (dss_one ds_never) dss_nil)
   (dss_one (ds_ret (de_dget hr (de_fld (dv 0) rfl) (dv 1))))),fun ds Qd h=>?_⟩
  obtain ⟨l,n,f,rfl,hf,q⟩:=h
  have h1:=S.cl
  have h2:=S.by_
  have hm:hasD l (.str n)=true:=decide_eq_true (List.mem_map.mpr ⟨_,lk_some hf,rfl⟩)
  wtm_at "w"
  refine ⟨l,.str n,rfl,rfl,?_⟩
  rw [hm]
  wtm_at "w"
  rw [getD_units,hf]
  exact ⟨_,rfl,q⟩
end
end U
namespace U
open PySem L2
theorem sc_Shelf_needing:FnScope ["self","name","one"] ["self","name"] (defScope s_Shelf_needing):=⟨rfl,rfl,rfl,by decide +kernel,rfl,by decide +kernel,by decide +kernel⟩
theorem sc_Shelf_barred:FnScope ["self","name","own","one"] ["self","name"] (defScope s_Shelf_barred):=⟨rfl,rfl,rfl,by decide +kernel,rfl,by decide +kernel,by decide +kernel⟩
def needP (l:Facts) (n one:Str):Bool:=decide (n∈needsOf l one)
def barP (l:Facts) (n one:Str):Bool:=decide (one∈barsOf l n) || decide (n∈barsOf l one)
def needing (l:Facts) (n:Str):List Str:=(snms l).filter (needP l n)
def barred (l:Facts) (n:Str):List Str:=(snms l).filter (barP l n)
def psNeeding (C CU CR:Addr):PSp:=fun ds Q=>∃ (l:Facts) (n:Str),ds=[shelfD C CU CR l,.str n]/\n∈nms l/\FactsOk l/\Q (.own ((needing l n).map D.str))
def psBarred (C CU CR:Addr):PSp:=fun ds Q=>∃ (l:Facts) (n:Str),ds=[shelfD C CU CR l,.str n]/\n∈nms l/\FactsOk l/\Q (.own ((barred l n).map D.str))
local macro_rules | `(tactic| wtm_at "d") => `(tactic| simp -dsimp only [↓dSeq,↓dAsg,↓dCons,↓dNil,↓dOp,↓dgName,↓dgNameF,↓dDrop,↓dRet,↓dVar,↓dB,↓dOr,↓dLc,↓diL,↓dFld,↓rdIn,↓dMth,↓rdDget,tkD_2,tkD_prD,Hold_dat,Hold_own,Hold_oK,Hold_oI,pur,Rd_dat,Rd_own,Rd_oI,Rn_dat,Rn_own,RN_non,RN_int,RN_str,RN_bl,RN_lst,RN_tup,RN_obj,RN_own,kD_int,kD_str,fO_dat,fO_own,f4_non,f4_int,f4_str,f4_bl,nO_non,nO_int,nO_str,nO_bl,nO_lst,nO_tup,nO_dK,fR_non,fR_int,fR_str,fR_bl,pR_dat,pR_own,pR_none,pR_bag,pR_oK,ty_list_non,ty_list_bl,ty_list_int,ty_list_str,ty_list_lst,ty_list_tup,ty_int_non,ty_int_bl,ty_int_int,ty_int_str,ty_int_lst,ty_int_tup,ty_bool_non,ty_bool_bl,ty_bool_int,ty_bool_str,ty_bool_lst,ty_bool_tup,ty_str_non,ty_str_bl,ty_str_int,ty_str_str,ty_str_lst,ty_str_tup,ty_tuple_non,ty_tuple_bl,ty_tuple_int,ty_tuple_str,ty_tuple_lst,ty_tuple_tup,ty_dict_non,ty_dict_bl,ty_dict_int,ty_dict_str,ty_dict_lst,ty_dict_tup,trues_add,trues_len,stE,wipeE,Bool.not_true,Bool.not_false,decide_true,decide_false,if_true,if_false,reduceIte,List.getElem?_cons_zero,List.getElem?_cons_succ,List.set_cons_zero,List.set_cons_succ,List.drop_succ_cons,List.drop_zero,List.map_nil,List.map_cons,List.nil_append,List.cons_append,List.length_cons,List.length_nil,List.replicate,List.getElem?_nil,D.int.injEq,D.bl.injEq,D.str.injEq,R.dat.injEq,exists_eq_left',true_and,and_true,Int.reduceToNat,Int.reducePow,Int.reduceNeg,Int.reduceAdd,Int.reduceMul,Nat.reduceAdd,Nat.reduceLeDiff,Nat.reduceLT,Nat.reduceSub,reduceCtorEq,cx_K,blk_K,nox_K,sh_int,sh_bl,sh_non,sh_str,sh_lst,sh_tup,List.all_cons,List.all_nil,Bool.and_true,Bool.true_and,eqD_int,eqD_str,eqD_bl,eqD_nn,eqD_ni,eqD_in,eqD_ns,eqD_sn,decide_eq_true_eq,decide_eq_false_iff_not,rngD_len,and_self,List.length_map,List.length_append,atI_0,atI_1,atI_2,atI_3,atI_4,atI_5,atI_6,atI_7,Option.some.injEq,Bool.false_eq_true,Bool.true_eq_false,strsT,shelfD,sh_by,sh_names,sh_has,sh_unit,sh_waited,sh_needing,sh_barred,u_name,u_needs,u_after,u_bars,u_opens,u_kind,u_rule,u_wants])
local macro_rules | `(tactic| wtm_at "side") => `(tactic| first | assumption | omega | (refine putD_lt0 ?_; (repeat refine putD_ltk ?_); decide) | exact cpow106 | exact cpow1018 | exact cmulL (by omega) (by omega) | exact cmulR (by omega) (by omega) | exact ⟨by omega, by omega⟩ | exact ⟨by assumption, by assumption⟩ | decide)
local macro_rules | `(tactic| wtm_at "s1") => `(tactic| first
 | ((with_reducible refine And.intro ?c ?_);(case c=>wtm_at "side"))
 | with_reducible refine menu2 (by omega) (by omega) ?_ | with_reducible refine menu3 (by omega) (by omega) ?_ | with_reducible refine menu4 (by omega) (by omega) ?_ | with_reducible refine menu5 (by omega) (by omega) ?_
 | (with_reducible intro _))
local macro_rules | `(tactic| wtm_at "w") => `(tactic| repeat (first | wtm_at "s1" | (wtm_at "d"; done) | wtm_at "d"))
section
variable {P:Program}{w:World}{K:PySem.W.Frag}{mg:Str->Option Value}{base:Heap}
theorem ok_needing_of {f C CU CR:Addr}{fd:FuncData} (F:Fun K "needing" "Shelf.needing" s_Shelf_needing f fd) (S:ShelfT K mg C) (U:UnitT K mg CU) (M_names:Mth P w K mg base 1 C "names" ["self"] (spP K (psNames C CU CR))) (M_unit:Mth P w K mg base 2 C "unit" ["self","name"] (spP K (psUnitOf C CU CR))):FnOk P w K mg base CX0 3 f fd ["self","name"] (spP K (psNeeding C CU CR)):=by
 refine Fun.okP F sc_Shelf_needing (fun ds Q h=>?_) (fun cdv A outer s H E hr=>?_)
 ·obtain ⟨l,n,rfl,_⟩:=h
  rfl
 ·refine ⟨_,_,(dss_cons (ds_expr (de_mth M_unit hr (dv 0) (da_cons (dv 1) da_nil)))
   (dss_one (ds_ret (de_lc (own:=[("one",2)]) (by rfl) sc_Shelf_needing.nd (di_list (de_mth0 M_names hr (dv 0))) (blkOk_by (own:=[("one",2)]) (N:=["self","name","one"]) (sc:=defScope s_Shelf_needing) (by decide +kernel)) (fun _ _ _ _ _=>(dg_name (own:=_) (i:=2) sc_Shelf_needing.nd rfl (by first | exact Or.inl rfl | exact Or.inr rfl))) (fun _ _ _ _ _=>(dts_one (dt_in hr (dv 1) (de_fld (de_dget hr (de_fld (dv 0) rfl) (dv 2)) rfl)))) (fun _ _ _ _ _=>(dv 2)))))),fun ds Qd h=>?_⟩
  obtain ⟨l,n,rfl,hn,ok,q⟩:=h
  have h1:=S.cl
  have h2:=S.by_
  have u1:=U.needs
  obtain ⟨f,hf⟩:=lk_mem hn
  have hno:=(ok.nm _ (lk_some hf)).ok
  wtm_at "w"
  refine ⟨l,n,f,rfl,hf,?_⟩
  wtm_at "w"
  refine ⟨l,rfl,by have:=ok.le;omega,?_⟩
  wtm_at "w"
  refine lcT D.str (snms l) (needP l n) D.str rfl (by rw [snms_len];have:=ok.le;omega) ?_ ?_
  ·intro i one hi L W1 W2 hL w1 w2
   obtain ⟨g,hg⟩:=lk_mem (mem_snms.mp (List.mem_of_getElem? hi))
   have hp:needP l n one=decide (n∈g.needs):=by unfold needP needsOf;rw [hg]
   rw [hp] at w1 w2
   wtm_at "w"
   rw [getD_units,hg]
   refine ⟨_,rfl,?_⟩
   simp only [unitD]
   wtm_at "w"
   refine ⟨⟨rfl,fl_strs _⟩,?_⟩
   rw [inD_strs]
   by_cases hz:n∈g.needs
   ·rw [decide_eq_true hz] at w1 ⊢
    exact ⟨hL,w1 rfl⟩
   ·rw [decide_eq_false hz] at w1 w2 ⊢
    exact w2 rfl
  ·wtm_at "w"
   exact q
theorem ok_barred_of {f C CU CR:Addr}{fd:FuncData} (F:Fun K "barred" "Shelf.barred" s_Shelf_barred f fd) (S:ShelfT K mg C) (U:UnitT K mg CU) (M_names:Mth P w K mg base 1 C "names" ["self"] (spP K (psNames C CU CR))) (M_unit:Mth P w K mg base 2 C "unit" ["self","name"] (spP K (psUnitOf C CU CR))):FnOk P w K mg base CX0 3 f fd ["self","name"] (spP K (psBarred C CU CR)):=by
 refine Fun.okP F sc_Shelf_barred (fun ds Q h=>?_) (fun cdv A outer s H E hr=>?_)
 ·obtain ⟨l,n,rfl,_⟩:=h
  rfl
 ·refine ⟨_,_,(dss_cons (ds_setF (i:=2) sc_Shelf_barred.nd rfl (by first | exact Or.inl rfl | exact Or.inr rfl) (de_fld (de_mth M_unit hr (dv 0) (da_cons (dv 1) da_nil)) rfl))
   (dss_one (ds_ret (de_lc (own:=[("one",3)]) (by rfl) sc_Shelf_barred.nd (di_list (de_mth0 M_names hr (dv 0))) (blkOk_by (own:=[("one",3)]) (N:=["self","name","own","one"]) (sc:=defScope s_Shelf_barred) (by decide +kernel)) (fun _ _ _ _ _=>(dg_name (own:=_) (i:=3) sc_Shelf_barred.nd rfl (by first | exact Or.inl rfl | exact Or.inr rfl))) (fun _ _ _ _ _=>(dts_one (DW.pt (dw_or (dt_in hr (dv 3) (dv 2)) (dw_or1 (dt_in hr (dv 1) (de_fld (de_dget hr (de_fld (dv 0) rfl) (dv 3)) rfl))))))) (fun _ _ _ _ _=>(dv 3)))))),fun ds Qd h=>?_⟩
  obtain ⟨l,n,rfl,hn,ok,q⟩:=h
  have h1:=S.cl
  have h2:=S.by_
  have u1:=U.bars
  obtain ⟨f,hf⟩:=lk_mem hn
  have hno:=(ok.nm _ (lk_some hf)).ok
  wtm_at "w"
  refine ⟨l,n,f,rfl,hf,?_⟩
  wtm_at "w"
  simp only [unitD]
  wtm_at "w"
  refine ⟨l,rfl,by have:=ok.le;omega,?_⟩
  wtm_at "w"
  refine lcT D.str (snms l) (barP l n) D.str rfl (by rw [snms_len];have:=ok.le;omega) ?_ ?_
  ·intro i one hi L W1 W2 hL w1 w2
   obtain ⟨g,hg⟩:=lk_mem (mem_snms.mp (List.mem_of_getElem? hi))
   have hp:barP l n one=(decide (one∈f.bars) || decide (n∈g.bars)):=by unfold barP barsOf;rw [hf,hg]
   rw [hp] at w1 w2
   wtm_at "w"
   refine ⟨⟨rfl,fl_strs _⟩,?_⟩
   rw [inD_strs]
   by_cases hz:one∈f.bars
   ·rw [decide_eq_true hz] at w1 ⊢
    exact ⟨hL,w1 rfl⟩
   ·rw [decide_eq_false hz] at w1 w2 ⊢
    wtm_at "w"
    rw [getD_units,hg]
    refine ⟨_,rfl,?_⟩
    simp only [unitD]
    wtm_at "w"
    refine ⟨⟨rfl,fl_strs _⟩,?_⟩
    rw [inD_strs]
    by_cases hy:n∈g.bars
    ·rw [decide_eq_true hy] at w1 ⊢
     exact ⟨hL,w1 rfl⟩
    ·rw [decide_eq_false hy] at w2 ⊢
     exact w2 rfl
  ·wtm_at "w"
   exact q
end
end U
namespace U
open PySem L2
theorem sc_at_once:FnScope ["shelf","demand","name","way","one","found"] ["shelf","demand"] (defScope s_at_once):=⟨rfl,rfl,rfl,by decide +kernel,rfl,by decide +kernel,by decide +kernel⟩
def atOnce (l:Facts) (p:Pr):List Pr:=if p.2 = "off" then (needing l p.1).map fun o=>((o,"off"):Pr) else srtP ((((needsOf l p.1).filter fun o=>decide (o∈nms l)).map fun o=>((o,"on"):Pr)) ++ (barred l p.1).map fun o=>((o,"off"):Pr))
structure DemOk (l:Facts) (p:Pr):Prop where
 nm:p.1∈nms l
 way:p.2 = "on"\/p.2 = "off"
theorem atOnce_ok {l:Facts}{p q:Pr} (h:q∈atOnce l p):DemOk l q:=by
 unfold atOnce at h
 split at h
 ·obtain ⟨o,h1,rfl⟩:=List.mem_map.mp h
  exact ⟨mem_snms.mp (List.mem_filter.mp h1).1,.inr rfl⟩
 ·rw [srtP_mem] at h
  rcases List.mem_append.mp h with h | h
  ·obtain ⟨o,h1,rfl⟩:=List.mem_map.mp h
   exact ⟨of_decide_eq_true (List.mem_filter.mp h1).2,.inl rfl⟩
  ·obtain ⟨o,h1,rfl⟩:=List.mem_map.mp h
   exact ⟨mem_snms.mp (List.mem_filter.mp h1).1,.inr rfl⟩
theorem needing_len {l:Facts} (ok:FactsOk l) (n:Str):(needing l n).length<=16:=by
 unfold needing
 have:=List.length_filter_le (needP l n) (snms l)
 rw [snms_len] at this
 have:=ok.le
 omega
theorem barred_len {l:Facts} (ok:FactsOk l) (n:Str):(barred l n).length<=16:=by
 unfold barred
 have:=List.length_filter_le (barP l n) (snms l)
 rw [snms_len] at this
 have:=ok.le
 omega
def psAtOnce (C CU CR:Addr):PSp:=fun ds Q=>∃ (l:Facts) (p:Pr),ds=[shelfD C CU CR l,prD p]/\DemOk l p/\FactsOk l/\Q (.own ((atOnce l p).map prD))
local macro_rules | `(tactic| wtm_at "d") => `(tactic| simp -dsimp only [↓dSeq,↓dAsg,↓dTup,↓dCons,↓dNil,↓dOp,↓dC,↓dgName,↓dgNameF,↓dRet,↓dVar,↓dCB,↓dIfS,↓dB,↓dLc,↓dYes,↓diL,↓diT,↓dgTup,↓dgCons,↓dgNil,↓dFld,↓dNext,↓rdAdd,↓rdEq,↓dMth,↓rdSortP,tkD_2,tkD_prD,Hold_dat,Hold_own,Hold_oK,Hold_oI,pur,Rd_dat,Rd_own,Rd_oI,Rn_dat,Rn_own,RN_non,RN_int,RN_str,RN_bl,RN_lst,RN_tup,RN_obj,RN_own,kD_int,kD_str,fO_dat,fO_own,f4_non,f4_int,f4_str,f4_bl,nO_non,nO_int,nO_str,nO_bl,nO_lst,nO_tup,nO_dK,fR_non,fR_int,fR_str,fR_bl,pR_dat,pR_own,pR_none,pR_bag,pR_oK,ty_list_non,ty_list_bl,ty_list_int,ty_list_str,ty_list_lst,ty_list_tup,ty_int_non,ty_int_bl,ty_int_int,ty_int_str,ty_int_lst,ty_int_tup,ty_bool_non,ty_bool_bl,ty_bool_int,ty_bool_str,ty_bool_lst,ty_bool_tup,ty_str_non,ty_str_bl,ty_str_int,ty_str_str,ty_str_lst,ty_str_tup,ty_tuple_non,ty_tuple_bl,ty_tuple_int,ty_tuple_str,ty_tuple_lst,ty_tuple_tup,ty_dict_non,ty_dict_bl,ty_dict_int,ty_dict_str,ty_dict_lst,ty_dict_tup,trues_add,trues_len,stE,wipeE,Bool.not_true,Bool.not_false,decide_true,decide_false,if_true,if_false,reduceIte,List.getElem?_cons_zero,List.getElem?_cons_succ,List.set_cons_zero,List.set_cons_succ,List.drop_succ_cons,List.drop_zero,List.map_nil,List.map_cons,List.nil_append,List.cons_append,List.length_cons,List.length_nil,List.replicate,List.getElem?_nil,D.int.injEq,D.bl.injEq,D.str.injEq,R.dat.injEq,exists_eq_left',true_and,and_true,Int.reduceToNat,Int.reducePow,Int.reduceNeg,Int.reduceAdd,Int.reduceMul,Nat.reduceAdd,Nat.reduceLeDiff,Nat.reduceLT,Nat.reduceSub,reduceCtorEq,cx_K,blk_K,nox_K,sh_int,sh_bl,sh_non,sh_str,sh_lst,sh_tup,List.all_cons,List.all_nil,Bool.and_true,Bool.true_and,eqD_int,eqD_str,eqD_bl,eqD_nn,eqD_ni,eqD_in,eqD_ns,eqD_sn,decide_eq_true_eq,decide_eq_false_iff_not,rngD_len,and_self,List.length_map,List.length_append,atI_0,atI_1,atI_2,atI_3,atI_4,atI_5,atI_6,atI_7,Option.some.injEq,Bool.false_eq_true,Bool.true_eq_false,strsT,shelfD,sh_by,sh_names,sh_has,sh_unit,sh_waited,sh_needing,sh_barred,u_name,u_needs,u_after,u_bars,u_opens,u_kind,u_rule,u_wants])
local macro_rules | `(tactic| wtm_at "side") => `(tactic| first | assumption | omega | (refine putD_lt0 ?_; (repeat refine putD_ltk ?_); decide) | exact cpow106 | exact cpow1018 | exact cmulL (by omega) (by omega) | exact cmulR (by omega) (by omega) | exact ⟨by omega, by omega⟩ | exact ⟨by assumption, by assumption⟩ | decide)
local macro_rules | `(tactic| wtm_at "s1") => `(tactic| first
 | ((with_reducible refine And.intro ?c ?_);(case c=>wtm_at "side"))
 | with_reducible refine menu2 (by omega) (by omega) ?_ | with_reducible refine menu3 (by omega) (by omega) ?_ | with_reducible refine menu4 (by omega) (by omega) ?_ | with_reducible refine menu5 (by omega) (by omega) ?_
 | (with_reducible intro _))
local macro_rules | `(tactic| wtm_at "w") => `(tactic| repeat (first | wtm_at "s1" | (wtm_at "d"; done) | wtm_at "d"))
section
variable {P:Program}{w:World}{K:PySem.W.Frag}{mg:Str->Option Value}{base:Heap}
theorem ok_at_once {f C CU CR:Addr}{fd:FuncData} (F:Fun K "at_once" "at_once" s_at_once f fd) (U:UnitT K mg CU) (T:Tx mg) (M_unit:Mth P w K mg base 2 C "unit" ["self","name"] (spP K (psUnitOf C CU CR))) (M_has:Mth P w K mg base 1 C "has" ["self","name"] (spP K (psHas C CU CR))) (M_needing:Mth P w K mg base 3 C "needing" ["self","name"] (spP K (psNeeding C CU CR))) (M_barred:Mth P w K mg base 3 C "barred" ["self","name"] (spP K (psBarred C CU CR))):FnOk P w K mg base CX0 4 f fd ["shelf","demand"] (spP K (psAtOnce C CU CR)):=by
 refine Fun.okP F sc_at_once (fun ds Q h=>?_) (fun cdv A outer s H E hr=>?_)
 ·obtain ⟨l,p,rfl,_⟩:=h
  rfl
 ·refine ⟨_,_,(dss_cons (ds_tgt (dv 1) (dg_tup (n:=2) rfl (dgs_cons (dg_name (own:=[2,3]) (i:=2) sc_at_once.nd rfl (by first | exact Or.inl rfl | exact Or.inr rfl)) (dgs_cons (dg_name (own:=[2,3]) (i:=3) sc_at_once.nd rfl (by first | exact Or.inl rfl | exact Or.inr rfl)) dgs_nil))))
   (dss_cons (ds_if (dt_eq hr (dv 3) de_str) (dss_one (ds_ret (de_lc (own:=[("one",4)]) (by rfl) sc_at_once.nd (di_list (de_mth M_needing hr (dv 0) (da_cons (dv 2) da_nil))) (blkOk_by (own:=[("one",4)]) (N:=["shelf","demand","name","way","one","found"]) (sc:=defScope s_at_once) (by decide +kernel)) (fun _ _ _ _ _=>(dg_name (own:=_) (i:=4) sc_at_once.nd rfl (by first | exact Or.inl rfl | exact Or.inr rfl))) (fun _ _ _ _ _=>dts_nil) (fun _ _ _ _ _=>(de_tup (da_cons (dv 4) (da_cons de_str da_nil))))))) dss_nil)
   (dss_cons (ds_setLcF (i:=5) (own:=[("one",4)]) (by rfl) sc_at_once.nd rfl rfl (sw_true rfl rfl rfl (by decide +kernel)) (di_tup (de_fld (de_mth M_unit hr (dv 0) (da_cons (dv 2) da_nil)) rfl)) (blkOk_by (own:=[("one",4)]) (N:=["shelf","demand","name","way","one","found"]) (sc:=defScope s_at_once) (by decide +kernel)) (fun _ _ _ _ _=>(dg_name (own:=_) (i:=4) sc_at_once.nd rfl (by first | exact Or.inl rfl | exact Or.inr rfl))) (fun _ _ _ _ _=>(dts_one (dt_val (de_mth M_has hr (dv 0) (da_cons (dv 4) da_nil))))) (fun _ _ _ _ _=>(de_tup (da_cons (dv 4) (da_cons de_str da_nil)))))
   (dss_one (ds_ret (de_callB (cr_sortP rfl) sn_sortP (by rfl) T.n_sorted (by decide +kernel) (da_cons (de_add (dv 5) (de_lc (own:=[("one",4)]) (by rfl) sc_at_once.nd (di_list (de_mth M_barred hr (dv 0) (da_cons (dv 2) da_nil))) (blkOk_by (own:=[("one",4)]) (N:=["shelf","demand","name","way","one","found"]) (sc:=defScope s_at_once) (by decide +kernel)) (fun _ _ _ _ _=>(dg_name (own:=_) (i:=4) sc_at_once.nd rfl (by first | exact Or.inl rfl | exact Or.inr rfl))) (fun _ _ _ _ _=>dts_nil) (fun _ _ _ _ _=>(de_tup (da_cons (dv 4) (da_cons de_str da_nil)))))) da_nil))))))),fun ds Qd h=>?_⟩
  obtain ⟨l,⟨n,way⟩,rfl,hd,ok,q⟩:=h
  have u1:=U.needs
  have hn:n∈nms l:=hd.nm
  obtain ⟨f,hf⟩:=lk_mem hn
  have hno:=(ok.nm _ (lk_some hf)).ok
  have hw:PyData.strOk way=true:=by rcases hd.way with e | e <;> (simp only at e;rw [e];decide +kernel)
  simp only [prD]
  wtm_at "w"
  refine ⟨⟨hw,by decide +kernel⟩,?_⟩
  by_cases c:way=("off" : Str)
  ·rw [if_pos c]
   have ea:atOnce l (n,way)=(needing l n).map fun o=>((o,"off"):Pr):=by unfold atOnce;rw [if_pos c]
   refine ⟨l,n,rfl,hn,ok,?_⟩
   wtm_at "w"
   refine lcM D.str (needing l n) (fun o=>prD (o,"off")) rfl (by have:=needing_len ok n;omega) ?_ ?_
   ·intro i o ho L W1 W2 hL w1
    wtm_at "w"
    exact w1
   ·wtm_at "w"
    rw [ea,List.map_map] at q
    exact q
  ·rw [if_neg c]
   have ea:atOnce l (n,way)=srtP ((((needsOf l n).filter fun o=>decide (o∈nms l)).map fun o=>((o,"on"):Pr)) ++ (barred l n).map fun o=>((o,"off"):Pr)):=by unfold atOnce;rw [if_neg c]
   have en:needsOf l n=f.needs:=by unfold needsOf;rw [hf]
   wtm_at "w"
   refine ⟨l,n,f,rfl,hf,?_⟩
   simp only [unitD]
   wtm_at "w"
   refine lcT D.str f.needs (fun o=>decide (o∈nms l)) (fun o=>prD (o,"on")) rfl (by have:=(ok.ok _ (lk_some hf)).needs.le;simp only at this;omega) ?_ ?_
   ·intro i o ho L W1 W2 hL w1 w2
    wtm_at "w"
    refine ⟨l,.str o,rfl,rfl,?_⟩
    simp only [hasD]
    wtm_at "w"
    by_cases hz:o∈nms l
    ·rw [if_pos hz]
     exact ⟨hL,w1 (decide_eq_true hz)⟩
    ·rw [if_neg hz]
     exact w2 (decide_eq_false hz)
   ·wtm_at "w"
    refine ⟨l,n,rfl,hn,ok,?_⟩
    wtm_at "w"
    refine lcM D.str (barred l n) (fun o=>prD (o,"off")) rfl (by have:=barred_len ok n;omega) ?_ ?_
    ·intro i o ho L W1 W2 hL w1
     wtm_at "w"
     exact w1
    ·wtm_at "w"
     have h1:=(ok.ok _ (lk_some hf)).needs.le
     have h2:=List.length_filter_le (fun o=>decide (o∈nms l)) f.needs
     have h3:=barred_len ok n
     refine ⟨by simp only at h1;omega,?_⟩
     wtm_at "w"
     refine ⟨((f.needs.filter fun o=>decide (o∈nms l)).map fun o=>((o,"on"):Pr)) ++ (barred l n).map fun o=>((o,"off"):Pr),by rw [List.map_append,List.map_map,List.map_map];rfl,?_⟩
     rw [ea,en] at q
     exact q
end
end U
namespace U
open PySem L2
abbrev Sr:=Pr × Option (Nat × Pr)
def rk:Option (Nat × Pr)->Nat
 | none=>0
 | some (j,_)=>j+1
def ks (s:List Sr):List Pr:=s.map (·.1)
theorem mem_ks {s:List Sr}{p:Pr}:p∈ks s ↔ ∃ o,(p,o)∈s:=by
 unfold ks
 rw [List.mem_map]
 exact ⟨fun ⟨x,h,e⟩=>⟨x.2,by rw [<-e];exact h⟩,fun ⟨o,h⟩=>⟨_,h,rfl⟩⟩
structure Src (l:Facts) (dem:List Pr) (n t:Nat) (s:List Sr):Prop where
 nd:(ks s).Nodup
 ok:∀ p∈ks s,DemOk l p
 inn:∀ p∈dem,(p,none)∈s
 root:∀ p,(p,none)∈s->p∈dem
 par:∀ (i:Nat) k j p,s[i]? = some (k,some (j,p))->j < i/\(∃ o,s[j]? = some (p,o))/\k∈atOnce l p
 mono:s.Pairwise fun a b=>rk a.2<=rk b.2
 top:∀ x∈s,rk x.2<=t
 done:∀ (j:Nat) p o,j < n->s[j]? = some (p,o)->∀ b∈atOnce l p,∃ o',(b,o')∈s/\rk o'<=j+1
theorem Src.up {l:Facts}{dem:List Pr}{n t:Nat}{s:List Sr} (h:Src l dem n t s):Src l dem n (t+1) s:=
 ⟨h.nd,h.ok,h.inn,h.root,h.par,h.mono,fun x hx=>Nat.le_succ_of_le (h.top x hx),h.done⟩
theorem Src.next {l:Facts}{dem:List Pr}{n:Nat}{s:List Sr}{p:Pr}{o:Option (Nat × Pr)} (h:Src l dem n (n+1) s) (hp:s[n]? = some (p,o)) (ha:∀ b∈atOnce l p,b∈ks s):Src l dem (n+1) (n+1) s:=by
 refine ⟨h.nd,h.ok,h.inn,h.root,h.par,h.mono,h.top,fun j p' o' hj e b hb=>?_⟩
 by_cases c:j < n
 ·exact h.done j p' o' c e b hb
 ·have:j=n:=by omega
  subst this
  rw [hp] at e
  cases e
  obtain ⟨o2,h2⟩:=mem_ks.mp (ha b hb)
  exact ⟨o2,h2,h.top _ h2⟩
theorem ks_append (s r:List Sr):ks (s ++ r)=ks s ++ ks r:=by unfold ks;rw [List.map_append]
theorem Src.add {l:Facts}{dem:List Pr}{n:Nat}{s:List Sr}{p b:Pr}{o:Option (Nat × Pr)} (h:Src l dem n (n+1) s) (hp:s[n]? = some (p,o)) (hb:b∈atOnce l p) (hn:b ∉ ks s):Src l dem n (n+1) (s ++ [(b,some (n,p))]):=by
 have hl:=get_lt hp
 refine ⟨?_,fun q hq=>?_,fun q hq=>List.mem_append_left _ (h.inn q hq),fun q hq=>?_,fun i k j q e=>?_,?_,fun x hx=>?_,fun j q o' hj e c hc=>?_⟩
 ·rw [ks_append]
  exact List.nodup_append.mpr ⟨h.nd,by simp [ks],fun a ha c hc=>by rw [show ks [(b,some (n,p))]=[b] from rfl,List.mem_singleton] at hc;rw [hc];rintro rfl;exact hn ha⟩
 ·rw [ks_append] at hq
  rcases List.mem_append.mp hq with z | z
  ·exact h.ok q z
  ·rw [show ks [(b,some (n,p))]=[b] from rfl,List.mem_singleton] at z
   rw [z];exact atOnce_ok hb
 ·rcases List.mem_append.mp hq with z | z
  ·exact h.root q z
  ·rw [List.mem_singleton] at z
   cases z
 ·by_cases c:i < s.length
  ·rw [List.getElem?_append_left c] at e
   obtain ⟨h1,⟨o2,h2⟩,h3⟩:=h.par i k j q e
   exact ⟨h1,⟨o2,by rw [List.getElem?_append_left (by omega)];exact h2⟩,h3⟩
  ·have hi:=get_lt e
   rw [List.length_append,List.length_singleton] at hi
   have:i=s.length:=by omega
   subst this
   rw [List.getElem?_append_right (Nat.le_refl _),Nat.sub_self] at e
   cases e
   exact ⟨hl,⟨o,by rw [List.getElem?_append_left hl];exact hp⟩,hb⟩
 ·exact List.pairwise_append.mpr ⟨h.mono,by simp,fun a ha c hc=>by rw [List.mem_singleton.mp hc];exact h.top a ha⟩
 ·rcases List.mem_append.mp hx with z | z
  ·exact h.top x z
  ·rw [List.mem_singleton.mp z];exact Nat.le_refl _
 ·rw [List.getElem?_append_left (by omega)] at e
  obtain ⟨o2,h1,h2⟩:=h.done j q o' hj e c hc
  exact ⟨o2,List.mem_append_left _ h1,h2⟩
def univ (l:Facts):List Pr:=((nms l).map fun n=>((n,"on"):Pr)) ++ (nms l).map fun n=>((n,"off"):Pr)
theorem mem_univ {l:Facts}{p:Pr} (h:DemOk l p):p∈univ l:=by
 obtain ⟨n,w⟩:=p
 obtain ⟨h1,h2⟩:=h
 simp only at h1 h2
 rcases h2 with rfl | rfl
 ·exact List.mem_append_left _ (List.mem_map.mpr ⟨n,h1,rfl⟩)
 ·exact List.mem_append_right _ (List.mem_map.mpr ⟨n,h1,rfl⟩)
theorem nd_len {l:Facts} (ok:FactsOk l) {s:List Pr} (nd:s.Nodup) (h:∀ p∈s,DemOk l p):s.length<=32:=by
 have h1:s.length<=(univ l).length:=nodup_len nd fun p hp=>mem_univ (h p hp)
 have h2:=ok.le
 unfold univ at h1
 rw [List.length_append,List.length_map,List.length_map,nms_len] at h1
 omega
theorem Src.len {l:Facts} (ok:FactsOk l) {dem:List Pr}{n t:Nat}{s:List Sr} (h:Src l dem n t s):s.length<=32:=by
 have:=nd_len ok h.nd h.ok
 unfold ks at this
 rw [List.length_map] at this
 exact this
inductive Fol (l:Facts) (dem:List Pr):Pr->Prop
 | here {p}:p∈dem->Fol l dem p
 | next {p q}:Fol l dem p->q∈atOnce l p->Fol l dem q
def IsFol (l:Facts) (dem L:List Pr):Prop:=L.Pairwise (fun a b=>lep a b=true)/\L.Nodup/\∀ p,p∈L ↔ Fol l dem p
theorem IsFol.of {l:Facts}{dem M:List Pr} (nd:M.Nodup) (h:∀ p,p∈M ↔ Fol l dem p):IsFol l dem (srtP M):=
 ⟨srtP_pw M,(srtP_perm M).nodup_iff.mpr nd,fun p=>srtP_mem.trans (h p)⟩
end U
namespace U
open PySem L2
theorem sc_needing:FnScope ["_law_facts_here","_law_word","_law_one"] ["_law_facts_here","_law_word"] (defScope s_needing):=⟨rfl,rfl,rfl,by decide +kernel,rfl,by decide +kernel,by decide +kernel⟩
theorem sc_barred:FnScope ["_law_facts_here","_law_word","_law_one"] ["_law_facts_here","_law_word"] (defScope s_barred):=⟨rfl,rfl,rfl,by decide +kernel,rfl,by decide +kernel,by decide +kernel⟩
theorem srt_filt (p:Str->Bool) (l:List Str):srt (l.filter p)=(srt l).filter p:=
 (srt_of ((srt_pw l).sublist List.filter_sublist) ((srt_perm l).filter p)).symm
def psLNeeding:PSp:=fun ds Q=>∃ (l:Facts) (n:Str),ds=[factsD l,.str n]/\n∈nms l/\FactsOk l/\Q (.own ((needing l n).map D.str))
def psLBarred:PSp:=fun ds Q=>∃ (l:Facts) (n:Str),ds=[factsD l,.str n]/\n∈nms l/\FactsOk l/\Q (.own ((barred l n).map D.str))
local macro_rules | `(tactic| wtm_at "d") => `(tactic| simp -dsimp only [↓dCons,↓dNil,↓dOp,↓dC,↓dgName,↓dRet,↓dVar,↓dCB,↓dB,↓dAnd,↓dOr,↓dLc,↓diK,↓rdNe,↓rdIn,↓rdIx,↓rdSorted2,↓rdDget,tkD_2,tkD_prD,Hold_dat,Hold_own,Hold_oK,Hold_oI,pur,Rd_dat,Rd_own,Rd_oI,Rn_dat,Rn_own,RN_non,RN_int,RN_str,RN_bl,RN_lst,RN_tup,RN_obj,RN_own,kD_int,kD_str,fO_dat,fO_own,f4_non,f4_int,f4_str,f4_bl,nO_non,nO_int,nO_str,nO_bl,nO_lst,nO_tup,nO_dK,fR_non,fR_int,fR_str,fR_bl,pR_dat,pR_own,pR_none,pR_bag,pR_oK,ty_list_non,ty_list_bl,ty_list_int,ty_list_str,ty_list_lst,ty_list_tup,ty_int_non,ty_int_bl,ty_int_int,ty_int_str,ty_int_lst,ty_int_tup,ty_bool_non,ty_bool_bl,ty_bool_int,ty_bool_str,ty_bool_lst,ty_bool_tup,ty_str_non,ty_str_bl,ty_str_int,ty_str_str,ty_str_lst,ty_str_tup,ty_tuple_non,ty_tuple_bl,ty_tuple_int,ty_tuple_str,ty_tuple_lst,ty_tuple_tup,ty_dict_non,ty_dict_bl,ty_dict_int,ty_dict_str,ty_dict_lst,ty_dict_tup,trues_add,trues_len,stE,wipeE,Bool.not_true,Bool.not_false,decide_true,decide_false,if_true,if_false,reduceIte,List.getElem?_cons_zero,List.getElem?_cons_succ,List.set_cons_zero,List.set_cons_succ,List.drop_succ_cons,List.drop_zero,List.map_nil,List.map_cons,List.nil_append,List.cons_append,List.length_cons,List.length_nil,List.replicate,List.getElem?_nil,D.int.injEq,D.bl.injEq,D.str.injEq,R.dat.injEq,exists_eq_left',true_and,and_true,Int.reduceToNat,Int.reducePow,Int.reduceNeg,Int.reduceAdd,Int.reduceMul,Nat.reduceAdd,Nat.reduceLeDiff,Nat.reduceLT,Nat.reduceSub,reduceCtorEq,cx_K,blk_K,nox_K,sh_int,sh_bl,sh_non,sh_str,sh_lst,sh_tup,List.all_cons,List.all_nil,Bool.and_true,Bool.true_and,eqD_int,eqD_str,eqD_bl,eqD_nn,eqD_ni,eqD_in,eqD_ns,eqD_sn,decide_eq_true_eq,decide_eq_false_iff_not,rngD_len,and_self,List.length_map,List.length_append,atI_0,atI_1,atI_2,atI_3,atI_4,atI_5,atI_6,atI_7,Option.some.injEq,Bool.false_eq_true,Bool.true_eq_false,strsT,factD])
local macro_rules | `(tactic| wtm_at "side") => `(tactic| first | assumption | omega | (refine putD_lt0 ?_; (repeat refine putD_ltk ?_); decide) | exact cpow106 | exact cpow1018 | exact cmulL (by omega) (by omega) | exact cmulR (by omega) (by omega) | exact ⟨by omega, by omega⟩ | exact ⟨by assumption, by assumption⟩ | decide)
local macro_rules | `(tactic| wtm_at "s1") => `(tactic| first
 | ((with_reducible refine And.intro ?c ?_);(case c=>wtm_at "side"))
 | with_reducible refine menu2 (by omega) (by omega) ?_ | with_reducible refine menu3 (by omega) (by omega) ?_ | with_reducible refine menu4 (by omega) (by omega) ?_ | with_reducible refine menu5 (by omega) (by omega) ?_
 | (with_reducible intro _))
local macro_rules | `(tactic| wtm_at "w") => `(tactic| repeat (first | wtm_at "s1" | (wtm_at "d"; done) | wtm_at "d"))
section
variable {P:Program}{w:World}{K:PySem.W.Frag}{mg:Str->Option Value}{base:Heap}
theorem ok_lneeding {f:Addr}{fd:FuncData} (F:Fun K "_law_needing" "_law_needing" s_needing f fd) (T:Tx mg):FnOk P w K mg base CX0 1 f fd ["_law_facts_here","_law_word"] (spP K psLNeeding):=by
 refine Fun.okP F sc_needing (fun ds Q h=>?_) (fun cdv A outer s H E hr=>?_)
 ·obtain ⟨l,n,rfl,_⟩:=h
  rfl
 ·refine ⟨_,_,(dss_one (ds_ret (de_callB (cr_sorted2 rfl) sn_sorted2 (by rfl) T.n_sorted (by decide +kernel) (da_cons (de_lc (own:=[("_law_one",2)]) (by rfl) sc_needing.nd (di_keys (dv 0)) (blkOk_by (own:=[("_law_one",2)]) (N:=["_law_facts_here","_law_word","_law_one"]) (sc:=defScope s_needing) (by decide +kernel)) (fun _ _ _ _ _=>(dg_name (own:=_) (i:=2) sc_needing.nd rfl (by first | exact Or.inl rfl | exact Or.inr rfl))) (fun _ _ _ _ _=>(dts_one (dt_in hr (dv 1) (de_ix (de_dget hr (dv 0) (dv 2)) de_int (fun _ _=>rfl))))) (fun _ _ _ _ _=>(dv 2))) da_nil)))),fun ds Qd h=>?_⟩
  obtain ⟨l,n,rfl,hn,ok,q⟩:=h
  obtain ⟨f,hf⟩:=lk_mem hn
  have hno:=(ok.nm _ (lk_some hf)).ok
  have ek:(factsK l).map (fun p=>kD p.1)=(nms l).map D.str:=by unfold factsK nms;rw [List.map_map,List.map_map];rfl
  simp only [factsD]
  wtm_at "w"
  rw [ek]
  refine lcT D.str (nms l) (needP l n) D.str rfl (by rw [nms_len];have:=ok.le;omega) ?_ ?_
  ·intro i one hi L W1 W2 hL w1 w2
   obtain ⟨g,hg1⟩:=lk_mem (List.mem_of_getElem? hi)
   have hg2:=getD_facts l one
   rw [hg1] at hg2
   have hp:needP l n one=decide (n∈g.needs):=by unfold needP needsOf;rw [hg1]
   rw [hp] at w1 w2
   wtm_at "w"
   refine ⟨_,hg2,?_⟩
   wtm_at "w"
   refine ⟨⟨rfl,fl_strs _⟩,?_⟩
   rw [inD_strs]
   by_cases hz:n∈g.needs
   ·rw [decide_eq_true hz] at w1 ⊢
    exact ⟨hL,w1 rfl⟩
   ·rw [decide_eq_false hz] at w1 w2 ⊢
    exact w2 rfl
  ·wtm_at "w"
   refine ⟨(nms l).filter (needP l n),rfl,Nat.lt_of_le_of_lt (List.length_filter_le _ _) (by rw [nms_len];have:=ok.le;omega),?_⟩
   rw [srt_filt]
   wtm_at "w"
   exact q
theorem self_bar {l:Facts} (ok:FactsOk l) {n:Str} (hn:n∈nms l):n ∉ barsOf l n:=by
 obtain ⟨f,hf⟩:=lk_mem hn
 unfold barsOf
 rw [hf]
 exact fun h=>((ok.ok _ (lk_some hf)).bars.nm n h).2 rfl
theorem ok_lbarred {f:Addr}{fd:FuncData} (F:Fun K "_law_barred" "_law_barred" s_barred f fd) (T:Tx mg):FnOk P w K mg base CX0 1 f fd ["_law_facts_here","_law_word"] (spP K psLBarred):=by
 refine Fun.okP F sc_barred (fun ds Q h=>?_) (fun cdv A outer s H E hr=>?_)
 ·obtain ⟨l,n,rfl,_⟩:=h
  rfl
 ·refine ⟨_,_,(dss_one (ds_ret (de_callB (cr_sorted2 rfl) sn_sorted2 (by rfl) T.n_sorted (by decide +kernel) (da_cons (de_lc (own:=[("_law_one",2)]) (by rfl) sc_barred.nd (di_keys (dv 0)) (blkOk_by (own:=[("_law_one",2)]) (N:=["_law_facts_here","_law_word","_law_one"]) (sc:=defScope s_barred) (by decide +kernel)) (fun _ _ _ _ _=>(dg_name (own:=_) (i:=2) sc_barred.nd rfl (by first | exact Or.inl rfl | exact Or.inr rfl))) (fun _ _ _ _ _=>(dts_one (DW.pt (dw_and (dt_ne hr (dv 2) (dv 1)) (dw_and1 (DW.pt (dw_or (dt_in hr (dv 2) (de_ix (de_dget hr (dv 0) (dv 1)) de_int (fun _ _=>rfl))) (dw_or1 (dt_in hr (dv 1) (de_ix (de_dget hr (dv 0) (dv 2)) de_int (fun _ _=>rfl))))))))))) (fun _ _ _ _ _=>(dv 2))) da_nil)))),fun ds Qd h=>?_⟩
  obtain ⟨l,n,rfl,hn,ok,q⟩:=h
  obtain ⟨f,hf⟩:=lk_mem hn
  have hg:=getD_facts l n
  rw [hf] at hg
  have hno:=(ok.nm _ (lk_some hf)).ok
  have hself:=self_bar ok hn
  have ek:(factsK l).map (fun p=>kD p.1)=(nms l).map D.str:=by unfold factsK nms;rw [List.map_map,List.map_map];rfl
  simp only [factsD]
  wtm_at "w"
  rw [ek]
  refine lcT D.str (nms l) (barP l n) D.str rfl (by rw [nms_len];have:=ok.le;omega) ?_ ?_
  ·intro i one hi L W1 W2 hL w1 w2
   have him:=List.mem_of_getElem? hi
   have hio:=ok.strs _ him
   obtain ⟨g,hg1⟩:=lk_mem him
   have hg2:=getD_facts l one
   rw [hg1] at hg2
   have hp:barP l n one=(decide (one∈f.bars) || decide (n∈g.bars)):=by unfold barP barsOf;rw [hf,hg1]
   wtm_at "w"
   by_cases he:one=n
   ·have:barP l n one=false:=by
     unfold barP
     rw [he,decide_eq_false hself];rfl
    rw [decide_eq_true he]
    exact w2 this
   ·rw [decide_eq_false he]
    rw [hp] at w1 w2
    wtm_at "w"
    refine ⟨_,hg,?_⟩
    wtm_at "w"
    refine ⟨⟨rfl,fl_strs _⟩,?_⟩
    rw [inD_strs]
    by_cases hz:one∈f.bars
    ·rw [decide_eq_true hz] at w1 ⊢
     exact ⟨hL,w1 rfl⟩
    ·rw [decide_eq_false hz] at w1 w2 ⊢
     wtm_at "w"
     refine ⟨_,hg2,?_⟩
     wtm_at "w"
     refine ⟨⟨rfl,fl_strs _⟩,?_⟩
     rw [inD_strs]
     by_cases hy:n∈g.bars
     ·rw [decide_eq_true hy] at w1 ⊢
      exact ⟨hL,w1 rfl⟩
     ·rw [decide_eq_false hy] at w2 ⊢
      exact w2 rfl
  ·wtm_at "w"
   refine ⟨(nms l).filter (barP l n),rfl,Nat.lt_of_le_of_lt (List.length_filter_le _ _) (by rw [nms_len];have:=ok.le;omega),?_⟩
   rw [srt_filt]
   wtm_at "w"
   exact q
end
end U
namespace U
open PySem L2
theorem sc_next:FnScope ["_law_facts_here","_law_claim","_law_word","_law_way","_law_one","_law_found"] ["_law_facts_here","_law_claim"] (defScope s_next):=⟨rfl,rfl,rfl,by decide +kernel,rfl,by decide +kernel,by decide +kernel⟩
def lNext (l:Facts) (p:Pr):List Pr:=if p.2 = "off" then (needing l p.1).map fun o=>((o,"off"):Pr) else (((needsOf l p.1).filter fun o=>decide (o∈nms l)).map fun o=>((o,"on"):Pr)) ++ (barred l p.1).map fun o=>((o,"off"):Pr)
def psLNext:PSp:=fun ds Q=>∃ (l:Facts) (p:Pr),ds=[factsD l,prD p]/\DemOk l p/\FactsOk l/\Q (.own ((lNext l p).map prD))
local macro_rules | `(tactic| wtm_at "d") => `(tactic| simp -dsimp only [↓dSeq,↓dAsg,↓dTup,↓dCons,↓dNil,↓dOp,↓dC,↓dgName,↓dgNameF,↓dRet,↓dVar,↓dCB,↓dIfS,↓dB,↓dLc,↓dYes,↓diL,↓diT,↓dgTup,↓dgCons,↓dgNil,↓dNext,↓rdAdd,↓rdEq,↓rdIx,↓rdDget,↓rdDin,tkD_2,tkD_prD,Hold_dat,Hold_own,Hold_oK,Hold_oI,pur,Rd_dat,Rd_own,Rd_oI,Rn_dat,Rn_own,RN_non,RN_int,RN_str,RN_bl,RN_lst,RN_tup,RN_obj,RN_own,kD_int,kD_str,fO_dat,fO_own,f4_non,f4_int,f4_str,f4_bl,nO_non,nO_int,nO_str,nO_bl,nO_lst,nO_tup,nO_dK,fR_non,fR_int,fR_str,fR_bl,pR_dat,pR_own,pR_none,pR_bag,pR_oK,ty_list_non,ty_list_bl,ty_list_int,ty_list_str,ty_list_lst,ty_list_tup,ty_int_non,ty_int_bl,ty_int_int,ty_int_str,ty_int_lst,ty_int_tup,ty_bool_non,ty_bool_bl,ty_bool_int,ty_bool_str,ty_bool_lst,ty_bool_tup,ty_str_non,ty_str_bl,ty_str_int,ty_str_str,ty_str_lst,ty_str_tup,ty_tuple_non,ty_tuple_bl,ty_tuple_int,ty_tuple_str,ty_tuple_lst,ty_tuple_tup,ty_dict_non,ty_dict_bl,ty_dict_int,ty_dict_str,ty_dict_lst,ty_dict_tup,trues_add,trues_len,stE,wipeE,Bool.not_true,Bool.not_false,decide_true,decide_false,if_true,if_false,reduceIte,List.getElem?_cons_zero,List.getElem?_cons_succ,List.set_cons_zero,List.set_cons_succ,List.drop_succ_cons,List.drop_zero,List.map_nil,List.map_cons,List.nil_append,List.cons_append,List.length_cons,List.length_nil,List.replicate,List.getElem?_nil,D.int.injEq,D.bl.injEq,D.str.injEq,R.dat.injEq,exists_eq_left',true_and,and_true,Int.reduceToNat,Int.reducePow,Int.reduceNeg,Int.reduceAdd,Int.reduceMul,Nat.reduceAdd,Nat.reduceLeDiff,Nat.reduceLT,Nat.reduceSub,reduceCtorEq,cx_K,blk_K,nox_K,sh_int,sh_bl,sh_non,sh_str,sh_lst,sh_tup,List.all_cons,List.all_nil,Bool.and_true,Bool.true_and,eqD_int,eqD_str,eqD_bl,eqD_nn,eqD_ni,eqD_in,eqD_ns,eqD_sn,decide_eq_true_eq,decide_eq_false_iff_not,rngD_len,and_self,List.length_map,List.length_append,atI_0,atI_1,atI_2,atI_3,atI_4,atI_5,atI_6,atI_7,Option.some.injEq,Bool.false_eq_true,Bool.true_eq_false,strsT,factD])
local macro_rules | `(tactic| wtm_at "side") => `(tactic| first | assumption | omega | (refine putD_lt0 ?_; (repeat refine putD_ltk ?_); decide) | exact cpow106 | exact cpow1018 | exact cmulL (by omega) (by omega) | exact cmulR (by omega) (by omega) | exact ⟨by omega, by omega⟩ | exact ⟨by assumption, by assumption⟩ | decide)
local macro_rules | `(tactic| wtm_at "s1") => `(tactic| first
 | ((with_reducible refine And.intro ?c ?_);(case c=>wtm_at "side"))
 | with_reducible refine menu2 (by omega) (by omega) ?_ | with_reducible refine menu3 (by omega) (by omega) ?_ | with_reducible refine menu4 (by omega) (by omega) ?_ | with_reducible refine menu5 (by omega) (by omega) ?_
 | (with_reducible intro _))
local macro_rules | `(tactic| wtm_at "w") => `(tactic| repeat (first | wtm_at "s1" | (wtm_at "d"; done) | wtm_at "d"))
section
variable {P:Program}{w:World}{K:PySem.W.Frag}{mg:Str->Option Value}{base:Heap}
theorem ok_lnext {f:Addr}{fd:FuncData} (F:Fun K "_law_next" "_law_next" s_next f fd) (T:Tx mg) (c__law_needing:Cal P w K mg base CX0 1 "_law_needing" ["_law_facts_here","_law_word"] (spP K psLNeeding)) (c__law_barred:Cal P w K mg base CX0 1 "_law_barred" ["_law_facts_here","_law_word"] (spP K psLBarred)):FnOk P w K mg base CX0 2 f fd ["_law_facts_here","_law_claim"] (spP K psLNext):=by
 refine Fun.okP F sc_next (fun ds Q h=>?_) (fun cdv A outer s H E hr=>?_)
 ·obtain ⟨l,p,rfl,_⟩:=h
  rfl
 ·refine ⟨_,_,(dss_cons (ds_tgt (dv 1) (dg_tup (n:=2) rfl (dgs_cons (dg_name (own:=[2,3]) (i:=2) sc_next.nd rfl (by first | exact Or.inl rfl | exact Or.inr rfl)) (dgs_cons (dg_name (own:=[2,3]) (i:=3) sc_next.nd rfl (by first | exact Or.inl rfl | exact Or.inr rfl)) dgs_nil))))
   (dss_cons (ds_if (dt_eq hr (dv 3) de_str) (dss_one (ds_ret (de_lc (own:=[("_law_one",4)]) (by rfl) sc_next.nd (di_list (de_cal c__law_needing hr (da_cons (dv 0) (da_cons (dv 2) da_nil)))) (blkOk_by (own:=[("_law_one",4)]) (N:=["_law_facts_here","_law_claim","_law_word","_law_way","_law_one","_law_found"]) (sc:=defScope s_next) (by decide +kernel)) (fun _ _ _ _ _=>(dg_name (own:=_) (i:=4) sc_next.nd rfl (by first | exact Or.inl rfl | exact Or.inr rfl))) (fun _ _ _ _ _=>dts_nil) (fun _ _ _ _ _=>(de_tup (da_cons (dv 4) (da_cons de_str da_nil))))))) dss_nil)
   (dss_cons (ds_setLcF (i:=5) (own:=[("_law_one",4)]) (by rfl) sc_next.nd rfl rfl (sw_true rfl rfl rfl (by decide +kernel)) (di_tup (de_ix (de_dget hr (dv 0) (dv 2)) de_int (fun _ _=>rfl))) (blkOk_by (own:=[("_law_one",4)]) (N:=["_law_facts_here","_law_claim","_law_word","_law_way","_law_one","_law_found"]) (sc:=defScope s_next) (by decide +kernel)) (fun _ _ _ _ _=>(dg_name (own:=_) (i:=4) sc_next.nd rfl (by first | exact Or.inl rfl | exact Or.inr rfl))) (fun _ _ _ _ _=>(dts_one (dt_din hr (dv 4) (dv 0)))) (fun _ _ _ _ _=>(de_tup (da_cons (dv 4) (da_cons de_str da_nil)))))
   (dss_one (ds_ret (de_add (dv 5) (de_lc (own:=[("_law_one",4)]) (by rfl) sc_next.nd (di_list (de_cal c__law_barred hr (da_cons (dv 0) (da_cons (dv 2) da_nil)))) (blkOk_by (own:=[("_law_one",4)]) (N:=["_law_facts_here","_law_claim","_law_word","_law_way","_law_one","_law_found"]) (sc:=defScope s_next) (by decide +kernel)) (fun _ _ _ _ _=>(dg_name (own:=_) (i:=4) sc_next.nd rfl (by first | exact Or.inl rfl | exact Or.inr rfl))) (fun _ _ _ _ _=>dts_nil) (fun _ _ _ _ _=>(de_tup (da_cons (dv 4) (da_cons de_str da_nil))))))))))),fun ds Qd h=>?_⟩
  obtain ⟨l,⟨n,way⟩,rfl,hd,ok,q⟩:=h
  have hn:n∈nms l:=hd.nm
  obtain ⟨f,hf⟩:=lk_mem hn
  have hg:=getD_facts l n
  rw [hf] at hg
  have hw:PyData.strOk way=true:=by rcases hd.way with e | e <;> (simp only at e;rw [e];decide +kernel)
  simp only [prD,factsD]
  wtm_at "w"
  refine ⟨⟨hw,by decide +kernel⟩,?_⟩
  by_cases c:way=("off" : Str)
  ·rw [if_pos c]
   have ea:lNext l (n,way)=(needing l n).map fun o=>((o,"off"):Pr):=by unfold lNext;rw [if_pos c]
   refine ⟨l,n,rfl,hn,ok,?_⟩
   wtm_at "w"
   refine lcM D.str (needing l n) (fun o=>prD (o,"off")) rfl (by have:=needing_len ok n;omega) ?_ ?_
   ·intro i o ho L W1 W2 hL w1
    wtm_at "w"
    exact w1
   ·wtm_at "w"
    rw [ea,List.map_map] at q
    exact q
  ·rw [if_neg c]
   have ea:lNext l (n,way)=(((needsOf l n).filter fun o=>decide (o∈nms l)).map fun o=>((o,"on"):Pr)) ++ (barred l n).map fun o=>((o,"off"):Pr):=by unfold lNext;rw [if_neg c]
   have en:needsOf l n=f.needs:=by unfold needsOf;rw [hf]
   wtm_at "w"
   refine ⟨_,hg,?_⟩
   wtm_at "w"
   refine lcT D.str f.needs (fun o=>decide (o∈nms l)) (fun o=>prD (o,"on")) rfl (by have:=(ok.ok _ (lk_some hf)).needs.le;simp only at this;omega) ?_ ?_
   ·intro i o ho L W1 W2 hL w1 w2
    wtm_at "w"
    rw [getD_facts,Option.isSome_map,lk_isSome]
    by_cases hz:o∈nms l
    ·rw [decide_eq_true hz]
     exact ⟨hL,w1 (decide_eq_true hz)⟩
    ·rw [decide_eq_false hz]
     exact w2 (decide_eq_false hz)
   ·wtm_at "w"
    refine ⟨l,n,rfl,hn,ok,?_⟩
    wtm_at "w"
    refine lcM D.str (barred l n) (fun o=>prD (o,"off")) rfl (by have:=barred_len ok n;omega) ?_ ?_
    ·intro i o ho L W1 W2 hL w1
     wtm_at "w"
     exact w1
    ·wtm_at "w"
     have h1:=(ok.ok _ (lk_some hf)).needs.le
     have h2:=List.length_filter_le (fun o=>decide (o∈nms l)) f.needs
     have h3:=barred_len ok n
     refine ⟨by simp only at h1;omega,?_⟩
     rw [ea,en,List.map_append,List.map_map,List.map_map] at q
     exact q
end
end U
namespace U
open PySem L2
theorem Fol.ok {l:Facts}{dem:List Pr} (hd:∀ p∈dem,DemOk l p) {p:Pr} (h:Fol l dem p):DemOk l p:=by
 cases h with
 | here h=>exact hd p h
 | next _ h=>exact atOnce_ok h
theorem prs_sh {l:Facts} (ok:FactsOk l) {s:List Pr} (h:∀ p∈s,DemOk l p):(s.map prD).all (sh 11)=true:=by
 rw [List.all_eq_true]
 intro d hd
 obtain ⟨p,hp,rfl⟩:=List.mem_map.mp hd
 obtain ⟨h1,h2⟩:=h p hp
 have e1:=ok.strs _ h1
 have e2:PyData.strOk p.2=true:=by rcases h2 with e | e <;> (rw [e];decide +kernel)
 simp only [prD,sh_tup,List.all_cons,List.all_nil,sh_str,e1,e2,Bool.and_true]
theorem eq_prs (L:List Pr):eqD (.lst (L.map prD)) (.lst (L.map prD))=true:=by
 refine eqD_self (n:=3) ?_
 show (L.map prD).all (nob 2)=true
 rw [List.all_eq_true]
 intro d hd
 obtain ⟨x,_,rfl⟩:=List.mem_map.mp hd
 rfl
end U
namespace U
open PySem L2
theorem sc_are_demands:FnScope ["_law_told","_law_one"] ["_law_told"] (defScope s_are_demands):=⟨rfl,rfl,rfl,by decide +kernel,rfl,by decide +kernel,by decide +kernel⟩
def psAreDem:PSp:=fun ds Q=>∃ ps:List Pr,ds=[.lst (ps.map prD)]/\(∀ p∈ps,PyData.strOk p.2=true/\(p.2 = "on"\/p.2 = "off"))/\Q (.dat (.bl true))
local macro_rules | `(tactic| wtm_at "d") => `(tactic| simp -dsimp only [↓dSeq,↓dTup,↓dCons,↓dNil,↓dOp,↓dC,↓dgName,↓dRet,↓dVar,↓dCB,↓dIfS,↓dB,↓dOr,↓dNot,↓dFor,↓diL,↓dIsi,↓dNext,↓rdNe,↓rdIn,↓rdIx,↓rdLen,tkD_2,tkD_prD,Hold_dat,Hold_own,Hold_oK,Hold_oI,pur,Rd_dat,Rd_own,Rd_oI,Rn_dat,Rn_own,RN_non,RN_int,RN_str,RN_bl,RN_lst,RN_tup,RN_obj,RN_own,kD_int,kD_str,fO_dat,fO_own,f4_non,f4_int,f4_str,f4_bl,nO_non,nO_int,nO_str,nO_bl,nO_lst,nO_tup,nO_dK,fR_non,fR_int,fR_str,fR_bl,pR_dat,pR_own,pR_none,pR_bag,pR_oK,ty_list_non,ty_list_bl,ty_list_int,ty_list_str,ty_list_lst,ty_list_tup,ty_int_non,ty_int_bl,ty_int_int,ty_int_str,ty_int_lst,ty_int_tup,ty_bool_non,ty_bool_bl,ty_bool_int,ty_bool_str,ty_bool_lst,ty_bool_tup,ty_str_non,ty_str_bl,ty_str_int,ty_str_str,ty_str_lst,ty_str_tup,ty_tuple_non,ty_tuple_bl,ty_tuple_int,ty_tuple_str,ty_tuple_lst,ty_tuple_tup,ty_dict_non,ty_dict_bl,ty_dict_int,ty_dict_str,ty_dict_lst,ty_dict_tup,trues_add,trues_len,stE,wipeE,Bool.not_true,Bool.not_false,decide_true,decide_false,if_true,if_false,reduceIte,List.getElem?_cons_zero,List.getElem?_cons_succ,List.set_cons_zero,List.set_cons_succ,List.drop_succ_cons,List.drop_zero,List.map_nil,List.map_cons,List.nil_append,List.cons_append,List.length_cons,List.length_nil,List.replicate,List.getElem?_nil,D.int.injEq,D.bl.injEq,D.str.injEq,R.dat.injEq,exists_eq_left',true_and,and_true,Int.reduceToNat,Int.reducePow,Int.reduceNeg,Int.reduceAdd,Int.reduceMul,Nat.reduceAdd,Nat.reduceLeDiff,Nat.reduceLT,Nat.reduceSub,reduceCtorEq,cx_K,blk_K,nox_K,sh_int,sh_bl,sh_non,sh_str,sh_lst,sh_tup,List.all_cons,List.all_nil,Bool.and_true,Bool.true_and,eqD_int,eqD_str,eqD_bl,eqD_nn,eqD_ni,eqD_in,eqD_ns,eqD_sn,decide_eq_true_eq,decide_eq_false_iff_not,rngD_len,and_self,List.length_map,List.length_append,atI_0,atI_1,atI_2,atI_3,atI_4,atI_5,atI_6,atI_7,Option.some.injEq,Bool.false_eq_true,Bool.true_eq_false,strsT])
local macro_rules | `(tactic| wtm_at "side") => `(tactic| first | assumption | omega | (refine putD_lt0 ?_; (repeat refine putD_ltk ?_); decide) | exact cpow106 | exact cpow1018 | exact cmulL (by omega) (by omega) | exact cmulR (by omega) (by omega) | exact ⟨by omega, by omega⟩ | exact ⟨by assumption, by assumption⟩ | decide)
local macro_rules | `(tactic| wtm_at "s1") => `(tactic| first
 | ((with_reducible refine And.intro ?c ?_);(case c=>wtm_at "side"))
 | with_reducible refine menu2 (by omega) (by omega) ?_ | with_reducible refine menu3 (by omega) (by omega) ?_ | with_reducible refine menu4 (by omega) (by omega) ?_ | with_reducible refine menu5 (by omega) (by omega) ?_
 | (with_reducible intro _))
local macro_rules | `(tactic| wtm_at "w") => `(tactic| repeat (first | wtm_at "s1" | (wtm_at "d"; done) | wtm_at "d"))
section
variable {P:Program}{w:World}{K:PySem.W.Frag}{mg:Str->Option Value}{base:Heap}
theorem ok_areDem {f:Addr}{fd:FuncData} (F:Fun K "_law_are_demands" "_law_are_demands" s_are_demands f fd) (T:Tx mg):FnOk P w K mg base CX0 1 f fd ["_law_told"] (spP K psAreDem):=by
 refine Fun.okP F sc_are_demands (fun ds Q h=>?_) (fun cdv A outer s H E hr=>?_)
 ·obtain ⟨ps,rfl,_⟩:=h
  rfl
 ·refine ⟨_,_,(dss_cons (ds_if (dt_not (dt_val (de_isi kb_list (by rfl) T.n_isinstance (by rfl) T.n_list (by decide +kernel) (dv 0)))) (dss_one (ds_ret de_bl)) dss_nil)
   (dss_cons (ds_for PassesOwn.never rfl (di_list (dv 0)) (dg_name (own:=[1]) (i:=1) sc_are_demands.nd rfl (by first | exact Or.inl rfl | exact Or.inr rfl)) (dss_one (ds_if (DW.pt (dw_or (dt_not (dt_val (de_isi kb_tuple (by rfl) T.n_isinstance (by rfl) T.n_tuple (by decide +kernel) (dv 1)))) (dw_or (dt_ne hr (de_callB call_lenP sn_len (by rfl) T.n_len (by decide +kernel) (da_cons (dv 1) da_nil)) de_int) (dw_or (dt_not (dt_val (de_isi kb_str (by rfl) T.n_isinstance (by rfl) T.n_str (by decide +kernel) (de_ix (dv 1) de_int (fun _ _=>rfl))))) (dw_or1 (dt_notIn hr (de_ix (dv 1) de_int (fun _ _=>rfl)) (de_tup (da_cons de_str (da_cons de_str da_nil))))))))) (dss_one (ds_ret de_bl)) dss_nil)))
   (dss_one (ds_ret de_bl)))),fun ds Qd h=>?_⟩
  obtain ⟨ps,rfl,hp,q⟩:=h
  wtm_at "w"
  refine forL (fun i e=>∃ o:Option U.R,e=[some (.dat (.lst (ps.map prD))),o]) ⟨_,rfl⟩ ?_ ?_
  ·rintro i e x hx ⟨o,rfl⟩
   obtain ⟨⟨n,way⟩,h1,rfl⟩:=map_getD hx
   obtain ⟨hw,h2⟩:=hp _ (List.mem_of_getElem? h1)
   simp only [prD]
   wtm_at "w"
   rw [if_neg (by decide)]
   refine ⟨⟨rfl,by decide⟩,?_⟩
   have e:inD (D.str way) [D.str "on",D.str "off"]=true:=by
    rcases h2 with e | e
    ·have e:way = "on":=e
     subst e;decide +kernel
    ·have e:way = "off":=e
     subst e;decide +kernel
   rw [e]
   exact iteFB rfl ⟨_,rfl⟩
  ·rintro e ⟨o,rfl⟩
   wtm_at "w"
   exact q
end
end U
namespace U
open PySem L2
theorem sc_law:FnScope ["_law_script","_law_k","_law_bag_here","_law_facts_here","_law_made","_law_kept","_law_word","_law_way","_law_due","_law_told","_law_words"] ["_law_script"] (defScope s_law):=⟨rfl,rfl,rfl,by decide +kernel,rfl,by decide +kernel,by decide +kernel⟩
theorem dVar_hp6 {i:Nat}{env:En}{b:Bool}{a:Addr}{g:GH}{Q:U.R->En->Prop} (h0:env[i]? = some (some (.hp b a g))) (q:Q (.dat (.pt a)) env):dVar i env Q:=by unfold dVar;rw [h0];exact q
theorem lep_same12 {a b w:Str}:lep (a,w) (b,w)=true ↔ SLe a b:=by
 unfold lep ltp
 show (!(if b=a then decide (SLt w w) else decide (SLt b a)))=true ↔ ¬ SLt b a
 by_cases h:b=a
 ·subst h
  rw [if_pos rfl,decide_eq_false (SLt.irrefl w)]
  exact ⟨fun _=>SLt.irrefl b,fun _=>rfl⟩
 ·rw [if_neg h,Bool.not_eq_true',decide_eq_false_iff_not]
theorem at_srt {l:Facts}{p:Pr}:srtP (lNext l p)=atOnce l p:=by
 unfold lNext atOnce
 split
 ·refine (srtP_of ?_ (List.Perm.refl _)).symm
  rw [List.pairwise_map]
  exact ((srt_pw (nms l)).sublist List.filter_sublist).imp fun h=>lep_same12.mpr h
 ·rfl
theorem way_low {p:Pr} (h:p.2 = "on"\/p.2 = "off"):PyData.strOk p.2=true/\p.2.length<=100:=by
 rcases h with e | e <;> rw [e] <;> exact ⟨by decide +kernel,by decide +kernel⟩
abbrev Kp:=Addr × List Pr
def kpT (p:Kp):Str:=(pyd (.lst (p.2.map prD))).shown
def kpD (p:Kp):D:=.tup [.pt p.1,.str (kpT p)]
def kpS (p:Kp):D:=.tup [.lst (p.2.map prD),.str (kpT p)]
theorem seenK {L:Addr->MO->Prop}:∀ ps:List Kp,(∀ p∈ps,L p.1 (.lst (p.2.map prD)))->SnL L (ps.map kpS) (ps.map kpD)
 | [],_=>by simp only [List.map_nil,SnL]
 | p :: ps,h=>by
  simp only [List.map_cons,SnL]
  refine ⟨_,_,rfl,?_,seenK ps fun q hq=>h q (List.mem_cons_of_mem _ hq)⟩
  unfold kpS kpD
  simp only [SnD,SnL]
  exact .inr ⟨_,rfl,_,_,rfl,.inr ⟨p.1,_,rfl,h p (List.mem_cons_self ..),SnL.self _ _⟩,_,_,rfl,rfl,rfl⟩
theorem seen_kept {env:En}{j:Nat}{b:Bool}{a:Addr}{g:GH}{ls:List Addr} (e:env[j]? = some (some (.hp b a g))) {ps:List Kp} (hl:g a=some (.lst (ps.map kpD))) (h:∀ p∈ps,g p.1=some (.lst (p.2.map prD))):SnD (Lk env ls) (.lst (ps.map kpS)) (.pt a):=by
 simp only [SnD]
 exact .inr ⟨a,_,rfl,⟨⟨j,b,a,g,e,hl⟩,fun z=>by cases z⟩,seenK ps fun p hp=>⟨⟨j,b,a,g,e,h p hp⟩,fun z=>by cases z⟩⟩
structure KeptAt (g:GH) (L:Addr) (ps:List Kp):Prop where
 at_:g L=some (.lst (ps.map kpD))
 pl:∀ p∈ps,g p.1=some (.lst (p.2.map prD))/\p.1 ≠ L
local macro_rules | `(tactic| wtm_at "d") => `(tactic| simp -dsimp only [↓dSeq,↓dAsg,↓dLst,↓dTup,↓dCons,↓dNil,↓dOp,↓dC,↓dCalB,↓dgName,↓dgNameF,↓dDrop,↓dRet,↓dVar,↓dCB,↓dIfS,↓dB,↓dOr,↓dNot,↓dFor,↓dLc,↓dYes,↓diL,↓diT,↓diR1,↓dgTup,↓dgCons,↓dgNil,↓dCN,↓dNext,↓rdNe,↓rdIx,↓rdLen,↓rdMin2,↓rdMax2,↓rdSorted2,↓dMk1,↓rdAny,↓rdSortP,tkD_2,tkD_prD,Hold_dat,Hold_own,Hold_oK,Hold_oI,pur,Rd_dat,Rd_own,Rd_oI,Rn_dat,Rn_own,RN_non,RN_int,RN_str,RN_bl,RN_lst,RN_tup,RN_obj,RN_own,kD_int,kD_str,fO_dat,fO_own,f4_non,f4_int,f4_str,f4_bl,nO_non,nO_int,nO_str,nO_bl,nO_lst,nO_tup,nO_dK,fR_non,fR_int,fR_str,fR_bl,pR_dat,pR_own,pR_none,pR_bag,pR_oK,ty_list_non,ty_list_bl,ty_list_int,ty_list_str,ty_list_lst,ty_list_tup,ty_int_non,ty_int_bl,ty_int_int,ty_int_str,ty_int_lst,ty_int_tup,ty_bool_non,ty_bool_bl,ty_bool_int,ty_bool_str,ty_bool_lst,ty_bool_tup,ty_str_non,ty_str_bl,ty_str_int,ty_str_str,ty_str_lst,ty_str_tup,ty_tuple_non,ty_tuple_bl,ty_tuple_int,ty_tuple_str,ty_tuple_lst,ty_tuple_tup,ty_dict_non,ty_dict_bl,ty_dict_int,ty_dict_str,ty_dict_lst,ty_dict_tup,trues_add,trues_len,stE,wipeE,Bool.not_true,Bool.not_false,decide_true,decide_false,if_true,if_false,reduceIte,List.getElem?_cons_zero,List.getElem?_cons_succ,List.set_cons_zero,List.set_cons_succ,List.drop_succ_cons,List.drop_zero,List.map_nil,List.map_cons,List.nil_append,List.cons_append,List.length_cons,List.length_nil,List.replicate,List.getElem?_nil,D.int.injEq,D.bl.injEq,D.str.injEq,R.dat.injEq,exists_eq_left',true_and,and_true,Int.reduceToNat,Int.reducePow,Int.reduceNeg,Int.reduceAdd,Int.reduceMul,Nat.reduceAdd,Nat.reduceLeDiff,Nat.reduceLT,Nat.reduceSub,reduceCtorEq,cx_K,blk_K,nox_K,sh_int,sh_bl,sh_non,sh_str,sh_lst,sh_tup,List.all_cons,List.all_nil,Bool.and_true,Bool.true_and,eqD_int,eqD_str,eqD_bl,eqD_nn,eqD_ni,eqD_in,eqD_ns,eqD_sn,decide_eq_true_eq,decide_eq_false_iff_not,rngD_len,and_self,List.length_map,List.length_append,atI_0,atI_1,atI_2,atI_3,atI_4,atI_5,atI_6,atI_7,Option.some.injEq,Bool.false_eq_true,Bool.true_eq_false,bsTake,↓dSetBag,shelfD,keyD,rdRepr])
local macro_rules | `(tactic| wtm_at "side") => `(tactic| first | assumption | omega | (refine putD_lt0 ?_; (repeat refine putD_ltk ?_); decide) | exact cpow106 | exact cpow1018 | exact cmulL (by omega) (by omega) | exact cmulR (by omega) (by omega) | exact ⟨by omega, by omega⟩ | exact ⟨by assumption, by assumption⟩ | decide)
local macro_rules | `(tactic| wtm_at "s1") => `(tactic| first
 | ((with_reducible refine And.intro ?c ?_);(case c=>wtm_at "side"))
 | with_reducible refine menu2 (by omega) (by omega) ?_ | with_reducible refine menu3 (by omega) (by omega) ?_ | with_reducible refine menu4 (by omega) (by omega) ?_ | with_reducible refine menu5 (by omega) (by omega) ?_
 | (with_reducible intro _))
local macro_rules | `(tactic| wtm_at "w") => `(tactic| repeat (first | wtm_at "s1" | (wtm_at "d"; done) | wtm_at "d"))
local macro_rules | `(tactic| wtm_at "n") => `(tactic| simp -dsimp only [↓dgNameF,↓dgName,Hold_own,Hold_dat,fO_dat,fO_own,List.set_cons_zero,List.set_cons_succ])
section
variable {P:Program}{w:World}{K:PySem.W.Frag}{mg:Str->Option Value}{base:Heap}
theorem ok_law {f C CU CR fS:Addr}{fd fdS:FuncData} (F:Fun K "law" "law" s_law f fd) (T:Tx mg) (M_Shelf:Mk K C fS) (F_Shelf:FnOk P w K mg base CX0 1 fS fdS ["self","units"] (spI K C (isShelf CU))) (B_Shelf:Binds K fdS ["self","units"] []) (m_Shelf:mg "Shelf" = some (.ref C))
  (c__law_take:Cal P w K mg base CX0 1 "_law_take" ["_law_bag_here","_law_size"] (spB K bsTake)) (c__law_bag:Cal P w K mg base CX0 1 "_law_bag" ["_law_script","_law_at"] (spNB K nbBag)) (c__law_facts:Cal P w K mg base CX0 4 "_law_facts" ["_law_bag_here","_law_most"] (spB K bsFacts)) (c__law_units:Cal P w K mg base CX0 5 "_law_units" ["_law_facts_here"] (spP K (psUnits CU CR)))
  (c_at_once:Cal P w K mg base CX0 4 "at_once" ["shelf","demand"] (spP K (psAtOnce C CU CR))) (k_at_once:CalK P w K mg base 4 "at_once" ["shelf","demand"] ["demand","shelf"] List.reverse (spP K (psAtOnce C CU CR)))
  (c__law_next:Cal P w K mg base CX0 2 "_law_next" ["_law_facts_here","_law_claim"] (spP K psLNext)) (c__law_are_demands:Cal P w K mg base CX0 1 "_law_are_demands" ["_law_told"] (spP K psAreDem)):FnG P w K mg base CX0 9 f fd ["_law_script"] (spP K psLaw):=by
 refine Fun.okPG F sc_law (fun ds Q h=>?_) (fun cdv A outer s H E gd hr=>?_)
 ·obtain ⟨ns,rfl,_⟩:=h
  rfl
 ·have d_at_once:∀ (F:Hp) (ds:List D) (zs:List V),ds.length=(["demand","shelf"]:List Str).length->Dts K F ds zs->Dts K F ds.reverse zs.reverse:=fun _ _ _ _ h=>h.reverse
  refine ⟨_,_,(dss_cons (ds_for PassesOwn.never rfl (di_r1 (by rfl) T.n_range (da_cons (de_callB (call_maxA rfl) sn_max2 (by rfl) T.n_max (by decide +kernel) (da_cons de_int (da_cons (de_callB (call_minA rfl) sn_min2 (by rfl) T.n_min (by decide +kernel) (da_cons de_int (da_cons (de_callB call_lenP sn_len (by rfl) T.n_len (by decide +kernel) (da_cons (dv 0) da_nil)) da_nil))) da_nil))) da_nil)) (dg_name (own:=[1]) (i:=1) sc_law.nd rfl (by first | exact Or.inl rfl | exact Or.inr rfl)) (dss_cons (ds_setBag (i:=2) c__law_bag hr sc_law.nd rfl (by first | exact Or.inl rfl | exact Or.inr rfl) (da_cons (dv 0) (da_cons (dv 1) da_nil)))
   (dss_cons (ds_setF (i:=3) sc_law.nd rfl (by first | exact Or.inl rfl | exact Or.inr rfl) (de_calB c__law_facts hr (pv 2) (da_cons de_int da_nil)))
   (dss_cons (ds_setF (i:=4) sc_law.nd rfl (by first | exact Or.inl rfl | exact Or.inr rfl) (de_mk1 M_Shelf F_Shelf (hr.mono (by decide)) m_Shelf B_Shelf (da_cons (de_cal c__law_units hr (da_cons (dv 3) da_nil)) da_nil)))
   (dss_cons (ds_ghS 5 (ds_set (i:=5) sc_law.nd rfl (by first | exact Or.inl rfl | exact Or.inr rfl) (de_lst da_nil)))
   (dss_cons (ds_for PassesOwn.never rfl (di_list (de_callB (cr_sorted2 rfl) sn_sorted2 (by rfl) T.n_sorted (by decide +kernel) (da_cons (dv 3) da_nil))) (dg_name (own:=[6]) (i:=6) sc_law.nd rfl (by first | exact Or.inl rfl | exact Or.inr rfl)) (dss_one (ds_for PassesOwn.never rfl (di_tup (de_tup (da_cons de_str (da_cons de_str da_nil)))) (dg_name (own:=[7]) (i:=7) sc_law.nd rfl (by first | exact Or.inl rfl | exact Or.inr rfl)) (dss_cons (ds_setF (i:=8) sc_law.nd rfl (by first | exact Or.inl rfl | exact Or.inr rfl) (de_callB (cr_sortP rfl) sn_sortP (by rfl) T.n_sorted (by decide +kernel) (da_cons (de_cal c__law_next hr (da_cons (dv 3) (da_cons (de_tup (da_cons (dv 6) (da_cons (dv 7) da_nil))) da_nil))) da_nil)))
   (dss_cons (ds_set (i:=9) sc_law.nd rfl (by first | exact Or.inl rfl | exact Or.inr rfl) (de_cal c_at_once hr (da_cons (dv 4) (da_cons (de_tup (da_cons (dv 6) (da_cons (dv 7) da_nil))) da_nil))))
   (dss_cons (ds_if (dt_purV (DW.pt (dw_or (dt_not (dt_val (de_cal c__law_are_demands hr (da_cons (dv 9) da_nil)))) (dw_or (dt_ne hr (dv 9) (dv 8)) (dw_or1 (dt_ne hr (de_calK k_at_once hr d_at_once (dk_cons (de_tup (da_cons (dv 6) (da_cons (dv 7) da_nil))) (dk_cons (dv 4) dk_nil))) (dv 8))))))) (dss_one (ds_ret de_bl)) dss_nil)
   (dss_one (ds_mrS 5 9 (ds_expr (de_gh 9 (de_appP (dv 5) (de_tup (da_cons (dv 9) (da_cons (de_purV (de_callB (call_reprD gd hr) sn_repr (by rfl) T.n_repr (by decide +kernel) (da_cons (dv 9) da_nil))) da_nil))))))))))))))
   (dss_cons (ds_if (dt_purV (dt_val (de_callB (cr_any rfl) sn_any (by rfl) T.n_any (by decide +kernel) (da_cons (de_lc (own:=[("_law_told",9),("_law_words",10)]) (by rfl) sc_law.nd (di_list (dv 5)) (blkOk_by (own:=[("_law_told",9),("_law_words",10)]) (N:=["_law_script","_law_k","_law_bag_here","_law_facts_here","_law_made","_law_kept","_law_word","_law_way","_law_due","_law_told","_law_words"]) (sc:=defScope s_law) (by decide +kernel)) (fun _ _ _ _ _=>(dg_tup (n:=2) rfl (dgs_cons (dg_name (own:=_) (i:=9) sc_law.nd rfl (by first | exact Or.inl rfl | exact Or.inr rfl)) (dgs_cons (dg_name (own:=_) (i:=10) sc_law.nd rfl (by first | exact Or.inl rfl | exact Or.inr rfl)) dgs_nil)))) (fun _ _ _ _ _=>dts_nil) (fun _ _ _ _ _=>(de_ne hr (de_callB (call_reprD gd hr) sn_repr (by rfl) T.n_repr (by decide +kernel) (da_cons (dv 9) da_nil)) (dv 10)))) da_nil)))) (dss_one (ds_ret de_bl)) dss_nil)
   (dss_cons (ds_forP PassesOwn.never rfl (dv 5) (dg_tup (n:=2) rfl (dgs_cons (dg_name (own:=[9,10]) (i:=9) sc_law.nd rfl (by first | exact Or.inl rfl | exact Or.inr rfl)) (dgs_cons (dg_name (own:=[9,10]) (i:=10) sc_law.nd rfl (by first | exact Or.inl rfl | exact Or.inr rfl)) dgs_nil))) (dss_one (ds_expr (de_appP (dv 9) (de_tup (da_cons de_str (da_cons de_str da_nil)))))))
   (dss_cons (ds_setF (i:=6) sc_law.nd rfl (by first | exact Or.inl rfl | exact Or.inr rfl) (de_ix (de_callB (cr_sorted2 rfl) sn_sorted2 (by rfl) T.n_sorted (by decide +kernel) (da_cons (dv 3) da_nil)) (de_calB c__law_take hr (pv 2) (da_cons (de_callB call_lenP sn_len (by rfl) T.n_len (by decide +kernel) (da_cons (dv 3) da_nil)) da_nil)) (fun _ _=>rfl)))
   (dss_one (ds_if (dt_ne hr (de_cal c_at_once hr (da_cons (dv 4) (da_cons (de_tup (da_cons (dv 6) (da_cons de_str da_nil))) da_nil))) (de_callB (cr_sortP rfl) sn_sortP (by rfl) T.n_sorted (by decide +kernel) (da_cons (de_cal c__law_next hr (da_cons (dv 3) (da_cons (de_tup (da_cons (dv 6) (da_cons de_str da_nil))) da_nil))) da_nil))) (dss_one (ds_ret de_bl)) dss_nil)))))))))))
   (dss_one (ds_ret de_bl))),fun ds Qd h=>?_⟩
  obtain ⟨ns,rfl,hl,q⟩:=h
  wtm_at "w"
  refine forL (fun i e=>∃ o1 o2 o3 o4 o5 o6 o7 o8 o9 o10:Option U.R,e=[some (.dat (.sq (ns.map D.int))),o1,o2,o3,o4,o5,o6,o7,o8,o9,o10]) ⟨_,_,_,_,_,_,_,_,_,_,rfl⟩ ?_ ?_
  ·rintro i e x hx ⟨o1,o2,o3,o4,o5,o6,o7,o8,o9,o10,rfl⟩
   obtain ⟨hi,rfl⟩:=rng_get hx
   wtm_at "w"
   refine ⟨⟨ns,rfl,hl,by omega,by omega⟩,16,rfl,⟨by decide,by decide,by decide⟩,fun l n1 ok hl1 _ hn1=>?_⟩
   have hle:=ok.le
   wtm_at "w"
   refine ⟨l,rfl,ok,?_⟩
   wtm_at "w"
   refine isShelf_of ok ?_
   simp only [factsD]
   refine ⟨Nat.zero_le _,⟨rfl,rfl⟩,fun L gg hgg=>?_⟩
   obtain ⟨g,eg,ka⟩:∃ g:GH,g=gg/\KeptAt g L []:=⟨gg,rfl,by obtain rfl:gg=gset gN L (.lst []):=hgg;exact ⟨gset_same,fun p hp=>by cases hp⟩⟩
   subst eg
   clear hgg
   wtm_at "w"
   have nok:∀ x∈nms l,PyData.strOk x=true/\x.length<=100:=fun x hx=>by
    obtain ⟨p,hp,rfl⟩:=List.mem_map.mp hx
    exact ⟨(ok.nm p hp).ok,by have:=(ok.nm p hp).len;omega⟩
   have shd:∀ p:Pr,DemOk l p->ShOk (.lst ((atOnce l p).map prD))/\(atOnce l p).length<=40/\soD (.lst ((atOnce l p).map prD))=true:=fun p hd=>by
    have hl:(atOnce l p).length<=40:=by
     rw [<-at_srt,srtP_len]
     have h1:=needing_len ok p.1
     have h2:=barred_len ok p.1
     unfold lNext
     split
     ·rw [List.length_map];omega
     ·obtain ⟨f,hf⟩:=lk_mem hd.nm
      have h3:(needsOf l p.1).length<=8:=by unfold needsOf;rw [hf];exact (ok.ok _ (lk_some hf)).needs.le
      have h4:=List.length_filter_le (fun o=>decide (o∈nms l)) (needsOf l p.1)
      rw [List.length_append,List.length_map,List.length_map];omega
    exact ⟨shOk_pairs (fun q hq=>⟨(nok _ (atOnce_ok hq).nm).1,(way_low (atOnce_ok hq).way).1⟩) (fun q hq=>⟨(nok _ (atOnce_ok hq).nm).2,(way_low (atOnce_ok hq).way).2⟩) hl,hl,by
     simp only [soD]
     refine soDs_all fun x hx=>?_
     obtain ⟨q,hq,rfl⟩:=List.mem_map.mp hx
     simp only [prD,soD,soDs,(nok _ (atOnce_ok hq).nm).1,(way_low (atOnce_ok hq).way).1,Bool.and_self]⟩
   have hsl:(srt (nms l)).length=l.length:=by rw [srt_len,nms_len]
   refine ⟨nms l,facts_keys l,by rw [nms_len];omega,?_⟩
   refine forL (fun t e=>∃ (g:GH) (ps:List Kp) (o6 o7 o8 o9:Option U.R),e=[some (.dat (.sq (ns.map D.int))),some (.dat (.int (0+(i:Nat)))),some (.bag n1),some (.dat (.dK (factsK l))),some (.dat (.obj C (shelfF CU CR l))),some (.hp false L g),o6,o7,o8,o9,o10]/\KeptAt g L ps/\ps.length<=2 * t/\∀ p∈ps,ShOk (.lst (p.2.map prD))/\p.2.length<=40/\soD (.lst (p.2.map prD))=true) ⟨g,[],_,_,_,_,rfl,ka,by simp,fun p hp=>by cases hp⟩ ?_ ?_
   ·rintro t e x hx ⟨g,ps,o6,o7,o8,o9,rfl,ka,hpl,hps⟩
    obtain ⟨wd,hw,rfl⟩:=map_getD hx
    have hwn:wd∈nms l:=srt_mem.mp (List.mem_of_getElem? hw)
    have ht:=get_lt hw
    wtm_at "w"
    refine forL (fun u e=>∃ (g:GH) (ps:List Kp) (o7 o8 o9:Option U.R),e=[some (.dat (.sq (ns.map D.int))),some (.dat (.int (0+(i:Nat)))),some (.bag n1),some (.dat (.dK (factsK l))),some (.dat (.obj C (shelfF CU CR l))),some (.hp false L g),some (.dat (.str wd)),o7,o8,o9,o10]/\KeptAt g L ps/\ps.length<=2 * t+u/\∀ p∈ps,ShOk (.lst (p.2.map prD))/\p.2.length<=40/\soD (.lst (p.2.map prD))=true) ⟨g,ps,_,_,_,rfl,ka,by omega,hps⟩ ?_ ?_
    ·rintro u e x hx ⟨g,ps,o7,o8,o9,rfl,ka,hpl,hps⟩
     obtain ⟨way,hx2,hway⟩:∃ way:Str,x = .str way/\(way = "on"\/way = "off"):=by
      match u,hx with
      | 0,hx=>exact ⟨"on",(Option.some.inj hx).symm,.inl rfl⟩
      | 1,hx=>exact ⟨"off",(Option.some.inj hx).symm,.inr rfl⟩
      | u+2,hx=>simp at hx
     have hu:u < 2:=get_lt hx
     subst hx2
     have hd:DemOk l (wd,way):=⟨hwn,hway⟩
     obtain ⟨sh1,sh2⟩:=shd _ hd
     wtm_at "n"
     refine dSeq_cut (fun e=>e=[some (.dat (.sq (ns.map D.int))),some (.dat (.int (0+(i:Nat)))),some (.bag n1),some (.dat (.dK (factsK l))),some (.dat (.obj C (shelfF CU CR l))),some (.hp false L g),some (.dat (.str wd)),some (.dat (.str way)),some (.dat (.lst ((atOnce l (wd,way)).map prD))),o9,o10]) ?_ ?_
     ·intro V hV
      wtm_at "w"
      refine ⟨l,(wd,way),rfl,hd,ok,?_⟩
      wtm_at "w"
      refine ⟨lNext l (wd,way),rfl,?_⟩
      rw [at_srt]
      exact hV _ rfl
     rintro e rfl
     refine dSeq_cut (fun e=>e=[some (.dat (.sq (ns.map D.int))),some (.dat (.int (0+(i:Nat)))),some (.bag n1),some (.dat (.dK (factsK l))),some (.dat (.obj C (shelfF CU CR l))),some (.hp false L g),some (.dat (.str wd)),some (.dat (.str way)),some (.dat (.lst ((atOnce l (wd,way)).map prD))),some (.own ((atOnce l (wd,way)).map prD)),o10]) ?_ ?_
     ·intro V hV
      wtm_at "w"
      refine ⟨l,(wd,way),rfl,hd,ok,?_⟩
      exact hV _ rfl
     rintro e rfl
     refine dSeq_cut (fun e=>e=[some (.dat (.sq (ns.map D.int))),some (.dat (.int (0+(i:Nat)))),some (.bag n1),some (.dat (.dK (factsK l))),some (.dat (.obj C (shelfF CU CR l))),some (.hp false L g),some (.dat (.str wd)),some (.dat (.str way)),some (.dat (.lst ((atOnce l (wd,way)).map prD))),some (.own ((atOnce l (wd,way)).map prD)),o10]) ?_ ?_
     ·intro V hV
      refine ⟨[],[none,none,none,none,some (.dat (.obj C (shelfF CU CR l))),none,some (.dat (.str wd)),some (.dat (.str way)),some (.dat (.lst ((atOnce l (wd,way)).map prD))),some (.dat (.lst ((atOnce l (wd,way)).map prD))),none],fun p hp=>(by cases hp),?_,?_⟩
      ·cases o10 <;> exact ⟨SnD.self _ _,SnD.self _ _,SnD.self _ _,SnD.self _ _,⟨_,rfl,SnL.self _ _⟩,trivial⟩
      ·wtm_at "w"
       have shp:=prs_sh ok (s:=atOnce l (wd,way)) fun q hq=>atOnce_ok hq
       refine ⟨atOnce l (wd,way),rfl,fun p hp=>⟨(way_low (atOnce_ok hp).way).1,(atOnce_ok hp).way⟩,?_⟩
       wtm_at "w"
       refine iteFB (by rw [eq_prs];rfl) ⟨l,(wd,way),rfl,hd,ok,?_⟩
       wtm_at "w"
       exact iteFB (by rw [eq_prs];rfl) (hV _ rfl)
     rintro e rfl
     refine ⟨⟨rfl,rfl⟩,fun p gg hgg=>?_⟩
     obtain rfl:gg=gset gN p (.lst ((atOnce l (wd,way)).map prD)):=hgg
     refine dVar_hp6 rfl ⟨L,rfl,⟨_,5,false,L,g,rfl,ka.at_⟩,?_⟩
     unfold dTup dCons
     refine dVar_hp6 (i:=9) (b:=false) (a:=p) (g:=gset gN p (.lst ((atOnce l (wd,way)).map prD))) rfl ?_
     refine ⟨[],[none,none,none,none,none,none,none,none,none,some (.dat (.lst ((atOnce l (wd,way)).map prD))),none],fun p hp=>(by cases hp),?_,?_⟩
     ·have s1:SnD (Lk ([some (.dat (.sq (ns.map D.int))),some (.dat (.int (0+(i:Nat)))),some (.bag n1),some (.dat (.dK (factsK l))),some (.dat (.obj C (shelfF CU CR l))),some (.hp false L g),some (.dat (.str wd)),some (.dat (.str way)),some (.dat (.lst ((atOnce l (wd,way)).map prD))),some (.hp false p (gset gN p (.lst ((atOnce l (wd,way)).map prD)))),o10]:En) []) (.lst ((atOnce l (wd,way)).map prD)) (.pt p):=by
       simp only [SnD]
       exact .inr ⟨p,_,rfl,⟨⟨9,false,p,_,rfl,gset_same⟩,fun z=>by cases z⟩,SnL.self _ _⟩
      cases o10 <;> exact ⟨s1,trivial⟩
     ·wtm_at "w"
      rw [hsl] at ht
      refine ⟨rfl,ps.map kpD,5,false,L,g,⟨rfl,ka.at_⟩,by rw [List.length_map];omega,L,p,_,_,by decide,rfl,rfl,fun ap=>?_⟩
      have gp0:=ap p (by rw [gset_same];rfl)
      have pL:p ≠ L:=fun z=>by rw [z,gset_same] at gp0;cases gp0
      have gp:g p=none:=by rwa [gset_ne pL] at gp0
      rw [gun_one]
      refine ⟨_,ps ++ [(p,atOnce l (wd,way))],_,_,_,rfl,⟨?_,fun q hq=>?_⟩,by rw [List.length_append,List.length_singleton];omega,fun q hq=>?_⟩
      ·rw [gset_ne (Ne.symm pL),gset_same,List.map_append];rfl
      ·rcases List.mem_append.mp hq with hq | hq
       ·obtain ⟨q1,q2⟩:=ka.pl q hq
        refine ⟨?_,q2⟩
        rw [gset_ne (fun z=>by rw [z,gp] at q1;cases q1),gset_ne q2]
        exact q1
       ·rw [List.mem_singleton.mp hq]
        exact ⟨gset_same,pL⟩
      ·rcases List.mem_append.mp hq with hq | hq
       ·exact hps q hq
       ·rw [List.mem_singleton.mp hq]
        exact ⟨sh1,sh2⟩
    ·rintro e ⟨g,ps,o7,o8,o9,rfl,ka,hpl,hps⟩
     have hpl:ps.length<=2 * t+2:=hpl
     exact ⟨g,ps,_,_,_,_,rfl,ka,by omega,hps⟩
   ·rintro e ⟨g,ps,o6,o7,o8,o9,rfl,ka,hpl,hps⟩
    rw [List.length_map,hsl] at hpl
    dsimp only
    refine dSeq_cut (fun e=>e=[some (.dat (.sq (ns.map D.int))),some (.dat (.int (0+(i:Nat)))),some (.bag n1),some (.dat (.dK (factsK l))),some (.dat (.obj C (shelfF CU CR l))),some (.hp false L g),o6,o7,o8,o9,o10]) ?_ ?_
    ·intro V hV
     refine ⟨[],[none,none,none,none,none,some (.dat (.lst (ps.map kpS))),none,none,none,none,none],fun p hp=>(by cases hp),?_,?_⟩
     ·have s1:=seen_kept (env:=[some (.dat (.sq (ns.map D.int))),some (.dat (.int (0+(i:Nat)))),some (.bag n1),some (.dat (.dK (factsK l))),some (.dat (.obj C (shelfF CU CR l))),some (.hp false L g),o6,o7,o8,o9,o10]) (j:=5) (b:=false) (ls:=[]) rfl ka.at_ fun p hp=>(ka.pl p hp).1
      cases o6 <;> cases o7 <;> cases o8 <;> cases o9 <;> cases o10 <;> exact ⟨s1,trivial⟩
     ·wtm_at "w"
      refine lcM kpS ps (fun _=>.bl false) rfl (by have:=ok.le;omega) ?_ ?_
      ·intro j2 p hp L2 W1 W2 hL h1
       unfold kpS
       wtm_at "w"
       obtain ⟨sh1,_,so⟩:=hps p (List.mem_of_getElem? hp)
       have so:=shown_ok _ so
       refine ⟨sh1,⟨so,so⟩,hL,?_⟩
       rw [decide_eq_true (show (pyd (D.lst (p.2.map prD))).shown=kpT p from rfl)]
       exact h1
      ·wtm_at "w"
       refine ⟨ps.map fun _=>false,by rw [List.map_map];rfl,?_⟩
       rw [if_neg (by rw [List.any_map];simp)]
       exact hV _ rfl
    rintro e rfl
    refine dSeq_cut (fun e=>∃ (g:GH) (o9 o10:Option U.R),e=[some (.dat (.sq (ns.map D.int))),some (.dat (.int (0+(i:Nat)))),some (.bag n1),some (.dat (.dK (factsK l))),some (.dat (.obj C (shelfF CU CR l))),some (.hp false L g),o6,o7,o8,o9,o10]) ?_ ?_
    ·intro V hV
     refine dVar_hp6 rfl ⟨L,_,rfl,⟨5,false,L,g,rfl,ka.at_⟩,fun k e=>∃ (g:GH) (o9 o10:Option U.R),e=[some (.dat (.sq (ns.map D.int))),some (.dat (.int (0+(i:Nat)))),some (.bag n1),some (.dat (.dK (factsK l))),some (.dat (.obj C (shelfF CU CR l))),some (.hp false L g),o6,o7,o8,o9,o10]/\g L=some (.lst (ps.map kpD))/\∀ p∈ps,p.1 ≠ L/\∃ xs:List D,g p.1=some (.lst xs)/\xs.length<=40+k,?_,?_,?_,?_⟩
     ·exact ⟨g,_,_,rfl,ka.at_,fun p hp=>⟨(ka.pl p hp).2,_,(ka.pl p hp).1,by rw [List.length_map];exact (hps p hp).2.1⟩⟩
     ·rintro k e ⟨g,o9,o10,rfl,gL,_⟩
      exact ⟨5,false,L,g,rfl,gL⟩
     ·rintro k e x hx ⟨g,o9,o10,rfl,gL,hp⟩
      obtain ⟨p,hpk,rfl⟩:=map_getD hx
      obtain ⟨pL,xs,gp,hxl⟩:=hp p (List.mem_of_getElem? hpk)
      have hk:=get_lt hpk
      have hle:=ok.le
      unfold kpD
      wtm_at "w"
      refine ⟨p.1,rfl,⟨xs,5,false,L,g,rfl,gp⟩,?_⟩
      unfold dTup dCons dNil
      refine ⟨by decide,xs,5,false,L,g,⟨rfl,gp⟩,by omega,_,_,_,rfl,?_,fun q hq=>?_⟩
      ·rw [gset_ne (Ne.symm pL)];exact gL
      ·obtain ⟨qL,ys,gq,hy⟩:=hp q hq
       refine ⟨qL,?_⟩
       by_cases e:q.1=p.1
       ·rw [e,gset_same]
        exact ⟨_,rfl,by rw [List.length_append,List.length_singleton];omega⟩
       ·rw [gset_ne e]
        exact ⟨ys,gq,by omega⟩
     ·rintro e ⟨g,o9,o10,rfl,gL,_⟩
      exact hV _ ⟨g,_,_,rfl⟩
    rintro e ⟨g,o9,o10,rfl⟩
    wtm_at "w"
    have factsK_len:(factsK l).length=l.length:=List.length_map ..
    refine ⟨nms l,facts_keys l,by rw [nms_len];omega,⟨by rw [factsK_len];omega,by rw [factsK_len];omega,by omega⟩,fun v v0 v1=>?_⟩
    rw [factsK_len] at v1
    obtain ⟨w0,hw0⟩:∃ w0,(srt (nms l))[v.toNat]? = some w0:=⟨_,List.getElem?_eq_getElem (by omega)⟩
    have hwn:w0∈nms l:=srt_mem.mp (List.mem_of_getElem? hw0)
    have at0:atI ((srt (nms l)).map D.str) v=some (.str w0):=by
     rw [atI_nn v0 (by rw [List.length_map];omega),<-List.getElem?_eq_getElem,List.getElem?_map]
     show ((srt (nms l))[v.toNat]?).map D.str=_
     rw [hw0];rfl
    have hd:DemOk l (w0,"on"):=⟨hwn,.inl rfl⟩
    refine ⟨_,at0,l,(w0,"on"),rfl,hd,ok,?_⟩
    wtm_at "w"
    refine ⟨l,(w0,"on"),rfl,hd,ok,?_⟩
    wtm_at "w"
    refine ⟨lNext l (w0,"on"),rfl,?_⟩
    rw [at_srt]
    have shp:=prs_sh ok (s:=atOnce l (w0,"on")) fun q hq=>atOnce_ok hq
    wtm_at "w"
    exact iteFB (by rw [eq_prs];rfl) ⟨_,_,_,_,_,_,_,_,_,_,rfl⟩
  ·rintro e ⟨o1,o2,o3,o4,o5,o6,o7,o8,o9,o10,rfl⟩
   wtm_at "w"
   exact q
end
end U
namespace U
open PySem PyProof.Rows L2
open Z
theorem facts {P:Program}{w:World}{K:PySem.W.Frag}{h:Heap}{mg:Str->Option Value}{f:Addr} (X:K.In h) (G:h.Ns mainGlobals mg) (hfa:mg ("law" : Str)=some (.ref f)) (c:He.SaysD fa fn K) :
  ∃ fd:FuncData,(∀ (s:Shared) (v:Value),BindsTo s fd ⟨[v],[]⟩ [("_law_script",v)])/\∀ base:Heap,K.In base->base.Ns mainGlobals mg->FnG P w K mg base CX0 9 f fd ["_law_script"] (spP K psLaw):=by
 obtain ⟨fd0,F0⟩:=c.def_ 0 (d:=d_take) rfl
 obtain ⟨fd1,F1⟩:=c.def_ 1 (d:=d_bag) rfl
 obtain ⟨fd2,F2⟩:=c.def_ 2 (d:=d_name) rfl
 obtain ⟨fd3,F3⟩:=c.def_ 3 (d:=d_names) rfl
 obtain ⟨fd4,F4⟩:=c.def_ 4 (d:=d_rule_parts) rfl
 obtain ⟨fd5,F5⟩:=c.def_ 5 (d:=d_some) rfl
 obtain ⟨fd6,F6⟩:=c.def_ 6 (d:=d_facts) rfl
 obtain ⟨fd7,F7⟩:=c.def_ 7 (d:=d_Rule_init) rfl
 obtain ⟨fd8,F8⟩:=c.def_ 8 (d:=d_rule) rfl
 obtain ⟨fd9,F9⟩:=c.def_ 9 (d:=d_Unit_init) rfl
 obtain ⟨fd10,F10⟩:=c.def_ 10 (d:=d_unit) rfl
 obtain ⟨fd11,F11⟩:=c.def_ 11 (d:=d_units) rfl
 obtain ⟨fd12,F12⟩:=c.def_ 12 (d:=d_Shelf_init) rfl
 obtain ⟨fd13,F13⟩:=c.def_ 13 (d:=d_Shelf_names) rfl
 obtain ⟨fd14,F14⟩:=c.def_ 14 (d:=d_Shelf_has) rfl
 obtain ⟨fd15,F15⟩:=c.def_ 15 (d:=d_Shelf_unit) rfl
 obtain ⟨fd16,F16⟩:=c.def_ 16 (d:=d_Shelf_needing) rfl
 obtain ⟨fd17,F17⟩:=c.def_ 17 (d:=d_Shelf_barred) rfl
 obtain ⟨fd18,F18⟩:=c.def_ 18 (d:=d_at_once) rfl
 obtain ⟨fd19,F19⟩:=c.def_ 19 (d:=d_needing) rfl
 obtain ⟨fd20,F20⟩:=c.def_ 20 (d:=d_barred) rfl
 obtain ⟨fd21,F21⟩:=c.def_ 21 (d:=d_next) rfl
 obtain ⟨fd22,F22⟩:=c.def_ 22 (d:=d_are_demands) rfl
 obtain ⟨fd23,F23⟩:=c.def_ 23 (d:=d_law) rfl
 have e:=hfa.symm.trans (He.glo_ok X G (c.fact 55 (f:=.glo "law") rfl))
 cases e
 have b:=FunD.bindsA (ps:=["_law_script"]) F23 fun _ _ _ _ _ _ us hl=>match us,hl with | [_],_=>rfl
 refine ⟨fd23,fun s v=>b s [v] rfl,fun base _ _=>?_⟩
 have T:Tx mg:=⟨He.free_ok X G (c.fact 0 (f:=.free "abs") rfl),He.free_ok X G (c.fact 1 (f:=.free "any") rfl),He.free_ok X G (c.fact 2 (f:=.free "int") rfl),He.free_ok X G (c.fact 3 (f:=.free "isinstance") rfl),He.free_ok X G (c.fact 4 (f:=.free "len") rfl),He.free_ok X G (c.fact 5 (f:=.free "list") rfl),He.free_ok X G (c.fact 6 (f:=.free "max") rfl),He.free_ok X G (c.fact 7 (f:=.free "min") rfl),He.free_ok X G (c.fact 8 (f:=.free "range") rfl),He.free_ok X G (c.fact 9 (f:=.free "repr") rfl),He.free_ok X G (c.fact 10 (f:=.free "sorted") rfl),He.free_ok X G (c.fact 11 (f:=.free "str") rfl),He.free_ok X G (c.fact 12 (f:=.free "tuple") rfl)⟩
 have o__law_take:=ok_take (P:=P) (w:=w) (mg:=mg) (base:=base) (toFun (st:=s_take) F0)
 have c__law_take:=cal_of o__law_take (He.glo_ok X G (c.fact 13 (f:=.glo "_law_take") rfl)) F0.kp (FunD.bindsN F0 fun _ _ _ _ _ _ us hl=>match us,hl with | [_,_],_=>rfl)
 have o__law_bag:=ok_bag (P:=P) (w:=w) (mg:=mg) (base:=base) (toFun (st:=s_bag) F1) T
 have c__law_bag:=cal_of o__law_bag (He.glo_ok X G (c.fact 14 (f:=.glo "_law_bag") rfl)) F1.kp (FunD.bindsN F1 fun _ _ _ _ _ _ us hl=>match us,hl with | [_,_],_=>rfl)
 have o__law_name:=ok_name (P:=P) (w:=w) (mg:=mg) (base:=base) (toFun (st:=s_name) F2) T c__law_take
 have c__law_name:=cal_of o__law_name (He.glo_ok X G (c.fact 15 (f:=.glo "_law_name") rfl)) F2.kp (FunD.bindsN F2 fun _ _ _ _ _ _ us hl=>match us,hl with | [_],_=>rfl)
 have o__law_names:=ok_names (P:=P) (w:=w) (mg:=mg) (base:=base) (toFun (st:=s_names) F3) T c__law_name
 have c__law_names:=cal_of o__law_names (He.glo_ok X G (c.fact 16 (f:=.glo "_law_names") rfl)) F3.kp (FunD.bindsN F3 fun _ _ _ _ _ _ us hl=>match us,hl with | [_,_],_=>rfl)
 have o__law_rule_parts:=ok_parts (P:=P) (w:=w) (mg:=mg) (base:=base) (toFun (st:=s_rule_parts) F4) T c__law_take
 have c__law_rule_parts:=cal_of o__law_rule_parts (He.glo_ok X G (c.fact 17 (f:=.glo "_law_rule_parts") rfl)) F4.kp (FunD.bindsN F4 fun _ _ _ _ _ _ us hl=>match us,hl with | [_],_=>rfl)
 have o__law_some:=ok_some (P:=P) (w:=w) (mg:=mg) (base:=base) (toFun (st:=s_some) F5) T c__law_take
 have c__law_some:=cal_of o__law_some (He.glo_ok X G (c.fact 18 (f:=.glo "_law_some") rfl)) F5.kp (FunD.bindsN F5 fun _ _ _ _ _ _ us hl=>match us,hl with | [_,_,_],_=>rfl)
 have o__law_facts:=ok_facts (P:=P) (w:=w) (mg:=mg) (base:=base) (toFun (st:=s_facts) F6) T c__law_take c__law_names c__law_some c__law_rule_parts
 have c__law_facts:=cal_of o__law_facts (He.glo_ok X G (c.fact 19 (f:=.glo "_law_facts") rfl)) F6.kp (FunD.bindsN F6 fun _ _ _ _ _ _ us hl=>match us,hl with | [_,_],_=>rfl)
 have RT:RuleT K mg (He.ga K "Rule"):=⟨⟨(He.cls_ok (c.fact 20 (f:=.cls "Rule") rfl)),(He.noat_ok (c.fact 21 (f:=.noat "Rule" "first") rfl))⟩,⟨(He.cls_ok (c.fact 20 (f:=.cls "Rule") rfl)),(He.noat_ok (c.fact 22 (f:=.noat "Rule" "times") rfl))⟩,⟨(He.cls_ok (c.fact 20 (f:=.cls "Rule") rfl)),(He.noat_ok (c.fact 23 (f:=.noat "Rule" "top") rfl))⟩,⟨(He.cls_ok (c.fact 20 (f:=.cls "Rule") rfl)),(He.noat_ok (c.fact 24 (f:=.noat "Rule" "burst") rfl))⟩,⟨(He.cls_ok (c.fact 20 (f:=.cls "Rule") rfl)),(He.noat_ok (c.fact 25 (f:=.noat "Rule" "span") rfl))⟩,(He.glo_ok X G (c.fact 26 (f:=.glo "Rule") rfl))⟩
 have oR:=ok_Rule_init (P:=P) (w:=w) (mg:=mg) (base:=base) (toFun (st:=s_Rule_init) F7) RT
 have kR:KBn K fd7 ["self","first","times","top","burst","span"] 1 ["first","times","top","burst","span"] (fun us ws=>us ++ ws) (fun us ws=>us ++ ws):=kb_of (g:=fun us ws=>us ++ ws) (st:=s_Rule_init) F7 (fun _ _ _ _ _ _ us ws h1 h2=>match us,ws,h1,h2 with | [_],[_,_,_,_,_],_,_=>rfl) (fun h1 h2=>h1.append h2)
 have o__law_rule:=ok_rule (P:=P) (w:=w) (mg:=mg) (base:=base) (toFun (st:=s_rule) F8) RT (He.mkr_ok (c.fact 27 (f:=.mkr "Rule") rfl)) oR kR
 have c__law_rule:=cal_of o__law_rule (He.glo_ok X G (c.fact 28 (f:=.glo "_law_rule") rfl)) F8.kp (FunD.bindsN F8 fun _ _ _ _ _ _ us hl=>match us,hl with | [_],_=>rfl)
 have UT:UnitT K mg (He.ga K "Unit"):=⟨⟨(He.cls_ok (c.fact 29 (f:=.cls "Unit") rfl)),(He.noat_ok (c.fact 30 (f:=.noat "Unit" "name") rfl))⟩,⟨(He.cls_ok (c.fact 29 (f:=.cls "Unit") rfl)),(He.noat_ok (c.fact 31 (f:=.noat "Unit" "kind") rfl))⟩,⟨(He.cls_ok (c.fact 29 (f:=.cls "Unit") rfl)),(He.noat_ok (c.fact 32 (f:=.noat "Unit" "needs") rfl))⟩,⟨(He.cls_ok (c.fact 29 (f:=.cls "Unit") rfl)),(He.noat_ok (c.fact 33 (f:=.noat "Unit" "wants") rfl))⟩,⟨(He.cls_ok (c.fact 29 (f:=.cls "Unit") rfl)),(He.noat_ok (c.fact 34 (f:=.noat "Unit" "bars") rfl))⟩,⟨(He.cls_ok (c.fact 29 (f:=.cls "Unit") rfl)),(He.noat_ok (c.fact 35 (f:=.noat "Unit" "after") rfl))⟩,⟨(He.cls_ok (c.fact 29 (f:=.cls "Unit") rfl)),(He.noat_ok (c.fact 36 (f:=.noat "Unit" "opens") rfl))⟩,⟨(He.cls_ok (c.fact 29 (f:=.cls "Unit") rfl)),(He.noat_ok (c.fact 37 (f:=.noat "Unit" "rule") rfl))⟩,(He.glo_ok X G (c.fact 38 (f:=.glo "Unit") rfl))⟩
 have oU:=ok_Unit_init (P:=P) (w:=w) (mg:=mg) (base:=base) (toFun (st:=s_Unit_init) F9) UT
 have kU:KBn K fd9 ["self","name","kind","needs","wants","bars","after","opens","rule"] 2 uKs (fun us ws=>us ++ ws) (fun us ws=>us ++ ws):=kb_of (g:=fun us ws=>us ++ ws) (st:=s_Unit_init) F9 (fun _ _ _ _ _ _ us ws h1 h2=>match us,ws,h1,h2 with | [_,_],[_,_,_,_,_,_,_],_,_=>rfl) (fun h1 h2=>h1.append h2)
 have o__law_unit:=ok_unit (P:=P) (w:=w) (mg:=mg) (base:=base) (toFun (st:=s_unit) F10) UT (He.mkr_ok (c.fact 39 (f:=.mkr "Unit") rfl)) oU kU c__law_rule
 have c__law_unit:=cal_of o__law_unit (He.glo_ok X G (c.fact 40 (f:=.glo "_law_unit") rfl)) F10.kp (FunD.bindsN F10 fun _ _ _ _ _ _ us hl=>match us,hl with | [_,_],_=>rfl)
 have o__law_units:=ok_units (P:=P) (w:=w) (mg:=mg) (base:=base) (toFun (st:=s_units) F11) c__law_unit
 have c__law_units:=cal_of o__law_units (He.glo_ok X G (c.fact 41 (f:=.glo "_law_units") rfl)) F11.kp (FunD.bindsN F11 fun _ _ _ _ _ _ us hl=>match us,hl with | [_],_=>rfl)
 have ST:ShelfT K mg (He.ga K "Shelf"):=⟨(He.cls_ok (c.fact 42 (f:=.cls "Shelf") rfl)),(He.noat_ok (c.fact 43 (f:=.noat "Shelf" "by_name") rfl)),(He.int_ok X G (c.fact 44 (f:=.int "MOST" 16) rfl))⟩
 have oS:=ok_Shelf_init (P:=P) (w:=w) (mg:=mg) (base:=base) F12 ST UT T
 have bS:Binds K fd12 ["self","units"] []:=binds_all F12 1 (by simp [He.DefD.dvs,d_Shelf_init]) (fun _ _ _ _ _ _ _ us its h1 h2=>match us,its,h1,h2 with | [_,_],[_],_,_=>⟨_,rfl,rfl⟩)
 have o_M_names:=ok_names_of (C:=He.ga K "Shelf") (CU:=He.ga K "Unit") (CR:=He.ga K "Rule") (P:=P) (w:=w) (mg:=mg) (base:=base) (toFun (st:=s_Shelf_names) F13) ST T
 have M_names:Mth P w K mg base 1 (He.ga K "Shelf") "names" ["self"] _:=⟨⟨_,_,o_M_names,(He.meth_ok (c.fact 45 (f:=.meth "Shelf" "names") rfl)),FunD.bindsN F13 fun _ _ _ _ _ _ us hl=>match us,hl with | [_],_=>rfl⟩,(He.cls_ok (c.fact 42 (f:=.cls "Shelf") rfl))⟩
 have o_M_has:=ok_has (C:=He.ga K "Shelf") (CU:=He.ga K "Unit") (CR:=He.ga K "Rule") (P:=P) (w:=w) (mg:=mg) (base:=base) (toFun (st:=s_Shelf_has) F14) ST T
 have M_has:Mth P w K mg base 1 (He.ga K "Shelf") "has" ["self","name"] _:=⟨⟨_,_,o_M_has,(He.meth_ok (c.fact 46 (f:=.meth "Shelf" "has") rfl)),FunD.bindsN F14 fun _ _ _ _ _ _ us hl=>match us,hl with | [_,_],_=>rfl⟩,(He.cls_ok (c.fact 42 (f:=.cls "Shelf") rfl))⟩
 have o_M_unit:=ok_unit_of (C:=He.ga K "Shelf") (CU:=He.ga K "Unit") (CR:=He.ga K "Rule") (P:=P) (w:=w) (mg:=mg) (base:=base) (toFun (st:=s_Shelf_unit) F15) ST M_has
 have M_unit:Mth P w K mg base 2 (He.ga K "Shelf") "unit" ["self","name"] _:=⟨⟨_,_,o_M_unit,(He.meth_ok (c.fact 47 (f:=.meth "Shelf" "unit") rfl)),FunD.bindsN F15 fun _ _ _ _ _ _ us hl=>match us,hl with | [_,_],_=>rfl⟩,(He.cls_ok (c.fact 42 (f:=.cls "Shelf") rfl))⟩
 have o_M_needing:=ok_needing_of (C:=He.ga K "Shelf") (CU:=He.ga K "Unit") (CR:=He.ga K "Rule") (P:=P) (w:=w) (mg:=mg) (base:=base) (toFun (st:=s_Shelf_needing) F16) ST UT M_names M_unit
 have M_needing:Mth P w K mg base 3 (He.ga K "Shelf") "needing" ["self","name"] _:=⟨⟨_,_,o_M_needing,(He.meth_ok (c.fact 48 (f:=.meth "Shelf" "needing") rfl)),FunD.bindsN F16 fun _ _ _ _ _ _ us hl=>match us,hl with | [_,_],_=>rfl⟩,(He.cls_ok (c.fact 42 (f:=.cls "Shelf") rfl))⟩
 have o_M_barred:=ok_barred_of (C:=He.ga K "Shelf") (CU:=He.ga K "Unit") (CR:=He.ga K "Rule") (P:=P) (w:=w) (mg:=mg) (base:=base) (toFun (st:=s_Shelf_barred) F17) ST UT M_names M_unit
 have M_barred:Mth P w K mg base 3 (He.ga K "Shelf") "barred" ["self","name"] _:=⟨⟨_,_,o_M_barred,(He.meth_ok (c.fact 49 (f:=.meth "Shelf" "barred") rfl)),FunD.bindsN F17 fun _ _ _ _ _ _ us hl=>match us,hl with | [_,_],_=>rfl⟩,(He.cls_ok (c.fact 42 (f:=.cls "Shelf") rfl))⟩
 have o_at_once:=ok_at_once (C:=He.ga K "Shelf") (CU:=He.ga K "Unit") (CR:=He.ga K "Rule") (P:=P) (w:=w) (mg:=mg) (base:=base) (toFun (st:=s_at_once) F18) UT T M_unit M_has M_needing M_barred
 have c_at_once:=cal_of o_at_once (He.glo_ok X G (c.fact 50 (f:=.glo "at_once") rfl)) F18.kp (FunD.bindsN F18 fun _ _ _ _ _ _ us hl=>match us,hl with | [_,_],_=>rfl)
 have kbA:KBn K fd18 ["shelf","demand"] 0 ["demand","shelf"] (fun us ws=>us ++ ws.reverse) (fun us ws=>us ++ ws.reverse):=kb_of (g:=fun us ws=>us ++ ws.reverse) (st:=s_at_once) F18 (fun _ _ _ _ _ _ us ws h1 h2=>match us,ws,h1,h2 with | [],[_,_],_,_=>rfl) (fun h1 h2=>h1.append h2.reverse)
 have k_at_once:CalK P w K mg base 4 "at_once" ["shelf","demand"] ["demand","shelf"] List.reverse _:=⟨_,_,_,_,o_at_once,(He.glo_ok X G (c.fact 50 (f:=.glo "at_once") rfl)),F18.kp,kbA,fun _=>rfl⟩
 have o__law_needing:=ok_lneeding (P:=P) (w:=w) (mg:=mg) (base:=base) (toFun (st:=s_needing) F19) T
 have c__law_needing:=cal_of o__law_needing (He.glo_ok X G (c.fact 51 (f:=.glo "_law_needing") rfl)) F19.kp (FunD.bindsN F19 fun _ _ _ _ _ _ us hl=>match us,hl with | [_,_],_=>rfl)
 have o__law_barred:=ok_lbarred (P:=P) (w:=w) (mg:=mg) (base:=base) (toFun (st:=s_barred) F20) T
 have c__law_barred:=cal_of o__law_barred (He.glo_ok X G (c.fact 52 (f:=.glo "_law_barred") rfl)) F20.kp (FunD.bindsN F20 fun _ _ _ _ _ _ us hl=>match us,hl with | [_,_],_=>rfl)
 have o__law_next:=ok_lnext (P:=P) (w:=w) (mg:=mg) (base:=base) (toFun (st:=s_next) F21) T c__law_needing c__law_barred
 have c__law_next:=cal_of o__law_next (He.glo_ok X G (c.fact 53 (f:=.glo "_law_next") rfl)) F21.kp (FunD.bindsN F21 fun _ _ _ _ _ _ us hl=>match us,hl with | [_,_],_=>rfl)
 have o__law_are_demands:=ok_areDem (P:=P) (w:=w) (mg:=mg) (base:=base) (toFun (st:=s_are_demands) F22) T
 have c__law_are_demands:=cal_of o__law_are_demands (He.glo_ok X G (c.fact 54 (f:=.glo "_law_are_demands") rfl)) F22.kp (FunD.bindsN F22 fun _ _ _ _ _ _ us hl=>match us,hl with | [_],_=>rfl)
 exact ok_law (P:=P) (w:=w) (mg:=mg) (base:=base) (toFun (st:=s_law) F23) T (He.mkr_ok (c.fact 56 (f:=.mkr "Shelf") rfl)) oS bS (He.glo_ok X G (c.fact 57 (f:=.glo "Shelf") rfl)) c__law_take c__law_bag c__law_facts c__law_units c_at_once k_at_once c__law_next c__law_are_demands
end U
open PySem PySem.W PySem.Calls PyProof.Rows
theorem PySem.Challenge.cw_unitwants_k12_at_once_holds : PySem.Challenge.rw_unitwants_k12_at_once.Holds := by
 w_on;o_law
 refine HandSHeadRun.head_any (r:=OpenLaw.row PySem.Challenge.rw_unitwants_k12_at_once) (q:=view (OpenLaw.row PySem.Challenge.rw_unitwants_k12_at_once).prog [28]) (H:=U.Z.hk) (ob:=U.Z.ob) (M:=10000) (loose:=U.Z.loose) (d:=HandSHeadRun.topDef (OpenLaw.row PySem.Challenge.rw_unitwants_k12_at_once).prog 28) (kwd:=[]) U.Z.ob_eq
  (by kernel_rfl) (fun s=>by kernel_rfl) U.Z.run (by kernel_rfl) (by kernel_rfl) (by kernel_rfl) (by rfl) (by first | assumption | decide +kernel) (by decide +kernel) ⟨rfl,rfl,rfl,rfl,rfl,by decide +kernel⟩ ?hw ?hc
 case hw=>w_witness2
 case hc=>
  refine U.walk_ofG (l:=PySem.Challenge.rw_unitwants_k12_at_once) (n:=63) (k:=9) (x:="_law_script") (CX:=L2.CX0) rfl (by decide) (by kernel_rfl) ⟨rfl,by decide,by decide⟩ ?F (fun _ _ _ _ z=>z)
  intro w mg fa h Y G hmg0
  obtain ⟨K,KX,c⟩:=Y
  have hmg:mg ("law" : PySem.Str)=some (.ref fa):=by
   have e:(HandSHeadRun.topDef (OpenLaw.row PySem.Challenge.rw_unitwants_k12_at_once).prog 28).name=("law" : PySem.Str):=by kernel_rfl
   rw [<-e]
   exact hmg0
  obtain ⟨fd,hb,hF⟩:=U.facts (P:=(PySem.Challenge.rw_unitwants_k12_at_once).prog) (w:=w) KX G hmg c
  exact ⟨K,fd,U.spP K U.psLaw,KX,hb,fun H a ns hl _ hS=>U.end_sp hS ⟨ns,rfl,hl,rfl⟩,hF⟩
