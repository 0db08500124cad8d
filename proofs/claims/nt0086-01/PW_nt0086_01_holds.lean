import PyProof.Rows.All
import Wide.BytesRules
import Open.Boot
import KE.KxBytes
import KE.BytesMake
import KE.KUnpack
import KE.KBytesCut
import KE.KLam
import KE.KDictSum
import KE.KSortKey
import KE.KRevSl
import KE.KSortTup
import Lean
import PySem.Challenge.RW_nt0086_01
set_option autoImplicit true
set_option Elab.async false
set_option linter.all false
set_option maxRecDepth 1000000
set_option backward.match.sparseCases false
set_option genSizeOf false
set_option genInjectivity false
set_option bootstrap.genMatcherCode false
namespace Mine.Internal
noncomputable section
open List renaming mem_cons_self → e0X, mem_cons_of_mem → e0Z, length_append → e0a, not_mem_nil → e0b, length_map → e0c, mem_cons → e0d, mem_map → e0e, range → e0f, append_assoc → e0h, mem_flatMap → e0j, append_nil → e0k, length_cons → e0n, map_append → e0o, replicate → e0p, mem_of_getElem? → e0s, mem_singleton → e0u, map_cons → e0v, all_eq_true → e0w, lookup_cons → e0x, nodup_cons → e1D, mem_append → e1E, map_map → e1H, length_nil → e1K, flatMap_cons → e1O, nodup_nil → e1Q, mem_append_left → e1R, nil_append → e1V, length_set → e1W, take_append_drop → e1Y, mem_range → e1a, length_take → e1b, forIn_cons → e1e, flatMap_append → e1g, mem_append_right → e1i, length → e1k, size_toArray → e1l, nodup_append → e1n, drop_eq_nil_iff → e1p, length_drop → e1s, cons_append → e1t, length_replicate → e1v, pairwise_map → e1w, any_eq_true → e1y, flatMap_nil → e2B, map_nil → e2C, any_cons → e2F, drop_zero → e2I, forIn_nil → e2K, map_reverse → e2Q, eraseDups_cons → e2S, filter_cons → e2T, filterMap_cons → e2V, zip_cons_cons → e2W, mem_of_mem_take → e2X, mem_filter → e2Y, take_of_length_le → e2Z, take_length → e2d, mem_iff_getElem? → e2e, map_congr_left → e2j, length_eq_zero_iff → e2k, mem_of_mem_drop → e2l, getLastD_eq_getLast? → e2p
open Nat renaming beq → e0Y, blt → e0g, le_refl → e0i, le_trans → e0l, ble → e0m, zero_le → e0q, eq_of_beq_eq_true → e0r, le_of_ble_eq_true → e0t, mod → e0y, div → e0z, lt_or_ge → e1A, blt_eq → e1B, lt_of_le_of_lt → e1F, min → e1G, le_of_eq → e1L, le_add_right → e1M, succ_pos → e1P, zero_add → e1S, not_lt → e1U, beq_refl → e1X, succ_lt_succ → e1Z, add_le_add_left → e1c, le_of_lt → e1d, lt_of_lt_of_le → e1j, add_zero → e1o, ne_of_lt → e1q, le_succ → e1r, min_eq_left → e1z, add_comm → e2A, le_add_left → e2D, min_self → e2E, noConfusion → e2G, succ_le_succ → e2H, lt_succ_self → e2J, add_sub_cancel' → e2M, ble_eq_true_of_le → e2b, lt_succ_of_le → e2c, sub_eq_zero_of_le → e2f, ne_of_beq_eq_false → e2g, succ_add_eq_add_succ → e2h, add_sub_cancel_left → e2o
open Option renaming map_eq_some_iff → e1C, isSome → e2L, isSome_iff_exists → e2m
open Bool renaming and_eq_true_iff → e1I, and_eq_true → e1h, or_eq_true_iff → e1m, decide_and → e2N, false_ne_true → e2P, or_eq_false_iff → e2R, false_eq_true → e2U
open Array renaming length_toList → e2a, mem_toList_iff → e2i, toList_eq_nil_iff → e2n
open Int renaming ofNat_lt → e1J, natCast_nonneg → e1N, fmod → e1T, ofNat_eq_natCast → e1u, not_lt → e1x, negSucc_lt_zero → e2O
open Prod renaming fst → e1f
section
theorem nx0 {α:Type}{a:α}{P:Prop}(h:(none:Option α)=some a):P:=nomatch h
theorem nx1 {α:Type}{a:α}{P:Prop}(h:some a=(none:Option α)):P:=nomatch h
theorem nx2 {P:Prop}(h:false=true):P:=nomatch h
theorem nx3 {P:Prop}(h:true=false):P:=nomatch h
theorem c9J {p0 p1:Prop}{G:Prop}(h:p0/\p1)(k:p0->p1->G):G:=k  h.1 h.2
theorem e0O {p0 p1 p2 p3:Prop}{G:Prop}(h:p0/\p1/\p2/\p3)(k:p0->p1->p2->p3->G):G:=k  h.1 h.2.1 h.2.2.1 h.2.2.2
theorem d2t {α0:Type}{p0:α0->Prop}{G:Prop}(h:∃ a,p0 a)(k:∀ a,p0 a->G):G:=h.elim λ a h=>k a h
theorem c0x {α0:Type}{p0 p1:α0->Prop}{G:Prop}(h:∃ a,p0 a/\p1 a)(k:∀ a,p0 a->p1 a->G):G:=h.elim λ a h=>k a h.1 h.2
theorem d7H {α0:Type}{p0 p1 p2:α0->Prop}{G:Prop}(h:∃ a,p0 a/\p1 a/\p2 a)(k:∀ a,p0 a->p1 a->p2 a->G):G:=h.elim λ a h=>k a h.1 h.2.1 h.2.2
theorem e0N {α0 α1:Type}{p0:α0->α1->Prop}{G:Prop}(h:∃ a b,p0 a b)(k:∀ a b,p0 a b->G):G:=h.elim λ a h=>h.elim λ b h=>k a b h
theorem d8E {α0 α1:Type}{p0 p1 p2:α0->α1->Prop}{G:Prop}(h:∃ a b,p0 a b/\p1 a b/\p2 a b)(k:∀ a b,p0 a b->p1 a b->p2 a b->G):G:=h.elim λ a h=>h.elim λ b h=>k a b h.1 h.2.1 h.2.2
theorem e0M {α0 α1 α2:Type}{p0 p1 p2:α0->α1->α2->Prop}{G:Prop}(h:∃ a b c,p0 a b c/\p1 a b c/\p2 a b c)(k:∀ a b c,p0 a b c->p1 a b c->p2 a b c->G):G:=h.elim λ a h=>h.elim λ b h=>h.elim λ c h=>k a b c h.1 h.2.1 h.2.2
theorem sj {α:Type}{a b:α}(e:some a=some b):a=b:=Option.some.inj e
noncomputable def ob {α β:Type}(o:Option α)(f:α->Option β):Option β:=Option.rec none f o
theorem oE {α β:Type}{o:Option α}{f:α->Option β}{b:β}{G:Prop}(e:ob o f=some b)(k:∀ a,o=some a->f a=some b->G):G:=by
 cases o with
 | none=>exact nx0 e| some a=>exact k a rfl e
noncomputable def gd {β:Type}(c:Bool)(x:Option β):Option β:=Bool.rec none x c
theorem gE {β:Type}{x:Option β}{b:β}{G:Prop}(e:gd c x=some b)(k:c=true->x=some b->G):G:=by
 cases c with
 | false=>exact nx0 e| true=>exact k rfl e
noncomputable def oc {α β:Type}(o:Option α)(f:α->β)(y:β):β:=Option.rec y f o
theorem ocE {α β:Type}{o:Option α}{f:α->β}{y b:β}{G:Prop}(e:oc o f y=b)(k:∀ a,o=some a->f a=b->G)(k':o=none->y=b->G):G:=by
 cases o with
 | none=>exact k' rfl e| some a=>exact k a rfl e
noncomputable def bc {β:Type}(c:Bool)(x y:β):β:=Bool.rec y x c
theorem bcE {β:Type}{x y b:β}{G:Prop}(e:bc c x y=b)(k:c=true->x=b->G)(k':c=false->y=b->G):G:=by
 cases c with
 | false=>exact k' rfl e| true=>exact k rfl e
def All2 {α β:Type}(R:α->β->Prop):List α->List β->Prop
 | [],[]=>True| x::l,y::m=>R x y/\All2 R l m| _,_=>False
@[elab_as_elim] theorem All2.nilE {α β:Type}{R:α->β->Prop}{G:List β->Prop}(m:List β)(r:All2 R [] m)(k:G []):G m:=by
  cases m with
  | nil=>exact k| cons=>exact r.elim
@[elab_as_elim] theorem All2.consE {α β:Type}{R:α->β->Prop}{x:α}{l:List α}{G:List β->Prop}(m:List β)(r:All2 R (x::l) m)(k:∀ y ys,R x y->All2 R l ys->G (y::ys)):G m:=by
  cases m with
  | nil=>exact r.elim| cons y ys=>exact k y ys r.1 r.2
theorem All2.imp {α β:Type}{R S:α->β->Prop}{l:List α}(k:∀ x∈l,∀ y,R x y->S x y):∀ {m:List β},All2 R l m->All2 S l m:=by
 induction l with
 | nil=>exact fun {m} r=>r.nilE m trivial| cons x l ih=>exact fun {m} r=>r.consE m λ y ys a b=>⟨k x e0X y a,ih (λ x h=>k x (e0Z _ h)) b⟩
theorem All2.len {α β:Type}{R:α->β->Prop}{l:List α}:∀ {m:List β},All2 R l m->l.length=m.length:=by
 induction l with
 | nil=>exact fun {m} r=>r.nilE m rfl| cons x l ih=>exact fun {m} r=>r.consE m λ y ys _ b=>congrArg (· + 1) (ih b)
theorem a0A (h:(a&&b)=true):a=true/\b=true:=by rwa [e1h] at h
theorem anE {α:Type}{o:Option α}{f:α->Bool}{G:Prop}(h:oc o f false=true)(k:∀ a,o=some a->f a=true->G):G:=by
 cases o with
 | none=>exact nx2 h| some a=>exact k a rfl h
theorem aE {G:Prop}(h:(a&&b)=true)(k:a=true->b=true->G):G:=k (a0A h).1 (a0A h).2
theorem a3E {G:Prop}(h:(p0&&(p1&&p2))=true)(k:p0=true->p1=true->p2=true->G):G:=k ((a0A h).1) ((a0A (a0A h).2).1) ((a0A (a0A h).2).2)
theorem a4E {G:Prop}(h:(p0&&(p1&&(p2&&p3)))=true)(k:p0=true->p1=true->p2=true->p3=true->G):G:=k ((a0A h).1) ((a0A (a0A h).2).1) ((a0A (a0A (a0A h).2).2).1) ((a0A (a0A (a0A h).2).2).2)
theorem a5E {G:Prop}(h:(p0&&(p1&&(p2&&(p3&&p4))))=true)(k:p0=true->p1=true->p2=true->p3=true->p4=true->G):G:=k ((a0A h).1) ((a0A (a0A h).2).1) ((a0A (a0A (a0A h).2).2).1) ((a0A (a0A (a0A (a0A h).2).2).2).1) ((a0A (a0A (a0A (a0A h).2).2).2).2)
theorem a6E {G:Prop}(h:(p0&&(p1&&(p2&&(p3&&(p4&&p5)))))=true)(k:p0=true->p1=true->p2=true->p3=true->p4=true->p5=true->G):G:=k ((a0A h).1) ((a0A (a0A h).2).1) ((a0A (a0A (a0A h).2).2).1) ((a0A (a0A (a0A (a0A h).2).2).2).1) ((a0A (a0A (a0A (a0A (a0A h).2).2).2).2).1) ((a0A (a0A (a0A (a0A (a0A h).2).2).2).2).2)
theorem a7E {G:Prop}(h:(p0&&(p1&&(p2&&(p3&&(p4&&(p5&&p6))))))=true)(k:p0=true->p1=true->p2=true->p3=true->p4=true->p5=true->p6=true->G):G:=k ((a0A h).1) ((a0A (a0A h).2).1) ((a0A (a0A (a0A h).2).2).1) ((a0A (a0A (a0A (a0A h).2).2).2).1) ((a0A (a0A (a0A (a0A (a0A h).2).2).2).2).1) ((a0A (a0A (a0A (a0A (a0A (a0A h).2).2).2).2).2).1) ((a0A (a0A (a0A (a0A (a0A (a0A h).2).2).2).2).2).2)
theorem a8E {G:Prop}(h:(p0&&(p1&&(p2&&(p3&&(p4&&(p5&&(p6&&p7)))))))=true)(k:p0=true->p1=true->p2=true->p3=true->p4=true->p5=true->p6=true->p7=true->G):G:=k ((a0A h).1) ((a0A (a0A h).2).1) ((a0A (a0A (a0A h).2).2).1) ((a0A (a0A (a0A (a0A h).2).2).2).1) ((a0A (a0A (a0A (a0A (a0A h).2).2).2).2).1) ((a0A (a0A (a0A (a0A (a0A (a0A h).2).2).2).2).2).1) ((a0A (a0A (a0A (a0A (a0A (a0A (a0A h).2).2).2).2).2).2).1) ((a0A (a0A (a0A (a0A (a0A (a0A (a0A h).2).2).2).2).2).2).2)
noncomputable def unc {α:Type}:List α->Option (α×List α)
 | []=>none| x::l=>some (x,l)
theorem b2u {α:Type}{l:List α}{p:α×List α}(h:unc l=some p):l=p.1::p.2:=by
 cases l with
 | nil=>exact nx0 h| cons x l=>rw [<- sj h]
noncomputable def a4k {α β:Type}(f:α->β->Bool):List α->List β->Bool
 | [],m=>match m with
   | []=>true| _=>false
 | x::l,m=>match m with
   | []=>false| y::m=>f x y&&a4k f l m
theorem a5W {α β:Type}{f:α->β->Bool}{R:α->β->Prop}(hf:∀ x y,f x y=true->R x y){l:List α}:∀ {m:List β},a4k f l m=true->All2 R l m:=by
 induction l with
 | nil=>
   intro m h;cases m with
   | nil=>trivial| cons=>exact nx2 h
 | cons x l ih=>
   intro m h;cases m with
   | nil=>exact nx2 h| cons y m=>exact ⟨hf x y (a0A h).1,ih (a0A h).2⟩
theorem All2.eq {α:Type}{l:List α}:∀ {m:List α},All2 Eq l m->l=m:=by
 induction l with
 | nil=>exact fun {m} r=>r.nilE m rfl| cons x l ih=>exact fun {m} r=>r.consE m λ y ys a b=>by rw [a,ih b]
theorem a3Q {α:Type}{f:α->α->Bool}{l m:List α}(hf:∀ x y,f x y=true->x=y)(h:a4k f l m=true):l=m:=(a5W (R:=Eq) hf h).eq
@[elab_as_elim] theorem d7o {P:Nat->Prop}(r:Nat)(h:r<=3)(p0:P 0)(p1:P 1)(p2:P 2)(p3:P 3):P r:=by
  cases r with
  | zero=>exact p0| succ r=>cases r with
    | zero=>exact p1| succ r=>cases r with
      | zero=>exact p2| succ r=>cases r with
        | zero=>exact p3| succ r=>exact absurd h (Nat.not_le.mpr (e2D 4 r))
theorem a9o {α:Type}{x a:α}{l:List α}{G:Prop}(h:x∈a::l)(k:x=a->G)(k':x∈l->G):G:=(e0d.mp h).elim k k'
theorem d1g {α:Type}{x:α}{G:Prop}(h:x∈([]:List α)):G:=(e0b h).elim
end
section
open PySem PySem.Calls PyProof.Rows
noncomputable abbrev prg:Program:=PySem.Challenge.pw_nt0086_01
abbrev Mo (w:World):Model:=model prg w
inductive PV where
 | none
 | bool (b:Bool)
 | int (i:Int)
 | str (s:Str)
 | bytes (l:List Nat)
 | blt (id:String)
 | typ (n:String)
 | gl (k:Nat)
 | tup (l:List PV)
 | lst (l:List PV)
 | dct (ks vs:List PV)
 | ins (c:Nat) (fs:List Str) (vs:List PV)
 | loc (n:Nat)
 deriving Inhabited
theorem PV.int.inj (h:PV.int a=PV.int b):a=b:=by injection h
inductive PO where
 | list (l:List PV)
 | froz (l:List PV)
 | dict (ks vs:List PV)
 | inst (c d:Nat)
 | ns (fs:List Str) (vs:List PV)
 | fr (fs:List Str) (vs:List PV)
 | cell (v:Option PV)
 | opq
 | fins (c:Nat) (fs:List Str) (vs:List PV)
 | dead
 deriving Inhabited
noncomputable def PO.live:PO->Bool
 | .froz _=>false| .fins _ _ _=>false| .dead=>false| _=>true
structure Base where
 w:World
 adr:Nat->Addr
 hB:Heap
 gA:Addr
 bA:Addr
 lam:Addr->Option Str
noncomputable def a0z:PV->Option Int
 | .int i=>some i| _=>none
noncomputable def b1y:List PV->Option (List Int)
 | []=>some []| v::r=>ob (a0z v) λ i=>ob (b1y r) λ l=>some (i::l)
def a8w (w:World):PV->Option Int
 | .int i=>some (hashInt i)| .str s=>some (hashStr w s)| .tup l=>ob (b1y l) λ l=>some (tupleKeyHash (intKind prg w) l)| _=>none
def seqObj (T:String)(o:Obj)(items:List Value):Prop:=
 o.cls=.type T/\o.dict=none/\o.slots=#[]/\items.length<=sizeLine /\ ∃ n,o.data=.seq items.toArray n
def vStep (B:Base)(mt:Addr->Prop)(ρ:List Addr)(h:Heap)(k:PV->Value->Prop)(v:PV)(x:Value):Prop:=match v with
 | .none=>x=.none| .bool b=>x=.bool b| .int i=>∃ t,x=.int i t| .str s=>∃ t,x=.str s t| .bytes l=>∃ b t,x=.bytes b t /\ b.size <= sizeLine /\ b.toList.map UInt8.toNat=l| .blt i=>x=.builtin i| .typ n=>x=.type n| .gl k=>x=.ref (B.adr k)| .loc i=>∃ a,x=.ref a /\ ρ[i]?=some a| .tup l=>∃ a o items,x=.ref a /\ ¬ mt a /\ h.get? a=some o /\ seqObj "tuple" o items /\ All2 k l items| .lst l=>∃ a o items,x=.ref a /\ ¬ mt a /\ h.get? a=some o /\ seqObj "list" o items /\ All2 k l items| .dct ks vs=>∃ a o es n,x=.ref a /\ ¬ mt a /\ h.get? a=some o /\ o.ExactDict /\ o.data=.dict es n /\ (ks.Nodup /\ a ≠ sysModules) /\
    All2 k ks (es.toList.map (·.key))/\All2 k vs (es.toList.map (·.val))/\All2 (λ k e=>a8w B.w k=some e.hash) ks es.toList
 | .ins c fs vs=>∃ (a d:Addr) (o:Obj) (l:List (Str×Value)),x=.ref a /\ ¬ mt a /\ ¬ mt d /\ h.get? a=some o /\ o.cls=.ref (B.adr c) /\ o.dict=some d /\ (∀ cd,o.data ≠ .cls cd) /\ d ≠ a /\
    h.Ns1 d (λ x=>l.lookup x)/\All2 k vs (l.map (·.2))/\l.map (·.1)=fs
def VRel (B:Base)(mt:Addr->Prop)(ρ:List Addr)(h:Heap)(v:PV)(x:Value):Prop:=∀ P:PV->Value->Prop,(∀ v x,vStep B mt ρ h P v x->P v x)->P v x
abbrev VRels (B:Base)(mt:Addr->Prop)(ρ:List Addr)(h:Heap):List PV->List Value->Prop:=All2 (VRel B mt ρ h)
def ERel (B:Base)(mt:Addr->Prop)(ρ:List Addr)(h:Heap)(ks vs:List PV)(es:List DictEntry):Prop:=
 VRels B mt ρ h ks (es.map (·.key))/\VRels B mt ρ h vs (es.map (·.val))/\All2 (λ k e=>a8w B.w k=some e.hash) ks es
def NRel (B:Base)(mt:Addr->Prop)(ρ:List Addr)(h:Heap)(fs:List Str)(vs:List PV)(l:List (Str×Value)):Prop:=
 VRels B mt ρ h vs (l.map (·.2))/\l.map (·.1)=fs
def Keep (T X:Addr->Prop)(h h':Heap):Prop:=∀ b o,¬ X b->h.get? b=some o ->
 h'.get? b=some o\/(T b/\o.cls=.none /\ ∃ vs more,o.data=.fields vs/\h'.get? b=some { o with data:=.fields (vs++more) })
def Real (B:Base)(mt:Addr->Prop)(ρ:List Addr)(h:Heap)(p:PO)(a:Addr):Prop:=match p with
 | .list l=>∃ o items,h.get? a=some o/\seqObj "list" o items/\VRels B mt ρ h l items| .froz l=>∃ o items,h.get? a=some o/\seqObj "list" o items/\VRels B mt ρ h l items| .dict ks vs=>∃ o es n,h.get? a=some o/\o.ExactDict/\o.data=.dict es n/\(ks.Nodup/\a≠sysModules)/\ERel B mt ρ h ks vs es.toList| .inst c d=>∃ da o,h.get? a=some o/\o.cls=.ref (B.adr c)/\ρ[d]?=some da/\o.dict=some da/\(∀ cd,o.data≠.cls cd)| .ns fs vs=>∃ l:List (Str×Value),h.Ns1 a (λ x=>l.lookup x)/\NRel B mt ρ h fs vs l| .fr fs vs=>∃ l:List (Str×Value),h.Ns a (λ x=>l.lookup x)/\NRel B mt ρ h fs vs l| .cell v=>∃ x,h.IsCell a x/\(match v,x with | some v,some x=>VRel B mt ρ h v x | none,none=>True | _,_=>False)| .opq=>∃ o,h.get? a=some o| .fins c fs vs=>∃ o,h.get? a=some o/\VRel B mt ρ h (.ins c fs vs) (.ref a)| .dead=>∃ o,h.get? a=some o
def lv (ρ:List Addr)(H:List PO):Addr->Prop:=λ a=>∃ (i:Nat)(o:PO),ρ[i]?=some a/\H[i]?=some o/\o.live=true
def a0G (Pr:Addr->Prop)(ρ:List Addr)(H:List PO):Addr->Prop:=λ a=>Pr a\/lv ρ H a
def IsCode (mt:Addr->Prop)(h:Heap)(q:Str)(x:Value):Prop:=∃ c o vs t,x=.ref c /\ ¬ mt c/\h.get? c=some o/\o.cls=.type "code" /\ o.data=.fields vs/\vs[1]?=some (.str q t)
def IsI (x:Value):Prop:=∃ i t,x=.int i t
def LamT (mt:Addr->Prop)(h:Heap)(q:Str):List Value->Prop
 | []=>True| a::b::x::rest=>(IsI a/\IsI b/\IsCode mt h q x)/\LamT mt h q rest| _=>False
def TabsOK (B:Base)(mt:Addr->Prop)(h:Heap):Prop:=∀ P q,B.lam P=some q->(∃ o,B.hB.get? P=some o) /\ ∃ ps:Array Value,h.get? P=some { cls:=.none,data:=.fields ps }/\LamT mt h q ps.toList
structure Rel (B:Base)(Pr:Addr->Prop)(ρ:List Addr)(H:List PO)(h:Heap):Prop where
 base:Keep (isCodeTable B.hB) (λ _=>False) B.hB h
 len:ρ.length=H.length
 nodup:ρ.Nodup
 prl:∀ a,Pr a->(∃ o,h.get? a=some o)/\B.hB.get? a=none
 away:∀ a∈ρ,¬ Pr a/\B.hB.get? a=none
 tabs:TabsOK B (a0G Pr ρ H) h
 real:∀ (i:Nat) (o:PO) (a:Addr),H[i]?=some o->ρ[i]?=some a->Real B (a0G Pr ρ H) ρ h o a
structure Carry (mt mt':Addr->Prop)(ρ ρ':List Addr)(h h':Heap):Prop where
 obj:∀ a o,¬ mt a->h.get? a=some o->(∀ vs,o.data≠.fields vs)\/o.cls≠.none->h'.get? a=some o /\ ¬ mt' a
 loc:∀ (i:Nat) (a:Addr),ρ[i]?=some a->ρ'[i]?=some a
section
variable {B:Base}{mt mt':Addr->Prop}{ρ ρ':List Addr}{h h':Heap}
theorem seqObj.noFields (x:seqObj T o items):(∀ vs,o.data≠.fields vs)\/o.cls≠.none:=by obtain ⟨_,_,_,_,n,d⟩:=x;exact .inl λ vs e=>by rw [d] at e; cases e
theorem vStep.carry (C:Carry mt mt' ρ ρ' h h'){k k':PV->Value->Prop}(hk:∀ v x,k v x->k' v x)(r:vStep B mt ρ h k v x):vStep B mt' ρ' h' k' v x:=by
 have al:∀ {l:List PV} {m:List Value},All2 k l m->All2 k' l m:=λ r=>r.imp λ v _ x=>hk v x;cases v with
 | loc i=>exact r.imp λ a r=>⟨r.1,C.loc i a r.2⟩
 | tup l=>exact r.imp λ a r=>r.imp λ o r=>r.imp λ items r=>⟨r.1,(C.obj a o r.2.1 r.2.2.1 r.2.2.2.1.noFields).2,(C.obj a o r.2.1 r.2.2.1 r.2.2.2.1.noFields).1,r.2.2.2.1,al r.2.2.2.2⟩
 | lst l=>exact r.imp λ a r=>r.imp λ o r=>r.imp λ items r=>⟨r.1,(C.obj a o r.2.1 r.2.2.1 r.2.2.2.1.noFields).2,(C.obj a o r.2.1 r.2.2.1 r.2.2.2.1.noFields).1,r.2.2.2.1,al r.2.2.2.2⟩
 | dct ks vs=>
   exact r.imp λ a r=>r.imp λ o r=>r.imp λ es r=>r.imp λ n r=>
    have z:=C.obj a o r.2.1 r.2.2.1 (.inl λ vs e=>nomatch r.2.2.2.2.1.symm.trans e)
    ⟨r.1,z.2,z.1,r.2.2.2.1,r.2.2.2.2.1,r.2.2.2.2.2.1,al r.2.2.2.2.2.2.1,al r.2.2.2.2.2.2.2.1,r.2.2.2.2.2.2.2.2⟩
 | ins c fs vs=>
   exact r.imp λ a r=>r.imp λ d r=>r.imp λ o r=>r.imp λ l r=>
    have z:=C.obj a o r.2.1 r.2.2.2.1 (.inr (by rw [r.2.2.2.2.1]; exact nofun));have y:h'.Ns1 d (λ x=>l.lookup x) /\ ¬ mt' d:=r.2.2.2.2.2.2.2.2.1.elim λ o' e=>e.elim λ es e=>e.elim λ ep e=>
     have w:=C.obj d o' r.2.2.1 e.1 (.inl λ vs q=>nomatch e.2.1.symm.trans q)
     ⟨⟨o',es,ep,w.1,e.2⟩,w.2⟩
    ⟨r.1,z.2,y.2,z.1,r.2.2.2.2.1,r.2.2.2.2.2.1,r.2.2.2.2.2.2.1,r.2.2.2.2.2.2.2.1,y.1,al r.2.2.2.2.2.2.2.2.2.1,r.2.2.2.2.2.2.2.2.2.2⟩
 | _=>exact r
theorem VRel.mk (r:vStep B mt ρ h (VRel B mt ρ h) v x):VRel B mt ρ h v x:=λ P k=>k v x (r.carry ⟨λ _ _ n e _=>⟨e,n⟩,λ _ _ e=>e⟩ λ _ _ q=>q P k)
theorem VRel.inv (r:VRel B mt ρ h v x):vStep B mt ρ h (VRel B mt ρ h) v x:=r _ λ _ _ s=>s.carry ⟨λ _ _ n e _=>⟨e,n⟩,λ _ _ e=>e⟩ λ _ _ q=>.mk q
theorem VRel.mono (C:Carry mt mt' ρ ρ' h h')(r:VRel B mt ρ h v x):VRel B mt' ρ' h' v x:=r _ λ _ _ s=>.mk (s.carry C λ _ _ q=>q)
theorem VRels.mono (C:Carry mt mt' ρ ρ' h h')(r:VRels B mt ρ h v x):VRels B mt' ρ' h' v x:=r.imp λ _ _ _ q=>q.mono C
theorem All2.mono (C:Carry mt mt' ρ ρ' h h')(r:All2 (VRel B mt ρ h) v x):All2 (VRel B mt' ρ' h') v x:=r.imp λ _ _ _ q=>q.mono C
theorem ERel.mono (C:Carry mt mt' ρ ρ' h h')(r:ERel B mt ρ h ks vs x):ERel B mt' ρ' h' ks vs x:=⟨r.1.mono C,r.2.1.mono C,r.2.2⟩
theorem NRel.mono (C:Carry mt mt' ρ ρ' h h')(r:NRel B mt ρ h ks vs x):NRel B mt' ρ' h' ks vs x:=⟨r.1.mono C,r.2⟩
theorem VRel.none:VRel B mt ρ h .none .none:=.mk rfl
theorem VRel.bool (b):VRel B mt ρ h (.bool b) (.bool b):=.mk rfl
theorem VRel.int (i) (t):VRel B mt ρ h (.int i) (.int i t):=.mk ⟨t,rfl⟩
theorem VRel.str (s) (t):VRel B mt ρ h (.str s) (.str s t):=.mk ⟨t,rfl⟩
theorem VRel.bytes (l)(b:Array UInt8) (t)(z:b.size<=sizeLine)(e:b.toList.map UInt8.toNat=l):VRel B mt ρ h (.bytes l) (.bytes b t):=.mk ⟨b,t,rfl,z,e⟩
theorem VRel.blt (i):VRel B mt ρ h (.blt i) (.builtin i):=.mk rfl
theorem VRel.typ (i):VRel B mt ρ h (.typ i) (.type i):=.mk rfl
theorem VRel.gl (k):VRel B mt ρ h (.gl k) (.ref (B.adr k)):=.mk rfl
theorem VRel.loc (i) (a)(e:ρ[i]?=some a):VRel B mt ρ h (.loc i) (.ref a):=.mk ⟨a,rfl,e⟩
theorem VRel.tup (l) (a) (o) (items)(n:¬ mt a)(g:h.get? a=some o)(s:seqObj "tuple" o items) (r:VRels B mt ρ h l items):VRel B mt ρ h (.tup l) (.ref a):=.mk ⟨a,o,items,rfl,n,g,s,r⟩
theorem VRel.lst (l) (a) (o) (items)(n:¬ mt a)(g:h.get? a=some o)(s:seqObj "list" o items) (r:VRels B mt ρ h l items):VRel B mt ρ h (.lst l) (.ref a):=.mk ⟨a,o,items,rfl,n,g,s,r⟩
theorem VRel.dct (ks vs:List PV) (a) (o) (es) (n)(nm:¬ mt a)(g:h.get? a=some o)(x:o.ExactDict)(d:o.data=.dict es n)(nd:ks.Nodup/\a≠sysModules)(r:ERel B mt ρ h ks vs es.toList):VRel B mt ρ h (.dct ks vs) (.ref a):=
 .mk ⟨a,o,es,n,rfl,nm,g,x,d,nd,r⟩
theorem VRel.ins (c) (fs) (vs) (a d) (o)(l:List (Str×Value))(nm:¬ mt a)(nd:¬ mt d)(g:h.get? a=some o)(hc:o.cls=.ref (B.adr c))(hd:o.dict=some d)(hn:∀ cd,o.data ≠ .cls cd)(hne:d ≠ a)
 (ns:h.Ns1 d (λ x=>l.lookup x)) (r:NRel B mt ρ h fs vs l):VRel B mt ρ h (.ins c fs vs) (.ref a):=.mk ⟨a,d,o,l,rfl,nm,nd,g,hc,hd,hn,hne,ns,r⟩
section
variable {G:Value->Prop}(x:Value)
@[elab_as_elim] theorem VRel.noneE (r:VRel B mt ρ h .none x)(k:G .none):G x:=have e:x=.none:=r.inv; e▸k
@[elab_as_elim] theorem VRel.boolE {b:Bool}(r:VRel B mt ρ h (.bool b) x)(k:G (.bool b)):G x:=have e:x=.bool b:=r.inv; e▸k
@[elab_as_elim] theorem VRel.intE {i:Int}(r:VRel B mt ρ h (.int i) x)(k:∀ t,G (.int i t)):G x:=r.inv.elim λ t e=>e▸k t
@[elab_as_elim] theorem VRel.strE {i:Str}(r:VRel B mt ρ h (.str i) x)(k:∀ t,G (.str i t)):G x:=r.inv.elim λ t e=>e▸k t
@[elab_as_elim] theorem VRel.bytesE {l:List Nat}(r:VRel B mt ρ h (.bytes l) x)(k:∀ b t,b.size<=sizeLine->b.toList.map UInt8.toNat=l->G (.bytes b t)):G x:=r.inv.elim λ b r=>r.elim λ t r=>r.1▸k b t r.2.1 r.2.2
@[elab_as_elim] theorem VRel.bltE {i:String}(r:VRel B mt ρ h (.blt i) x)(k:G (.builtin i)):G x:=have e:x=.builtin i:=r.inv; e▸k
@[elab_as_elim] theorem VRel.typE {i:String}(r:VRel B mt ρ h (.typ i) x)(k:G (.type i)):G x:=have e:x=.type i:=r.inv; e▸k
@[elab_as_elim] theorem VRel.glE {i:Nat}(r:VRel B mt ρ h (.gl i) x)(k:G (.ref (B.adr i))):G x:=have e:x=.ref (B.adr i):=r.inv; e▸k
@[elab_as_elim] theorem VRel.locE {i:Nat}(r:VRel B mt ρ h (.loc i) x)(k:∀ a,ρ[i]?=some a->G (.ref a)):G x:=r.inv.elim λ a e=>e.1▸k a e.2
@[elab_as_elim] theorem VRel.tupE {l:List PV}(r:VRel B mt ρ h (.tup l) x)(k:∀ a o items,¬ mt a->h.get? a=some o->seqObj "tuple" o items->VRels B mt ρ h l items->G (.ref a)):G x:=
  r.inv.elim λ a r=>r.elim λ o r=>r.elim λ l r=>r.1▸k a o l r.2.1 r.2.2.1 r.2.2.2.1 r.2.2.2.2
@[elab_as_elim] theorem VRel.lstE {l:List PV}(r:VRel B mt ρ h (.lst l) x)(k:∀ a o items,¬ mt a->h.get? a=some o->seqObj "list" o items->VRels B mt ρ h l items->G (.ref a)):G x:=
  r.inv.elim λ a r=>r.elim λ o r=>r.elim λ l r=>r.1▸k a o l r.2.1 r.2.2.1 r.2.2.2.1 r.2.2.2.2
@[elab_as_elim] theorem VRel.dctE {ks vs:List PV}(r:VRel B mt ρ h (.dct ks vs) x)(k:∀ a o es n,¬ mt a->h.get? a=some o->o.ExactDict->o.data=.dict es n->ks.Nodup/\a≠sysModules->ERel B mt ρ h ks vs es.toList->G (.ref a)):G x:=
  r.inv.elim λ a r=>r.elim λ o r=>r.elim λ es r=>r.elim λ n r=>r.1▸k a o es n r.2.1 r.2.2.1 r.2.2.2.1 r.2.2.2.2.1 r.2.2.2.2.2.1 r.2.2.2.2.2.2
@[elab_as_elim] theorem VRel.insE {c:Nat}{fs:List Str}{vs:List PV}(r:VRel B mt ρ h (.ins c fs vs) x)(k:∀ a d o l,¬ mt a->¬ mt d->h.get? a=some o->o.cls=.ref (B.adr c)->o.dict=some d->(∀ cd,o.data ≠ .cls cd)->d ≠ a ->
 h.Ns1 d (λ x=>l.lookup x)->NRel B mt ρ h fs vs l->G (.ref a)):G x:=r.inv.elim λ a r=>r.elim λ d r=>r.elim λ o r=>r.elim λ l r=>r.1▸k a d o l r.2.1 r.2.2.1 r.2.2.2.1 r.2.2.2.2.1 r.2.2.2.2.2.1 r.2.2.2.2.2.2.1 r.2.2.2.2.2.2.2.1 r.2.2.2.2.2.2.2.2.1 r.2.2.2.2.2.2.2.2.2
end
theorem VRels.nil:VRels B mt ρ h [] []:=trivial
theorem VRels.cons (v) (l) (x) (xs)(r:VRel B mt ρ h v x)(rs:VRels B mt ρ h l xs):VRels B mt ρ h (v::l) (x::xs):=⟨r,rs⟩
theorem ERel.nil:ERel B mt ρ h [] [] []:=⟨trivial,trivial,trivial⟩
theorem ERel.cons (k v) (ks vs)(e:DictEntry) (es)(q:a8w B.w k=some e.hash)(r1:VRel B mt ρ h k e.key)(r2:VRel B mt ρ h v e.val)(rs:ERel B mt ρ h ks vs es):ERel B mt ρ h (k::ks) (v::vs) (e::es):=
 ⟨⟨r1,rs.1⟩,⟨r2,rs.2.1⟩,q,rs.2.2⟩
@[elab_as_elim] theorem ERel.nilE {vs:List PV}{G:List PV->List DictEntry->Prop}(es:List DictEntry)(r:ERel B mt ρ h [] vs es)(k:G [] []):G vs es:=by
  cases es with
  | nil=>cases vs with
    | nil=>exact k| cons=>exact r.2.1.elim
  | cons=>exact r.2.2.elim
theorem ERel.consE {G:Prop}(r:ERel B mt ρ h (k::ks) vs es)(c:∀ v vs' e es',vs=v::vs'->es=e::es'->a8w B.w k=some e.hash->VRel B mt ρ h k e.key->VRel B mt ρ h v e.val->ERel B mt ρ h ks vs' es'->G):G:=by
 cases es with
 | nil=>exact r.2.2.elim| cons e es=>cases vs with
   | nil=>exact r.2.1.elim| cons v vs=>exact c v vs e es rfl rfl r.2.2.1 r.1.1 r.2.1.1 ⟨r.1.2,r.2.1.2,r.2.2.2⟩
theorem NRel.nil:NRel B mt ρ h [] [] []:=⟨trivial,rfl⟩
theorem NRel.cons (f) (v) (fs) (vs) (x) (l)(r:VRel B mt ρ h v x)(rs:NRel B mt ρ h fs vs l):NRel B mt ρ h (f::fs) (v::vs) ((f,x)::l):=⟨⟨r,rs.1⟩,congrArg (f::·) rs.2⟩
theorem NRel.consE {G:Prop}(r:NRel B mt ρ h fs vs ((f,x)::l))(k:∀ v vs' fs',vs=v::vs'->fs=f::fs'->VRel B mt ρ h v x->NRel B mt ρ h fs' vs' l->G):G:=by
 cases vs with
 | nil=>exact r.1.elim| cons v vs=>exact k v vs _ rfl r.2.symm r.1.1 ⟨r.1.2,rfl⟩
theorem NRel.nilE (r:NRel B mt ρ h fs vs []):vs=[]/\fs=[]:=⟨by cases vs; rfl; exact r.1.elim,r.2.symm⟩
end
theorem IsCode.mono {mt mt':Addr->Prop}(C:Carry mt mt' ρ ρ' h h')(r:IsCode mt h q x):IsCode mt' h' q x:=
 r.imp λ c r=>r.imp λ o r=>r.imp λ vs r=>r.imp λ t r=>have z:=C.obj c o r.2.1 r.2.2.1 (.inr (by rw [r.2.2.2.1]; exact nofun)); ⟨r.1,z.2,z.1,r.2.2.2⟩
theorem LamT.mono {mt mt':Addr->Prop}(C:Carry mt mt' ρ ρ' h h'):∀ {l:List Value},LamT mt h q l->LamT mt' h' q l
 | [],_=>trivial| _::_::_::_,x=>⟨⟨x.1.1,x.1.2.1,x.1.2.2.mono C⟩,LamT.mono C x.2⟩
theorem TabsOK.mono {mt mt':Addr->Prop}(x:TabsOK B mt h)(C:Carry mt mt' ρ ρ' h h')(k:∀ P o o',B.hB.get? P=some o'->h.get? P=some o->h'.get? P=some o):TabsOK B mt' h':=λ P q e=>by obtain ⟨⟨o,b⟩,ps,g,l⟩:=x P q e;exact ⟨⟨o,b⟩,ps,k P _ o b g,l.mono C⟩
section
variable {B:Base}{Pr:Addr->Prop}{ρ:List Addr}{H:List PO}{h h':Heap}
section
variable {mt:Addr->Prop}
theorem Real.list (l) (a) (o) (items)(g:h.get? a=some o)(s:seqObj "list" o items) (r:VRels B mt ρ h l items):Real B mt ρ h (.list l) a:=⟨o,items,g,s,r⟩
theorem Real.dict (ks vs:List PV) (a) (o) (es) (n)(g:h.get? a=some o)(x:o.ExactDict)(d:o.data=.dict es n)(nd:ks.Nodup/\a≠sysModules)(r:ERel B mt ρ h ks vs es.toList):Real B mt ρ h (.dict ks vs) a:=⟨o,es,n,g,x,d,nd,r⟩
end
theorem Real.has {mt:Addr->Prop}(r:Real B mt ρ h o a):∃ ob,h.get? a=some ob:=by
 cases o with
 | inst=>exact r.elim λ _ r=>r.imp λ _ r=>r.1| ns=>exact r.elim λ _ r=>r.1.imp λ _ r=>r.elim λ _ r=>r.elim λ _ r=>r.1| fr=>exact r.elim λ _ r=>r.1.imp λ _ r=>r.elim λ _ r=>r.elim λ _ r=>r.1| cell=>exact r.elim λ _ r=>r.1.imp λ _ r=>r.1| opq=>exact r| dead=>exact r| fins=>exact r.imp λ _ r=>r.1| dict=>exact r.imp λ _ r=>r.elim λ _ r=>r.elim λ _ r=>r.1| _=>exact r.imp λ _ r=>r.elim λ _ r=>r.1
theorem Real.mono {mt mt':Addr->Prop}(C:Carry mt mt' ρ ρ' h h')(r:Real B mt ρ h o a)(k:∀ ob,h.get? a=some ob->h'.get? a=some ob):Real B mt' ρ' h' o a:=by
 cases o with
 | list l=>exact r.imp λ o r=>r.imp λ _ r=>⟨k o r.1,r.2.1,r.2.2.mono C⟩
 | froz l=>exact r.imp λ o r=>r.imp λ _ r=>⟨k o r.1,r.2.1,r.2.2.mono C⟩
 | dict ks vs=>exact r.imp λ o r=>r.imp λ _ r=>r.imp λ _ r=>⟨k o r.1,r.2.1,r.2.2.1,r.2.2.2.1,r.2.2.2.2.mono C⟩
 | inst c d=>exact r.imp λ _ r=>r.imp λ o r=>⟨k o r.1,r.2.1,C.loc _ _ r.2.2.1,r.2.2.2⟩
 | ns fs vs=>exact r.imp λ l r=>⟨r.1.at k,r.2.mono C⟩
 | fr fs vs=>exact r.imp λ l r=>⟨r.1.imp λ o r=>r.imp λ _ r=>r.imp λ _ r=>⟨k o r.1,r.2⟩,r.2.mono C⟩
 | cell v=>exact r.imp λ x r=>⟨r.1.imp λ o r=>⟨k o r.1,r.2⟩,by cases v <;> cases x <;> first | exact r.2 | exact r.2.mono C⟩
 | opq=>exact r.imp k| fins c fs vs=>exact r.imp λ o r=>⟨k o r.1,r.2.mono C⟩
 | dead=>exact r.imp k
theorem a0Q {α:Type}{l:List α}{i:Nat}{a:α}(e:l[i]?=some a):i<l.length:=(List.getElem?_eq_some_iff.mp e).1
theorem Rel.lt (R:Rel B Pr ρ H h){i:Nat}(e:ρ[i]?=some a):∃ o,H[i]?=some o/\Real B (a0G Pr ρ H) ρ h o a:=by have:i<H.length:=R.len▸a0Q e;exact ⟨H[i],List.getElem?_eq_getElem this,R.real i _ a (List.getElem?_eq_getElem this) e⟩
theorem Rel.at (R:Rel B Pr ρ H h){i:Nat}(e:H[i]?=some o):∃ a,ρ[i]?=some a/\Real B (a0G Pr ρ H) ρ h o a:=by have:i<ρ.length:=R.len▸a0Q e;exact ⟨ρ[i],List.getElem?_eq_getElem this,R.real i o _ e (List.getElem?_eq_getElem this)⟩
theorem Rel.mem (R:Rel B Pr ρ H h)(m:a∈ρ):∃ ob,h.get? a=some ob:=by refine d2t (e2e.mp m) λ i hi=>?_;refine c0x (R.lt hi) λ o _ r=>?_;exact r.has
theorem Rel.notBase (R:Rel B Pr ρ H h)(e:h.get? a=none):B.hB.get? a=none:=by
 cases q:B.hB.get? a with
 | none=>rfl| some o=>rcases R.base a o (λ x=>x) q with y | ⟨_,_,_,_,_,y⟩ <;> rw [e] at y <;> exact nx0 y
theorem lv.mem (x:lv ρ H a):a∈ρ:=let ⟨_,_,e,_⟩:=x; e0s e
theorem Rel.inj (R:Rel B Pr ρ H h){i j:Nat}(e:ρ[i]?=some a)(e':ρ[j]?=some a):i=j:=(List.getElem?_inj (a0Q e) R.nodup).mp (e.trans e'.symm)
theorem Carry.ext {mt:Addr->Prop}(k:∀ b o,h.get? b=some o->h'.get? b=some o):Carry mt mt ρ ρ h h':=⟨λ a o n e _=>⟨k a o e,n⟩,λ _ _ e=>e⟩
theorem Keep.ext {T X:Addr->Prop}(K:Keep T X h₀ h)(k:∀ b o,¬ X b->h.get? b=some o->(h₀.get? b).isSome=true->h'.get? b=some o):Keep T X h₀ h':=λ b o n e=>by
 rcases K b o n e with y | ⟨c,d,vs,more,f,y⟩
 · exact .inl (k b _ n y (by rw [e]; rfl))
 · exact .inr ⟨c,d,vs,more,f,k b _ n y (by rw [e]; rfl)⟩
theorem Rel.ext (R:Rel B Pr ρ H h)(k:∀ b o,h.get? b=some o->h'.get? b=some o):Rel B Pr ρ H h' where
 base:=R.base.ext λ b o _ e _=>k b o e
 len:=R.len
 nodup:=R.nodup
 prl:=λ a p=>let ⟨⟨o,e⟩,n⟩:=R.prl a p; ⟨⟨o,k _ _ e⟩,n⟩
 away:=R.away
 tabs:=R.tabs.mono (ρ:=ρ) (ρ':=ρ) (.ext k) λ P o o' _ e=>k P o e
 real:=λ i o a e1 e2=>(R.real i o a e1 e2).mono (.ext k) λ _ e=>k _ _ e
theorem lv.set {i:Nat}{o P':PO}(nd:ρ.Nodup)(hi:ρ[i]?=some a)(ho:H[i]?=some o)(hl:P'.live=true->o.live=true)(x:lv ρ (H.set i P') b):lv ρ H b:=by
 refine d8E (x) λ j p e1 e2 e3=>?_;by_cases hj:i=j
 · subst hj;rw [List.getElem?_set_self (a0Q ho)] at e2;obtain rfl:=Option.some.inj e2;exact ⟨i,o,e1,ho,hl e3⟩
 · rw [List.getElem?_set_ne hj] at e2;exact ⟨j,p,e1,e2,e3⟩
theorem Rel.upd (R:Rel B Pr ρ H h){i:Nat}(hi:ρ[i]?=some a)(ho:H[i]?=some o)(hl:o.live=true)
 (k:∀ b o,b≠a->h.get? b=some o->h'.get? b=some o) (hr:Real B (a0G Pr ρ (H.set i P')) ρ h' P' a):Rel B Pr ρ (H.set i P') h' where
 base:=R.base.ext λ b o _ e q=>k b o (λ z=>by rw [z,(R.away a (e0s hi)).2] at q; cases q) e
 len:=by rw [e1W]; exact R.len
 nodup:=R.nodup
 prl:=λ b p=>let ⟨⟨o,e⟩,n⟩:=R.prl b p; ⟨⟨o,k _ _ (λ z=>(R.away a (e0s hi)).1 (z▸p)) e⟩,n⟩
 away:=R.away
 tabs:=R.tabs.mono (ρ:=ρ) (ρ':=ρ) ⟨λ c q n e _=>⟨k c q (λ z=>n (.inr ⟨i,o,z▸hi,ho,hl⟩)) e,λ m=>n (m.imp id λ m=>m.set R.nodup hi ho λ _=>hl)⟩,λ _ _ e=>e⟩
  λ P q o' b e=>k P q (λ z=>by rw [z,(R.away a (e0s hi)).2] at b; cases b) e
 real:=λ j p b e1 e2=>by
  by_cases hj:i=j
  · subst hj;rw [hi] at e2;obtain rfl:=Option.some.inj e2;rw [List.getElem?_set_self (a0Q ho)] at e1;obtain rfl:=Option.some.inj e1;exact hr
  · rw [List.getElem?_set_ne hj] at e1;have hb:b ≠ a:=λ z=>hj (R.inj hi (z▸e2));refine (R.real j p b e1 e2).mono ⟨λ c q n e _=>?_,λ _ _ e=>e⟩ λ ob e=>k _ _ hb e;refine ⟨k c q (λ z=>n (.inr ⟨i,o,z▸hi,ho,hl⟩)) e,λ m=>n ?_⟩;rcases m with m | m
    · exact .inl m
    · exact .inr (m.set R.nodup hi ho λ _=>hl)
theorem a8b {i:Nat}{o P':PO}(nd:ρ.Nodup)(hi:ρ[i]?=some a)(ho:H[i]?=some o)(hl:P'.live=true->o.live=true)(x:a0G Pr ρ (H.set i P') b):a0G Pr ρ H b:=
 x.imp id λ m=>m.set nd hi ho hl
theorem lv.append (len:ρ.length=H.length)(x:lv (ρ++[a]) (H++[P]) b):lv ρ H b\/b=a:=by
 refine d8E (x) λ j p e1 e2 e3=>?_;rcases e1A j ρ.length with hj | hj
 · rw [List.getElem?_append_left hj] at e1;rw [List.getElem?_append_left (len▸hj)] at e2;exact .inl ⟨j,p,e1,e2,e3⟩
 · have hj':j=ρ.length:=by have:=a0Q e1; simp at this; lia
   subst hj';rw [List.getElem?_append_right (e0i _)] at e1;simp at e1;exact .inr e1.symm
theorem Carry.new (len:ρ.length=H.length)(ha:h.get? a=none)(k:∀ b o,h.get? b=some o->h'.get? b=some o):Carry (a0G Pr ρ H) (a0G Pr (ρ++[a]) (H++[P])) ρ (ρ++[a]) h h':=
 ⟨λ b o n e _=>⟨k b o e,λ q=>by
  rcases q with q | q
  · exact n (.inl q)
  · rcases q.append len with q | q
    · exact n (.inr q)
    · rw [q,ha] at e; cases e⟩,λ i x e=>by rw [List.getElem?_append_left (a0Q e)]; exact e⟩
theorem Rel.new (R:Rel B Pr ρ H h)(ha:h.get? a=none)(k:∀ b o,h.get? b=some o->h'.get? b=some o)(hr:Real B (a0G Pr (ρ++[a]) (H++[P])) (ρ++[a]) h' P a):Rel B Pr (ρ++[a]) (H++[P]) h' where
 base:=R.base.ext λ b o _ e _=>k b o e
 len:=by simp [R.len]
 nodup:=by refine e1n.mpr ⟨R.nodup,by simp,λ x hx y hy e=>?_⟩;rw [e0u.mp hy] at e;refine d2t (R.mem hx) λ o q=>?_;rw [e,ha] at q; exact nx0 q
 prl:=λ b p=>let ⟨⟨o,e⟩,n⟩:=R.prl b p; ⟨⟨o,k _ _ e⟩,n⟩
 away:=λ b hb=>by
  rcases e1E.mp hb with hb | hb
  · exact R.away b hb
  · rw [e0u.mp hb];refine ⟨λ p=>?_,R.notBase ha⟩;refine c9J (R.prl a p) λ zq3 _=>?_;obtain ⟨o,e⟩:=zq3;rw [ha] at e; exact nx0 e
 tabs:=R.tabs.mono (.new R.len ha k) λ P o o' _ e=>k P o e
 real:=λ j o b e1 e2=>by
  rcases e1A j ρ.length with hj | hj
  · rw [List.getElem?_append_left hj] at e2;rw [List.getElem?_append_left (R.len▸hj)] at e1;exact (R.real j o b e1 e2).mono (.new R.len ha k) λ _ e=>k _ _ e
  · have hj':j=ρ.length:=by have:=a0Q e2; simp at this; lia
    subst hj';rw [List.getElem?_append_right (e0i _)] at e2;rw [R.len,List.getElem?_append_right (e0i _)] at e1;simp at e1 e2;subst e1 e2;exact hr
theorem Rel.freeze (R:Rel B Pr ρ H h){i:Nat}(ho:H[i]?=some (.list l)):Rel B Pr ρ (H.set i (.froz l)) h:=by
 refine c0x (R.at ho) λ a hi r=>?_;have C:Carry (a0G Pr ρ H) (a0G Pr ρ (H.set i (.froz l))) ρ ρ h h:=⟨λ c q n e _=>⟨e,λ m=>n (a8b R.nodup hi ho (λ x=>by cases x) m)⟩,λ _ _ e=>e⟩
 refine ⟨R.base,by rw [e1W]; exact R.len,R.nodup,R.prl,R.away,R.tabs.mono C λ _ _ _ _ e=>e,λ j p b e1 e2=>?_⟩;by_cases hj:i=j
 · subst hj;rw [hi] at e2;obtain rfl:=Option.some.inj e2;rw [List.getElem?_set_self (a0Q ho)] at e1;obtain rfl:=Option.some.inj e1;exact r.mono C (o:=.list l) λ _ e=>e
 · rw [List.getElem?_set_ne hj] at e1;exact (R.real j p b e1 e2).mono C λ _ e=>e
end
end
open VRel renaming intE→e2q
open Real renaming mono→e2r
section
open PySem
inductive Hint where
 | inl
 | val (v:PV)
 | pur (l:List Hint)
 | dk (v:PV) (l:List PV) (m:PV)
 | ans (r:Bool)
 | itm (v:PV)
 | big
 | skp (l:List Nat)
 deriving Inhabited
structure St where
 H:List PO
 hs:List Hint
theorem St.mk.injEq:(St.mk a b=St.mk c d)=(a=c/\b=d):=propext ⟨λ h=>St.noConfusion h λ h1 h2=>⟨h1,h2⟩,λ h=>by rw [h.1,h.2]⟩
inductive Ob where
 | fn (n k:Nat) (args:List PV) (v:PV)
 | cmp (H:List PO) (op:CmpOp) (a b:PV) (r:Bool)
 | itm (H:List PO) (a i v:PV)
 | dk (n k:Nat) (kl km:PV) (l:List PV) (m:PV) (args:List PV) (v:PV) (l':List PV) (m':PV)
 | nl (v:PV)
 | sz (n:Nat)
 | dg (H:List PO) (self:PV) (args:List PV) (v:PV)
structure Obs where
 ps:List Ob
 sz:Nat
noncomputable def Obs.nil:Obs:=⟨[],0⟩
noncomputable def mxN (a b:Nat):Nat:=Nat.add a (Nat.sub b a)
theorem c8F {a b:Nat}:a<=mxN a b:=e1M a (b-a)
theorem c8E {a b:Nat}:b<=mxN a b:=Nat.sub_le_iff_le_add'.mp (e0i (b-a))
theorem b9Z {a b:Nat}:mxN a b=max a b:=(Nat.le_total a b).elim (λ h=>(e2M h).trans (Nat.max_eq_right h).symm) λ h=>(show a+(b-a)=a by rw [e2f h,e1o]).trans (Nat.max_eq_left h).symm
theorem c5o {a b c:Nat}(x:a<=c)(y:b<=c):mxN a b<=c:=by rw [b9Z]; exact Nat.max_le.mpr ⟨x,y⟩
noncomputable def apn (a b:List Ob):List Ob:=List.rec (motive:=λ _=>List Ob) b (λ x _ r=>x::r) a
theorem a6L:∀ a b:List Ob,apn a b=a++b
 | [],_=>rfl| x::a,b=>congrArg (x::·) (a6L a b)
theorem d7R {x:Ob}{a b:List Ob}(h:x∈a):x∈apn a b:=by rw [a6L]; exact e1R _ h
theorem d7P {x:Ob}{a b:List Ob}(h:x∈b):x∈apn a b:=by rw [a6L]; exact e1i _ h
theorem d7Q {x:Ob}{a b:List Ob}(h:x∈apn a b):x∈a\/x∈b:=by rw [a6L] at h; exact e1E.mp h
def Obs.add (a b:Obs):Obs:=⟨apn a.ps b.ps,mxN a.sz b.sz⟩
def Ev (α:Type):=St->Option (α×St×Obs)
inductive Fl where
 | next | brk | cont
 | ret (v:PV)
namespace Ev
variable {α β:Type}
def ret (a:α):Ev α:=λ st=>some (a,st,Obs.nil)
noncomputable def no:Ev α:=λ _=>none
def d3z (o1:Obs)(r:Option (β×St×Obs)):Option (β×St×Obs):=ob r (Prod.rec λ b=>Prod.rec λ st2 o2=>some (b,st2,o1.add o2))
def d0F (o1:Obs)(r:Option (β×St×Obs)):Option (β×St×Obs):=Obs.rec (motive:=λ _=>Option (β×St×Obs)) (λ ps sz=>List.rec (motive:=λ _=>Option (β×St×Obs)) (Nat.rec (motive:=λ _=>Option (β×St×Obs)) r (λ _ _=>d3z o1 r) sz) (λ _ _ _=>d3z o1 r) ps) o1
theorem wrapZ_eq (o1:Obs)(r:Option (β×St×Obs)):d0F o1 r=d3z o1 r:=by
 obtain ⟨ps,sz⟩:=o1;cases ps with
 | cons=>rfl| nil=>cases sz with
   | succ=>rfl| zero=>cases r with
     | none=>rfl| some z=>exact congrArg (λ n=>some (z.1,z.2.1,Obs.mk z.2.2.ps n)) (show z.2.2.sz=mxN 0 z.2.2.sz from (e1S _).symm)
@[irreducible] def bind (m:Ev α)(f:α->Ev β):Ev β:=λ st=>Option.rec none (Prod.rec λ a=>Prod.rec λ st1 o1=>d0F o1 (f a st1)) (m st)
def opt:Option α->Ev α
 | some a=>ret a| none=>no
def rd (f:List PO->Option α):Ev α:=λ st=>Option.rec none (λ a=>some (a,st,Obs.nil)) (f st.H)
noncomputable def force {γ δ:Type}(l:List γ):(List γ->δ)->δ:=List.rec (motive:=λ _=>(List γ->δ)->δ) (λ k=>k []) (λ x _ ih k=>ih λ l'=>k (x::l')) l
def up (f:List PO->Option (α×List PO×Nat)):Ev α:=λ st=>Option.rec none (Prod.rec λ a=>Prod.rec λ H n=>force H λ H'=>some (a,⟨H',st.hs⟩,⟨[],n⟩)) (f st.H)
noncomputable def e0I:List Hint->Option (List Hint)
 | .big::hs=>some hs| _=>none
def big (m:Ev α):Ev α:=λ st=>oc (e0I st.hs) (λ hs=>ob (m ⟨st.H,hs⟩) (Prod.rec λ a=>Prod.rec λ st' o=>some (a,st',⟨.sz o.sz::o.ps,0⟩))) (m st)
end Ev
noncomputable def a0q:List Nat->List Nat->Bool
 | [],[]=>true| a::as,b::bs=>match e0Y a b with
   | true=>a0q as bs| false=>false
 | _,_=>false
def sEq (a b:Str):Bool:=a0q a.cps.toList b.cps.toList
noncomputable def a1H {α:Type}:List (Str×α)->Str->Option α
 | [],_=>none| (k,v)::r,x=>match sEq k x with
   | true=>some v| false=>a1H r x
def c0U (x:Str)(fs:List Str):Option Nat:=List.rec none (λ f _ r=>bc (sEq f x) (some 0) (ob r λ i=>some (Nat.succ i))) fs
noncomputable def b3Y {γ:Type}(l:List γ):Nat->Option γ:=List.rec (λ _=>none) (λ v _ ih i=>Nat.rec (some v) (λ j _=>ih j) i) l
noncomputable def putK {γ δ:Type}(l:List γ):Nat->γ->(List γ->δ)->δ:=List.rec (λ _ _ k=>k []) (λ v l ih i y k=>Nat.rec (k (y::l)) (λ j _=>ih j y λ l'=>k (v::l')) i) l
theorem a1d {γ:Type}:∀ (l:List γ)(i:Nat),b3Y l i=l[i]?
 | [],_=>rfl| _::_,0=>rfl| _::l,i+1=>a1d l i
theorem putK_eq {γ δ:Type}:∀ (l:List γ)(i:Nat)(y:γ)(k:List γ->δ),putK l i y k=k (l.set i y)
 | [],_,_,_=>rfl| _::_,0,_,_=>rfl| v::l,i+1,y,k=>putK_eq l i y λ l'=>k (v::l')
def a9s (fs:List Str)(vs:List PV)(x:Str):Option PV:=ob (c0U x fs) (b3Y vs)
theorem a8k (f fs v vs x):a9s (f::fs) (v::vs) x=bc (sEq f x) (some v) (a9s fs vs x):=by
 show ob (bc (sEq f x) (some 0) (ob (c0U x fs) λ i=>some (Nat.succ i))) (b3Y (v::vs))=bc (sEq f x) (some v) (ob (c0U x fs) (b3Y vs));cases sEq f x with
 | true=>rfl| false=>cases c0U x fs <;> rfl
def b2q (fs:List Str)(vs:List PV)(x:Str)(y:PV):List Str×List PV:=oc (c0U x fs) (λ i=>(fs,vs.set i y)) (fs++[x],vs++[y])
theorem b8X (f fs v vs x y):b2q (f::fs) (v::vs) x y=bc (sEq f x) (f::fs,y::vs) (f::(b2q fs vs x y).1,v::(b2q fs vs x y).2):=by
 show oc (bc (sEq f x) (some 0) (ob (c0U x fs) λ i=>some (Nat.succ i))) (λ i=>(f::fs,(v::vs).set i y)) (f::fs++[x],v::vs++[y])=bc (sEq f x) (f::fs,y::vs) (f::(oc (c0U x fs) (λ i=>(fs,vs.set i y)) (fs++[x],vs++[y])).1,v::(oc (c0U x fs) (λ i=>(fs,vs.set i y)) (fs++[x],vs++[y])).2);cases sEq f x with
 | true=>rfl| false=>cases c0U x fs <;> rfl
def d6B {δ:Type}(fs:List Str)(vs:List PV)(x:Str)(y:PV)(k:List Str->List PV->δ):δ:=oc (c0U x fs) (λ i=>putK vs i y (k fs)) (k (fs++[x]) (vs++[y]))
theorem c7V {δ:Type}(fs:List Str)(vs:List PV)(x:Str)(y:PV)(k:List Str->List PV->δ):d6B fs vs x y k=k (b2q fs vs x y).1 (b2q fs vs x y).2:=by
 unfold d6B b2q;cases c0U x fs with
 | none=>rfl| some i=>exact putK_eq vs i y (k fs)
structure AEnv where
 sc:Scope
 L:Nat
 cells:List (Str×Nat)
 top:Bool
structure FnI where
 params:List Str
 dflts:List PV
 body:List Stmt
 sc:Scope
noncomputable def b0T:Const->Option PV
 | .none=>some .none| .bool b=>some (.bool b)| .int i=>some (.int i)| .str s=>some (.str s)| .bytes []=>some (.bytes [])| _=>none
noncomputable def a2E (k:Nat):List Nat->Bool
 | []=>false| x::l=>match e0Y k x with
   | true=>true| false=>a2E k l
noncomputable def fnD:Stmt->Option (Str×Arguments×List Stmt×Scope)
 | .FunctionDef n a b _ _ _ sc _ _ _=>some (n,a,b,sc)| _=>none
noncomputable def d7K:Stmt->Option (Str×List Stmt)
 | .ClassDef n _ _ b _ _ _ _ _ _ _=>some (n,b)| _=>none
noncomputable def c1l:Expr->Option Const
 | .Constant c _ _=>some c| _=>none
noncomputable def b2h:Expr->Option (List Expr)
 | .Tuple vs _ _=>some vs| _=>none
def d2w (e:Expr):Option PV:=oc (c1l e) b0T (ob (b2h e) λ es=>ob (es.mapM λ e=>ob (c1l e) b0T) λ l=>some (.tup l))
def b5p (s:Stmt):Option FnI:=ob (fnD s) λ q=>ob (q.2.1.defaults.mapM d2w) λ ds=>some ⟨q.2.1.args.map (·.arg),ds,q.2.2.1,q.2.2.2⟩
def a2A:List Stmt:=prg.main.body
def c1Q (k:Nat):Option (List Stmt):=ob a2A[k]? λ s=>ob (d7K s) λ q=>some q.2
noncomputable def a2m:List Nat:=[0,1006,10,11,12,13,23,24,25,26,28,29,30,31,32,33,34,1035,2035,3035,36,37,38,42,43,1044,2044,3044,4044,54,1055,2055,56,1057,1058,2058,3058,4058,5058,6058,7058,8058,9058,10058,11058,12058,13058,14058,59,60,1066,67,68,69,70,71,72,73,74,75,76,77,78,79,80,81,82,83,84,85,86,87,89,1090,2090,3090,4090,5090,91,93,1094,2094,3094,4094,96,97,98,99,100,101,109,110,111,112,1113,2113,1122,2122,3122,4122,5122,123,124,125,126,128,130,132,133,134,135,136,137,138,139,140,141,142,143,144]
def a7w (k:Nat):Option Stmt:=bc (e0g k 1000) a2A[k]? (ob (c1Q (k%1000)) λ b=>b[k/1000-1]?)
def a2U (k:Nat):Option FnI:=gd (a2E k a2m) (ob (a7w k) b5p)
def a8z (s:Stmt):Option Str:=ob (fnD s) λ q=>some q.1
noncomputable def b5P (b:List Stmt)(j:Nat)(x:Str):Option Nat:=match b with
 | []=>none| s::r=>bc (oc (a8z s) (λ n=>sEq n x) false) (some j) (b5P r (j+1) x)
def d6g (k:Nat)(x:Str):Bool:=oc (ob (a7w k) a8z) (λ n=>sEq n x) false
def a8c (k:Nat)(x:Str):Option Nat:=ob (c1Q k) λ b=>ob (b5P b 0 x) λ i=>let j:=1000 * (i + 1) + k
 gd (a2E j a2m&&(d6g j x&&(e0Y (j%1000) k && !e0g j 1000))) (some j)
def a4H (H:List PO):PV->Option (List PV)
 | .tup l=>some l| .lst l=>some l| .loc i=>match b3Y H i with
   | some (.list l)=>some l| some (.froz l)=>some l| _=>none
 | _=>none
def a3r (H:List PO):PV->Option (List PV×List PV)
 | .dct ks vs=>some (ks,vs)| .loc i=>match b3Y H i with
   | some (.dict ks vs)=>some (ks,vs)| _=>none
 | _=>none
noncomputable def a3J:Int->Int->Bool
 | .ofNat a,.ofNat b=>e0Y a b| .negSucc a,.negSucc b=>e0Y a b| _,_=>false
noncomputable def a0X:Int->Int->Bool
 | .ofNat a,.ofNat b=>e0g a b| .negSucc a,.negSucc b=>e0g b a| .negSucc _,.ofNat _=>true| .ofNat _,.negSucc _=>false
def a1A (H:List PO):PV->Bool
 | .lst _=>true| .loc i=>match b3Y H i with
   | some (.list _)=>true| some (.froz _)=>true| _=>false
 | _=>false
def a1v (H:List PO)(a:PV):Option (List PV):=gd (a1A H a) (a4H H a)
def a7H (H:List PO)(a b:PV):Option (List PV×List PV):=ob (a1v H a) λ x=>ob (a1v H b) λ y=>some (x,y)
noncomputable def c1i:PV->Option Str
 | .str i=>some i| _=>none
noncomputable def a5R:PV->Option (List PV)
 | .tup i=>some i| _=>none
noncomputable def a8L:PV->Option (List Nat)
 | .bytes i=>some i| _=>none
noncomputable def b2i:PV->Option Bool
 | .bool i=>some i| _=>none
noncomputable def a5S:PV->Option Nat
 | .loc i=>some i| _=>none
noncomputable def isNone:PV->Bool
 | .none=>true| _=>false
def a8s (H:List PO)(v:PV):Bool:=match a3r H v with
 | some _=>true| none=>false
def b3Z (H:List PO)(v:PV):Bool:=match v with
 | .bool _=>true| .int _=>true| .str _=>true| .tup _=>true| b=>a1A H b||a8s H b
def d0B (a b:Option Bool):Option Bool:=ob a λ x=>ob b λ y=>some (x&&y)
noncomputable def a5L (f:PV->PV->Option Bool):List PV->List PV->Option Bool
 | x::xs,y::ys=>d0B (f x y) (a5L f xs ys)| _,_=>some true
noncomputable def a1V:List PV->List PV->Bool
 | [],[]=>true| _::a,_::b=>a1V a b| _,_=>false
def a7d (H:List PO)(f:PV->PV->Option Bool)(a b:PV):Option Bool:=match a with
 | .bool x=>ob (b2i b) λ y=>some (x==y)| .int x=>ob (a0z b) λ y=>some (a3J x y)| .str x=>ob (c1i b) λ y=>some (sEq x y)| .tup x=>ob (a5R b) λ y=>d0B (a5L f x y) (some (a1V x y))| a=>ob (a7H H a b) λ p=>bc (a1V p.1 p.2) (a5L f p.1 p.2) (some false)
noncomputable def a5X (H:List PO):Nat->PV->PV->Option Bool
 | 0,_,_=>none| n+1,a,b=>bc (isNone a) (bc (isNone b) (some true) (gd (b3Z H b) (some false))) (bc (isNone b) (gd (b3Z H a) (some false)) (a7d H (a5X H n) a b))
noncomputable def b1m (f g:PV->PV->Option Bool):List PV->List PV->Option Bool
 | [],[]=>some false| [],_::_=>some true| _::_,[]=>some false| x::xs,y::ys=>ob (f x y) λ c=>bc c (b1m f g xs ys) (g x y)
noncomputable def c5d (H:List PO):Nat->PV->PV->Option Bool
 | 0,_,_=>none| n+1,a,b=>oc (a0z a) (λ x=>ob (a0z b) λ y=>some (a0X x y)) (ob (a7H H a b) λ p=>b1m (a5X H n) (c5d H n) p.1 p.2)
def d2A (a b:PV):Option Bool:=ob (a0z a) λ x=>ob (a0z b) λ y=>some (a0X x y)
noncomputable def e0C:List PV->Bool
 | []=>false| _=>true
def b6W (H:List PO)(v:PV):Option Bool:=oc (b2i v) some (ob (a1v H v) λ l=>some (e0C l))
noncomputable def d6o:PV->Bool
 | .int _=>true| _=>false
noncomputable def c8c (i:Str):List PV->Option Bool
 | []=>some false| v::r=>ob (c1i v) λ j=>ob (c8c i r) λ b=>some (sEq j i||b)
noncomputable def d6q:List PV->Option Bool
 | []=>some false| _=>none
def isIn (x:PV)(l:List PV):Option Bool:=oc (c1i x) (λ i=>c8c i l) (gd (d6o x) (d6q l))
noncomputable def isI (v:PV):Bool:=match v with
 | .int _=>true| _=>false
noncomputable def a3H:List PV->Bool
 | []=>true| v::r=>isI v&&a3H r
def c3b (v:PV):Nat:=match v with
 | .int _=>1| .str _=>2| .tup l=>bc (a3H l) 3 0| _=>0
noncomputable def a1q (n:Nat):List PV->Bool
 | []=>true| k::r=>e0Y (c3b k) n&&a1q n r
def a7O (ks:List PV)(x:PV):Bool:=match c3b x with
 | 0=>false| n+1=>a1q (n+1) ks
noncomputable def isT:Option Bool->Bool
 | some b=>b| none=>false
noncomputable def dictAt:List PV->List PV->PV->Option PV
 | [],_,_=>none| k::ks,vs,x=>match vs with
   | []=>none| v::vs=>bc (isT (a5X [] 4 k x)) (some v) (dictAt ks vs x)
def d3B (ks vs:List PV)(x:PV):Option (Option PV):=gd (a7O ks x) (some (dictAt ks vs x))
noncomputable def a1M:List PV->List PV->PV->PV->List PV×List PV
 | [],vs,x,y=>([x],vs++[y])
 | k::ks,vs,x,y=>match vs with
   | []=>(k::ks,[])
   | v::vs=>bc (isT (a5X [] 4 k x)) (k::ks,y::vs) (let r:=a1M ks vs x y; (k::r.1,v::r.2))
def b6E (a b:PV):Option Bool:=ob (a8L a) λ x=>ob (a8L b) λ y=>some (a0q x y)
def a9z (a b:PV):Option Bool:=match b with
 | .none=>match a with
   | .none=>some true| .tup _=>some false| .lst _=>some false| .dct _ _=>some false| .ins _ _ _=>some false| .int _=>some false| _=>none
 | .bool y=>ob (b2i a) λ x=>some (x==y)| _=>none
def c8d (H:List PO)(a b:PV):Option Bool:=oc (a3r H b) (λ p=>ob (d3B p.1 p.2 a) λ o=>some o.isSome) (ob (a4H H b) λ l=>isIn a l)
def c3l (f:Int->Int->Bool)(a b:PV):Option Bool:=ob (a0z a) λ x=>ob (a0z b) λ y=>some (f x y)
def d9s (H:List PO)(a b:PV):Option Bool:=oc (b6E a b) (λ r=>some (!r)) (ob (a7d H (a5X H 5) a b) λ r=>some (!r))
def a3U (H:List PO)(op:CmpOp)(a b:PV):Option Bool:=match op with
 | .Eq=>a5X H 6 a b| .NotEq=>d9s H a b| .Lt=>c5d H 6 a b| .Gt=>c3l (λ x y=>a0X y x) a b| .LtE=>c3l (λ x y=>!a0X y x) a b| .GtE=>c3l (λ x y=>!a0X x y) a b| .Is=>a9z a b| .IsNot=>ob (a9z a b) λ r=>some (!r)| .In=>c8d H a b| .NotIn=>ob (c8d H a b) λ r=>some (!r)
def e0P (op:CmpOp)(a b:PV):Ev Bool:=Ev.rd λ H=>a3U H op a b
noncomputable def e0J:List Hint->Option (Bool×List Hint)
 | .ans r::hs=>some (r,hs)| _=>none
noncomputable def d7r:List Hint->Option (PV×List Hint)
 | .itm r::hs=>some (r,hs)| _=>none
def cmp (op:CmpOp)(a b:PV):Ev Bool:=λ st=>oc (e0J st.hs) (λ q=>some (q.1,⟨st.H,q.2⟩,⟨[.cmp st.H op a b q.1],0⟩)) (e0P op a b st)
@[irreducible] def gE' {α:Type}(c:Bool)(m:Ev α):Ev α:=match c with
  | true=>m| false=>Ev.no
noncomputable def d1b (H:List PO)(l:List PV):PV×List PO×Nat:=(.loc H.length,H++[.list l],l.length)
def newList (l:List PV):Ev PV:=Ev.up λ H=>some (d1b H l)
noncomputable def d6Q (l:List PV):Nat->List PV
 | 0=>[]
 | n+1=>l++d6Q l n
noncomputable def a8B:Int->Nat
 | .ofNat n=>n| .negSucc _=>0
noncomputable def a4K:Int->Option Nat
 | .ofNat n=>some n| _=>none
noncomputable def b0v:Int->Bool
 | .ofNat n=>e0g n 9223372036854775808| .negSucc n=>e0g n 9223372036854775808
def c6I (op:Operator)(x y:Int):Option Int:=match op with
 | .Add=>some (x+y)| .Sub=>some (x-y)| .Mult=>gd (b0v y) (some (x * y))| .FloorDiv=>ob (a4K y) λ n=>gd (e0g 0 n&&e0g n 1073741824) (some (Int.fdiv x (.ofNat n)))| .Mod=>ob (a4K y) λ n=>gd (e0g 0 n) (some (e1T x (.ofNat n)))| .BitAnd=>ob (a4K x) λ a=>ob (a4K y) λ b=>some (.ofNat (Nat.land a b))| .BitOr=>ob (a4K x) λ a=>ob (a4K y) λ b=>some (.ofNat (Nat.lor a b))| .LShift=>ob (a4K x) λ a=>ob (a4K y) λ b=>gd (e0g b 64&&e0g a 9223372036854775808) (some (.ofNat (Nat.shiftLeft a b)))| .RShift=>ob (a4K x) λ a=>ob (a4K y) λ b=>some (.ofNat (Nat.shiftRight a b))| _=>none
noncomputable def d7Z (H:List PO)(l:List PV):PV×List PO×Nat:=(.tup l,H,l.length)
def c6l (a b:PV):Ev PV:=Ev.up λ H=>oc (a5R a) (λ x=>ob (a5R b) λ y=>some (d7Z H (x++y))) (oc (a8L a) (λ x=>ob (a8L b) λ y=>some (.bytes (x++y),H,(x++y).length)) (ob (a7H H a b) λ p=>some (d1b H (p.1++p.2))))
noncomputable def b3A (l:List PV):Option PV:=match l with
 | [x]=>some x| _=>none
def c5p (a:PV)(y:Int):Ev PV:=Ev.up λ H=>gd (b0v y) (ob (a1v H a) λ l=>ob (b3A l) λ x=>some (d1b H (d6Q [x] (a8B y))))
noncomputable def c6E:Operator->Bool
 | .Mult=>true| _=>false
noncomputable def d2O:Operator->Bool
 | .Add=>true| _=>false
def b7R (op:Operator)(a b:PV):Ev PV:=oc (a0z b) (λ y=>oc (a0z a) (λ x=>Ev.opt (ob (c6I op x y) λ z=>some (.int z))) (gE' (c6E op) (c5p a y))) (gE' (d2O op) (Ev.big (c6l a b)))
def c0T (n:Nat)(k:Int):Option Nat:=match k with
 | .ofNat i=>gd (e0g i n) (some i)| .negSucc i=>gd (e0g i n) (some (n-1-i))
def a2T (H:List PO)(a i:PV):Option PV:=oc (a3r H a) (λ p=>ob (d3B p.1 p.2 i) id) (ob (a0z i) λ k=>oc (a8L a) (λ l=>ob (a4K k) λ j=>ob l[j]? λ x=>some (.int (Int.ofNat x))) (ob (a4H H a) λ l=>ob (c0T l.length k) λ j=>l[j]?))
def c4B (a i:PV):Ev PV:=Ev.rd λ H=>a2T H a i
def a6c (a i:PV):Ev PV:=λ st=>oc (d7r st.hs) (λ q=>some (q.1,⟨st.H,q.2⟩,⟨[.itm st.H a i q.1],0⟩)) (c4B a i st)
noncomputable def b5c {α:Type}:Option α->Bool
 | none=>true| _=>false
def d6e (v:PV):Option Nat:=ob (a0z v) a4K
def c7k (d n:Nat)(o:Option PV):Option Nat:=oc o (λ v=>ob (d6e v) λ k=>some (e1G k n)) (some d)
def d3F {α:Type}(l:List α)(lo hi:Option PV):Option (List α):=ob (c7k 0 l.length lo) λ x=>ob (c7k l.length l.length hi) λ y=>some ((l.drop x).take (y-x))
def d2X (l:List PV)(lo hi:Option PV):Option (List PV):=gd (b5c lo) (ob hi λ v=>ob (d6e v) λ n=>gd (e0g n l.length) (some (l.take n)))
noncomputable def d6p:Int->Bool
 | .negSucc 0=>true| _=>false
def a6b (a:PV)(lo hi st:Option PV):Ev PV:=Ev.up λ H=>oc st
 (λ v=>ob (a0z v) λ i=>gd (d6p i&&(b5c lo&&b5c hi)) (oc (a5R a) (λ l=>some (.tup l.reverse,H,0)) (ob (a1v H a) λ l=>some (d1b H l.reverse))))
 (oc (a8L a) (λ l=>ob (d3F l lo hi) λ x=>some (.bytes x,H,0)) (oc (a5R a) (λ l=>ob (d2X l lo hi) λ x=>some (.tup x,H,0)) (ob (a1v H a) λ l=>ob (d3F l lo hi) λ x=>some (d1b H x))))
def d0q (H:List PO)(p:Nat)(o:PO)(i v:PV):Option (Unit×List PO×Nat):=match o with
 | .list l=>ob (a0z i) λ k=>ob (a4K k) λ k=>gd (e0g k l.length) (some ((),H.set p (.list (l.set k v)),0))| .dict ks vs=>gd (a7O ks i) (let r:=a1M ks vs i v; some ((),H.set p (.dict r.1 r.2),r.1.length))| _=>none
def b4s (a i v:PV):Ev Unit:=Ev.up λ H=>ob (a5S a) λ p=>ob H[p]? λ o=>d0q H p o i v
noncomputable def S (l:List Nat):Str:=⟨l.toArray⟩
def qL (n:Nat):List Nat:=Nat.rec (λ _=>[]) (λ _ ih n=>bc (e0Y n 0) [] (e0y n 256::ih (e0z n 256))) 64 n
inductive GT where
 | leaf
 | node (k:List Nat) (v:PV) (l r:GT)
noncomputable def a6y:List Nat->List Nat->Nat
 | [],[]=>1| [],_::_=>0| _::_,[]=>2| a::as,b::bs=>bc (e0Y a b) (a6y as bs) (bc (e0g a b) 0 2)
noncomputable def GT.at:GT->List Nat->Option PV
 | .leaf,_=>none| .node k v l r,x=>match a6y x k with
   | 0=>l.at x| 1=>some v| _=>r.at x
def mkT (d:Nat):List (Nat×PV)->GT×List (Nat×PV):=Nat.rec (λ l=>(.leaf,l)) (λ _ ih l=>(ih l).rec λ a r=>(oc (unc r) (λ p=>(ih p.2).rec λ b r=>(.node (qL p.1.1) p.1.2 a b,r)) (a,[]))) d
def d3M:GT:=(mkT 6 [(0x65736162,.none),(0x7365736162,.none),(0x74737269665f65736163,.none),(0x7265736f706d6f63,.none),(0x61746164,.none),(0x746c7561666564,.none),(0x73746c7561666564,.none),(0x73746e656d656c65,.none),(0x73726f74636166,.none),(0x7473726966,.none),(0x6c6576656c5f657361635f736168,.none),(0x646c6568,.none),(0x776f68,.none),(0x73647261776b6361625f7369,.none),(0x636972656d756e5f7369,.none),(0x7463697274735f7369,.none),(0x7473616c,.none),(0x737466656c,.none),(0x747365676e6f6c,.none),(0x7370616d,.none),(0x647261776e6f,.none),(0x6e696769726f,.none),(0x7372696170,.none),(0x6563616c70,.none),(0x736563616c70,.none),(0x736569747265706f7270,.none),(0x726564726f6572,.none),(0x737468676972,.none),(0x73776f72,.none),(0x73646e6f636573,.none),(0x7374726f73,.none),(0x737472617473,.none),(0x6874676e65727473,.none),(0x656c626174,.none),(0x74786574,.none),(0x646c6f74,.none),(0x7365756c6176,.none),(0x676e6974696177,.none),(0x64726f77,.none),(0x7364726f77,.none)]).1
def d6M:List Nat:=qL 0x73776f72
noncomputable def a2J:List Nat:=[90,94,44,35,58,55,57,66,113,122]
noncomputable def a5j {α:Type}:Option α->Bool
 | some _=>true| none=>false
def a4a (c:Nat)(x:Str):Bool:=a2E c a2J&&(a5j (d3M.at x.cps.toList)&&(!a0q x.cps.toList d6M||e0Y c 122))
noncomputable def b6M:PO->Option (Nat×Nat)
 | .inst c d=>some (c,d)| _=>none
noncomputable def d3N:PO->Option (List Str×List PV)
 | .ns fs vs=>some (fs,vs)| _=>none
def a4S (H:List PO)(i:Nat):Option (Nat×Nat×List Str×List PV):=ob (b3Y H i) λ o=>ob (b6M o) λ p=>ob (b3Y H p.2) λ q=>ob (d3N q) λ r=>some (p.1,p.2,r.1,r.2)
noncomputable def d2N:PV->Bool
 | .blt _=>true| _=>false
def d6c (v:PV):Option PV:=gd (!d2N v) (some v)
def c3o (H:List PO)(a:PV):Option (Nat×List Str×List PV):=match a with
 | .ins c fs vs=>some (c,fs,vs)| .loc i=>ob (a4S H i) λ q=>some (q.1,q.2.2.1,q.2.2.2)| _=>none
def b5k (a:PV)(x:Str):Ev PV:=Ev.rd λ H=>ob (c3o H a) λ q=>gd (a4a q.1 x) (ob (a9s q.2.1 q.2.2 x) d6c)
def b4t (a:PV)(x:Str)(v:PV):Ev Unit:=Ev.up λ H=>ob (a5S a) λ i=>ob (a4S H i) λ q=>gd (a4a q.1 x) (let r:=b2q q.2.2.1 q.2.2.2 x v; some ((),H.set q.2.1 (.ns r.1 r.2),r.1.length))
def c4e (H:List PO):PV->Option Nat
 | .ins c _ _=>some c| .loc i=>match b3Y H i with
   | some (.inst c _)=>some c| _=>none
 | _=>none
noncomputable def a6s:Nat->Int->Int->List PV
 | 0,_,_=>[]
 | n+1,a,s=>.int a::a6s n (a+s) s
noncomputable def b7Z:Int->Bool
 | .ofNat n=>e0g n 1000000000| .negSucc n=>e0g n 1000000000
def b8m:List PV->Option (List PV)
 | [b]=>ob (a0z b) λ b=>gd (b7Z b) (some (a6s (a8B b) 0 1))| [a,b]=>ob (a0z a) λ a=>ob (a0z b) λ b=>gd (b7Z a&&b7Z b) (some (a6s (a8B (b-a)) a 1))| [a,b,c]=>ob (a0z a) λ a=>ob (a0z b) λ b=>ob (a0z c) λ c=>gd (d6p c&&(b7Z a&&b7Z b)) (some (a6s (a8B (a-b)) a (-1)))| _=>none
noncomputable def b0D (x:PV×PV):List (PV×PV)->Option (List (PV×PV))
 | []=>some [x]| y::r=>ob (d2A x.1 y.1) λ c=>bc c (some (x::y::r)) (ob (b0D x r) λ z=>some (y::z))
noncomputable def b8F:List (PV×PV)->List (PV×PV)->Option (List (PV×PV))
 | acc,[]=>some acc| acc,x::r=>ob (b0D x acc) λ a=>b8F a r
noncomputable def a3O:List PV->Option (List Nat)
 | []=>some []| v::r=>ob (a0z v) λ i=>ob (a4K i) λ n=>gd (e0g n 256) (ob (a3O r) λ l=>some (n::l))
def d0s:List Nat:=qL 0x65676e6172
def d6N:List Nat:=qL 0x65746172656d756e65
def d7c:List Nat:=qL 0x79656b
noncomputable def b8g:List (PV×PV)->Bool
 | x::r=>oc (a0z x.1) (λ a=>(match r with
      | []=>true| y::_=>oc (a0z y.1) (λ b=>a0X a b) false)&&b8g r) false
 | []=>true
def a4o (l:List (PV×PV)):Option (List (PV×PV)):=ob (b8F [] l) λ z=>gd (b8g z&&e0g l.length 64) (some z)
inductive BK where
 | len | min | max | sorted | isinst
noncomputable def c9h (id:String):Option BK:=
 if id == "len" then some .len
 else if id == "min" then some .min
 else if id == "max" then some .max
 else if id == "sorted" then some .sorted
 else if id == "isinstance" then some .isinst
 else none
noncomputable def two {α:Type}(l:List α):Option (α×α):=match l with
 | [x,y]=>some (x,y)| _=>none
def d5z (l:List PV):Option PV:=ob (b3A l) λ x=>ob (a0z x) λ i=>some (.int i)
def mm (f:Int->Int->Int)(args:List PV):Ev PV:=Ev.rd λ H=>oc (two args) (λ q=>ob (a0z q.1) λ a=>ob (a0z q.2) λ b=>some (.int (f a b))) (ob (b3A args) λ v=>ob (a1v H v) d5z)
noncomputable def d2F:PV->Bool
 | .typ t=>t == "bool"| _=>false
noncomputable def e0H (v:PV):Bool:=match v with
 | .none=>true| .str _=>true| _=>false
def b2Z (k:BK)(args:List PV):Ev PV:=match k with
 | .len=>Ev.rd λ H=>ob (b3A args) λ v=>oc (a8L v) (λ l=>some (.int l.length)) (ob (a4H H v) λ l=>some (.int l.length))| .min=>mm (λ a b=>bc (a0X b a) b a) args| .max=>mm (λ a b=>bc (a0X a b) b a) args| .sorted=>Ev.bind (Ev.rd λ H=>ob (b3A args) λ v=>ob (a3r H v) λ p=>gd (a1q 1 p.1) (ob (a4o (p.1.map λ k=>(k,k))) λ z=>some (z.map (·.2)))) newList| .isinst=>Ev.opt (ob (two args) λ q=>gd (d2F q.2&&e0H q.1) (some (.bool false)))
def c9e (id:String)(args:List PV):Ev PV:=match c9h id with
 | some k=>b2Z k args| none=>Ev.no
inductive TK where
 | int | tuple | list | bytes
noncomputable def c6y (n:String):Option TK:=
 if n == "int" then some .int
 else if n == "tuple" then some .tuple
 else if n == "list" then some .list
 else if n == "bytes" then some .bytes
 else none
def b6D (k:TK)(args:List PV):Ev PV:=match k with
    | .int=>Ev.opt (ob (b3A args) λ v=>ob (a0z v) λ i=>some (.int i))| .tuple=>Ev.rd λ H=>ob (b3A args) λ v=>oc (a5R v) (λ l=>some (.tup l)) (ob (a1v H v) λ l=>some (.tup l))| .list=>Ev.bind (Ev.rd λ H=>ob (b3A args) λ v=>a1v H v) newList| .bytes=>Ev.rd λ H=>ob (b3A args) λ v=>ob (a1v H v) λ l=>ob (a3O l) λ b=>some (.bytes b)
def c9d (n:String)(args:List PV):Ev PV:=match c6y n with
 | some k=>b6D k args| none=>Ev.no
def b9i:List Nat:=qL 0x646e65707061
def b9h:List Nat:=qL 0x646e65747865
def b9g:List Nat:=qL 0x747265736e69
def d7m:List Nat:=qL 0x706f70
def d1j:List Nat:=qL 0x74726f73
def d7n:List Nat:=qL 0x746567
def c7l (x:PV):Option (PV×Int):=ob (a5R x) λ l=>match l with
 | [a,b]=>ob (a0z b) λ i=>some (a,i)| _=>none
def lt2 (H:List PO)(x y:PV):Option Bool:=ob (c7l x) λ p=>ob (c7l y) λ q=>ob (a7H H p.1 q.1) λ lm=>ob (a5X H 5 p.1 q.1) λ c=>bc c (some (a0X p.2 q.2)) (b1m (a5X H 4) (c5d H 4) lm.1 lm.2)
def d6P (H:List PO)(v:PV):Option (List PV):=oc (a5R v) some (a1v H v)
inductive MK where
 | dget | append | extend | insert | pop | sort
def d1u (x:List Nat):Option MK:=
 if a0q x b9i then some .append
 else if a0q x b9h then some .extend
 else if a0q x b9g then some .insert
 else if a0q x d7m then some .pop
 else if a0q x d1j then some .sort
 else none
noncomputable def a5T:PO->Option (List PV)
 | .list l=>some l| _=>none
def d6T (H:List PO)(v:PV):Option (Nat×List PV):=ob (a5S v) λ i=>ob H[i]? λ o=>ob (a5T o) λ l=>some (i,l)
def b8a (H:List PO)(self:PV)(x:List Nat):Option MK:=bc (a8s H self) (gd (a0q x d7n) (some .dget)) (ob (d6T H self) λ _=>d1u x)
def b1W (self:PV)(f:List PO->List PV->Option (PV×List PV×Nat)):Ev PV:=Ev.up λ H=>ob (d6T H self) λ p=>ob (f H p.2) λ r=>some (r.1,H.set p.1 (.list r.2.1),r.2.2)
noncomputable def c3g:List PV->Bool
 | []=>true| _=>false
noncomputable def d2I (v:PV):Bool:=match v with
 | .int (.ofNat 0)=>true| _=>false
noncomputable def d2v (args:List PV):Option (PV×PV):=match args with
 | [k]=>some (k,.none)| [k,d]=>some (k,d)| _=>none
def d7g (args l:List PV):Option (PV×List PV×Nat):=match args with
 | []=>ob l.getLast? λ v=>some (v,l.dropLast,0)| [i]=>gd (d2I i) (match l with
   | v::r=>some (v,r,0)| []=>none)
 | _=>none
def d0o (H:List PO)(self:PV):Option (PV×List PO×Nat):=ob (d6T H self) λ p=>ob (two p.2) λ q=>ob (lt2 (H.set p.1 (.list [])) q.2 q.1) λ c=>some (.none,H.set p.1 (.list (bc c [q.2,q.1] [q.1,q.2])),2)
def a5Q (k:MK)(self:PV)(args:List PV):Ev PV:=match k with
 | .dget=>Ev.rd λ H=>ob (a3r H self) λ p=>ob (d2v args) λ q=>ob (d3B p.1 p.2 q.1) λ o=>some (o.getD q.2)| .append=>b1W self λ _ l=>ob (b3A args) λ v=>some (.none,l++[v],l.length+1)| .extend=>b1W self λ H l=>ob (b3A args) λ v=>ob (d6P H v) λ r=>some (.none,l++r,(l++r).length)| .insert=>b1W self λ _ l=>ob (two args) λ q=>ob (a0z q.1) λ k=>ob (a4K k) λ p=>gd (e0m p l.length) (some (.none,l.take p++q.2::l.drop p,l.length+1))| .pop=>b1W self λ _ l=>d7g args l| .sort=>Ev.up λ H=>gd (c3g args) (d0o H self)
def a2W (f:List PO->PV->Option (PV×List PO))(H:List PO)(l:List PV):Option (List PV×List PO):=List.rec (motive:=λ _=>List PO->Option (List PV×List PO)) (λ H=>some ([],H)) (λ x _ ih H=>ob (f H x) (Prod.rec λ x' H'=>ob (ih H') (Prod.rec λ r' H''=>some (x'::r',H'')))) l H
def d0O (th:List PO->List PV->Option (List PV×List PO))(H:List PO)(i:Nat)(o:PO):Option (PV×List PO):=match o with
 | .list l=>ob (th H l) λ (l',H')=>ob H'[i]? λ o=>ob (a5T o) λ _=>some (.lst l',H'.set i (.froz l))| .froz l=>ob (th H l) λ (l',H')=>some (.lst l',H')| .inst c d=>ob H[d]? λ q=>ob (d3N q) λ r=>ob (th H r.2) λ (vs',H')=>ob H'[i]? λ o=>ob (b6M o) λ _=>ob H'[d]? λ q=>ob (d3N q) λ _=>some (.ins c r.1 vs',(H'.set i (.fins c r.1 vs')).set d .dead)| .fins c fs vs=>some (.ins c fs vs,H)| _=>none
noncomputable def c1w:Nat->List PO->PV->Option (PV×List PO)
 | 0,_,_=>none| n + 1,H,v=>match v with
   | .loc i=>ob H[i]? λ o=>d0O (a2W (c1w n)) H i o| .tup l=>ob (a2W (c1w n) H l) λ (l',H')=>some (.tup l',H')| v=>some (v,H)
def a5m:GT:=(mkT 8 [(0x65646f43646142,.gl 8),(0x676e69646f636e45646142,.gl 7),(0x656c626154646142,.gl 9),(0x534552554749465f59454b4c4c4f43,.int 254),(0x444e4f4345535f59454b4c4c4f43,.int 32),(0x44524948545f59454b4c4c4f43,.int 2),(0x504f545f59454b4c4c4f43,.int 65535),(0x45524f435f4c4c4f43,.int 64320),(0x534e4f49534e455458455f4c4c4f43,.int 64384),(0x53524548544f5f4c4c4f43,.int 64448),(0x5449425f545345525f4c4c4f43,.int 32768),(0x4b53414d5f545345525f4c4c4f43,.int 32767),(0x54464948535f545345525f4c4c4f43,.int 15),(0x595241444e4f4345535f4c4c4f43,.int 32),(0x59524149545245545f4c4c4f43,.int 2),(0x454c42495441504d4f43,.tup [(.str (S (qL 0x646b666e))),(.str (S (qL 0x636b666e)))]),(0x657361426c6c6f43,.gl 55),(0x686374614d6c6c6f43,.gl 57),(0x736e6f6974704f6c6c6f43,.gl 66),(0x7265736f706d6f43,.gl 35),(0x4445534f504d4f434544,.tup [(.str (S (qL 0x64666e))),(.str (S (qL 0x646b666e)))]),(0x61746144,.gl 94),(0x73746e656d656c45,.gl 58),(0x6d61657274536d726f46,.gl 44),(0x54535249465f48474948,.int 55296),(0x534441454c,.int 19),(0x54535249465f4441454c,.int 4352),(0x5453414c5f574f4c,.int 57343),(0x45444f435f58414d,.int 1114111),(0x544e454d4543414c504552,.int 65533),(0x70614d65676e6152,.gl 90),(0x53454c42414c4c5953,.int 11172),(0x54535249465f454c42414c4c5953,.int 44032),(0x534c494154,.int 28),(0x454e4f4e5f4c494154,.int 4519),(0x454e4f4c415f38465455,.str (S (qL 0x6461656c20612074756f6874697720746574636f206c696172742061))),(0x4e454b4f52425f38465455,.str (S (qL 0x66666f20736b6165726220746168742065636e65757165732061))),(0x524556454e5f38465455,.str (S (qL 0x73646e61747320726576656e207461687420746574636f206e61))),(0x454e414c505f38465455,.int 65536),(0x54524f48535f38465455,.str (S (qL 0x74726f68732074756320736920746168742065636e65757165732061))),(0x4c494152545f38465455,.int 128),(0x726f727245696e55,.gl 6),(0x6d616572745338667455,.gl 113),(0x534c45574f56,.int 21),(0x54535249465f4c45574f56,.int 4449),(0x53444e455f44524f57,.tup [(.str (S [67,82])),(.str (S [76,70])),(.str (S (qL 0x656e696c77654e)))]),(0x5352455454454c5f4e495f44524f57,.tup [(.str (S (qL 0x72657474654c64694d))),(.str (S (qL 0x74654c6d754e64694d))),(.str (S (qL 0x65746f75515f656c676e6953)))]),(0x535245424d554e5f4e495f44524f57,.tup [(.str (S (qL 0x6d754e64694d))),(.str (S (qL 0x74654c6d754e64694d))),(.str (S (qL 0x65746f75515f656c676e6953)))]),(0x44454e494f4a5f44524f57,.tup [(.str (S (qL 0x72657474654c41))),(.str (S (qL 0x72657474654c5f776572626548))),(.str (S (qL 0x636972656d754e))),(.str (S (qL 0x616e616b6174614b)))]),(0x5352455454454c5f44524f57,.tup [(.str (S (qL 0x72657474654c41))),(.str (S (qL 0x72657474654c5f776572626548)))]),(0x4e49414c505f44524f57,.tup [(.str (S (qL 0x72657474654c41))),(.str (S (qL 0x72657474654c5f776572626548))),(.str (S (qL 0x636972656d754e)))]),(0x44455050494b535f44524f57,.tup [(.str (S (qL 0x646e65747845))),(.str (S (qL 0x74616d726f46))),(.str (S (qL 0x4a575a)))]),(0x6b6c615764726f57,.gl 122),(0x73657373616c635f77616c5f,.dct [(.int 769),(.int 803)] [(.int 230),(.int 220)]),(0x617461645f77616c5f,.gl 134),(0x6b6365645f77616c5f,.gl 132),(0x776172645f77616c5f,.gl 133),(0x74686769725f666c61685f74737269665f77616c5f,.gl 143),(0x64656d726f665f77616c5f,.gl 139),(0x736c6576656c5f77616c5f,.gl 142),(0x73746574636f5f77616c5f,.gl 140),(0x73747261705f77616c5f,.gl 128),(0x6c6c616d735f77616c5f,.gl 130),(0x64656c6c6570735f77616c5f,.gl 137),(0x656c6261745f77616c5f,.gl 135),(0x74726170615f6e656b61745f77616c5f,.gl 138),(0x747865745f77616c5f,.gl 136),(0x737468676965775f77616c5f,.dct [(.int 32),(.int 97),(.int 65),(.int 101),(.int 69),(.int 769),(.int 803)] [(.tup [(.int 5),(.int 32),(.int 2)]),(.tup [(.int 10),(.int 32),(.int 2)]),(.tup [(.int 10),(.int 32),(.int 8)]),(.tup [(.int 11),(.int 32),(.int 2)]),(.tup [(.int 11),(.int 32),(.int 8)]),(.tup [(.int 0),(.int 36),(.int 2)]),(.tup [(.int 0),(.int 37),(.int 2)])]),(0x7364726f775f77616c5f,.gl 141),(0x6c6c61775f,.gl 0),(0x6c6f6f62,.typ "bool"),(0x7365747962,.typ "bytes"),(0x6c6163696e6f6e61635f7373656c65736163,.gl 100),(0x6465736f706d6f6365645f6c6c6f63,.gl 60),(0x7368706172676f6564695f6c6c6f63,.gl 54),(0x6576696c5f6c6c6f63,.gl 59),(0x64656c6163735f6c6c6f63,.gl 56),(0x646574616c6c6f63,.gl 84),(0x64656b6e616c625f79656b6c6c6f63,.gl 67),(0x657361635f79656b6c6c6f63,.gl 73),(0x74696769645f79656b6c6c6f63,.gl 85),(0x736572756769665f79656b6c6c6f63,.gl 86),(0x74737269665f79656b6c6c6f63,.gl 71),(0x687472756f665f79656b6c6c6f63,.gl 75),(0x6c6576656c5f79656b6c6c6f63,.gl 77),(0x736c6576656c5f79656b6c6c6f63,.gl 76),(0x646e6f6365735f79656b6c6c6f63,.gl 72),(0x646574666968735f79656b6c6c6f63,.gl 68),(0x64726968745f79656b6c6c6f63,.gl 74),(0x657261706d6f63,.gl 83),(0x737473696c5f657261706d6f63,.gl 81),(0x737468676965775f657261706d6f63,.gl 82),(0x6465736f706d6f63,.gl 36),(0x73746c75616665645f61746164,.gl 93),(0x6465736f706d6f636564,.gl 32),(0x726f665f73746e656d656c65,.gl 79),(0x386674755f65646f636e65,.gl 110),(0x65746172656d756e65,.typ "enumerate"),(0x79625f646c6f66,.gl 98),(0x6c6c75665f646c6f66,.gl 99),(0x666f5f646c6f66,.gl 96),(0x73657375746174735f646c6f66,.gl 97),(0x6465646e617078655f6d726f66,.gl 29),(0x7972616d6972705f73695f6d726f66,.gl 34),(0x676e697070616d5f6d726f66,.gl 28),(0x666f5f6d726f66,.gl 37),(0x646574726f735f6d726f66,.gl 31),(0x737265626d756e5f6c75676e6168,.gl 24),(0x726961705f6c75676e6168,.gl 26),(0x73747261705f6c75676e6168,.gl 25),(0x746e69,.typ "int"),(0x65646f635f7369,.gl 10),(0x656c62616c6c79735f6c75676e61685f7369,.gl 23),(0x72616c6163735f7369,.gl 12),(0x64616568615f656c626174735f7369,.gl 43),(0x657461676f727275735f7369,.gl 11),(0x64726968745f72657070755f7369,.gl 70),(0x65636e6174736e697369,.blt "isinstance"),(0x6e656c,.blt "len"),(0x7473696c,.typ "list"),(0x6c6163696e6f6e61635f7365686374616d,.gl 101),(0x78616d,.blt "max"),(0x6e696d,.blt "min"),(0x64666e,.gl 38),(0x73746e656d656c655f64657265626d756e,.gl 87),(0x6465726564726f,.gl 30),(0x666c61685f79625f6563616c70,.gl 13),(0x73657469736f706d6f635f7972616d697270,.gl 33),(0x65676e6172,.typ "range"),(0x656b696c5f6572615f65676e6172,.gl 89),(0x73776f725f65676e6172,.gl 91),(0x79656b5f74726f73,.gl 80),(0x646574726f73,.blt "sorted"),(0x7265736f706d6f635f6d6165727473,.gl 42),(0x656c707574,.typ "tuple"),(0x6461656c5f38667475,.gl 111),(0x73746574636f5f38667475,.gl 109),(0x65636569705f38667475,.gl 112),(0x6465746867696577,.gl 69),(0x79656b5f73746867696577,.gl 78),(0x7365697261646e756f625f64726f77,.gl 126),(0x736567646972625f64726f77,.gl 123),(0x64656e696f6a5f73695f64726f77,.gl 124),(0x656c75725f64726f77,.gl 125)]).1
structure Bx (α:Type) where
 f:α
structure Rc where
 e:Expr->AEnv->Ev PV
 t:Expr->AEnv->Ev Bool
 s:Stmt->AEnv->Ev Fl
 ss:List Stmt->AEnv->Ev Fl
 call:Nat->List PV->Ev PV
def d1A:Rc:=⟨λ _ _=>Ev.no,λ _ _=>Ev.no,λ _ _=>Ev.no,λ _ _=>Ev.no,λ _ _=>Ev.no⟩
open Ev (ret no bind opt rd up)
noncomputable def d8R:PO->Option (List Str×List PV)
 | .fr fs vs=>some (fs,vs)| _=>none
def c0i (H:List PO)(i:Nat):Option (List Str×List PV):=ob (b3Y H i) d8R
noncomputable def a7r:PO->Option (Option PV)
 | .cell v=>some v| _=>none
def c6e (H:List PO)(i:Nat):Option PV:=ob (ob H[i]? a7r) id
def b1G:List Nat:=qL 0x5f5f67756265645f5f
def d1r (ae:AEnv)(x:Str):Option NameKind:=AEnv.rec (λ sc _ _ _=>a1H sc.names x) ae
def d2c (ae:AEnv)(x:Str)(k:NameKind)(H:List PO):Option PV:=match k with
 | .local=>ob (c0i H ae.L) (Prod.rec λ fs vs=>a9s fs vs x)| .cell=>ob (a1H ae.cells x) λ i=>c6e H i| .globalImplicit=>a5m.at x.cps.toList| _=>none
def a9A (ae:AEnv)(x:Str):Ev PV:=rd λ H=>gd (!a0q x.cps.toList b1G) (ob (d1r ae x) λ k=>d2c ae x k H)
def d6A (ae:AEnv)(x:Str)(v:PV)(k:NameKind)(H:List PO):Option (Nat×PO):=match k with
 | .local=>ob (c0i H ae.L) (Prod.rec λ fs vs=>d6B fs vs x v λ fs' vs'=>some (ae.L,.fr fs' vs'))| .cell=>ob (a1H ae.cells x) λ i=>ob (ob H[i]? a7r) λ _=>some (i,.cell (some v))| _=>none
def a3a (ae:AEnv)(x:Str)(v:PV):Ev Unit:=λ st=>ob (d1r ae x) λ k=>ob (d6A ae x v k st.H) (Prod.rec λ i o=>putK st.H i o λ H'=>some ((),⟨H',st.hs⟩,⟨[],0⟩))
noncomputable def a2k:Expr->Bool
 | .Starred _ _=>true| _=>false
def evs (r:Rc)(ae:AEnv)(es:List Expr):Ev (List PV):=List.rec (ret []) (λ e _ ih=>gE' (!a2k e) (bind (r.e e ae) λ v=>bind ih λ vs=>ret (v::vs))) es
noncomputable def c0L:BoolOp->Bool
 | .And=>true| .Or=>false
def d7S (r:Rc)(ae:AEnv)(op:BoolOp)(es:List Expr):Ev Bool:=List.rec (ret (c0L op)) (λ x _ ih=>bind (r.t x ae) λ b=>bc (b==c0L op) ih (ret b)) es
noncomputable def c4p (r:Rc)(ae:AEnv)(op:BoolOp):List Expr->Ev PV
 | []=>no| x::es=>match es with
   | []=>r.e x ae| _=>bind (r.e x ae) λ v=>bind (rd λ H=>b6W H v) λ b=>bc (b==c0L op) (c4p r ae op es) (ret v)
noncomputable def b5a:Expr->Bool
 | .Set _ _ _=>true| _=>false
noncomputable def c0G:List Expr->Bool
 | []=>true| _=>false
noncomputable def b4I (r:Rc)(ae:AEnv)(a:PV):List CmpOp->List Expr->Ev Bool
 | [],_=>no| op::ops,xs=>match xs with
   | []=>no| x::xs=>gE' (!b5a x) (bind (r.e x ae) λ b=>match ops with
     | []=>gE' (c0G xs) (cmp op a b)| _=>gE' (isI a) (bind (cmp op a b) λ c=>bc c (b4I r ae b ops xs) (ret false)))
noncomputable def b4C (r:Rc)(ae:AEnv):List (Option Expr)->List Expr->Ev (List PV×List PV)
 | [],vs=>gE' (c0G vs) (ret ([],[]))| k::ks,vs=>match k with
   | none=>no| some k=>match vs with
     | []=>no| v::vs=>bind (r.e k ae) λ kv=>bind (r.e v ae) λ vv=>bind (b4C r ae ks vs) λ p=>ret (kv::p.1,vv::p.2)
noncomputable def a8p (k:PV):List PV->Bool
 | []=>true| x::l=>match a5X [] 4 x k with
   | some false=>a8p k l| _=>false
noncomputable def a2j:List PV->Bool
 | []=>true| k::ks=>a8p k ks&&a2j ks
def c6Z (ks:List PV):Bool:=match ks with
 | []=>true| ks=>(a1q 1 ks||a1q 2 ks)&&(a2j ks&&e0m ks.length 15)
noncomputable def d3U:PO->Option (List PV)
 | .list l=>some l| .froz l=>some l| _=>none
def a7J (H:List PO)(i:Nat):Option (List PV):=ob H[i]? d3U
inductive Src where
 | stat (l:List PV)
 | dyn (i:Nat) (n:Nat)
noncomputable def a4f:Nat->List PV->List PV
 | _,[]=>[]
 | n,x::r=>.tup [.int (Int.ofNat n),x]::a4f (n+1) r
def d0l (H:List PO)(v:PV):Option Src:=match v with
 | .tup l=>some (.stat l)| .lst l=>some (.stat l)| .dct ks _=>some (.stat ks)| .loc i=>ob H[i]? λ o=>ob (a5T o) λ l=>some (.dyn i l.length)| _=>none
noncomputable def c4u:PV->Option (List PV)
 | .lst l=>some l| _=>none
def b8E (v:PV):Option Src:=ob (c4u v) λ l=>some (.stat (a4f 0 l))
noncomputable def b1t:Expr->Bool
 | .Tuple _ _ _=>true| _=>false
noncomputable def a3T:Expr->Option Str
 | .Name x _=>some x| _=>none
noncomputable def b5e:List Keyword->Bool
 | []=>true| _=>false
noncomputable def b0B (k:Option NameKind):Bool:=match k with
 | some .globalImplicit=>true| _=>false
def c6f (e:Expr):Option (Str×List Expr):=match e with
 | .Call f args kws _=>gd (b5e kws) (ob (a3T f) λ x=>some (x,args))| _=>none
def a9e (r:Rc)(ae:AEnv)(it:Expr):Ev Src:=bind (r.e it ae) λ v=>rd λ H=>d0l H v
def a1w (r:Rc)(ae:AEnv)(t it:Expr):Ev Src:=gE' (!b5a it) (oc (c6f it) (λ q=>gE' (b0B (a1H ae.sc.names q.1))
    (bc (a0q q.1.cps.toList d0s) (bind (evs r ae q.2) λ vs=>up λ H=>ob (b8m vs) λ l=>some (.stat l,H,l.length))
      (bc (a0q q.1.cps.toList d6N) (gE' (b1t t) (bind (evs r ae q.2) λ vs=>opt (ob (b3A vs) b8E))) (a9e r ae it)))) (a9e r ae it))
def b2F (go:Ev Fl)(f:Fl):Ev Fl:=match f with
 | .next=>go
 | .cont=>go| .brk=>ret .next
 | .ret v=>ret (.ret v)
noncomputable def a0R (body:PV->Ev Fl):List PV->Ev Fl
 | []=>ret .next
 | x::l=>bind (body x) λ f=>b2F (a0R body l) f
noncomputable def b5o (body:PV->Ev Fl)(i:Nat):Nat->Nat->Ev Fl
 | 0,j=>bind (rd λ H=>ob (a7J H i) λ l=>gd (!e0g j l.length) (some ())) λ _=>ret .next
 | c+1,j=>bind (rd λ H=>ob (a7J H i) λ l=>some l[j]?) λ o=>oc o (λ x=>bind (body x) λ f=>b2F (b5o body i c (j+1)) f) (ret .next)
def a3o (body:PV->Ev Fl)(s:Src):Ev Fl:=match s with
 | .stat l=>a0R body l| .dyn i n=>b5o body i n 0
noncomputable def b4W (t:Ev Bool)(b:Ev Fl):Nat->Ev Fl
 | 0=>no| n+1=>bind t λ c=>bc c (bind b λ f=>b2F (b4W t b n) f) (ret .next)
noncomputable def a1Z (ae:AEnv):List Expr->List PV->Ev Unit
 | [],vs=>gE' (c3g vs) (ret ())| t::ts,vs=>match a3T t with
   | none=>no| some x=>match vs with
     | []=>no| v::vs=>bind (a3a ae x v) λ _=>a1Z ae ts vs
noncomputable def c8Z:Expr->Bool
 | .Slice _ _ _ _=>true| _=>false
def d4D (t:Expr):Bx (Rc->AEnv->PV->Ev Unit):=match t with
 | .Name x _=>⟨λ _ ae v=>a3a ae x v⟩
 | .Tuple ts _ _=>⟨λ _ ae v=>bind (rd λ H=>a4H H v) λ l=>a1Z ae ts l⟩
 | .Attribute o a _=>⟨λ r ae v=>bind (r.e o ae) λ ov=>b4t ov a v⟩
 | .Subscript o i _=>⟨λ r ae v=>gE' (!c8Z i) (bind (r.e o ae) λ ov=>bind (r.e i ae) λ iv=>b4s ov iv v)⟩
 | _=>⟨λ _ _ _=>no⟩
def asg (r:Rc)(ae:AEnv)(t:Expr)(v:PV):Ev Unit:=(d4D t).f r ae v
noncomputable def b2X:Nat->List (Str×NameKind)->List (Str×Nat)->List (Str×Nat)
 | _,[],acc=>acc| n,(x,k)::r,acc=>match k with
   | .cell=>b2X (n+1) r ((x,n)::acc)| _=>b2X n r acc
noncomputable def a2h:List (Str×NameKind)->List PO
 | []=>[]
 | (_,k)::r=>match k with
   | .cell=>.cell none::a2h r| _=>a2h r
noncomputable def a9T (ae:AEnv):List (Str×PV)->Ev Unit
 | []=>ret ()| (x,v)::r=>bind (a3a ae x v) λ _=>a9T ae r
noncomputable def a2N (ps:List Str)(ds:List PV):List PV->Option (List (Str×PV))
 | []=>gd (e0m ps.length ds.length) (some (ps.zip (ds.drop (ds.length - ps.length))))| a::as=>match ps with
   | []=>none| p::ps=>ob (a2N ps ds as) λ r=>some ((p,a)::r)
termination_by structural as=>as
def d3m (ae:AEnv)(names:List (Str×NameKind)):List (Str×NameKind):=names.map λ (n,k)=>match k with
 | .free=>match a1H ae.sc.names n with
   | some .cell=>(n,.cell)
   | _=>(n,k)
 | _=>(n,k)
noncomputable def b7N (ae:AEnv):List (Str×NameKind)->List (Str×Nat)->Option (List (Str×Nat))
 | [],acc=>some acc| (x,k)::r,acc=>match k with
   | .free=>ob (a1H ae.cells x) λ i=>b7N ae r ((x,i)::acc)| _=>b7N ae r acc
def enter (top:Bool)(sc:Scope)(clos:List (Str×Nat))(xs:List (Str×PV)):Ev AEnv:=
 bind (up λ H=>some ((⟨sc,H.length,b2X (H.length+1) sc.names clos,top⟩:AEnv),H++(.fr [] []::a2h sc.names),0)) λ ae=>bind (a9T ae xs) λ _=>ret ae
noncomputable def c9I (r:Rc)(ae:AEnv):List Expr->Ev Bool
 | []=>ret true| c::cs=>bind (r.t c ae) λ b=>bc b (c9I r ae cs) (ret false)
def d3V (a:Nat)(v:PV)(H:List PO):Option (Fl×List PO×Nat):=ob (ob H[a]? a5T) λ l=>some (.next,H.set a (.list (l++[v])),l.length+1)
def a6e (r:Rc)(ce:AEnv)(acc:Nat)(t:Expr)(ifs:List Expr)(elt:Expr)(x:PV):Ev Fl:=
 bind (asg r ce t x) λ _=>bind (c9I r ce ifs) λ b=>bc b (bind (r.e elt ce) λ v=>up (d3V acc v)) (ret .next)
noncomputable def c0H:Option NameKind->Bool
 | some .local=>true| _=>false
noncomputable def d1W:NameKind->Bool
 | .local=>false| _=>true
noncomputable def c7u:NameKind->Bool
 | .free=>false| _=>true
noncomputable def a6X (all:List (Str×NameKind)):List (Str×NameKind)->Bool
 | []=>true| (x,k)::r=>(d1W k||c0H (a1H all x))&&a6X all r
def a9Z (sc:Scope):Bool:=match sc.kind with
 | .function=>a6X sc.names sc.names| _=>false
noncomputable def b9P:List (Str×NameKind)->Bool
 | []=>true| (_,k)::r=>c7u k&&b9P r
def b7B (sc:Scope):Bool:=a9Z sc&&(b9P sc.names&&(!sc.isGenerator && !sc.isCoroutine))
noncomputable def a6G:Fl->Bool
 | .next=>true
 | _=>false
def b0U (a L:Nat)(H:List PO):Option (PV×List PO×Nat):=ob (c0i H L) λ _=>some (.loc a,H.set L .opq,0)
def b5u (r:Rc)(ae:AEnv)(elt t it:Expr)(ifs:List Expr)(sc:Scope)(use:PV->Ev Unit):Ev PV:=gE' (a9Z sc) (
 bind (a1w r ae t it) λ src=>bind (up λ H=>some (H.length,H++[.list []],0)) λ a=>bind (opt (b7N ae sc.names [])) λ cl=>bind (enter ae.top sc cl []) λ ce0=>
  let ce:AEnv:={ ce0 with sc:={ sc with names:=d3m ae sc.names } }
  bind (a3o (a6e r ce a t ifs elt) src) λ f=>gE' (a6G f) (bind (use (.loc a)) λ _=>up (b0U a ce.L)))
def c3E:PV->Ev Unit:=λ _=>ret ()
def c7o (r:Rc)(ae:AEnv):Option Expr->Ev (Option PV)
 | none=>ret none| some e=>bind (r.e e ae) λ v=>ret (some v)
def c5l (H:List PO)(a:PV)(x:Str):Option Unit:=ob (c3o H a) λ q=>match a9s q.2.1 q.2.2 x with
 | none=>some ()| some _=>none
def c5s (c:Nat)(x:Str):Option Nat:=gd (a2E c a2J) (a8c c x)
def c3j (k:Nat):Bool:=match a2U k with
 | some _=>true| none=>false
def c7Y:List Nat:=qL 0x5f5f74696e695f5f
def b9X (k:Nat):Ev PV:=up λ H=>some (.loc (H.length+1),H++[.ns [] [],.inst k H.length],0)
def c4k (r:Rc)(fv:PV)(vs:List PV):Ev PV:=match fv with
 | .gl k=>bc (a2E k a2J) (bind (b9X k) λ v=>bind (opt (a8c k (S c7Y))) λ j=>bind (r.call j (v::vs)) λ u=>gE' (isNone u) (ret v)) (gE' (c3j k) (r.call k vs))| .blt id=>c9e id vs| .typ n=>c9d n vs| _=>no
noncomputable def a6C (r:Rc)(ae:AEnv)(p:Str)(sc:Scope)(body:Expr):List PV->Ev (List (PV×PV))
 | []=>ret []| x::l=>bind (enter false sc [] [(p,x)]) λ le=>bind (r.e body le) λ k=>bind (a6C r ae p sc body l) λ ks=>ret ((k,x)::ks)
def c5T:List Nat:=qL 0x7265707573
def a3Y:Expr->Bool
 | .Call (.Name x _) [] [] _=>a0q x.cps.toList c5T| _=>false
noncomputable def a1D {α:Type}:List α->Bool
 | []=>true| _=>false
def c5h (a:Arguments):Option Arg:=gd (a1D a.posonlyargs&&(b5c a.vararg&&(a1D a.kwonlyargs&&(a1D a.kw_defaults&&(b5c a.kwarg&&a1D a.defaults))))) (ob (unc a.args) λ q=>gd (a1D q.2) (some q.1))
noncomputable def d3O:Expr->Option (Arguments×Expr×Scope)
 | .Lambda as body sc _=>some (as,body,sc)| _=>none
def c0C (l:List Keyword):Option (Str×Arg×Scope×Expr):=match l with
 | [kw]=>ob kw.arg λ kn=>ob (d3O kw.value) λ q=>ob (c5h q.1) λ p=>some (kn,p,q.2.2,q.2.1)| _=>none
noncomputable def c3e:PV->Bool
 | .blt id=>id == "sorted"| _=>false
noncomputable def d2L:MK->Bool
 | .dget=>true| _=>false
def callH (mk:MK)(ov:PV)(vs:List PV):Ev PV:=bc (d2L mk) (λ st=>oc (d7r st.hs) (λ q=>some (q.1,⟨st.H,q.2⟩,⟨[.dg st.H ov vs q.1],0⟩)) (a5Q .dget ov vs st)) (Ev.big (a5Q mk ov vs))
def a6W (r:Rc)(ae:AEnv)(o:Expr)(name:Str)(args:List Expr):Ev PV:=bind (r.e o ae) λ ov=>bind (rd λ H=>some (c4e H ov)) λ c=>oc c (λ c=>bind (rd λ H=>ob (c5l H ov name) λ _=>ob (c5s c name) λ k=>gd (c3j k) (some k)) λ k=>bind (evs r ae args) λ vs=>r.call k (ov::vs))
 (bind (rd λ H=>b8a H ov name.cps.toList) λ mk=>bind (evs r ae args) λ vs=>callH mk ov vs)
def b4n (r:Rc)(ae:AEnv)(fv:PV)(args:List Expr)(q:Str×Arg×Scope×Expr):Ev PV:=gE' (a0q q.1.cps.toList d7c && (b7B q.2.2.1 && (c3e fv && ae.top)))
 (bind (evs r ae args) λ vs=>bind (rd λ H=>ob (b3A vs) (a1v H)) λ l=>bind (a6C r ae q.2.1.arg q.2.2.1 q.2.2.2 l) λ ks=>
   bind (opt (a4o ks)) λ z=>newList (z.map (·.2)))
def d4F (f:Expr)(args:List Expr)(kws:List Keyword)(pos:Pos):Bx (Rc->AEnv->Ev PV):=match f with
 | .Attribute o name apos=>⟨λ r ae=>gE' (b5e kws&&(!a3Y o&&(e0Y apos.endLine pos.line&&e0g args.length 30))) (a6W r ae o name args)⟩
 | .Name x xp=>⟨λ r ae=>bind (r.e (.Name x xp) ae) λ fv=>bc (b5e kws) (bind (evs r ae args) λ vs=>c4k r fv vs) (bind (opt (c0C kws)) λ q=>b4n r ae fv args q)⟩
 | _=>⟨λ _ _=>no⟩
def c6W (r:Rc)(ae:AEnv)(f:Expr)(args:List Expr)(kws:List Keyword)(pos:Pos):Ev PV:=(d4F f args kws pos).f r ae
def d6z (gens:List Comprehension):Option (Expr×Expr×List Expr):=match gens with
 | [g]=>gd (a3J g.is_async 0) (some (g.target,g.iter,g.ifs))| _=>none
noncomputable def c1k:Expr->Option (Option Expr×Option Expr×Option Expr)
 | .Slice lo hi st _=>some (lo,hi,st)| _=>none
def d7Y (op:UnaryOp)(v:PV):Ev PV:=match op with
 | .Not=>rd λ H=>ob (b6W H v) λ b=>some (.bool (!b))| .USub=>opt (ob (a0z v) λ i=>some (.int (-i)))| _=>no
def d4E (e:Expr):Bx (Rc->AEnv->Ev PV):=match e with
 | .Constant c _ _=>⟨λ r ae=>opt (b0T c)⟩
 | .Name x _=>⟨λ r ae=>a9A ae x⟩
 | .BoolOp op xs _=>⟨λ r ae=>c4p r ae op xs⟩
 | .BinOp l op x _=>⟨λ r ae=>bind (r.e l ae) λ a=>bind (r.e x ae) λ b=>b7R op a b⟩
 | .UnaryOp op x _=>⟨λ r ae=>bind (r.e x ae) λ a=>d7Y op a⟩
 | .IfExp t a b _=>⟨λ r ae=>bind (r.t t ae) λ c=>bc c (r.e a ae) (r.e b ae)⟩
 | .Dict ks vs _=>⟨λ r ae=>bind (b4C r ae ks vs) λ p=>up λ H=>gd (c6Z p.1) (some (.loc H.length,H++[.dict p.1 p.2],p.1.length))⟩
 | .List es _=>⟨λ r ae=>bind (evs r ae es) λ vs=>newList vs⟩
 | .Tuple es _ _=>⟨λ r ae=>bind (evs r ae es) λ vs=>up λ H=>some (d7Z H vs)⟩
 | .ListComp elt gens sc _=>⟨λ r ae=>oc (d6z gens) (λ g=>b5u r ae elt g.1 g.2.1 g.2.2 sc c3E) no⟩
 | .Compare l ops xs _=>⟨λ r ae=>bind (r.e l ae) λ a=>bind (b4I r ae a ops xs) λ b=>ret (.bool b)⟩
 | .Call f args kws pos=>⟨λ r ae=>c6W r ae f args kws pos⟩
 | .Attribute o a _=>⟨λ r ae=>gE' (!a3Y o) (bind (r.e o ae) λ ov=>b5k ov a)⟩
 | .Subscript o i _=>⟨λ r ae=>bind (r.e o ae) λ ov=>oc (c1k i) (λ q=>bind (c7o r ae q.1) λ l=>bind (c7o r ae q.2.1) λ h=>bind (c7o r ae q.2.2) λ s=>a6b ov l h s) (bind (r.e i ae) λ iv=>a6c ov iv)⟩
 | _=>⟨λ r ae=>no⟩
def d2s (r:Rc)(e:Expr)(ae:AEnv):Ev PV:=(d4E e).f r ae
noncomputable def d2H:UnaryOp->Bool
 | .Not=>true| _=>false
def b8r (r:Rc)(e:Expr)(ae:AEnv):Ev Bool:=bind (r.e e ae) λ v=>rd λ H=>b6W H v
def d4B (e:Expr):Bx (Rc->AEnv->Ev Bool):=match e with
 | .UnaryOp op x p=>⟨λ r ae=>bc (d2H op) (bind (r.t x ae) λ b=>ret (!b)) (b8r r (.UnaryOp op x p) ae)⟩
 | .BoolOp op xs _=>⟨λ r ae=>d7S r ae op xs⟩
 | .Compare l ops xs _=>⟨λ r ae=>bind (r.e l ae) λ a=>b4I r ae a ops xs⟩
 | .IfExp _ _ _ _=>⟨λ r ae=>no⟩
 | e=>⟨λ r ae=>b8r r e ae⟩
def d0P (r:Rc)(e:Expr)(ae:AEnv):Ev Bool:=(d4B e).f r ae
noncomputable def d3L (op:Operator)(x y:Int):Option PV:=match op with
 | .Add=>some (.int (x+y))| .Sub=>some (.int (x-y))| _=>none
noncomputable def a5t (x:Str):List (Str×NameKind)->Bool
 | []=>false| (n,k)::r=>(sEq n x&&(match k with | .local=>true | .cell=>true | _=>false))||a5t x r
def a8P (ae:AEnv)(t e:Expr):Option Str:=match e with
 | .ListComp _ _ sc pos=>match t with
   | .Name x p=>gd (c0H (a1H ae.sc.names x)&&(e0Y p.line pos.line && !a5t x sc.names)) (some x)| _=>none
 | _=>none
def c6j:Expr->Option (Expr×(Expr×Expr×List Expr)×Scope)
 | .ListComp elt gens sc _=>ob (d6z gens) λ g=>some (elt,g,sc)| _=>none
def b4E (r:Rc)(ae:AEnv)(x:Str)(e:Expr):Ev Fl:=bind (opt (c6j e)) λ q=>bind (b5u r ae q.1 q.2.1.1 q.2.1.2.1 q.2.1.2.2 q.2.2 λ v=>a3a ae x v) λ _=>ret .next
noncomputable def b3a:Expr->Bool
 | .SetComp _ _ _ _=>false| .DictComp _ _ _ _ _=>false| _=>true
def a4v (t e:Expr):Bool:=b3a e&&(!b1t t||oc (b2h e) (λ vs=>vs.all (foldedForSure 8) || !vs.all (constantsAlone 8)) true)
noncomputable def c0K:Expr->Bool
 | .ListComp _ _ _ _=>true| .SetComp _ _ _ _=>true| .DictComp _ _ _ _ _=>true| _=>false
def b2E (p:Pos):Bool:=a2E p.line [791,793,796,811,821,835,840,871,873]
noncomputable def a7G (f:PV->List Nat):List PV->List Nat
 | []=>[]
 | x::l=>f x++a7G f l
noncomputable def b3f:Nat->PV->List Nat
 | 0,_=>[]
 | n + 1,v=>match v with
   | .loc i=>[i]
   | .tup l=>a7G (b3f n) l| _=>[]
def d6k:PO->List Nat
 | .list l=>a7G (b3f 3) l| .froz l=>a7G (b3f 3) l| .dict _ vs=>a7G (b3f 3) vs| .inst _ d=>[d]
 | .ns _ vs=>a7G (b3f 3) vs| .fr _ vs=>a7G (b3f 3) vs| .cell (some v)=>b3f 3 v| _=>[]
def c8a (o:PO):Bool:=match d3U o with
 | some _=>true| none=>false
def d1t (sk:List Nat)(i:Nat)(o:PO):List Nat:=match a2E i sk&&c8a o with
 | true=>[]
 | false=>d6k o
noncomputable def c5Y (sk:List Nat):Nat->List PO->List Nat
 | _,[]=>[]
 | i,o::l=>d1t sk i o++c5Y sk (i+1) l
noncomputable def c2r (sk:List Nat)(H:List PO)(s:Nat):Nat->List Nat->List Nat->List Nat
 | 0,seen,_=>seen| _,seen,[]=>seen| n + 1,seen,i::w=>match e0g i s || a2E i seen with
   | true=>c2r sk H s n seen w| false=>match H[i]? with
     | some o=>c2r sk H s n (seen++[i]) (d1t sk i o++w)| none=>c2r sk H s n seen w
noncomputable def a6z:List Nat->Bool
 | []=>true| i::l=>!a2E i l&&a6z l
noncomputable def b1R (i:Nat):List Nat->Option Nat
 | []=>none| j::l=>match e0Y j i with
   | true=>some 0| false=>match b1R i l with
     | some k=>some (k+1)| none=>none
noncomputable def a9d (f:PV->Option (PV×List Ob)):List PV->Option (List PV×List Ob)
 | []=>some ([],[])| x::l=>ob (f x) λ q=>ob (a9d f l) λ w=>some (q.1::w.1,q.2++w.2)
noncomputable def d2G:PV->Bool
 | .lst _=>true| .dct _ _=>true| .ins _ _ _=>true| _=>false
noncomputable def c2q (f:Nat->Option Nat):Nat->PV->Option (PV×List Ob)
 | 0,_=>none| n + 1,v=>match v with
   | .loc i=>ob (f i) λ j=>some (.loc j,[])| .tup l=>ob (a9d (c2q f n) l) λ q=>some (.tup q.1,q.2)| v=>some (v,bc (d2G v) [.nl v] [])
noncomputable def c2t:PV->Bool
 | .int _=>true| .str _=>true| _=>false
noncomputable def a7L:List PV->Bool
 | []=>true| v::l=>c2t v&&a7L l
def d0y (f:Nat->Option Nat)(o:PO):Option (PO×List Ob):=match o with
 | .list l=>ob (a9d (c2q f 3) l) λ q=>some (.list q.1,q.2)| .froz l=>ob (a9d (c2q f 3) l) λ q=>some (.froz q.1,q.2)| .dict ks vs=>gd (a7L ks) (ob (a9d (c2q f 3) vs) λ q=>some (.dict ks q.1,q.2))| .inst c d=>ob (f d) λ j=>some (.inst c j,[])| .ns fs vs=>ob (a9d (c2q f 3) vs) λ q=>some (.ns fs q.1,q.2)| .fr fs vs=>ob (a9d (c2q f 3) vs) λ q=>some (.fr fs q.1,q.2)| .opq=>some (.opq,[])| .dead=>some (.dead,[])| .cell o=>oc o (λ v=>ob (c2q f 3 v) λ q=>some (.cell (some q.1),q.2)) (some (.cell none,[]))| _=>none
def c9w (sk:List Nat)(f:Nat->Option Nat)(i:Nat)(o:PO):Option (PO×List Ob):=bc (a2E i sk) (oc (d3U o) (λ l=>some (o,[.nl (.lst l)])) (d0y f o)) (d0y f o)
noncomputable def c4C (sk:List Nat)(f:Nat->Option Nat)(H:List PO):List Nat->Option (List PO×List Ob)
 | []=>some ([],[])| i::r=>ob H[i]? λ o=>ob (c9w sk f i o) λ q=>ob (c4C sk f H r) λ w=>some (q.1::w.1,q.2++w.2)
noncomputable def d0K:Nat->List Nat->List Nat
 | 0,l=>l| n+1,l=>d0K n (n::l)
def d7A (sk:List Nat)(s:Nat)(H:List PO):List Nat:=d0K s (c2r sk H s 300 [] (c5Y sk 0 (H.take s)))
def c8u (sk:List Nat)(s:Nat)(H:List PO):Option (List PO×List Ob):=gd (a6z (d7A sk s H)&&e0m s H.length) (c4C sk (λ i=>b1R i (d7A sk s H)) H (d7A sk s H))
noncomputable def d7b (l:List Hint):List Nat×List Hint:=match l with
 | .skp sk::hs=>(sk,hs)
 | hs=>([],hs)
def gcE (s:Nat):Ev Unit:=λ st=>ob (c8u (d7b st.hs).1 s st.H) λ q=>Ev.force q.1 λ H'=>some ((),⟨H',(d7b st.hs).2⟩,⟨q.2,0⟩)
noncomputable def d2M:Fl->Bool
 | .cont=>true| _=>false
def c6Q (s:Nat)(f:Fl):Ev Fl:=bc (a6G f||d2M f) (bind (gcE s) λ _=>ret f) (ret f)
noncomputable def c6G (v:PV):Bool:=match v with
 | .none=>true| .int _=>true| _=>false
noncomputable def one {α:Type}(l:List α):Option α:=match l with
 | [x]=>some x| _=>none
noncomputable def a8q:List Stmt->Bool
 | []=>true| _=>false
def a5q (r:Rc)(ae:AEnv)(t:Expr)(b:List Stmt)(x:PV):Ev Fl:=bind (asg r ae t x) λ _=>r.ss b ae
def d4C (st:Stmt):Bx (Rc->AEnv->Ev Fl):=match st with
 | .Break _=>⟨λ r ae=>ret .brk⟩
 | .Continue _=>⟨λ r ae=>ret .cont⟩
 | .Expr e _=>⟨λ r ae=>gE' (!c0K e) (bind (r.e e ae) λ v=>gE' (c6G v) (ret .next))⟩
 | .Return o _=>⟨λ r ae=>oc o (λ e=>bind (r.e e ae) λ v=>ret (.ret v)) no⟩
 | .Assign ts e _=>⟨λ r ae=>bind (opt (one ts)) λ t=>oc (a8P ae t e) (λ x=>b4E r ae x e) (gE' (a4v t e) (bind (r.e e ae) λ v=>bind (asg r ae t v) λ _=>ret .next))⟩
 | .AugAssign t op e _=>⟨λ r ae=>bind (opt (a3T t)) λ x=>bind (a9A ae x) λ a=>bind (r.e e ae) λ b=>bind (opt (ob (a0z a) λ i=>ob (a0z b) λ j=>d3L op i j)) λ v=>bind (a3a ae x v) λ _=>ret .next⟩
 | .If t a b _=>⟨λ r ae=>bind (r.t t ae) λ c=>bc c (r.ss a ae) (r.ss b ae)⟩
 | .While t b els _=>⟨λ r ae=>gE' (a8q els) (b4W (r.t t ae) (r.ss b ae) 200)⟩
 | .For t it b els p=>⟨λ r ae=>gE' (a8q els) (bind (a1w r ae t it) λ src=>bc (b2E p) (bind (rd λ H=>some H.length) λ s=>a3o (λ x=>bind (a5q r ae t b x) λ f=>c6Q s f) src) (a3o (a5q r ae t b) src))⟩
 | _=>⟨λ r ae=>no⟩
def d0r (r:Rc)(st:Stmt)(ae:AEnv):Ev Fl:=(d4C st).f r ae
def a0a (r:Rc)(ae:AEnv)(l:List Stmt):Ev Fl:=List.rec (ret .next) (λ s _ ih=>bind (r.s s ae) λ f=>bc (a6G f) ih (ret f)) l
def b0e (L:Nat)(H:List PO):List PO:=oc (c0i H L) (λ _=>H.set L .opq) H
def d3I (L:Nat):Ev Unit:=up λ H=>some ((),b0e L H,0)
noncomputable def d7z (f:Fl):Option PV:=match f with
 | .ret v=>some v| .next=>some .none
 | _=>none
def a1T (r:Rc)(k:Nat)(args:List PV):Ev PV:=bind (opt (a2U k)) λ f=>bind (opt (a2N f.params f.dflts args)) λ xs=>bind (enter true f.sc [] xs) λ ae=>bind (r.ss f.body ae) λ fl=>bind (d3I ae.L) λ _=>opt (d7z fl)
mutual
noncomputable def a0e:PV->Bool
 | .loc _=>false| .tup l=>a0E l| .lst l=>a0E l| .dct ks vs=>a0E ks&&a0E vs| .ins _ _ vs=>a0E vs| _=>true
noncomputable def a0E:List PV->Bool
 | []=>true| v::l=>a0e v&&a0E l
end
noncomputable def a1F (f:PV->Option PV):List PV->Option (List PV)
 | []=>some []| x::r=>ob (f x) λ x'=>ob (a1F f r) λ r'=>some (x'::r')
def b6Y (g:List PV->Option (List PV))(H:List PO)(o:PO):Option PV:=match o with
 | .list l=>ob (g l) λ l'=>some (.lst l')| .froz l=>ob (g l) λ l'=>some (.lst l')| .dict ks vs=>gd (a0E ks) (ob (g vs) λ vs'=>some (.dct ks vs'))| .inst c d=>ob H[d]? λ q=>ob (d3N q) λ w=>ob (g w.2) λ vs'=>some (.ins c w.1 vs')| _=>none
noncomputable def a0b:Nat->List PO->PV->Option PV
 | 0,_,_=>none| n+1,H,v=>oc (a5S v) (λ i=>ob H[i]? λ o=>b6Y (a1F (a0b n H)) H o) (oc (a5R v) (λ l=>ob (a1F (a0b n H) l) λ l'=>some (.tup l')) (gd (a0e v) (some v)))
def a5P (r:Rc)(k:Nat)(args:List PV)(hs:List Hint):Option (PV×Obs):=ob (a1T r k args ⟨[],hs⟩) λ (v,st',o)=>ob (a0b 8 st'.H v) λ t=>some (t,o)
noncomputable def c8g (k:Nat):Bool:=e0Y k 132
def c6i (o:PO):Option (PV×PV×Nat×PV):=match o with
 | .dict ks vs=>ob (two ks) λ k=>ob (two vs) λ v=>ob (a5S v.1) λ j=>some (k.1,k.2,j,v.2)| _=>none
def c4m (n k:Nat)(args:List PV)(v:PV)(l':List PV)(m':PV)(st:St):Option (PV×St×Obs):=match args with
 | []=>none| a::rest=>ob (a5S a) λ i=>ob (a2W (c1w 8) st.H rest) λ (rest',H)=>ob H[i]? λ o=>ob (c6i o) λ d=>ob H[d.2.2.1]? λ o=>ob (a5T o) λ l=>
   some (v,⟨(H.set i (.dict [d.1,d.2.1] [.loc d.2.2.1,m'])).set d.2.2.1 (.list l'),st.hs⟩,⟨[.dk n k d.1 d.2.1 l d.2.2.2 rest' v l' m'],0⟩)
end
section
open PySem PySem.W PySem.Calls PyProof.Rows
inductive HT where
 | l
 | n (o:Option Obj) (a b:HT)
noncomputable def HT.look (t:HT):Nat->Option Obj:=HT.rec (motive:=λ _=>Nat->Option Obj) (λ _=>none)
 (λ o _ _ fa fb i=>Nat.rec (motive:=λ _=>Option Obj) o (λ i _=>Bool.rec (motive:=λ _=>Option Obj) (fb (e0z i 2)) (fa (e0z i 2)) (e0Y (e0y i 2) 0)) i) t
noncomputable def HT.lone (x:Obj)(f:Nat):Nat->HT:=Nat.rec (motive:=λ _=>Nat->HT) (λ _=>.l)
 (λ _ ih i=>Nat.rec (motive:=λ _=>HT) (.n (some x) .l .l) (λ i _=>Bool.rec (motive:=λ _=>HT) (.n none .l (ih (e0z i 2))) (.n none (ih (e0z i 2)) .l) (e0Y (e0y i 2) 0)) i) f
def HT.put (t:HT)(x:Obj):Nat->HT:=HT.rec (motive:=λ _=>Nat->HT) (λ i=>HT.lone x 12 i)
 (λ o a b fa fb i=>Nat.rec (motive:=λ _=>HT) (.n (some x) a b) (λ i _=>Bool.rec (motive:=λ _=>HT) (.n o a (fb (e0z i 2))) (.n o (fa (e0z i 2)) b) (e0Y (e0y i 2) 0)) i) t
noncomputable def HT.loneK {γ:Type}(x:Obj)(f:Nat):Nat->(HT->γ)->γ:=Nat.rec (motive:=λ _=>Nat->(HT->γ)->γ) (λ _ k=>k .l)
 (λ _ ih i k=>Nat.rec (motive:=λ _=>γ) (k (.n (some x) .l .l)) (λ i _=>Bool.rec (motive:=λ _=>γ) (ih (e0z i 2) λ b=>k (.n none .l b)) (ih (e0z i 2) λ a=>k (.n none a .l)) (e0Y (e0y i 2) 0)) i) f
def HT.putK {γ:Type}(t:HT)(x:Obj):Nat->(HT->γ)->γ:=HT.rec (motive:=λ _=>Nat->(HT->γ)->γ) (λ i k=>HT.loneK x 12 i k)
 (λ o a b fa fb i k=>Nat.rec (motive:=λ _=>γ) (k (.n (some x) a b)) (λ i _=>Bool.rec (motive:=λ _=>γ) (fb (e0z i 2) λ b'=>k (.n o a b')) (fa (e0z i 2) λ a'=>k (.n o a' b)) (e0Y (e0y i 2) 0)) i) t
theorem HT.loneK_eq {γ:Type}(x:Obj):∀ (f i:Nat)(k:HT->γ),HT.loneK x f i k=k (HT.lone x f i)
 | 0,_,_=>rfl| f+1,0,k=>rfl| f+1,i+1,k=>by show Bool.rec (motive:=λ _=>γ) (HT.loneK x f (e0z i 2) _) (HT.loneK x f (e0z i 2) _) (e0Y (e0y i 2) 0)=k (Bool.rec (motive:=λ _=>HT) _ _ (e0Y (e0y i 2) 0));cases e0Y (e0y i 2) 0 <;> exact HT.loneK_eq x f _ _
theorem HT.putK_eq {γ:Type}(x:Obj):∀ (t:HT)(i:Nat)(k:HT->γ),HT.putK t x i k=k (HT.put t x i)
 | .l,i,k=>HT.loneK_eq x 12 i k| .n o a b,0,k=>rfl| .n o a b,i + 1,k=>by
   show Bool.rec (motive:=λ _=>γ) (HT.putK b x (e0z i 2) _) (HT.putK a x (e0z i 2) _) (e0Y (e0y i 2) 0)=k (Bool.rec (motive:=λ _=>HT) _ _ (e0Y (e0y i 2) 0));cases e0Y (e0y i 2) 0
   · exact HT.putK_eq x b _ _
   · exact HT.putK_eq x a _ _
noncomputable def c2T {γ:Type}(n:Nat)(k:Nat->γ):γ:=match n with
 | 0=>k 1| m+1=>k (m+2)
theorem b4h {γ:Type}(n:Nat)(k:Nat->γ):c2T n k=k (n+1):=by cases n <;> rfl
structure XS where
 t:HT
 next:Nat
 tok:Nat
 lo:Nat
abbrev XR (α:Type):=Option (Except Value α×Pos×XS)
noncomputable def a2Q (o:Obj):Bool:=match o.data with
 | .freed=>false| _=>true
noncomputable def a2F (lo a:Nat):Bool:=e0m lo a||(e0Y a cStatics||(e0Y a mainNs||e0Y a 12))
noncomputable def ob2 {α β γ:Type}(o:Option (α×β))(f:α->β->Option γ):Option γ:=match o with
 | some (a,b)=>f a b| none=>none
noncomputable def ob3 {α β γ δ:Type}(o:Option (α×β×γ))(f:α->β->γ->Option δ):Option δ:=match o with
 | some (a,b,c)=>f a b c| none=>none
theorem o2E {α β γ:Type}{o:Option (α×β)}{f:α->β->Option γ}{y:γ}{G:Prop}(e:ob2 o f=some y)(k:∀ p,o=some p->f p.1 p.2=some y->G):G:=by
 cases o with
 | none=>exact nx0 e| some p=>exact k p rfl e
theorem o3E {α β γ δ:Type}{o:Option (α×β×γ)}{f:α->β->γ->Option δ}{y:δ}{G:Prop}(e:ob3 o f=some y)(k:∀ p,o=some p->f p.1 p.2.1 p.2.2=some y->G):G:=by
 cases o with
 | none=>exact nx0 e| some p=>exact k p rfl e
def exT {α:Type}(den:Ctx->Pos->Code->XS->Option (Result×XS))(S:Setting)(Γ:Ctx)(t:Sem α):Pos->XS->XR α:=
 Sem.rec (motive:=λ _=>Pos->XS->XR α)
  (λ a p x=>some (.ok a,p,x))
  (λ e p x=>some (.error e,p,x))
  (λ _ _ _=>none)
  (λ _ _ _=>none)
  (λ _ _ ih p x=>ih () p x)
  (λ p' _ ih _ x=>ih () p' x)
  (λ a _ _ ih p x=>ob (x.t.look a) λ o=>ih o p x)
  (λ a _ f _ ih p x=>ob (x.t.look a) λ o=>gd (a2F x.lo a&&a2Q (f o)) (HT.putK x.t (f o) a λ t'=>ih () p ⟨t',x.next,x.tok,x.lo⟩))
  (λ o _ ih p x=>gd (a2Q o) (HT.putK x.t o x.next λ t'=>c2T x.next λ n'=>ih x.next p ⟨t',n',x.tok,x.lo⟩))
  (λ a _ ih p x=>ob (x.t.look a) λ o=>ih (some o) p x)
  (λ _ _ ih p x=>ih () p x)
  (λ _ _ _ _ _=>none)
  (λ _ ih p x=>c2T x.tok λ n'=>ih x.tok p ⟨x.t,x.next,n',x.lo⟩)
  (λ _ ih p x=>ih S p x)
  (λ _ _ _ _ _ _=>none)
  (λ _ _ _ _ _ _=>none)
  (λ c h _ _ _ ih p x=>ob2 (den (Γ.enter c h p) p c x) λ r x'=>ih r p x')
  (λ own _ ih p x=>ih (if own then Γ.own else Γ.handled) p x)
  (λ _ _ _ _ _=>none)
  (λ _ _ _ _ _=>none)
  (λ _ _ _ _ _ _ _=>none)
  (λ _ _ _ _ _ _ _=>none)
  (λ _ ih p x=>ih ((Γ.code,p)::Γ.below) p x)
  (λ _ _ _ _ _=>none)
  (λ _ ih p x=>ih 0 p x)
  (λ _ _ _ _ _ _ _ _=>none) t
def c4Q (k:Code->Pos->XS->Option (Result×XS))(r:Except Value PySem.Fin)(p:Pos)(x:XS):Option (Result×XS):=match r with
 | .error e=>some (.error e,x)| .ok r=>match r with
   | .done f=>some (.ok f,x)| .again c=>gd (Code.quiet c) (k c p x)
noncomputable def exC (den:Code->Sem PySem.Fin)(S:Setting):Nat->Ctx->Pos->Code->XS->Option (Result×XS)
 | 0,_,_,_,_=>none| n+1,Γ,p,c,x=>ob3 (exT (exC den S n) S Γ (den c) p x) (c4Q λ c' p' x'=>exC den S n (Γ.goto c') p' c' x')
noncomputable def b3k:Except Value Flow->Bool
 | .ok f=>match f with
   | .next=>true
   | _=>false
 | .error _=>false
noncomputable def d2m (den:Code->Sem PySem.Fin)(S:Setting)(n:Nat)(Γ:Ctx)(env:Env):List Stmt->Pos->XS->Option (Pos×XS)
 | [],p,x=>some (p,x)| s::l,p,x=>ob3 (exT (exC den S n) S Γ (exec s env) p x) λ r p' x'=>gd (b3k r) (d2m den S n Γ env l p' x')
structure Olds (lo:Nat)(s₀ s:Shared):Prop where
 old:∀ a o,a2F lo a=false->s₀.heap.get? a=some o->s.heap.get? a=some o
 rest:s.gens=s₀.gens/\s.drawn=s₀.drawn/\s.os=s₀.os/\s.heap.life=s₀.heap.life
structure XOK (s₀:Shared)(x:XS)(s:Shared):Prop where
 size:s.heap.objs.size=x.next
 tok:s.toks=x.tok
 at':∀ a o,x.t.look a=some o->s.heap.get? a=some o
 olds:Olds x.lo s₀ s
theorem a6a {a b:Nat}(h1:e0Y (e0y a 2) 0=e0Y (e0y b 2) 0)(h2:e0z a 2=e0z b 2):a=b:=by
 have m:∀ {x y:Nat},x < 2->y < 2->e0Y x 0=e0Y y 0->x=y:=fun {x y} hx hy=>by
  cases x with
  | zero=>cases y with
    | zero=>exact λ _=>rfl| succ y=>exact nofun
  | succ x=>cases y with
    | zero=>exact nofun| succ y=>exact λ _=>by rw [Nat.lt_one_iff.mp (Nat.succ_lt_succ_iff.mp hx),Nat.lt_one_iff.mp (Nat.succ_lt_succ_iff.mp hy)]
 rw [<- Nat.div_add_mod a 2,<- Nat.div_add_mod b 2,show a/2=b/2 from h2,m (Nat.mod_lt a Nat.two_pos) (Nat.mod_lt b Nat.two_pos) h1]
theorem br {α:Type}{b:Bool}{x y r:α}{G:Prop}(h:Bool.rec (motive:=λ _=>α) x y b=r)(k0:b=false->x=r->G)(k1:b=true->y=r->G):G:=by
 cases b with
 | false=>exact k0 rfl h| true=>exact k1 rfl h
theorem HT.lone_look (x:Obj)(f:Nat):∀ (i j:Nat)(o:Obj),(HT.lone x f i).look j=some o->j=i/\o=x:=by
 induction f with
 | zero=>exact λ i j o h=>nx0 h| succ f ih=>
   intro i j o h;cases i with
   | zero=>
     cases j with
     | zero=>exact ⟨rfl,(sj h).symm⟩| succ j=>exact br h (λ _ h=>nx0 h) λ _ h=>nx0 h
   | succ i=>
     have h:(Bool.rec (motive:=λ _=>HT) (.n none .l (HT.lone x f (e0z i 2))) (.n none (HT.lone x f (e0z i 2)) .l) (e0Y (e0y i 2) 0)).look j=some o:=h;cases hi:e0Y (e0y i 2) 0 with
     | false=>
       rw [hi] at h;cases j with
       | zero=>exact nx0 h| succ j=>exact br h (λ hj h=>⟨congrArg (· + 1) (a6a (hj.trans hi.symm) (ih _ _ _ h).1),(ih _ _ _ h).2⟩) λ _ h=>nx0 h
     | true=>
       rw [hi] at h;cases j with
       | zero=>exact nx0 h| succ j=>exact br h (λ _ h=>nx0 h) λ hj h=>⟨congrArg (· + 1) (a6a (hj.trans hi.symm) (ih _ _ _ h).1),(ih _ _ _ h).2⟩
theorem bR {α:Type}{b c:Bool}(e:b=c)(x y:α):Bool.rec (motive:=λ _=>α) x y b=Bool.rec (motive:=λ _=>α) x y c:=congrArg _ e
theorem HT.put_at (x:Obj):∀ (t:HT)(i j:Nat)(o:Obj),(t.put x i).look j=some o->(j=i/\o=x)\/(j≠i/\t.look j=some o):=λ t=>by
 induction t with
 | l=>exact λ i j o h=>.inl (HT.lone_look x 12 i j o h)| n q a b iha ihb=>
   intro i j o h;cases i with
   | zero=>
     cases j with
     | zero=>exact .inl ⟨rfl,(sj h).symm⟩| succ j=>exact .inr ⟨Nat.succ_ne_zero j,h⟩
   | succ i=>
     have h:(Bool.rec (motive:=λ _=>HT) (.n q a (b.put x (e0z i 2))) (.n q (a.put x (e0z i 2)) b) (e0Y (e0y i 2) 0)).look j=some o:=h;cases j with
     | zero=>exact .inr ⟨(Nat.succ_ne_zero i).symm,by cases hi:e0Y (e0y i 2) 0 <;> rw [hi] at h <;> exact h⟩| succ j=>
       have ne:∀ {c d:Bool},e0Y (e0y i 2) 0=c->e0Y (e0y j 2) 0=d->c≠d->j+1≠i+1:=λ h1 h2 n z=>n (by rw [<- h1,<- h2,Nat.succ.inj z]);cases hi:e0Y (e0y i 2) 0 with
       | false=>rw [hi] at h;exact br h (λ hj h=>(ihb _ _ _ h).imp (λ p=>⟨congrArg (· + 1) (a6a (hj.trans hi.symm) p.1),p.2⟩) λ p=>⟨λ z=>p.1 (by rw [Nat.succ.inj z]),(bR hj _ _).trans p.2⟩) λ hj h=>.inr ⟨ne hi hj nofun,(bR hj _ _).trans h⟩| true=>rw [hi] at h;exact br h (λ hj h=>.inr ⟨ne hi hj nofun,(bR hj _ _).trans h⟩) λ hj h=>(iha _ _ _ h).imp (λ p=>⟨congrArg (· + 1) (a6a (hj.trans hi.symm) p.1),p.2⟩) λ p=>⟨λ z=>p.1 (by rw [Nat.succ.inj z]),(bR hj _ _).trans p.2⟩
section
variable {s₀ s:Shared}{x:XS}
theorem a6x {o:Obj}(h:a2Q o=true){h':Heap}{a:Nat}(e:h'.objs[a]?=some o):h'.get? a=some o:=by obtain ⟨c,d,dt,sl⟩:=o;refine Heap.get?_some_iff.mpr ⟨e,?_⟩;cases dt <;> first | rfl | exact nx2 h
theorem XOK.alloc (K:XOK s₀ x s){o:Obj}(h:a2Q o=true):XOK s₀ { x with t:=x.t.put o x.next,next:=x.next+1 } { s with heap:=s.heap.push o } where
 size:=by rw [Heap.size_push,K.size]
 tok:=K.tok
 at':=λ a o' e=>by
  rcases HT.put_at _ _ _ _ _ e with ⟨e1,e2⟩ | ⟨e1,e2⟩
  · subst e2;refine a6x h ?_;rw [e1,<- K.size];show (s.heap.push o').objs[_]?=_;rw [Heap.objs_push]; simp
  · exact Heap.get?_push_of_some _ (K.at' _ _ e2)
 olds:=⟨λ a o' m e=>Heap.get?_push_of_some _ (K.olds.old _ _ m e),K.olds.rest.1,K.olds.rest.2.1,K.olds.rest.2.2.1,by rw [<- K.olds.rest.2.2.2]; cases s.heap; rfl⟩
theorem XOK.update (K:XOK s₀ x s){a:Nat}{f:Obj->Obj}{o:Obj}(ho:x.t.look a=some o)(hm:(a2F x.lo a&&a2Q (f o))=true):XOK s₀ { x with t:=x.t.put (f o) a } { s with heap:=s.heap.update a f } where
 size:=by rw [Heap.size_update,K.size]
 tok:=K.tok
 at':=λ b o' e=>by
  obtain ⟨_,h⟩:=e1I.mp hm;rcases HT.put_at _ _ _ _ _ e with ⟨e1,e2⟩ | ⟨e1,e2⟩
  · subst e1 e2;refine a6x h ?_;have:=(Heap.get?_some_iff.mp (K.at' _ _ ho)).1;obtain ⟨⟨objs,lf⟩,_,_,_,_⟩:=s;show (objs.modify b f)[b]?=_;have this:objs[b]?=some o:=this;rw [Array.getElem?_modify,this]; simp
  · rw [Heap.get?_update_ne _ _ _ _ e1]; exact K.at' _ _ e2
 olds:=⟨λ b o' m e=>by obtain ⟨h,_⟩:=e1I.mp hm;rw [Heap.get?_update_ne _ _ _ _ (λ z=>by rw [z,h] at m; cases m)];exact K.olds.old _ _ m e,K.olds.rest.1,K.olds.rest.2.1,K.olds.rest.2.2.1,by rw [<- K.olds.rest.2.2.2]; cases s.heap; rfl⟩
theorem XOK.fresh (K:XOK s₀ x s):XOK s₀ { x with tok:=x.tok+1 } { s with toks:=s.toks+1 }:=
 ⟨K.size,by show s.toks+1=_; rw [K.tok],K.at',⟨K.olds.old,K.olds.rest⟩⟩
end
section
variable {M:Model}{s₀:Shared}
def d3c (M:Model)(s₀:Shared)(den:Ctx->Pos->Code->XS->Option (Result×XS)):Prop:=
 ∀ Γ p c x r x',den Γ p c x=some (r,x')->Γ.code=c->∀ s,XOK s₀ x s->wpCode M Γ (λ r' s'=>r'=r/\XOK s₀ x' s') p s
abbrev EW (M:Model)(Γ:Ctx)(s₀:Shared){α:Type}(t:Sem α)(y:Except Value α×Pos×XS)(p:Pos)(s:Shared):Prop:=
 Sem.wp M Γ t (λ a q s'=>y.1=.ok a/\q=y.2.1/\XOK s₀ y.2.2 s') (λ e q s'=>y.1=.error e/\q=y.2.1/\XOK s₀ y.2.2 s') p s
def ER (M:Model)(Γ:Ctx)(s₀:Shared){α:Type}(t:Sem α)(o:Option (Except Value α×Pos×XS))(p:Pos)(x:XS):Prop:=∀ y,o=some y->∀ s,XOK s₀ x s->EW M Γ s₀ t y p s
theorem c0o {α:Type}{den:Ctx->Pos->Code->XS->Option (Result×XS)}{S:Setting}(hS:S=⟨M.prog,M.w.params⟩)(hd:d3c M s₀ den){Γ:Ctx}(t:Sem α) :
 ∀ (p:Pos) (x:XS),ER M Γ s₀ t (exT den S Γ t p x) p x:=by
 induction t with
 | pure a=>exact λ p x y h s K=>sj h▸⟨rfl,rfl,K⟩| raise e=>exact λ p x y h s K=>sj h▸⟨rfl,rfl,K⟩| unsupported | finish | register | choose | os | newGen | genState | resume | yield | fork | await=>exact λ p x y h=>nx0 h
 | rule _ k ih=>exact λ p x y h s K=>Eq.mpr (Sem.wp_rule ..) (ih () p x y h s K)| «at» q k ih=>exact λ p x y h s K=>Eq.mpr (Sem.wp_at ..) (ih () q x y h s K)| point _ k ih=>exact λ p x y h s K=>Eq.mpr (Sem.wp_point ..) (ih () p x y h s K)| thread k ih=>exact λ p x y h s K=>Eq.mpr (Sem.wp_thread ..) (ih 0 p x y h s K)| stack k ih=>exact λ p x y h s K=>Eq.mpr (Sem.wp_stack ..) (ih _ p x y h s K)| handled own k ih=>exact λ p x y h s K=>Eq.mpr (Sem.wp_handled ..) (ih _ p x y h s K)| ask k ih=>exact λ p x y h s K=>Eq.mpr (Sem.wp_ask ..) (hS▸ih S p x y h s K)| fresh k ih=>intro p x y h s K;unfold EW;rw [Sem.wp_fresh,K.tok];exact ih _ p _ y ((b4h x.tok λ n'=>exT den S Γ (k x.tok) p ⟨x.t,x.next,n',x.lo⟩).symm.trans h) _ (K.tok▸K.fresh)| load a _ k ih=>intro p x y h s K;unfold EW;rw [Sem.wp_load];exact oE (show ob (x.t.look a) (λ o=>exT den S Γ (k o) p x)=some y from h) λ o ho h=>⟨o,K.at' _ _ ho,ih o p x y h s K⟩
 | loadIfAlive a k ih=>intro p x y h s K;unfold EW;refine oE (show ob (x.t.look a) (λ o=>exT den S Γ (k (some o)) p x)=some y from h) λ o ho h=>?_;rw [Sem.wp_loadIfAlive,K.at' _ _ ho];exact ih _ p x y h s K| update a _ f k ih=>intro p x y h s K;unfold EW;refine oE (show ob (x.t.look a) (λ o=>gd (a2F x.lo a&&a2Q (f o)) (HT.putK x.t (f o) a λ t'=>exT den S Γ (k ()) p ⟨t',x.next,x.tok,x.lo⟩))=some y from h) λ o ho h=>gE h λ hm h=>?_;rw [HT.putK_eq] at h;rw [Sem.wp_update,K.at' _ _ ho];exact ⟨rfl,ih () p _ y h _ (K.update ho hm)⟩| alloc o k ih=>intro p x y h s K;unfold EW;refine gE (show gd (a2Q o) (HT.putK x.t o x.next λ t'=>c2T x.next λ n'=>exT den S Γ (k x.next) p ⟨t',n',x.tok,x.lo⟩)=some y from h) λ hm h=>?_;rw [HT.putK_eq,b4h] at h;rw [Sem.wp_alloc,K.size];exact ih _ p _ y h _ (K.alloc hm)| call c hh g l k ih=>intro p x y h s K;unfold EW;refine o2E (show ob2 (den (Γ.enter c hh p) p c x) (λ r x'=>exT den S Γ (k r) p x')=some y from h) λ z hz h=>?_;rw [Sem.wp_call];exact wpCode_mono (λ r' s' hr=>hr.1▸ih _ p z.2 y h s' hr.2) (hd _ p c x z.1 z.2 hz rfl s K)
theorem c6V {S:Setting}(hS:S=⟨M.prog,M.w.params⟩)(n:Nat):d3c M s₀ (exC M.den S n):=by
 induction n with
 | zero=>exact λ Γ p c x r x' h=>nx0 h| succ n ih=>
   intro Γ p c x r x' h hc s K;subst hc;rw [wpCode_iff_wp];refine o3E (show ob3 (exT (exC M.den S n) S Γ (M.den Γ.code) p x) (c4Q λ c' p' x'=>exC M.den S n (Γ.goto c') p' c' x')=some (r,x') from h) λ y hy h=>?_;refine Sem.wp_mono M Γ _ (λ fin q s' hq=>?_) (λ e q s' hq=>?_) p s (c0o hS ih _ p x y hy s K)
   · unfold c4Q at h;rw [hq.1] at h;cases fin with
     | done f=>have z:=Prod.mk.inj (sj h);exact ⟨z.1,z.2▸hq.2.2⟩| again c'=>exact gE h λ hc h=>⟨hc,ih (Γ.goto c') _ c' _ r x' (hq.2.1▸h) rfl s' hq.2.2⟩
   · unfold c4Q at h;rw [hq.1] at h;have z:=Prod.mk.inj (sj h);exact ⟨z.1,z.2▸hq.2.2⟩
theorem b1w {r:Except Value Flow}(h:b3k r=true):r=.ok .next:=by
 cases r with
 | error e=>exact nx2 h| ok f=>cases f <;> first | rfl | exact nx2 h
theorem c9G {S:Setting}(hS:S=⟨M.prog,M.w.params⟩){n:Nat}{Γ:Ctx}{env:Env}{rest:List Stmt}{z:Pos×XS}{Q:Flow->Pos->Shared->Prop}{E:Value->Pos->Shared->Prop}(k:∀ s',XOK s₀ z.2 s'->Sem.wp M Γ (execs rest env) Q E z.1 s')(l:List Stmt) :
 ∀ (p:Pos) (x:XS),d2m M.den S n Γ env l p x=some z->∀ s,XOK s₀ x s->Sem.wp M Γ (execs (l++rest) env) Q E p s:=by
 induction l with
 | nil=>intro p x h s K;obtain rfl:=sj h;exact k s K
 | cons st l ih=>
   intro p x h s K;rw [e1t,execs_cons,Sem.wp_bind'];exact o3E (show ob3 (exT (exC M.den S n) S Γ (exec st env) p x) (λ r p' x'=>gd (b3k r) (d2m M.den S n Γ env l p' x'))=some z from h) λ y hy h=>gE h λ hn h=>
    Sem.wp_mono M Γ _ (λ f q s' hq=>by obtain rfl:=Except.ok.inj (hq.1.symm.trans (b1w hn));exact hq.2.1▸ih _ _ h s' hq.2.2) (λ e q s' hq=>nomatch hq.1.symm.trans (b1w hn)) p s (c0o hS (c6V hS n) _ p x y hy s K)
end
noncomputable def b7f:Value->Option Str
 | .str s _=>some s| _=>none
noncomputable def b6U:Value->Option Nat
 | .ref a=>some a| _=>none
noncomputable def d3i:Value->Option Int
 | .int i _=>some i| _=>none
noncomputable def c5G:Value->Option String
 | .type n=>some n| _=>none
noncomputable def d4H:Value->Option String
 | .builtin n=>some n| _=>none
noncomputable def c6w:Value->Option Bool
 | .bool b=>some b| _=>none
noncomputable def a5k:Value->Bool
 | .none=>true| _=>false
noncomputable def c9N:Data->Option (Array DictEntry)
 | .dict es _=>some es| _=>none
noncomputable def d8J:Data->Option (Array Value)
 | .seq es _=>some es| _=>none
noncomputable def d3C:Data->Option FuncData
 | .func f=>some f| _=>none
noncomputable def d8K:Data->Option ClassData
 | .cls c=>some c| _=>none
noncomputable def b4D:Data->Option (Array Value)
 | .fields vs=>some vs| _=>none
noncomputable def b5b:Data->Bool
 | .plain=>true| _=>false
section
variable {v:Value}{d:Data}
theorem b4Y {s:Str}(e:b7f v=some s):∃ t,v=.str s t:=by cases v <;> first | exact nx0 e | exact ⟨_,congrArg (Value.str · _) (sj e)⟩
theorem a4M {s:Nat}(e:b6U v=some s):v=.ref s:=by cases v <;> first | exact nx0 e | exact congrArg Value.ref (sj e)
theorem b7g {s:Int}(e:d3i v=some s):∃ t,v=.int s t:=by cases v <;> first | exact nx0 e | exact ⟨_,congrArg (Value.int · _) (sj e)⟩
theorem a6h {s:String}(e:c5G v=some s):v=.type s:=by cases v <;> first | exact nx0 e | exact congrArg Value.type (sj e)
theorem c5H {s:String}(e:d4H v=some s):v=.builtin s:=by cases v <;> first | exact nx0 e | exact congrArg Value.builtin (sj e)
theorem b7h {s:Bool}(e:c6w v=some s):v=.bool s:=by cases v <;> first | exact nx0 e | exact congrArg Value.bool (sj e)
theorem a3m (e:a5k v=true):v=.none:=by cases v <;> first | exact nx2 e | rfl
theorem c1H {es:Array DictEntry}(e:c9N d=some es):∃ n,d=.dict es n:=by cases d <;> first | exact nx0 e | exact ⟨_,congrArg (Data.dict · _) (sj e)⟩
theorem d3A {es:Array Value}(e:d8J d=some es):∃ n,d=.seq es n:=by cases d <;> first | exact nx0 e | exact ⟨_,congrArg (Data.seq · _) (sj e)⟩
theorem c9M {f:FuncData}(e:d3C d=some f):d=.func f:=by cases d <;> first | exact nx0 e | exact congrArg Data.func (sj e)
theorem d3D {f:ClassData}(e:d8K d=some f):d=.cls f:=by cases d <;> first | exact nx0 e | exact congrArg Data.cls (sj e)
theorem a7f {f:Array Value}(e:b4D d=some f):d=.fields f:=by cases d <;> first | exact nx0 e | exact congrArg Data.fields (sj e)
theorem b7E (e:b5b d=true):d=.plain:=by cases d <;> first | exact nx2 e | rfl
end
abbrev GH:=Nat->Option Obj
def d7F (g:GH)(a:Nat):Option (Array DictEntry):=ob (g a) λ o=>c9N o.data
def a0j (g:GH)(a:Nat):List DictEntry:=oc (d7F g a) Array.toList []
noncomputable def a0n:List DictEntry->Str->Option Value
 | [],_=>none| e::l,x=>bc (oc (b7f e.key) (λ s=>sEq s x) false) (some e.val) (a0n l x)
def a6Y (f:Str->Bool)(l:List DictEntry):Bool:=l.all λ e=>oc (b7f e.key) f false
def a1i (g:GH)(a:Nat):Bool:=oc (d7F g a) (λ es=>a6Y (λ _=>true) es.toList) false
noncomputable def d5x:Nat->List Nat->List Nat
 | _,[]=>[]
 | t,d::l=>(t+d)::d5x (t+d) l
noncomputable def d8S:List Nat:=[21,15,49,7,7,7,7,7,7,7,7,7,7,5,8,7,7,14,7,7,15,8,7,9,8,15,7,7,7,14,15,7,12,14,22,7,7,7,5,7,7,8,7,7,5,5,5,7,14,5,16,14,7,8,8,5,5,5,5,5,7,7,6,7,7,7,7,7,5,7,5,5,7,14,7,7,5,7,14,7,14,7,7,7,14,7,7,8,8,8,7,7,7,7,15,8,26,7,7,7,7,14,7,7,5,7,8,13,7,7,7,7,5,7,5,7,7,5,7,5]
def e0T:List Nat:=d5x 0 d8S++[685,741,296,213,464,332,358,499,844,898,39,52,64,76]
noncomputable def c1p:List Nat->List Nat->Nat->Nat
 | k::ks,a::as,x=>bc (e0Y k x) a (c1p ks as x)| _,_,_=>0
def a2L (k:Nat):Nat:=c1p (a2m++(a2J++[6,7,8,9])) e0T k
def d3j (a b c x:Nat):Nat:=bc (e0g x a) 0 (bc (e0g x b) 1 (bc (e0g x c) 2 3))
def stS (k:Nat):Nat:=d3j 46 90 129 (k%1000)
def adS (a:Nat):Nat:=d3j 301 643 936 a
def fnS (j:Nat):List Nat:=a2m.filter λ k=>e0Y (stS k) j
def e0Q (j:Nat):List Nat:=a2J.filter λ k=>e0Y (stS k) j
def b8s (t:String)(o:Obj):Bool:=oc (c5G o.cls) (λ n=>n==t) false&&(b5c o.dict&&a1D o.slots.toList)
def b8Z (f:PV->Value->Bool)(g:GH)(l:List PV)(a:Nat):Bool:=oc (g a) (λ o=>oc (d8J o.data) (λ items=>b8s "tuple" o&&(e0m items.toList.length 1000&&a4k f l items.toList)) false) false
def c8k (k:PV)(e:DictEntry):Bool:=oc (a0z k) (λ i=>a3J (hashInt i) e.hash) false
noncomputable def c5F (g:GH):Nat->PV->Value->Bool
 | 0,_,_=>false| n + 1,p,v=>match p with
   | .none=>a5k v| .bool a=>oc (c6w v) (λ b=>a==b) false| .int i=>oc (d3i v) (a3J i) false| .str s=>oc (b7f v) (sEq s) false| .tup l=>oc (b6U v) (b8Z (c5F g n) g l) false| .dct ks vs=>oc (b6U v) (λ a=>oc (g a) (λ o=>oc (c9N o.data) (λ es=>b8s "dict" o&&(!e0Y a sysModules&&(a1q 1 ks&&(a2j ks&&(a4k (c5F g n) ks (es.toList.map (·.key))&&(a4k (c5F g n) vs (es.toList.map (·.val))&&a4k c8k ks es.toList)))))) false) false) false| .gl k=>oc (b6U v) (λ a=>e0Y a (a2L k)) false| _=>false
def a9R (g:GH)(P:Nat):Bool:=oc (g P) (λ o=>a5k o.cls&&(b5c o.dict&&(a1D o.slots.toList&&oc (b4D o.data) (λ vs=>a1D vs.toList) false))) false
def c1N (g:GH)(c:Nat)(q:Str):Option Nat:=ob (g c) λ o=>ob (b4D o.data) λ vs=>ob (ob (vs[1]?:Option Value) b7f) λ q'=>ob (ob (vs[11]?:Option Value) b6U) λ P=>
 gd (oc (c5G o.cls) (λ n=>n == "code") false&&(oc (b7f (vs.getD 18 .none)) (λ _=>true) false&&(oc (d3i (vs.getD 7 .none)) (λ _=>true) false&&(oc (c6w (vs.getD 9 .none)) (λ _=>true) false&&(oc (d3i (vs.getD 10 .none)) (λ _=>true) false&&(sEq q' q&&(!e0Y c P&&a9R g P))))))) (some P)
def c1y (g:GH)(a:Nat):Option FuncData:=ob (g a) λ o=>gd (oc (c5G o.cls) (λ n=>n == "function") false) (d3C o.data)
def d2j (g:GH)(k:Nat):Option (Nat×Str):=ob (c1y g (a2L k)) λ fd=>ob (b6U fd.code) λ c=>ob (c1N g c fd.qualname) λ P=>some (P,fd.qualname ++ ".<locals>." ++ "<lambda>")
def d6R (k:Nat):Str:=bc (e0g k 1000) (oc (ob (a7w k) a8z) id "") (oc (ob a2A[k%1000]? d7K) (·.1) "" ++ "." ++ oc (ob (a7w k) a8z) id "")
@[irreducible] def c1x (k:Nat):Nat×Str:=(a2L k-bc (a2E (c1p a2m d8S k) [5,6,12,13,26]) 3 5,d6R k ++ ".<locals>." ++ "<lambda>")
@[irreducible] def d1z:List (Nat×Str):=a2m.map c1x
theorem b5U:d1z=a2m.map c1x:=by rw [d1z]
noncomputable def c1m:List (Nat×Str)->Bool
 | []=>true| x::l=>l.all (λ y=>!e0Y x.1 y.1)&&c1m l
noncomputable def b9O:List Str->Bool
 | []=>true| x::l=>l.all (λ y=>!sEq y x)&&b9O l
def b1V (a:Arguments):Bool:=a1D a.posonlyargs&&(b5c a.vararg&&(a1D a.kwonlyargs&&(a1D a.kw_defaults&&b5c a.kwarg)))
def c1E (g:GH)(ds:List PV)(v:Value):Bool:=(a1D ds&&a5k v)||oc (b6U v) (b8Z (c5F g 3) g ds) false
noncomputable def d2J (k:ScopeKind):Bool:=match k with
 | .function=>true| _=>false
def c4s (g:GH)(k:Nat):Option (Arguments×FuncBody×Scope):=ob (c1y g (a2L k)) λ fd=>some (fd.params,fd.body,fd.scope)
def b7U (k:Nat):Option (Arguments×FuncBody×Scope):=ob (a7w k) λ s=>ob (fnD s) λ q=>some (q.2.1,.stmts q.2.2.1,q.2.2.2)
def fnC (g:GH)(f:FnI)(fd:FuncData)(as:Arguments):Bool:=(!f.sc.isCoroutine && (!f.sc.isGenerator && d2J f.sc.kind)) && (b9O f.params && (e0m f.dflts.length f.params.length &&
 (e0Y fd.globals mainGlobals&&(e0Y fd.builtins builtinsNs&&(a1D fd.closure&&(b1V as&&c1E g f.dflts fd.defaults))))))
def d7D (g:GH)(k:Nat):Bool:=oc (a2U k) (λ f=>oc (c1y g (a2L k)) (λ fd=>oc (d2j g k) (λ t=>(e0Y t.1 (c1x k).1&&sEq t.2 (c1x k).2)&&oc (b7U k) (λ q=>fnC g f fd q.1) false) false) false) false
def d0p (l:List (Option Value)):Option String:=ob (unc l) λ a=>ob (unc a.2) λ b=>ob (unc b.2) λ c=>ob (unc c.2) λ d=>ob (unc d.2) λ e=>ob (unc e.2) λ f=>gd (a1D f.2) (ob e.1 d4H)
def d1e (a:Nat)(l:List Value):Bool:=oc (two l) (λ p=>oc (b6U p.1) (λ b=>e0Y b a) false&&oc (c5G p.2) (λ n=>n == "object") false) false
def c9Y (g:GH)(a:Nat):Option Nat:=ob (g a) λ o=>ob (d8K o.data) λ cd=>ob (d0p o.slots.toList) λ nid=>
 gd (oc (c5G o.cls) (λ n=>n == "type") false&&(cd.hasDict&&(!cd.abstract&&(!cd.hasDel&&(nid == "object.__new__" && d1e a cd.mro))))) (some cd.ns)
def b9b (g:GH)(j:Nat):Bool:=e0g j 1000||(!a2E (j%1000) a2J||oc (ob (a7w j) a8z) (λ n=>oc (ob (c9Y g (a2L (j%1000))) λ N=>ob (a0n (a0j g N) n) b6U) (λ a=>e0Y a (a2L j)) false) false)
def d3H (g:GH)(c:Nat):Bool:=oc (c9Y g (a2L c)) (λ N=>a1i g N&&(a6Y (λ s=>!a4a c s) (a0j g N)&&(b5c (a0n (a0j g N) "__getattribute__")&&(b5c (a0n (a0j g N) "__getattr__")&&b5c (a0n (a0j g N) "__setattr__"))))) false
def c6g (p:PV)(v:Value):Bool:=match p with
 | .blt id=>oc (d4H v) (λ b=>b==id) false| .typ id=>oc (c5G v) (λ b=>b==id) false| _=>false
def a7V (es bs:List DictEntry)(x:Str)(p:PV):Bool:=oc (a0n es x) (λ v=>a5j (b6U v)||c5F (λ _=>none) 1 p v) (oc (a0n bs x) (c6g p) false)
def d2z (es:List DictEntry)(g:GH)(j:Nat):Bool:=es.all λ e=>oc (b6U e.val) (λ a=>!e0Y (adS a) j||oc (ob (b7f e.key) λ s=>a5m.at s.cps.toList) (λ p=>c5F g 4 p e.val) true) true
noncomputable def a3M (f:Str->PV->Bool):GT->Bool
 | .leaf=>true| .node k v l r=>f (S k) v&&(a3M f l&&a3M f r)
def c5r (g:GH):Bool:=oc (ob (a0n (a0j g mainGlobals) "__builtins__") b6U) (λ a=>oc (g a) (λ o=>oc (c5G o.cls) (λ n=>n == "module") false&&(oc o.dict (λ d=>e0Y d builtinsNs) false&&(b5b o.data&&(!e0Y a builtinsNs && !e0Y a mainGlobals)))) false) false
def d7p (fd:FuncData):Bool:=sEq fd.name "law" && (sEq fd.qualname "law" && (a5k fd.defaults&&(a5k fd.kwdefaults&&(a1D fd.closure&&(e0Y fd.globals mainGlobals&&e0Y fd.builtins builtinsNs)))))
def c6D (g:GH):Bool:=oc (c1y g (a2L 144)) (λ fd=>oc (ob (a0n (a0j g mainGlobals) "law") b6U) (λ a=>e0Y a (a2L 144)&&d7p fd) false) false
def b7w (g:GH):Bool:=c6D g && (a1i g mainGlobals && (a1i g builtinsNs && (a1i g cStatics && (oc (g sysModules) (λ _=>true) false && (c5r g &&
 a6Y (λ k=>k.opensWith "type.__subclasses__.") (a0j g cStatics))))))
def c5S (es:List DictEntry)(g:GH)(j:Nat):Bool:=d2z es g j&&((fnS j).all (d7D g)&&((e0Q j).all (d3H g)&&(fnS j).all (b9b g)))
noncomputable def a8n:List DictEntry->List Str->Bool
 | [],_=>true| e::l,n::ns=>bc (oc (b7f e.key) (λ s=>sEq s n) false) (a8n l ns) (a8n (e::l) ns)| _,[]=>false
noncomputable def c0Z (P:Params)(s:Str):Int:=if s.cps.isEmpty then 0 else reduceHash (P.strHash s.cps)
def d4G (t:Nat):PV->Value
 | .gl k=>.ref (a2L k)| .int i=>.int i (t-1)| .str s=>.str s (t-1)| _=>.ref (c1p [534,537,1466,1470,1473,1477,1482,1486,1490,1606,1648] [241,242,849,850,851,852,853,854,855,936,944] t)
def news (P:Params):List DictEntry:=(prg.boundNames.eraseIdx 1).zipWith (λ n t=>⟨c0Z P n,.str n t,oc (a5m.at n.cps.toList) (d4G t) (.ref (a2L 144))⟩)
 (d5x 0 [193,4,2,2,2,29,16,16,16,7,7,7,11,4,2,2,2,2,2,2,3,7,8,10,10,13,15,12,6,11,12,9,51,15,11,8,5,3,9,11,59,4,2,2,2,2,2,2,2,9,45,6,33,146,10,6,4,2,2,2,49,14,14,16,10,6,6,6,6,6,9,10,6,10,11,9,13,14,6,9,6,6,10,68,12,10,59,13,9,11,9,9,10,4,2,2,2,2,2,8,9,7,15,46,6,4,3,4,5,4,4,64,9,11,11,6,8,7,6,36,6,8,9,11,11,6,9,6,9,9,6,22,6])
noncomputable def a2M:Nat->Nat×Nat×Nat×Nat×String×Nat
 | 0=>(0,0,15,187, "",0)
 | 1=>(46,41,301,619, "unicore.collate",617)
 | 2=>(90,83,643,1152, "unicore.ranges",1142)
 | 3=>(129,117,936,1600, "law_nt0086_01",1592)
 | _=>(145,133,1033,1767, "law_nt0086_01",1592)
def part (j:Nat):List Stmt:=(a2A.drop (a2M j).1).take ((a2M (j+1)).1-(a2M j).1)
def c8s (P:Params)(j:Nat)(l:List DictEntry):List DictEntry:=oc (unc l) (λ q=>⟨q.1.hash,q.1.key,.str (a2M j).2.2.2.2.1 (a2M j).2.2.2.2.2⟩::(q.2++(news P).take (a2M j).2.1)) []
def glO (P:Params)(j:Nat)(l:List DictEntry):Obj:={ cls:=.type "dict",data:=.dict (c8s P j l).toArray ((a2M j).2.1+9) }
def c7N (P:Params):Obj:={ cls:=.none,data:=.dict #[⟨c0Z P "type.__subclasses__.Exception.0",.str "type.__subclasses__.Exception.0" 229,.int 39 0⟩,⟨c0Z P "type.__subclasses__.Exception.n",.str "type.__subclasses__.Exception.n" 230,.int 1 0⟩] 2 }
def d3G (k:Nat):Nat:=bc (a2E k (a2J++[6,7,8,9])) (c1p (a2J++[6,7,8,9]) [648,709,263,188,368,313,347,486,824,861,27,48,60,72] k) (a2L k-1)
noncomputable def d4K:Nat->List Stmt->List Value
 | _,[]=>[]
 | k,s::l=>bc (a5j (fnD s)||a5j (d7K s)) (.int s.pos.line 0::.int 0 0::.ref (d3G k)::d4K (k+1) l) (d4K (k+1) l)
def d4L (j:Nat):Obj:={ cls:=.none,data:=.fields (d4K 0 (a2A.take (a2M j).1)).toArray }
noncomputable abbrev d3h:String := "special-get-raises"
noncomputable def d6m:Nat->List Obj->HT->HT
 | _,[],t=>t| n,o::l,t=>d6m (n+1) l (HT.put t o n)
def b2d (P:Params):XS:=⟨d6m 0 (boot_heap P).objs.toList .l,11,boot_toks,11⟩
def b7v (code:Value)(F:Nat):Env:={ scope:=prg.main.scope,locals:=mainNs,globals:=mainNs,cells:=[],code,frame:=some F }
noncomputable abbrev c2A:Ctx:=⟨.builtin "claim.caller" {},none,none,[],none⟩
noncomputable def okR {α:Type}:Except Value α->Option α
 | .ok a=>some a| .error _=>none
def a8I (w:World):Option (Ctx×Env×Pos×XS):=
 ob3 (exT (exC (denote treeTable) ⟨prg,w.params⟩ 100) ⟨prg,w.params⟩ c2A (moduleCode prg.main) default (b2d w.params)) λ r p x=>ob (okR r) λ code=>
  ob3 (exT (exC (denote treeTable) ⟨prg,w.params⟩ 100) ⟨prg,w.params⟩ c2A (newBodyFrame code mainNs mainNs) p x) λ r p x=>ob (okR r) λ F=>
   some (c2A.enter (.body a2A (b7v code F)) none p,b7v code F,p,x)
abbrev gOf (x:XS):GH:=λ a=>x.t.look a
def a3N (x:XS):GH:=λ a=>bc (a2F x.next a) none (x.t.look a)
def yX (P:Params)(x:XS)(j:Nat):XS:=match j with
 | 0=>{ x with lo:=x.next }
 | j=>⟨((x.t.put (c7N P) cStatics).put (glO P j (a0j (gOf x) mainNs)) mainNs).put (d4L j) 12,(a2M j).2.2.1,(a2M j).2.2.2.1,(a2M j).2.2.1⟩
def b3w (w:World)(P:Params)(j:Nat)(p:Pos):Option (XS×XS):=ob2 (a8I w) λ Γ y=>ob3 (some y) λ env _ x=>ob2 (d2m (denote treeTable) ⟨prg,P⟩ 100 Γ env (part j) p (yX P x j)) λ _ z=>some (x,z)
def a3d (w:World)(j:Nat)(q:XS×XS):=(q.2.next,q.2.tok,q.2.lo,q.2.t.look cStatics,q.2.t.look mainNs,q.2.t.look 12,(fnS j).map (c4s (a3N q.2)),c5S (c8s w.params 4 (a0j (gOf q.1) mainNs)) (a3N q.2) j&&(e0g j 3||b7w (gOf q.2)))
def a5y (w:World)(j:Nat)(x:XS):=((a2M (j+1)).2.2.1,(a2M (j+1)).2.2.2.1,(a2M j).2.2.1,some (c7N w.params),some (glO w.params (j+1) (a0j (gOf x) mainNs)),some (d4L (j+1)),(fnS j).map b7U,true)
def b0K (w:World)(x:XS):=(x.lo,x.next,laidNames.map (a0n (c8s w.params 4 (a0j (gOf x) mainNs))),
 a8n (c8s w.params 4 (a0j (gOf x) mainNs)) (startupNames++prg.boundNames)&&(a3M (a7V (c8s w.params 4 (a0j (gOf x) mainNs)) (a0j (a3N x) builtinsNs)) a5m&&a1i (a3N x) builtinsNs))
theorem c3z (w:World):(a8I w).map (λ y=>b0K w y.2.2.2)=some (11,15,laidNames.map (a0n (a0j (gOf (b2d w.params)) mainNs)),true):=by kernel_rfl
theorem c2i (w:World)(p:Pos):(b3w w w.params 0 p).map (a3d w 0)=(a8I w).map λ y=>a5y w 0 y.2.2.2:=by kernel_rfl
theorem c2h (w:World)(p:Pos):(b3w w w.params 1 p).map (a3d w 1)=(a8I w).map λ y=>a5y w 1 y.2.2.2:=by kernel_rfl
theorem c2g (w:World)(p:Pos):(b3w w w.params 2 p).map (a3d w 2)=(a8I w).map λ y=>a5y w 2 y.2.2.2:=by kernel_rfl
theorem b8b (w:World)(p:Pos):(b3w w (w.withFollow d3h true).params 3 p).map (a3d w 3)=(a8I w).map λ y=>a5y w 3 y.2.2.2:=by kernel_rfl
theorem b8c (w:World)(p:Pos):(b3w w (w.withFollow d3h false).params 3 p).map (a3d w 3)=(a8I w).map λ y=>a5y w 3 y.2.2.2:=by kernel_rfl
end
section
open PySem PySem.Calls PyProof.Rows
open Sem (wp)
def E0:Value->Shared->Prop:=λ _ _=>False
structure Room (n:Nat)(A:Around):Prop where
 hd:A.handled=none
 dp:A.depth+2 * n+8<recursionLimit
 un:A.units+8 * n+100<cLine
theorem b8e {a b c n m:Nat}(h:m<=n)(x:a+k * n+b<l):a+k * m+b<l:=e1F (Nat.add_le_add_right (e1c (Nat.mul_le_mul_left k h) a) b) x
theorem Room.le (R:Room n A)(h:m<=n):Room m A:=⟨R.hd,b8e (c:=0) h R.dp,b8e (c:=0) h R.un⟩
def Mt0:Addr->Prop:=λ _=>False
abbrev b2n (B:Base)(X:Addr->Prop)(h h':Heap):Prop:=Keep (isCodeTable B.hB) X h h'
theorem Keep.refl:Keep T X h h:=λ _ _ _ e=>.inl e
theorem Keep.trans {T X Y:Addr->Prop}(K:Keep T X h h1)(L:Keep T Y h1 h2)(hy:∀ b o,h.get? b=some o->Y b->X b):Keep T X h h2:=λ b o nx e=>
 have ny:¬ Y b:=λ y=>nx (hy b o e y)
 (K b o nx e).elim (L b o ny) λ ⟨t,c,vs,more,d,k⟩=>.inr ((L b _ ny k).elim (λ l=>⟨t,c,vs,more,d,l⟩) λ ⟨_,_,vs',more',d',l⟩=>
   have z:vs++more=vs':=Data.fields.inj d'
   ⟨t,c,vs,more++more',d,l.trans (congrArg some (by rw [<- z,Array.append_assoc]))⟩)
theorem Keep.mono {T X Y:Addr->Prop}(K:Keep T X h h')(hxy:∀ a,X a->Y a):Keep T Y h h':=λ b o n e=>K b o (λ x=>n (hxy _ x)) e
theorem Keep.of_ext {h h':Heap}(k:∀ b o,h.get? b=some o->h'.get? b=some o):Keep T X h h':=λ b o _ e=>.inl (k b o e)
structure Went (B:Base)(Pr:Addr->Prop)(ρ:List Addr)(H:List PO)(s:Shared)(ρ':List Addr)(H':List PO)(s':Shared):Prop where
 same:∃ h tk,s'={ s with heap:=h,toks:=tk }
 ext:∃ more,ρ'=ρ++more /\ ∀ a∈more,s.heap.get? a=none
 rel:Rel B Pr ρ' H' s'.heap
 keep:b2n B (lv ρ H) s.heap s'.heap
 live:∀ (i:Nat) (o:PO),i<H.length->H'[i]?=some o->o.live=true->∃ o',H[i]?=some o'/\o'.live=true
section
variable {B:Base}{Pr:Addr->Prop}{ρ ρ1 ρ2:List Addr}{H H1 H2:List PO}{s s1 s2:Shared}
theorem Went.refl (R:Rel B Pr ρ H s.heap):Went B Pr ρ H s ρ H s:=⟨⟨_,_,rfl⟩,⟨[],by simp,by simp⟩,R,.refl,λ i o _ e l=>⟨o,e,l⟩⟩
theorem Went.loc (W:Went B Pr ρ H s ρ1 H1 s1){i:Nat}(e:ρ[i]?=some a):ρ1[i]?=some a:=
 W.ext.elim λ more z=>z.1▸(List.getElem?_append_left (a0Q e)).trans e
theorem Went.len' (W:Went B Pr ρ H s ρ1 H1 s1)(hl:ρ.length=H.length):H.length<=H1.length:=
 W.ext.elim λ more z=>by rw [<- W.rel.len,<- hl,z.1,e0a]; exact e1M _ _
theorem Went.old' (W:Went B Pr ρ H s ρ1 H1 s1)(hl:ρ.length=H.length)(e:s.heap.get? b=some o)(l:lv ρ1 H1 b):lv ρ H b:=by
 obtain ⟨i,p,e1,e2,e3⟩:=l;obtain ⟨more,z,fr⟩:=W.ext;rw [z] at e1;rcases e1A i ρ.length with hi | hi
 · rw [List.getElem?_append_left hi] at e1;exact (W.live i p (hl▸hi) e2 e3).elim λ o' q=>⟨i,o',e1,q.1,q.2⟩
 · rw [List.getElem?_append_right hi] at e1;exact nx1 (e.symm.trans (fr b (e0s e1)))
theorem Went.has' (W:Went B Pr ρ H s ρ1 H1 s1)(e:s.heap.get? b=some o):∃ o',s1.heap.get? b=some o':=by
 by_cases hv:lv ρ H b
 · exact W.ext.elim λ more z=>W.rel.mem (z.1▸e1R _ hv.mem)
 · exact (W.keep b o hv e).elim (λ x=>⟨_,x⟩) λ x=>x.2.2.elim λ _ x=>x.elim λ _ x=>⟨_,x.2⟩
theorem Went.trans' (hl:ρ.length=H.length)(W:Went B Pr ρ H s ρ1 H1 s1)(V:Went B Pr ρ1 H1 s1 ρ2 H2 s2):Went B Pr ρ H s ρ2 H2 s2 where
 same:=W.same.elim λ h e=>e.elim λ tk e=>V.same.elim λ h' e'=>e'.elim λ tk' e'=>⟨h',tk',e'.trans (e▸rfl)⟩
 ext:=W.ext.elim λ m1 z1=>V.ext.elim λ m2 z2=>⟨m1++m2,by rw [z2.1,z1.1,e0h],λ a ha=>(e1E.mp ha).elim (z1.2 a) λ ha=>by
  cases e:s.heap.get? a with
  | none=>rfl| some o=>exact (W.has' e).elim λ o' x=>nx1 (x.symm.trans (z2.2 a ha))⟩
 rel:=V.rel
 keep:=W.keep.trans V.keep λ b o e l=>W.old' hl e l
 live:=λ i o hi e l=>(V.live i o (e1j hi (W.len' hl)) e l).elim λ o1 q=>W.live i o1 hi q.1 q.2
theorem Went.trans (R:Rel B Pr ρ H s.heap)(W:Went B Pr ρ H s ρ1 H1 s1)(V:Went B Pr ρ1 H1 s1 ρ2 H2 s2):Went B Pr ρ H s ρ2 H2 s2:=W.trans' R.len V
theorem Went.carry (R:Rel B Pr ρ H s.heap)(W:Went B Pr ρ H s ρ1 H1 s1):Carry (a0G Pr ρ H) (a0G Pr ρ1 H1) ρ ρ1 s.heap s1.heap where
 obj:=λ a o n e f=>⟨(W.keep a o (λ l=>n (.inr l)) e).elim id λ ⟨_,c,vs,_,d,_⟩=>f.elim (λ f=>absurd d (f vs)) λ f=>absurd c f,λ m=>m.elim (λ m=>n (.inl m)) λ m=>n (.inr (W.old' R.len e m))⟩
 loc:=λ i a e=>W.loc e
theorem Went.tok (W:Went B Pr ρ H s ρ1 H1 s1) (t):Went B Pr ρ H s ρ1 H1 { s1 with toks:=t }:=⟨W.same.elim λ h e=>e.elim λ tk e=>⟨h,t,e▸rfl⟩,W.ext,W.rel,W.keep,W.live⟩
theorem Went.more (W:Went B Pr ρ H s ρ1 H1 s1){h:Heap} (t)(k:∀ b o,s1.heap.get? b=some o->h.get? b=some o):Went B Pr ρ H s ρ1 H1 { s1 with heap:=h,toks:=t }:=
 ⟨W.same.elim λ h1 e=>e.elim λ tk e=>⟨h,t,e▸rfl⟩,W.ext,W.rel.ext k,W.keep.trans (Y:=λ _=>False) (.of_ext k) λ _ _ _ x=>x.elim,W.live⟩
end
theorem Rel.carry0 (R:Rel B Pr ρ H h):Carry Mt0 (a0G Pr ρ H) [] ρ B.hB h where
 obj:=λ a o _ e f=>by
  refine ⟨?_,λ m=>?_⟩
  · rcases R.base a o (λ x=>x) e with x | ⟨_,c,vs,_,d,_⟩
    · exact x
    · rcases f with f | f
      · exact absurd d (f vs)
      · exact absurd c f
  · rcases m with m | m
    · rw [(R.prl a m).2] at e; exact nx0 e
    · rw [(R.away a m.mem).2] at e; exact nx0 e
 loc:=λ i a e=>by exact nx0 e
theorem Rel.old (R:Rel B Pr ρ H h)(e:B.hB.get? b=some o)(nf:∀ vs,o.data≠.fields vs):h.get? b=some o:=by
 rcases R.base b o (λ x=>x) e with x | ⟨_,_,vs,_,d,_⟩
 · exact x
 · exact absurd d (nf vs)
theorem Rel.oldNs (R:Rel B Pr ρ H h)(n:B.hB.Ns a m):h.Ns a m:=by refine e0M (n) λ o es ep e d r=>?_;exact ⟨o,es,ep,R.old e (λ vs x=>by rw [d] at x; cases x),d,r⟩
theorem Rel.noLimit (R:Rel B Pr ρ H h)(n:B.hB.NoLimit):h.NoLimit:=by refine c0x (n) λ mc a b=>?_;exact ⟨mc,R.oldNs a,b⟩
structure EnvOK (B:Base)(ae:AEnv)(env:Env)(ρ:List Addr):Prop where
 sc:env.scope=ae.sc
 kind:ae.sc.kind=.function
 L:ρ[ae.L]?=some env.locals
 cells:∀ x i,a1H ae.cells x=some i->∃ c,env.cells.lookup x=some c/\ρ[i]?=some c
 g:env.globals=B.gA
 b:env.builtins=B.bA
 lam:ae.top=true->∃ c P,env.code=.ref c/\PySem.W.CodeHd B.hB c P/\B.lam P=some (env.qual ++ "<lambda>")
theorem EnvOK.went (x:EnvOK B ae env ρ)(W:Went B Pr ρ H s ρ1 H1 s1):EnvOK B ae env ρ1:=
 ⟨x.sc,x.kind,W.loc x.L,λ y i e=>let ⟨c,p,q⟩:=x.cells y i e; ⟨c,p,W.loc q⟩,x.g,x.b,x.lam⟩
def FnOK (B:Base)(n:Nat)(k:Nat)(args:List PV)(v:PV):Prop:=a0E args=true /\
 ∀ (Pr:Addr->Prop) (A:Around) (s:Shared) (xs:List Value),Room n A->Rel B Pr [] [] s.heap->VRels B Pr [] s.heap args xs ->
   wpAny (Mo B.w) A (call (.ref (B.adr k)) xs) (λ x s'=>(∃ h tk,s'={ s with heap:=h,toks:=tk })/\b2n B Mt0 s.heap s'.heap/\TabsOK B Pr s'.heap/\VRel B Pr [] s'.heap v x) E0 s
def FnD (B:Base)(n:Nat)(k:Nat)(kl km:PV)(l:List PV)(m:PV)(args:List PV)(v:PV)(l':List PV)(m':PV):Prop:=a0E args=true /\ a0E l=true /\ a0E [kl,km,m]=true /\ a0E (m'::l')=true /\
 ∀ (Pr:Addr->Prop) (A:Around) (s:Shared) (d e:Addr) (xs:List Value),Room n A->Rel B Pr [d,e] [.dict [kl,km] [.loc 1,m],.list l] s.heap->VRels B (a0G Pr [d,e] [.dict [kl,km] [.loc 1,m],.list l]) [] s.heap args xs ->
   wpAny (Mo B.w) A (call (.ref (B.adr k)) (.ref d::xs)) (λ x s'=>(∃ h tk,s'={ s with heap:=h,toks:=tk }) /\ b2n B (λ a=>a=d \/ a=e) s.heap s'.heap /\
    Rel B Pr [d,e] [.dict [kl,km] [.loc 1,m'],.list l'] s'.heap/\VRel B (a0G Pr [d,e] [.dict [kl,km] [.loc 1,m'],.list l']) [] s'.heap v x) E0 s
def Ob.ok (B:Base):Ob->Prop
 | .fn n k args v=>FnOK B n k args v| .cmp H op a b r=>a3U H op a b=some r| .itm H a i v=>a2T H a i=some v| .dk n k kl km l m args v l' m'=>FnD B n k kl km l m args v l' m'| .nl v=>a0e v=true| .sz n=>n<=sizeLine| .dg H self args v=>∃ z,a5Q .dget self args ⟨H,[]⟩=some (v,⟨H,[]⟩,⟨[],z⟩)/\z<=sizeLine
def Obl (B:Base)(o:Obs):Prop:=(∀ x∈o.ps,x.ok B)/\o.sz<=sizeLine
theorem Obl.add {a b:Obs}(x:Obl B (a.add b)):Obl B a/\Obl B b:=
 ⟨⟨λ y hy=>x.1 y (d7R hy),e0l c8F x.2⟩,⟨λ y hy=>x.1 y (d7P hy),e0l c8E x.2⟩⟩
def Ran {α:Type}(B:Base)(m:Ev α)(st:St)(a:α)(st':St):Prop:=∃ o,m st=some (a,st',o)/\Obl B o
def Fin {α β:Type}(B:Base)(Pr:Addr->Prop)(ρ:List Addr)(H:List PO)(s:Shared)(P:(Addr->Prop)->List Addr->Heap->α->β->Prop)(a:α)(H':List PO)(Q:β->Shared->Prop):Prop:=
 ∀ ρ' s' b,Went B Pr ρ H s ρ' H' s'->P (a0G Pr ρ' H') ρ' s'.heap a b->Q b s'
def a9N {α β:Type}(B:Base)(Pr:Addr->Prop)(A:Around)(ρ:List Addr)(H:List PO)(s:Shared)(t:Sem β)(P:(Addr->Prop)->List Addr->Heap->α->β->Prop)(a:α)(H':List PO):Prop:=
 ∀ Q:β->Shared->Prop,Fin B Pr ρ H s P a H' Q->wpAny (Mo B.w) A t Q E0 s
def Sim {α β:Type}(B:Base)(Pr:Addr->Prop)(A:Around)(ρ:List Addr)(st:St)(s:Shared)(m:Ev α)(t:Sem β)
    (P:(Addr->Prop)->List Addr->Heap->α->β->Prop):Prop:=
 ∀ a st',Ran B m st a st'->a9N B Pr A ρ st.H s t P a st'.H
theorem a1C {α β γ:Type}{a a':α}{b b':β}{c c':γ}(e:some (a,b,c)=some (a',b',c')):a=a'/\b=b'/\c=c':=
 have e:=sj e
 ⟨congrArg (·.1) e,congrArg (·.2.1) e,congrArg (·.2.2) e⟩
@[elab_as_elim] theorem tE {α β γ:Type}{a':α}{b':β}{c':γ}{G:α->β->γ->Prop}(a:α)(b:β)(c:γ)(e:some (a',b',c')=some (a,b,c))(k:G a' b' c'):G a b c:=
  have e:=a1C e
  e.1▸e.2.1▸e.2.2▸k
@[elab_as_elim] theorem sE {α:Type}{a':α}{G:α->Prop}(a:α)(e:some a'=some a)(k:G a'):G a:=sj e▸k
theorem a4B {γ δ:Type}:∀ (l:List γ)(k:List γ->δ),Ev.force l k=k l
 | [],_=>rfl| x::l,k=>a4B l _
section
variable {α β:Type}{B:Base}{st st2:St}{G:Prop}
theorem Ran.no {a:α}(e:Ran B (Ev.no:Ev α) st a st2):G:=e.elim λ _ e=>nx0 e.1
theorem a2b {m:Ev α}{f:α->Ev β}:Ev.bind m f st=ob (m st) λ (a,st1,o1)=>ob (f a st1) λ (b,st2,o2)=>some (b,st2,o1.add o2):=by
 rw [Ev.bind];show ob (m st) _=_;cases m st with
 | none=>rfl| some z=>exact Ev.wrapZ_eq z.2.2 (f z.1 z.2.1)
theorem Ran.bind {m:Ev α}{f:α->Ev β}{b:β}(e:Ran B (Ev.bind m f) st b st2)(k:∀ a st1,Ran B m st a st1->Ran B (f a) st1 b st2->G):G:=
 e.elim λ o e=>oE (a2b.symm.trans e.1) λ y h e1=>oE e1 λ z h2 e2=>
  have q:=sj e2;have O:Obl B (y.2.2.add z.2.2):=(show y.2.2.add z.2.2=o from congrArg (·.2.2) q)▸e.2
  k y.1 y.2.1 ⟨_,h,O.add.1⟩ ⟨z.2.2,h2.trans (congrArg (λ w=>some (w.1,w.2.1,z.2.2)) q),O.add.2⟩
theorem Ran.ret {a b:α}(e:Ran B (Ev.ret a) st b st2):b=a/\st2=st:=e.elim λ _ e=>have z:=a1C e.1; ⟨z.1.symm,z.2.1.symm⟩
theorem Ran.opt {o:Option α}{b:α}(e:Ran B (Ev.opt o) st b st2):o=some b/\st2=st:=by
 cases o with
 | none=>exact e.no| some a=>have z:=Ran.ret e; exact ⟨congrArg some z.1.symm,z.2⟩
theorem Ran.gE' {m:Ev α}{b:α}(e:Ran B (Internal.gE' c m) st b st2):c=true/\Ran B m st b st2:=by
 unfold Internal.gE' at e;cases c with
 | false=>exact Ran.no e| true=>exact ⟨rfl,e⟩
theorem Ran.rd {f:List PO->Option α}{b:α}(e:Ran B (Ev.rd f) st b st2):f st.H=some b/\st2=st:=
 e.elim λ _ e=>oE e.1 λ y h e=>have z:=a1C e; ⟨h.trans (congrArg some z.1),z.2.1.symm⟩
theorem Ran.up {f:List PO->Option (α×List PO×Nat)}{b:α}(e:Ran B (Ev.up f) st b st2):∃ H n,f st.H=some (b,H,n)/\n<=sizeLine/\st2=⟨H,st.hs⟩:=
 e.elim λ o e=>oE e.1 λ y h e1=>
  have q:=a1C ((a4B _ _).symm.trans e1)
  ⟨y.2.1,y.2.2,h.trans (congrArg (λ w=>some (w,y.2.1,y.2.2)) q.1),(show y.2.2=o.sz from congrArg Obs.sz q.2.2)▸e.2.2,q.2.1.symm⟩
theorem Ran.big {m:Ev α}{a:α}(e:Ran B (Ev.big m) st a st2):∃ hs,Ran B m ⟨st.H,hs⟩ a st2:=
 e.elim λ o e=>ocE e.1 (λ hs _ e2=>oE e2 λ y h e1=>
  have q:=a1C e1;have O:Obl B ⟨.sz y.2.2.sz::y.2.2.ps,0⟩:=q.2.2.symm▸e.2
  ⟨hs,y.2.2,h.trans (congrArg some (q.1▸q.2.1▸rfl)),λ x m=>O.1 x (e0Z _ m),O.1 _ e0X⟩) λ _ e2=>⟨st.hs,o,e2,e.2⟩
theorem ob1 (O:Obl B o)(e:(⟨[x],0⟩:Obs)=o):x.ok B:=by subst e; exact O.1 _ e0X
theorem Ran.cmp (e:Ran B (cmp op a b) st r st2):a3U st.H op a b=some r /\ ∃ hs,st2=⟨st.H,hs⟩:=
 e.elim λ o e=>ocE e.1 (λ q _ e2=>have z:=a1C e2; ⟨z.1▸ob1 e.2 z.2.2,q.2,z.2.1.symm⟩) λ _ e2=>have z:=Ran.rd ⟨o,e2,e.2⟩; ⟨z.1,st.hs,z.2⟩
theorem Ran.item {a i v:PV}(e:Ran B (a6c a i) st v st2):a2T st.H a i=some v /\ ∃ hs,st2=⟨st.H,hs⟩:=
 e.elim λ o e=>ocE e.1 (λ q _ e2=>have z:=a1C e2; ⟨z.1▸ob1 e.2 z.2.2,q.2,z.2.1.symm⟩) λ _ e2=>have z:=Ran.rd ⟨o,e2,e.2⟩; ⟨z.1,st.hs,z.2⟩
theorem Ran.bc {m m':Ev α}{b:α}(e:Ran B (bc c m m') st b st2)(k:c=true->Ran B m st b st2->G)(k':c=false->Ran B m' st b st2->G):G:=by
 cases c with
 | false=>exact k' rfl e| true=>exact k rfl e
theorem Ran.oc {γ:Type}{o:Option γ}{f:γ->Ev α}{m':Ev α}{b:α}(e:Ran B (oc o f m') st b st2)(k:∀ x,o=some x->Ran B (f x) st b st2->G)(k':o=none->Ran B m' st b st2->G):G:=by
 cases o with
 | none=>exact k' rfl e| some a=>exact k a rfl e
theorem Ran.callH (e:Ran B (callH mk ov vs) st v st2):∃ hs st3,Ran B (a5Q mk ov vs) ⟨st.H,hs⟩ v st3/\st3.H=st2.H:=
 Ran.bc e (λ hm e=>by
  obtain rfl:mk=.dget:=by cases mk <;> first | rfl | exact nx2 hm
  exact e.elim λ o e=>ocE e.1 (λ q _ e2=>have z:=a1C e2; (ob1 e.2 z.2.2).elim λ n e3=>⟨[],⟨st.H,[]⟩,⟨_,z.1▸e3.1,λ x m=>absurd m e0b,e3.2⟩,by rw [<- z.2.1]⟩) λ _ e2=>⟨st.hs,st2,⟨o,e2,e.2⟩,rfl⟩) λ _ e=>e.big.imp λ hs e=>⟨st2,e,rfl⟩
section
variable {Pr:Addr->Prop}{A:Around}{ρ:List Addr}{s:Shared}{t:Sem β}{P:(Addr->Prop)->List Addr->Heap->α->β->Prop}
theorem Sim.up {f:List PO->Option (α×List PO×Nat)}(k:∀ a H n,f st.H=some (a,H,n)->n<=sizeLine->a9N B Pr A ρ st.H s t P a H):Sim B Pr A ρ st s (Ev.up f) t P:=λ a st' e=>by obtain ⟨H,n,e1,h,rfl⟩:=e.up;exact k a H n e1 h
theorem Sim.rd {f:List PO->Option α}(k:∀ a,f st.H=some a->a9N B Pr A ρ st.H s t P a st.H):Sim B Pr A ρ st s (Ev.rd f) t P:=λ a st' e=>e.rd.2▸k a e.rd.1
theorem Sim.opt {o:Option α}(k:∀ a,o=some a->a9N B Pr A ρ st.H s t P a st.H):Sim B Pr A ρ st s (Ev.opt o) t P:=λ a st' e=>e.opt.2▸k a e.opt.1
theorem Sim.ret {a:α}(k:a9N B Pr A ρ st.H s t P a st.H):Sim B Pr A ρ st s (Ev.ret a) t P:=λ b st' e=>by rw [e.ret.1,e.ret.2]; exact k
theorem Sim.no:Sim B Pr A ρ st s (Ev.no:Ev α) t P:=λ _ _ e=>e.no
theorem Sim.gE' {m:Ev α}(k:c=true->Sim B Pr A ρ st s m t P):Sim B Pr A ρ st s (Internal.gE' c m) t P:=λ a st' e=>k e.gE'.1 a st' e.gE'.2
theorem Sim.big {m:Ev α}(k:∀ hs,Sim B Pr A ρ ⟨st.H,hs⟩ s m t P):Sim B Pr A ρ st s (Ev.big m) t P:=λ a st' e=>e.big.elim λ hs e=>k hs a st' e
theorem Sim.oc {γ:Type}{o:Option γ}{f:γ->Ev α}{m':Ev α}(k:∀ x,o=some x->Sim B Pr A ρ st s (f x) t P)(k':o=none->Sim B Pr A ρ st s m' t P):Sim B Pr A ρ st s (Internal.oc o f m') t P:=λ a st' e=>e.oc (λ x h e=>k x h a st' e) λ h e=>k' h a st' e
theorem Sim.bc {m m':Ev α}(k:c=true->Sim B Pr A ρ st s m t P)(k':c=false->Sim B Pr A ρ st s m' t P):Sim B Pr A ρ st s (Internal.bc c m m') t P:=λ a st' e=>e.bc (λ h e=>k h a st' e) λ h e=>k' h a st' e
end
end
theorem a0c {i:Int}(e:a0z v=some i):v=.int i:=by cases v <;> first | exact nx0 e | exact congrArg _ (sj e)
theorem a7q {i:Str}(e:c1i v=some i):v=.str i:=by cases v <;> first | exact nx0 e | exact congrArg _ (sj e)
theorem a1s {i:List PV}(e:a5R v=some i):v=.tup i:=by cases v <;> first | exact nx0 e | exact congrArg _ (sj e)
theorem b4Q {i:List PV}(e:c4u v=some i):v=.lst i:=by cases v <;> first | exact nx0 e | exact congrArg _ (sj e)
theorem a3P {i:List Nat}(e:a8L v=some i):v=.bytes i:=by cases v <;> first | exact nx0 e | exact congrArg _ (sj e)
theorem a5U {i:Bool}(e:b2i v=some i):v=.bool i:=by cases v <;> first | exact nx0 e | exact congrArg _ (sj e)
theorem a2c {i:Nat}(e:a5S v=some i):v=.loc i:=by cases v <;> first | exact nx0 e | exact congrArg _ (sj e)
theorem a5B (e:isNone v=true):v=.none:=by cases v <;> first | exact nx2 e | rfl
theorem a1Q {i:Nat}(e:a4K v=some i):v=.ofNat i:=by cases v <;> first | exact nx0 e | exact congrArg _ (sj e)
theorem c6k (e:d3U o=some l):o=.list l\/o=.froz l:=by cases o <;> first | exact nx0 e | exact .inl (congrArg _ (sj e)) | exact .inr (congrArg _ (sj e))
theorem a1x (e:a5T o=some l):o=.list l:=by cases o <;> first | exact nx0 e | exact congrArg _ (sj e)
theorem b6K (e:d3N o=some p):o=.ns p.1 p.2:=by cases o <;> first | exact nx0 e | exact sj e▸rfl
theorem d3P (e:d8R o=some p):o=.fr p.1 p.2:=by cases o <;> first | exact nx0 e | exact sj e▸rfl
theorem b6L (e:b6M o=some p):o=.inst p.1 p.2:=by cases o <;> first | exact nx0 e | exact sj e▸rfl
theorem b6N (e:a7r o=some p):o=.cell p:=by cases o <;> first | exact nx0 e | exact congrArg _ (sj e)
theorem b4o (e:b3A l=some x):l=[x]:=by
 cases l with
 | nil=>exact nx0 e| cons y l=>cases l with
   | nil=>exact sj e▸rfl| cons=>exact nx0 e
theorem b7l {α:Type}{l:List α}{x:α×α}(e:two l=some x):l=[x.1,x.2]:=by
 cases l with
 | nil=>exact nx0 e| cons y l=>cases l with
   | nil=>exact nx0 e| cons z l=>cases l with
     | nil=>exact sj e▸rfl| cons=>exact nx0 e
theorem d6V {α:Type}{l:List α}{x:α}(e:one l=some x):l=[x]:=by
 cases l with
 | nil=>exact nx0 e| cons y l=>cases l with
   | nil=>exact sj e▸rfl| cons=>exact nx0 e
theorem seqObj.eq {T:String}{o:Obj}{items:List Value}(x:seqObj T o items):∃ n,o={ cls:=.type T,data:=.seq items.toArray n }:=by obtain ⟨cls,dd,data,slots⟩:=o;exact x.2.2.2.2.imp λ n e=>by rw [show cls=_ from x.1,show dd=_ from x.2.1,show slots=_ from x.2.2.1,show data=_ from e]
theorem seqObj.mk' {T:String}{items:List Value}(h:items.length<=sizeLine)(n:Nat):seqObj T { cls:=.type T,data:=.seq items.toArray n } items:=⟨rfl,rfl,rfl,h,n,rfl⟩
theorem seqObj.list {h:Heap}{a:Addr}{o:Obj}{items:List Value}(x:seqObj "list" o items) (e:h.get? a=some o):h.IsList a items.toArray:=x.2.2.2.2.elim λ n d=>⟨o,e,x.1,n,d⟩
theorem seqObj.tuple {h:Heap}{a:Addr}{o:Obj}{items:List Value}(x:seqObj "tuple" o items) (e:h.get? a=some o):h.IsTuple a items.toArray:=x.2.2.2.2.elim λ n d=>⟨o,e,x.1,n,d⟩
theorem seqObj.size {T:String}{o:Obj}{items:List Value}(x:seqObj T o items):items.length<=sizeLine:=x.2.2.2.1
theorem VRels.length {B:Base}{mt:Addr->Prop}{ρ:List Addr}{h:Heap}{l:List PV}{xs:List Value}(r:VRels B mt ρ h l xs):l.length=xs.length:=All2.len r
theorem All2.get {α β:Type}{R:α->β->Prop}{l:List α}:∀ {m:List β},All2 R l m->∀ (i:Nat)(v:α),l[i]?=some v->∃ x,m[i]?=some x/\R v x:=by
 induction l with
 | nil=>exact fun {m} r i v e=>nx0 e| cons x l ih=>exact fun {m} r i v e=>r.consE m λ y ys a b=>match i,e with
   | 0,e=>⟨y,rfl,sj e▸a⟩
   | i+1,e=>ih b i v e
theorem All2.get' {α β:Type}{R:α->β->Prop}{l:List α}{m:List β}(r:All2 R l m)(i:Nat)(x:β)(e:m[i]?=some x):∃ v,l[i]?=some v/\R v x:=
 have hi:i<l.length:=r.len▸a0Q e
 ⟨l[i],List.getElem?_eq_getElem hi,(r.get i _ (List.getElem?_eq_getElem hi)).elim λ y q=>sj (q.1.symm.trans e)▸q.2⟩
theorem All2.append {α β:Type}{R:α->β->Prop}{l l':List α}:∀ {m m':List β},All2 R l m->All2 R l' m'->All2 R (l++l') (m++m'):=by
 induction l with
 | nil=>exact fun {m m'} r q=>r.nilE m q| cons x l ih=>exact fun {m m'} r q=>r.consE m λ y ys a b=>⟨a,ih b q⟩
theorem VRels.one {B:Base}{mt:Addr->Prop}{ρ:List Addr}{h:Heap}{v:PV}{x:Value}(r:VRel B mt ρ h v x):VRels B mt ρ h [v] [x]:=.cons _ _ _ _ r .nil
section
variable {B:Base}{Pr:Addr->Prop}{ρ:List Addr}{H:List PO}{h:Heap}{s:Shared}
theorem Rel.fresh (R:Rel B Pr ρ H h){a:Addr}(e:h.get? a=none):¬ a0G Pr ρ H a:=λ m=>by
 rcases m with m | m
 · refine c9J (R.prl a m) λ zq1 _=>?_;obtain ⟨o,x⟩:=zq1;rw [e] at x; exact nx0 x
 · refine d2t (R.mem m.mem) λ o x=>?_;rw [e] at x; exact nx0 x
theorem a1X (h:Heap):h.get? h.objs.size=none:=by
 cases e:h.get? h.objs.size with
 | none=>rfl| some o=>exact absurd (Heap.lt_size e) (Nat.lt_irrefl _)
theorem Went.new {ρ1:List Addr}{H1:List PO}{s1:Shared}(R:Rel B Pr ρ H s.heap)(W:Went B Pr ρ H s ρ1 H1 s1){P:PO}{o:Obj}(t:Nat)(nf:o.isFreed=false)
 (hr:Real B (a0G Pr (ρ1++[s1.heap.objs.size]) (H1++[P])) (ρ1++[s1.heap.objs.size]) (s1.heap.push o) P s1.heap.objs.size) :
 Went B Pr ρ H s (ρ1++[s1.heap.objs.size]) (H1++[P]) { s1 with heap:=s1.heap.push o,toks:=t }:=by
 have k:∀ b p,s1.heap.get? b=some p->(s1.heap.push o).get? b=some p:=λ b p e=>Heap.get?_push_of_some _ e;have V:Went B Pr ρ1 H1 s1 (ρ1++[s1.heap.objs.size]) (H1++[P]) { s1 with heap:=s1.heap.push o,toks:=t }:=by
  refine ⟨⟨_,_,rfl⟩,⟨[s1.heap.objs.size],rfl,λ a ha=>?_⟩,W.rel.new (a1X _) k hr,.of_ext k,λ i p hi e l=>⟨p,?_,l⟩⟩
  · rw [e0u.mp ha]; exact a1X _
  · rwa [List.getElem?_append_left hi] at e
 exact W.trans R V
theorem Went.carryNew {ρ1:List Addr}{H1:List PO}{h1 h2:Heap}(R:Rel B Pr ρ1 H1 h1){P:PO}(k:∀ b p,h1.get? b=some p->h2.get? b=some p) :
 Carry (a0G Pr ρ1 H1) (a0G Pr (ρ1++[h1.objs.size]) (H1++[P])) ρ1 (ρ1++[h1.objs.size]) h1 h2:=.new R.len (a1X _) k
theorem Went.newList {ρ1:List Addr}{H1:List PO}{s1:Shared}(R:Rel B Pr ρ H s.heap)(W:Went B Pr ρ H s ρ1 H1 s1){l:List PV}{xs:List Value}(t n:Nat)
 (r:VRels B (a0G Pr ρ1 H1) ρ1 s1.heap l xs) (hl:l.length<=sizeLine) :
 Went B Pr ρ H s (ρ1++[s1.heap.objs.size]) (H1++[.list l]) { s1 with heap:=s1.heap.push { cls:=.type "list",data:=.seq xs.toArray n },toks:=t }:=by
 refine W.new R t rfl ?_;refine .list l _ _ xs (Heap.get?_push_size _ rfl) (.mk' (by rw [<- r.length]; exact hl) _) ?_;exact r.mono (Went.carryNew W.rel λ b p e=>Heap.get?_push_of_some _ e)
theorem VRel.locNew {ρ1:List Addr}{H1:List PO}{h1:Heap}{mt:Addr->Prop}{h2:Heap}(R:Rel B Pr ρ1 H1 h1):VRel B mt (ρ1++[h1.objs.size]) h2 (.loc H1.length) (.ref h1.objs.size):=
 .loc _ _ (by rw [<- R.len]; simp)
theorem VRel.newTup {ρ1:List Addr}{H1:List PO}{s1:Shared}(R:Rel B Pr ρ1 H1 s1.heap){l:List PV}{xs:List Value}(n:Nat)
 (r:VRels B (a0G Pr ρ1 H1) ρ1 s1.heap l xs) (hl:l.length<=sizeLine) :
 VRel B (a0G Pr ρ1 H1) ρ1 (s1.heap.push { cls:=.type "tuple",data:=.seq xs.toArray n }) (.tup l) (.ref s1.heap.objs.size):=
 .tup l _ _ xs (R.fresh (a1X _)) (Heap.get?_push_size _ rfl) (.mk' (by rw [<- r.length]; exact hl) _) (r.mono (.ext λ b p e=>Heap.get?_push_of_some _ e))
inductive SeqIs (B:Base)(mt:Addr->Prop)(ρ:List Addr)(h:Heap)(T:String)(l:List PV):Value->Prop
 | mk (a:Addr) (o:Obj) (xs:List Value):h.get? a=some o->seqObj T o xs->VRels B mt ρ h l xs->SeqIs B mt ρ h T l (.ref a)
theorem Rel.loc (R:Rel B Pr ρ H h){i:Nat}{a:Addr}{p:PO}(hi:ρ[i]?=some a)(hp:H[i]?=some p):Real B (a0G Pr ρ H) ρ h p a:=R.real i p a hp hi
theorem c2f {i:Nat}{l:List PV}(e:a4H H (.loc i)=some l):a1A H (.loc i)=true/\(H[i]?=some (.list l)\/H[i]?=some (.froz l)):=by
 unfold a4H a1A at *;dsimp only at e ⊢;rw [a1d] at e ⊢;cases hp:H[i]? with
 | none=>rw [hp] at e; exact nx0 e| some p=>
   rw [hp] at e;cases p with
   | list m=>exact ⟨rfl,.inl (congrArg (λ m=>some (PO.list m)) (sj e))⟩| froz m=>exact ⟨rfl,.inr (congrArg (λ m=>some (PO.froz m)) (sj e))⟩| _=>exact nx0 e
theorem a2B (R:Rel B Pr ρ H h){v:PV}{x:Value}{l:List PV}(r:VRel B (a0G Pr ρ H) ρ h v x)(e:a4H H v=some l) :
 SeqIs B (a0G Pr ρ H) ρ h (if a1A H v then "list" else "tuple") l x:=by
 cases v with
 | tup l'=>exact r.tupE x λ a o items g e1 sq rs=>.mk a o items e1 sq (sj e▸rs)| lst l'=>exact r.lstE x λ a o items g e1 sq rs=>.mk a o items e1 sq (sj e▸rs)| loc i=>have z:=c2f e;rw [z.1];refine r.locE x λ a hi=>?_;exact z.2.elim (λ hp=>(R.loc hi hp).elim λ o r=>r.elim λ items r=>.mk a o items r.1 r.2.1 r.2.2) λ hp=>(R.loc hi hp).elim λ o r=>r.elim λ items r=>.mk a o items r.1 r.2.1 r.2.2| _=>exact nx0 e
theorem a1K (R:Rel B Pr ρ H h){v:PV}{x:Value}{l:List PV}(r:VRel B (a0G Pr ρ H) ρ h v x)(e:a4H H v=some l)(il:a1A H v=true):SeqIs B (a0G Pr ρ H) ρ h "list" l x:=by have:=a2B R r e;rwa [il] at this
@[elab_as_elim] theorem a0r (R:Rel B Pr ρ H h){v:PV}{l:List PV}{G:Value->Prop}(x:Value)(r:VRel B (a0G Pr ρ H) ρ h v x)(e:a1v H v=some l)
 (k:∀ a xs n,h.get? a=some { cls:=.type "list",data:=.seq xs.toArray n }->xs.length <= sizeLine->VRels B (a0G Pr ρ H) ρ h l xs->G (.ref a)):G x:=
  gE e λ il e=>by obtain ⟨a,o,xs,g,sq,rs⟩:=a1K R r e il;exact sq.eq.elim λ n z=>k a xs n (z▸g) sq.size rs
end
theorem a6k (h:b0v y=true):-(2^63)<=y/\y<2^63:=by
 cases y with
 | ofNat n=>have h:=(e1B (x:=n) (y:=9223372036854775808)).mp h; simp only [e1u]; lia| negSucc n=>have h:=(e1B (x:=n) (y:=9223372036854775808)).mp h; lia
theorem b0u (h:b0v y=true):-(2^64)<y/\y<2^64:=⟨Int.lt_of_lt_of_le (by decide) (a6k h).1,Int.lt_trans (a6k h).2 (by decide)⟩
theorem c1c (a b):Builtin.bitOr (Int.ofNat a) (Int.ofNat b)=Int.ofNat (Nat.lor a b):=by
 unfold Builtin.bitOr Builtin.bitAnd;have h1:∀ x:Nat,¬ (0<=Builtin.bitNot (Int.ofNat x)):=λ x=>by unfold Builtin.bitNot; exact Int.not_le.mpr (by simp only [e1u]; lia)
 simp only [decide_eq_false (h1 a),decide_eq_false (h1 b)];rw [bitNot_bitNot,bitNot_bitNot,bitNot_bitNot];rfl
theorem b7Q (a b):Builtin.bitAnd (Int.ofNat a) (Int.ofNat b)=Int.ofNat (Nat.land a b):=by exact bitAnd_pp (e1N a) (e1N b)
theorem c7S (a b):(Int.ofNat a).fdiv (2^(Int.ofNat b).toNat)=Int.ofNat (Nat.shiftRight a b):=by show (Int.ofNat a).fdiv (2^b)=Int.ofNat (a >>> b);rw [Nat.shiftRight_eq_div_pow,Int.fdiv_eq_ediv_of_nonneg _ (Int.pow_nonneg (by decide))];simp
theorem c7T (a b):(Int.ofNat a) * 2^(Int.ofNat b).toNat=Int.ofNat (Nat.shiftLeft a b):=by show (Int.ofNat a) * 2^b=Int.ofNat (a <<< b);rw [Nat.shiftLeft_eq];simp
section
variable {B:Base}{Pr:Addr->Prop}{A:Around}{ρ:List Addr}{st:St}{s:Shared}
theorem c3m {Q:Value->Shared->Prop}(e:c6I op x y=some z)(k:∀ t t',Q (.int z t) { s with toks:=t' }):wpAny (Mo w) A (binaryOp op (.int x t) (.int y u)) Q E s:=by
 cases op with
 | Add=>obtain rfl:=sj e; exact PyProof.Rows.add_int (k _ _)
 | Sub=>obtain rfl:=sj e; exact PyProof.Rows.sub_int (k _ _)
 | Mult=>refine gE e λ h e=>?_; obtain rfl:=sj e; exact PySem.P.mul_int (k _ _) (.of_right (intBits_le_64 (b0u h).1 (b0u h).2))
 | FloorDiv=>refine oE e λ n h e=>gE e λ h2 e2=>?_;obtain rfl:=a1Q h;obtain rfl:=sj e2;rw [e1h,e1B,e1B] at h2;exact floordiv_int (Int.ne_of_gt (e1J.mpr h2.1)) (k _ _) (.inl (PyProof.noPylong_small h2.2))
 | Mod=>refine oE e λ n h e=>gE e λ h2 e2=>?_;obtain rfl:=a1Q h;obtain rfl:=sj e2;exact mod_int' (Int.ne_of_gt (e1J.mpr (e1B.mp h2))) (k _ _)
 | BitAnd=>refine oE e λ a ha e=>oE e λ b hb e2=>?_; obtain rfl:=a1Q ha; obtain rfl:=a1Q hb; obtain rfl:=sj e2; exact and_int (b7Q a b▸k _ _)
 | BitOr=>refine oE e λ a ha e=>oE e λ b hb e2=>?_; obtain rfl:=a1Q ha; obtain rfl:=a1Q hb; obtain rfl:=sj e2; exact or_int (c1c a b▸k _ _)
 | LShift=>refine oE e λ a ha e=>oE e λ b hb e=>gE e λ h e2=>?_;obtain rfl:=a1Q ha; obtain rfl:=a1Q hb; obtain rfl:=sj e2;rw [e1h,e1B,e1B] at h;exact lshift_int_small (e1N b) (Int.ofNat_le.mpr (e0l (e1d h.1) (by decide))) (Nat.lt_trans h.2 (by decide)) (c7T a b▸k _ _)
 | RShift=>refine oE e λ a ha e=>oE e λ b hb e2=>?_; obtain rfl:=a1Q ha; obtain rfl:=a1Q hb; obtain rfl:=sj e2; exact rshift_int (e1N b) (c7S a b▸k _ _)
 | _=>exact nx0 e
theorem Ran.new (e:Ran B (newList l) st a st'):a=.loc st.H.length/\st'=⟨st.H++[.list l],st.hs⟩/\l.length<=sizeLine:=
 e.up.elim λ H e=>e.elim λ n e=>have z:=a1C e.1; ⟨z.1.symm,e.2.2.trans (z.2.1▸rfl),(show l.length=n from z.2.2)▸e.2.1⟩
theorem a7I (R:Rel B Pr ρ st.H s.heap)(r:VRels B (a0G Pr ρ st.H) ρ s.heap l xs)(hl:l.length <= sizeLine) (n t){Q:Value->Shared->Prop}
 (k:Fin B Pr ρ st.H s (VRel B) (.loc st.H.length) (st.H++[.list l]) Q) :
 Q (.ref s.heap.objs.size) { s with heap:=s.heap.push { cls:=.type "list",data:=.seq xs.toArray n },toks:=t }:=
 k _ _ _ ((Went.refl R).newList R t n r hl) (.locNew R)
theorem c0j (x) (n):∀ (acc:Array Value),List.foldl (λ x1 x2=>x1++x2) acc (e0p n #[x])=acc++(e0p n x).toArray:=by
 induction n with
 | zero=>exact λ acc=>by simp
 | succ n ih=>exact λ acc=>by rw [List.replicate_succ,List.foldl_cons,ih,List.replicate_succ]; exact Array.ext' (by simp)
theorem VRels.rep {mt:Addr->Prop}(r:VRel B mt ρ h v x):∀ n:Nat,VRels B mt ρ h (d6Q [v] n) (e0p n x)
 | 0=>.nil| n+1=>.cons _ _ _ _ r (VRels.rep r n)
theorem a3G (i):a8B i=i.toNat:=by cases i <;> rfl
theorem c3J {ad:Addr}{Q:Value->Shared->Prop}(hs:b0v y=true)(g:s.heap.get? ad=some { cls:=.type "list",data:=.seq #[x] n }) (hz:y.toNat <= sizeLine)
 (k:Q (.ref s.heap.objs.size) { s with heap:=s.heap.push { cls:=.type "list",data:=.seq (e0p y.toNat x).toArray 0 } }):wpAny (Mo B.w) A (binaryOp .Mult (.ref ad) (.int y u)) Q E0 s:=by
 have h63:=a6k hs;have e3:List.foldl (λ x1 x2=>x1++x2) #[] (e0p (if (#[x]:Array Value).isEmpty=true then 0 else y.toNat) #[x])=(e0p y.toNat x).toArray:=by rw [if_neg (by simp),c0j]; simp
 simp only [sizeLine] at hz;refine wpAny_binaryOp_repeat_ref (T := "list") (U := "int") (by decide) ⟨_,g,rfl⟩ (λ s'=>typeIs_int s' y u) noFill_list_mul PySem.F.fills_int_mul PySem.F.slot_int_rmul repeat_list PySem.F.slot_int_index.lookup
  (call_meets PySem.F.slot_int_rmul (typeIs_int s y u) PySem.F.entry_int_rmul (PySem.F.args_int_rmul_2 _ _) (int___rmul___int_list y u ad #[x] n)
    ⟨g,rfl,⟨_,g,rfl⟩,call_meets PySem.F.slot_list_mul ⟨_,g,rfl⟩ PySem.F.entry_list_mul (PySem.F.args_list_mul_2 _ _)
     (AutoListH.list___mul___list_int_3 ad #[x] n y u (by simp [Builtin.List.listFitsIndex]; lia) (by simp; lia) (by simp [Builtin.List.listTooLong,sizeLine]; lia))
     ⟨g,e3▸k⟩⟩)
theorem b6f (R:Rel B Pr ρ st.H s.heap)(r:VRel B (a0G Pr ρ st.H) ρ s.heap a x) (y) (u) :
 Sim B Pr A ρ st s (c5p a y) (binaryOp .Mult x (.int y u)) (VRel B):=
 .up λ v H n e hn=>gE e λ hs e=>oE e λ l hl e=>oE e λ w hw e=>by
  rw [b4o hw] at hl;revert hn;refine tE v H n e λ hz=>a0r R x r hl λ ad xs n g zs rs=>?_;revert g;refine rs.consE xs λ x xs rx rn=>rn.nilE xs λ g Q k=>?_;have key:=VRels.rep rx (a8B y);have hz':(a8B y)<=sizeLine:=by rw [<- e1v (n:=a8B y) (a:=x),<- key.len]; exact hz
  exact c3J hs g (a3G y▸hz') (a3G y▸a7I (s:=s) R key hz 0 s.toks k)
theorem c1q (R:Rel B Pr ρ st.H s.heap)(ra:VRel B (a0G Pr ρ st.H) ρ s.heap a x)(rb:VRel B (a0G Pr ρ st.H) ρ s.heap b y)(e:a7H st.H a b=some p)(hz:(p.1++p.2).length <= sizeLine)
 (k:Fin B Pr ρ st.H s (VRel B) (.loc st.H.length) (st.H++[.list (p.1++p.2)]) Q):wpAny (Mo B.w) A (binaryOp .Add x y) Q E0 s:=
 oE e λ l hl e=>oE e λ m hm e=>by obtain rfl:=sj e;refine a0r R x ra hl λ ad xs n g _ rs=>a0r R y rb hm λ ad2 ys n2 g2 _ rs2=>?_;have hv:=rs.append rs2;have hfin:=a7I (s:=s) R hv hz 0 s.toks k;rw [hv.len,e0a] at hz;refine P.add_list g g2 ?_ hz;rw [List.append_toArray];exact hfin
theorem c5A (R:Rel B Pr ρ st.H s.heap)(ra:VRel B (a0G Pr ρ st.H) ρ s.heap (.tup l) x)(rb:VRel B (a0G Pr ρ st.H) ρ s.heap (.tup m) y)(hz:(l++m).length <= sizeLine)
 (k:Fin B Pr ρ st.H s (VRel B) (.tup (l++m)) st.H Q):wpAny (Mo B.w) A (binaryOp .Add x y) Q E0 s:=by
 have k0:∀ b,VRel B (a0G Pr ρ st.H) ρ s.heap (.tup (l++m)) b->Q b s:=λ b=>k ρ s b (Went.refl R);refine ra.tupE x λ t o xs nt g sq rs=>rb.tupE y λ t2 o2 ys nt2 g2 sq2 rs2=>?_;refine sq.eq.elim λ n zo=>sq2.eq.elim λ n2 zo2=>?_;have g':=zo▸g;have g2':=zo2▸g2;have hv:=rs.append rs2;cases l with
 | nil=>exact rs.nilE xs (λ _ g' _=>concat_meets ⟨_,g',rfl⟩ ⟨_,g2',rfl⟩ noFill_tuple_add seq_tuple_add PySem.F.slot_tuple_add PySem.F.entry_tuple_add (PySem.F.args_tuple_add_2 _ _)
    (tuple_addW0 t t2 _ _ _ _ _ _ _ _ rfl) ⟨g',g2',k0 _ (.tup _ _ _ _ nt2 g2 sq2 rs2)⟩) zo g' hv
 | cons v l=>
   have h1:¬ xs.toArray.isEmpty=true:=rs.consE xs λ _ _ _ _=>nofun;cases m with
   | nil=>
     exact rs2.nilE ys (λ g2' _=>concat_meets ⟨_,g',rfl⟩ ⟨_,g2',rfl⟩ noFill_tuple_add seq_tuple_add PySem.F.slot_tuple_add PySem.F.entry_tuple_add (PySem.F.args_tuple_add_2 _ _)
      (tuple_addW1 t t2 _ _ _ _ _ _ _ _ h1 rfl) ⟨g',g2',k0 _ (by rw [e0k]; exact VRel.tup _ _ _ _ nt g sq rs)⟩) g2' hv
   | cons w m=>
     have h2:¬ ys.toArray.isEmpty=true:=rs2.consE ys λ _ _ _ _=>nofun;refine concat_meets ⟨_,g',rfl⟩ ⟨_,g2',rfl⟩ noFill_tuple_add seq_tuple_add PySem.F.slot_tuple_add PySem.F.entry_tuple_add (PySem.F.args_tuple_add_2 _ _)
      (tuple_addW2 t t2 _ _ _ _ _ _ _ _ h1 h2 (by rw [hv.len,e0a] at hz; exact hz)) ⟨g',g2',?_⟩
     rw [List.append_toArray];exact k ρ _ _ ((Went.refl R).more s.toks λ b o e=>Heap.get?_push_of_some _ e) (VRel.newTup R 0 hv hz)
theorem b7W (R:Rel B Pr ρ st.H s.heap)(ra:VRel B (a0G Pr ρ st.H) ρ s.heap (.bytes l) x)(rb:VRel B (a0G Pr ρ st.H) ρ s.heap (.bytes m) y)(hz:(l++m).length <= sizeLine)
 (k:Fin B Pr ρ st.H s (VRel B) (.bytes (l++m)) st.H Q):wpAny (Mo B.w) A (binaryOp .Add x y) Q E0 s:=by
 refine ra.bytesE x λ b t zb eb=>rb.bytesE y λ c u zc ec=>?_;rw [<- eb,<- ec] at hz;simp [sizeLine] at hz;exact PySem.W.KBy.add_bytes hz λ t' _=>k ρ _ _ ((Went.refl R).tok _) (.bytes _ _ _ (by simp [sizeLine]; exact hz) (by simp [eb,ec]))
theorem b6k (R:Rel B Pr ρ st.H s.heap)(ra:VRel B (a0G Pr ρ st.H) ρ s.heap a x)(rb:VRel B (a0G Pr ρ st.H) ρ s.heap b y) :
 Sim B Pr A ρ st s (c6l a b) (binaryOp .Add x y) (VRel B):=
 .up λ v H n e=>ocE e (λ l ha e=>oE e λ m hb e=>tE v H n e λ hn Q k=>c5A R (a1s ha▸ra) (a1s hb▸rb) hn k) λ _ e=>
  ocE e (λ l ha e=>oE e λ m hb e=>tE v H n e λ hn Q k=>b7W R (a3P ha▸ra) (a3P hb▸rb) hn k) λ _ e=>
   oE e λ p hb e=>tE v H n e λ hn Q k=>c1q R ra rb hb hn k
theorem c3h (h:c6E op=true):op=.Mult:=by cases op <;> first | rfl | exact nx2 h
theorem c8f (h:d2O op=true):op=.Add:=by cases op <;> first | rfl | exact nx2 h
theorem b8T (R:Rel B Pr ρ st.H s.heap) (op)(ra:VRel B (a0G Pr ρ st.H) ρ s.heap a x)(rb:VRel B (a0G Pr ρ st.H) ρ s.heap b y) :
 Sim B Pr A ρ st s (b7R op a b) (binaryOp op x y) (VRel B):=
 .oc (λ j hb=>e2q y (a0c hb▸rb) λ u=>.oc (λ i ha=>e2q x (a0c ha▸ra) λ t=>.opt λ v e=>oE e λ z hz e=>sE v e λ Q k=>c3m hz λ t t'=>k ρ _ _ ((Went.refl R).tok t') (.int _ _))
     λ _=>.gE' λ hm=>c3h hm▸b6f R ra j u)
  λ _=>.gE' λ hm=>.big λ hs=>c8f hm▸b6k (st:=⟨st.H,hs⟩) R ra rb
end
end
open Went renaming refl→e2s
section
open PySem PySem.Calls PyProof.Rows
open PySem.SeqAt PySem.MeetsSeq PySem.MeetsSeq2 PySem.MeetsSeq3 PySem.SeqRoads2
open AutoSeq1 (wpAny_loadPart')
open Sem (wp)
def RcLt (A:Around)(s:Shared)(x y:Value)(r:Bool):Prop:=
 ∀ (prog:Program) (w:World) (E:Value->Shared->Prop) (Q:Value->Shared->Prop),Q (.bool r) s->wpAny (model prog w) A (richCompare .Lt x y) Q E s
def b7Y (A:Around)(s:Shared):List Value->List Value->Bool->Prop
 | [],[],r=>false=r| [],_::_,r=>true=r| _::_,[],r=>false=r| x::xs,y::ys,r=>(EqAt A s x y true/\b7Y A s xs ys r)\/(EqAt A s x y false/\RcLt A s x y r)
theorem drop_nil {α:Type}{l:List α}{i:Nat}(h:l.drop i=[]):l[i]?=none:=by rw [List.getElem?_eq_none]; exact e1p.mp h
theorem a2p {α:Type}{l r:List α}{i:Nat}{x:α}(h:l.drop i=x::r):l[i]?=some x/\l.drop (i+1)=r:=by
 have hi:i < l.length:=by
  rcases e1A i l.length with h1 | h1
  · exact h1
  · rw [e1p.mpr h1] at h; cases h
 rw [List.drop_eq_getElem_cons hi] at h;injection h with h1 h2
 exact ⟨by rw [List.getElem?_eq_getElem hi,h1],h2⟩
theorem a9M {a:Array Value}{i:Nat}(h:a.toList[i]?=o):a[((i:Nat):Int).toNat]?=o:=by rw [Int.toNat_natCast,<- Array.getElem?_toList]; exact h
section
variable {l b:Addr}{items items2:Array Value}{n n2:Nat}{dd dd2:Option Addr}{sl sl2:Array (Option Value)}{i:Nat}
noncomputable abbrev oL (dd:Option Addr)(items:Array Value)(n:Nat)(sl:Array (Option Value)):Obj:={ cls:=.type "list",dict:=dd,data:=.seq items n,slots:=sl }
theorem b9k (f:items[((i:Nat):Int).toNat]?=none \/ items2[((i:Nat):Int).toNat]?=none):Meets (Builtin.«list.__eq__.loop» ⟨[.ref l,.ref b,rawInt i,rawInt 0],[]⟩)
 (λ A R s=>s.heap.get? l=some (oL dd items n sl)/\s.heap.get? b=some (oL dd2 items2 n2 sl2)/\R (.ok (.ret (.bool (decide (items.size<items2.size))))) s):=by
 intro prog w A R s h;obtain ⟨hl,hb,h⟩:=h;obtain ⟨hp,g,d,tk,os⟩:=s;wp_walk using wpAny_loadPart' hl,wpAny_loadPart' hb;generalize items[((i:Nat):Int).toNat]?=o1 at f;generalize items2[((i:Nat):Int).toNat]?=o2 at f;cases o1 with
 | none=>cases o2 <;> (wp_walk using wpAny_loadPart' hl,wpAny_loadPart' hb; exact h)
 | some x=>cases o2 with
   | none=>wp_walk using wpAny_loadPart' hl,wpAny_loadPart' hb; exact h| some y=>exact f.elim nofun nofun
theorem c8I {S:PySem.Spec}(f1:items[((i:Nat):Int).toNat]?=some x)(f2:items2[((i:Nat):Int).toNat]?=some y)(M:Meets (Builtin.«list.__eq__.loop» ⟨[.ref l,.ref b,rawInt ((i + 1:Nat):Int),rawInt 0],[]⟩) S):Meets (Builtin.«list.__eq__.loop» ⟨[.ref l,.ref b,rawInt i,rawInt 0],[]⟩)
 (λ A R s=>s.heap.get? l=some (oL dd items n sl)/\s.heap.get? b=some (oL dd2 items2 n2 sl2)/\EqAt A.in1 s x y true/\S A R s):=by
 intro prog w A R s h;obtain ⟨hl,hb,heq,h⟩:=h;obtain ⟨hp,g,d,tk,os⟩:=s;wp_walk using wpAny_loadPart' hl,wpAny_loadPart' hb;rw [f1,f2];refine wpAny_bind (heq prog w _ _ ?_);wp_walk;rw [show ((i:Int)+1)=((i+1:Nat):Int) from rfl];exact ⟨plainId_quiet plain_eq_loop _,codeAny_builtin entry_eq_loop (by rw [Around.under_plainId plain_eq_loop _];exact M prog w A R _ h)⟩
theorem c8J (f1:items[((i:Nat):Int).toNat]?=some x)(f2:items2[((i:Nat):Int).toNat]?=some y):Meets (Builtin.«list.__eq__.loop» ⟨[.ref l,.ref b,rawInt i,rawInt 0],[]⟩)
 (λ A R s=>s.heap.get? l=some (oL dd items n sl)/\s.heap.get? b=some (oL dd2 items2 n2 sl2)/\EqAt A.in1 s x y false/\RcLt A.in1 s x y r/\R (.ok (.ret (.bool r))) s):=by
 intro prog w A R s h;obtain ⟨hl,hb,heq,hlt,h⟩:=h;obtain ⟨hp,g,d,tk,os⟩:=s;wp_walk using wpAny_loadPart' hl,wpAny_loadPart' hb;rw [f1,f2];refine wpAny_bind (heq prog w _ _ ?_);wp_walk using wpAny_loadPart' hl,wpAny_loadPart' hb;rw [f1,f2];exact wpAny_bind (hlt prog w _ _ (wpAny_pure h))
theorem b4A {α:Type}{l:List α}{i:Nat}(h:l.drop i=[]):l.length<=i:=e1p.mp h
theorem c0z {α:Type}{l r:List α}{i:Nat}{x:α}(h:l.drop i=x::r):i<l.length:=Nat.lt_of_not_le λ z=>nomatch (e1p.mpr z).symm.trans h
end
theorem b9l (l b)(items items2:Array Value) (n n2) (dd dd2) (sl sl2) (r) (k) :
 ∀ i:Nat,items.toList.length - i=k->Meets (Builtin.«list.__eq__.loop» ⟨[.ref l,.ref b,rawInt i,rawInt 0],[]⟩)
   (λ A R s=>s.heap.get? l=some (oL dd items n sl) /\ s.heap.get? b=some (oL dd2 items2 n2 sl2) /\
     (i<=items.toList.length/\i<=items2.toList.length)/\b7Y A.in1 s (items.toList.drop i) (items2.toList.drop i) r /\
     R (.ok (.ret (.bool r))) s):=by
 induction k with
 | zero=>
   intro i hk prog w A R s h;have e1:items.toList.drop i=[]:=e1p.mpr (Nat.le_of_sub_eq_zero hk);have he:=h.2.2.2.1;have l1:items.size=i:=Nat.le_antisymm (Nat.le_of_sub_eq_zero hk) h.2.2.1.1;rw [e1] at he;generalize hys:items2.toList.drop i=ys at he;refine b9k (.inl (a9M (drop_nil e1))) prog w A R s ⟨h.1,h.2.1,?_⟩;have hr:decide (items.size < items2.size)=r:=by
    rw [l1];cases ys with
    | nil=>exact (decide_eq_false (e1U.mpr (b4A hys))).trans he| cons y ys=>exact (decide_eq_true (c0z hys)).trans he
   rw [hr];exact h.2.2.2.2
 | succ k ih=>
   intro i hk prog w A R s h;have he:=h.2.2.2.1;have hlt:i<items.toList.length:=Nat.lt_of_sub_pos (hk▸e1P k);generalize hxs:items.toList.drop i=xs at he;generalize hys:items2.toList.drop i=ys at he;cases xs with
   | nil=>exact absurd hlt (e1U.mpr (b4A hxs))| cons x xs=>
     cases ys with
     | nil=>refine b9k (.inr (a9M (drop_nil hys))) prog w A R s ⟨h.1,h.2.1,?_⟩;rw [decide_eq_false (e1U.mpr (e0l (b4A hys) (e1d hlt)):¬ items.size < items2.size),(he:false=r)];exact h.2.2.2.2| cons y ys=>
       exact he.elim (λ he=>c8I (a9M (a2p hxs).1) (a9M (a2p hys).1) (ih (i + 1) (by rw [Nat.sub_add_eq,hk]; rfl)) prog w A R s ⟨h.1,h.2.1,he.1,h.1,h.2.1,⟨hlt,c0z hys⟩,by rw [(a2p hxs).2,(a2p hys).2]; exact he.2,h.2.2.2.2⟩)
        λ he=>c8J (a9M (a2p hxs).1) (a9M (a2p hys).1) prog w A R s ⟨h.1,h.2.1,he.1,he.2,h.2.2.2.2⟩
theorem b1p (l b) (items items2) (n n2) (dd dd2) (sl sl2) (r) :
 Meets (Builtin.«list.__lt__» ⟨[.ref l,.ref b],[]⟩)
  (λ A R s=>s.heap.get? l=some { cls:=.type "list",dict:=dd,data:=.seq items n,slots:=sl } /\ s.heap.get? b=some { cls:=.type "list",dict:=dd2,data:=.seq items2 n2,slots:=sl2 } /\
    b7Y A.in1 s items.toList items2.toList r/\R (.ok (.ret (.bool r))) s):=by
 intro prog w A R s h;obtain ⟨hp,g,d,tk,os⟩:=s; refine e0O (h) λ hl hb he h=>?_;have f3:=AutoSeq1.sub_list_list;wp_walk using wpAny_loadPart' hl,wpAny_loadPart' hb;exact ⟨plainId_quiet plain_eq_loop _,codeAny_builtin entry_eq_loop (by rw [Around.under_plainId plain_eq_loop _];exact b9l l b items items2 n n2 dd dd2 sl sl2 r _ 0 rfl prog w A R _ ⟨hl,hb,⟨e0q _,e0q _⟩,he,h⟩)⟩
theorem RcLt.lists {A:Around}{s:Shared}(hl:s.heap.IsList l items)(hb:s.heap.IsList b items2)(hu:A.units < cLine)
 (he:b7Y A.in1 s items.toList items2.toList r):RcLt A s (.ref l) (.ref b) r:=λ prog w E Q h=>by
 obtain ⟨⟨cls,dd,data,sl⟩,ho,hc,n,hd⟩:=id hl;obtain ⟨⟨cls2,dd2,data2,sl2⟩,ho2,hc2,n2,hd2⟩:=id hb;simp only at hc hd hc2 hd2;subst hc hd hc2 hd2;exact richCompare_meets_room (op:=.Lt) ⟨_,ho,rfl⟩ ⟨_,ho2,rfl⟩ PySem.F.slot_list_lt PySem.F.entry_list_lt (PySem.F.args_list_lt_2 _ _) (b1p l b items items2 n n2 dd dd2 sl sl2 r)
  ⟨ho,ho2,he,show Value.bool r≠Value.notImplemented/\Q (.bool r) s from ⟨(λ x=>nomatch x),h⟩⟩ hu
theorem a1m (l) (es) (n) :
 Meets (Builtin.«dict.__eq__» ⟨[.ref l,.none],[]⟩) (λ _ R s=>s.heap.get? l=some { cls:=.type "dict",data:=.dict es n }/\R (.ok (.ret .notImplemented)) s):=
 .of_wp λ prog w A R s h=>by obtain ⟨hp,g,d,tk,os⟩:=s; refine c9J (h) λ hl h=>?_; have f1:=PySem.F.sub_NoneType_dict; wp_walk using wpAny_loadPart' hl; exact ⟨_,rfl,h⟩
section
variable {A:Around}{s:Shared}
theorem RcAt.dict_none (ho:s.heap.get? l=some { cls:=.type "dict",data:=.dict es n }) (hu:A.units<cLine):RcAt A s (.ref l) .none false:=λ prog w E Q h=>by
 exact rc_eq_decline_or (k:=false) ⟨_,ho,rfl⟩ rfl (by decide) PySem.F.sub_NoneType_dict PySem.F.slot_dict_eq PySem.F.slot_NoneType_eq_refl
  (λ _ hq=>call_meets PySem.F.slot_dict_eq ⟨_,ho,rfl⟩ PySem.F.entry_dict_eq (PySem.F.args_dict_eq_2 _ _) (a1m l es n) ⟨ho,hq⟩)
  (λ _ hq=>call_gives PySem.F.slot_NoneType_eq_refl rfl PySem.F.entry_NoneType_eq (PySem.F.args_NoneType_eq_2 _ _) (NoneType___eq___none_ref_0 l) hq)
  (λ _ hq=>wpAny_of_eq (rfl:isSame (.ref l) .none=pure false) hq) (.inr hu) h
theorem RcAt.none_dict (ho:s.heap.get? l=some { cls:=.type "dict",data:=.dict es n }) (hu:A.units<cLine):RcAt A s .none (.ref l) false:=λ prog w E Q h=>by
 exact rc_eq_decline_or (k:=false) rfl ⟨_,ho,rfl⟩ (by decide) PySem.F.sub_dict_NoneType PySem.F.slot_NoneType_eq PySem.F.slot_dict_eq_refl
  (λ _ hq=>call_gives PySem.F.slot_NoneType_eq rfl PySem.F.entry_NoneType_eq (PySem.F.args_NoneType_eq_2 _ _) (NoneType___eq___none_ref_0 l) hq)
  (λ _ hq=>call_meets PySem.F.slot_dict_eq_refl ⟨_,ho,rfl⟩ PySem.F.entry_dict_eq (PySem.F.args_dict_eq_2 _ _) (a1m l es n) ⟨ho,hq⟩)
  (λ _ hq=>wpAny_of_eq (rfl:isSame .none (.ref l)=pure false) hq) (.inr hu) h
theorem EqAt.none_dict (ho:s.heap.get? l=some { cls:=.type "dict",data:=.dict es n }) (hu:A.units<cLine):EqAt A s .none (.ref l) false:=λ prog w E Q hq=>by unfold eqBool;refine wpAny_holding ?_;refine wpAny_ite_split (λ hab=>absurd (eq_of_beq hab) nofun) (λ _=>?_);exact wpAny_bind (RcAt.none_dict ho hu prog w E _ (wpAny_truthy_bool hq))
theorem EqAt.dict_none (ho:s.heap.get? l=some { cls:=.type "dict",data:=.dict es n }) (hu:A.units<cLine):EqAt A s (.ref l) .none false:=λ prog w E Q hq=>by unfold eqBool;refine wpAny_holding ?_;refine wpAny_ite_split (λ hab=>absurd (eq_of_beq hab) nofun) (λ _=>?_);exact wpAny_bind (RcAt.dict_none ho hu prog w E _ (wpAny_truthy_bool hq))
end
theorem a2D:∀ a b:List Nat,a0q a b=decide (a=b)
 | [],[]=>rfl| [],_::_=>rfl| _::_,[]=>rfl| a::as,b::bs=>by
   dsimp only [a0q];rw [a2D as bs];cases h:e0Y a b with
   | true=>rw [e0r h]; simp| false=>simp [e2g h]
theorem a6q (a b):sEq a b=decide (a=b):=by unfold sEq;rw [a2D];obtain ⟨⟨a⟩⟩:=a;obtain ⟨⟨b⟩⟩:=b;simp
theorem a0w:sEq a b=true↔a=b:=by rw [a6q]; exact decide_eq_true_iff
theorem a1L (a b):a3J a b=decide (a=b):=by
 cases a with
 | ofNat a=>
   cases b with
   | ofNat b=>
     show e0Y a b=_;cases h:e0Y a b with
     | true=>have:=e0r h; subst this; simp| false=>have:=e2g h; rw [decide_eq_false]; intro e; exact this (Int.ofNat.inj e)
   | negSucc b=>exact (decide_eq_false nofun).symm
 | negSucc a=>
   cases b with
   | ofNat b=>exact (decide_eq_false nofun).symm| negSucc b=>
     show e0Y a b=_;cases h:e0Y a b with
     | true=>have:=e0r h; subst this; simp| false=>have:=e2g h; simp [this]
theorem blt_eq (a b):e0g a b=decide (a<b):=by
 cases h:e0g a b with
 | true=>rw [e1B] at h; simp [h]| false=>
   have:¬ (a<b):=λ x=>by rw [<- e1B,h] at x; exact nx2 x
   simp [this]
theorem a0h (a b):a0X a b=decide (a<b):=by
 cases a with
 | ofNat a=>
   cases b with
   | ofNat b=>show e0g a b=_; rw [blt_eq]; simp| negSucc b=>show false=_; simp; lia
 | negSucc a=>
   cases b with
   | ofNat b=>show true=_; simp; lia| negSucc b=>
     show e0g b a=_;rw [blt_eq];by_cases h:b<a
     · rw [decide_eq_true h,decide_eq_true (by lia)]
     · rw [decide_eq_false h,decide_eq_false (by lia)]
theorem a2g:∀ a b:List PV,a1V a b=decide (a.length=b.length)
 | [],[]=>rfl| [],_::_=>rfl| _::_,[]=>rfl| _::a,_::b=>by show a1V a b=_;rw [a2g a b]; simp
noncomputable def eAt (f:PV->PV->Option Bool)(xs ys:List PV)(j:Nat):Bool:=match xs[j]?,ys[j]? with
 | some a,some b=>(f a b).getD false| _,_=>false
theorem b2N (f:PV->PV->Option Bool):∀ (xs ys:List PV)(r:Bool),a5L f xs ys=some r ->
 (∀ (j:Nat) (a b:PV),xs[j]?=some a->ys[j]?=some b->f a b=some (eAt f xs ys j))/\r=(e0f (min xs.length ys.length)).all (eAt f xs ys)
 | [],ys,r,h=>⟨λ j a b e=>nx0 e,by rw [e1K,Nat.zero_min]; exact (sj h).symm⟩
 | x::xs,[],r,h=>⟨λ j a b _ e=>nx0 e,by rw [e1K,Nat.min_zero]; exact (sj h).symm⟩
 | x::xs,y::ys,r,h=>oE h λ c h1 h=>oE h λ d h2 h=>by
   have z:=b2N f xs ys d h2;have e0:eAt f (x::xs) (y::ys) 0=c:=by show (f x y).getD false=c; rw [h1]; rfl
   refine ⟨λ j a b ea eb=>?_,?_⟩
   · cases j with
     | zero=>rw [e0,<- sj ea,<- sj eb]; exact h1| succ j=>exact z.1 j a b ea eb
   · rw [<- sj h,z.2,e0n,e0n,Nat.add_min_add_right,List.range_succ_eq_map,List.all_cons,List.all_map,e0];rfl
theorem a2n {o:Obj}(x:o.ExactDict)(d:o.data=.dict es n):o={ cls:=.type "dict",data:=.dict es n }:=by obtain ⟨c,dd,dt,sl⟩:=o;rw [show c=_ from x.1,show dd=_ from x.2.1,show sl=_ from x.2.2,show dt=_ from d]
section
variable {B:Base}{Pr:Addr->Prop}{ρ:List Addr}{H:List PO}{s:Shared}
theorem c1D {i:Nat}(e:a3r H (.loc i)=some p):H[i]?=some (.dict p.1 p.2):=by
 unfold a3r at e;dsimp only at e;rw [a1d] at e;cases hp:H[i]? with
 | none=>rw [hp] at e; exact nx0 e| some q=>
   rw [hp] at e;cases q with
   | dict ks vs=>exact sj e▸rfl| _=>exact nx0 e
@[elab_as_elim] theorem a1j {h:Heap}(R:Rel B Pr ρ H h){v:PV}{p:List PV×List PV}{G:Value->Prop}(x:Value)(r:VRel B (a0G Pr ρ H) ρ h v x)(e:a3r H v=some p)
 (k:∀ a es n,h.get? a=some { cls:=.type "dict",data:=.dict es n }->p.1.Nodup->a ≠ sysModules->ERel B (a0G Pr ρ H) ρ h p.1 p.2 es.toList->G (.ref a)):G x:=by
  cases v with
  | dct ks vs=>obtain rfl:=sj e;exact r.dctE x λ a o es n m g ex d nd er=>k a es n (a2n ex d▸g) nd.1 nd.2 er
  | loc i=>refine r.locE x λ a q=>?_;exact (R.loc q (c1D e)).elim λ o r=>r.elim λ es r=>r.elim λ n r=>k a es n (a2n r.2.1 r.2.2.1▸r.1) r.2.2.2.1.1 r.2.2.2.1.2 r.2.2.2.2| _=>exact nx0 e
structure NotN (A:Around)(s:Shared)(y:Value):Prop where
 r1:RcAt A s .none y false
 r2:RcAt A s y .none false
 e1:EqAt A s .none y false
 e2:EqAt A s y .none false
 ne:y≠.none
theorem a8Z (R:Rel B Pr ρ H s.heap)(r:VRel B (a0G Pr ρ H) ρ s.heap b y)(e:b3Z H b=true){A:Around}(hu:A.units < cLine) :
 NotN A s y:=by
 have other:(a1A H b || a8s H b)=true->NotN A s y:=λ e=>by
  cases il:a1A H b with
  | true=>
    have:∃ l,a4H H b=some l:=by
     cases b with
     | lst l=>exact ⟨l,rfl⟩| loc i=>
       unfold a1A at il;unfold a4H;dsimp only at il ⊢;rw [a1d] at il ⊢;cases hp:H[i]? with
       | none=>rw [hp] at il; exact nx2 il| some p=>rw [hp] at il; cases p <;> first | exact ⟨_,rfl⟩ | exact nx2 il
     | _=>exact nx2 il
    refine this.elim λ l hl=>?_;obtain ⟨a,o,xs,g,sq,rs⟩:=a1K R r hl il;exact ⟨.none_list (sq.list g) hu,.list_none (sq.list g) hu,.none_list (sq.list g) hu,.list_none (sq.list g) hu,nofun⟩
  | false=>
    rw [il] at e;unfold a8s at e;cases hp:a3r H b with
    | none=>rw [hp] at e; exact nx2 e| some p=>exact a1j R y r hp λ a es n g _ _ _=>⟨Internal.RcAt.none_dict g hu,Internal.RcAt.dict_none g hu,Internal.EqAt.none_dict g hu,Internal.EqAt.dict_none g hu,nofun⟩
 cases b with
 | bool b=>exact r.boolE y ⟨.none_bool _,.bool_none _,.none_bool _,.bool_none _,nofun⟩| int b=>exact r.intE y λ t=>⟨.none_int _ _,.int_none _ _,.none_int _ _,.int_none _ _,nofun⟩
 | str b=>exact r.strE y λ t=>⟨.none_str _ _,.str_none _ _,.none_str _ _,.str_none _ _,nofun⟩
 | tup l=>exact r.tupE y λ a o xs n g sq rs=>⟨.none_tuple (sq.tuple g) hu,.tuple_none (sq.tuple g) hu,.none_tuple (sq.tuple g) hu,.tuple_none (sq.tuple g) hu,nofun⟩
 | _=>exact other e
end
section
variable {B:Base}{Pr:Addr->Prop}{ρ:List Addr}{H:List PO}{s:Shared}
structure EqS (A:Around)(s:Shared)(x y:Value)(r:Bool):Prop where
 rc:RcAt A s x y r
 eq:EqAt A s x y r
 same:x=y->r=true
theorem b5v {mt:Addr->Prop}{f:PV->PV->Option Bool}
 (ih:∀ a b r x y,f a b=some r->VRel B mt ρ h a x->VRel B mt ρ h b y->EqS A s x y r)
 (e:a5L f l m=some r) (ra:VRels B mt ρ h l xs) (rb:VRels B mt ρ h m ys) :
    (∀ (j:Nat) (h1:j<xs.toArray.size) (h2:j<ys.toArray.size),EqAt A s xs.toArray[j] ys.toArray[j] (eAt f l m j))/\r=(e0f (min xs.length ys.length)).all (eAt f l m)/\(xs=ys->r=true):=by
  have z:=b2N f l m r e;have key:∀ (j:Nat) (x y:Value),xs[j]?=some x->ys[j]?=some y->EqS A s x y (eAt f l m j):=λ j x y e1 e2=>
   (ra.get' j x e1).elim λ a q=>(rb.get' j y e2).elim λ b q'=>ih a b _ x y (z.1 j a b q.1 q'.1) q.2 q'.2
  rw [ra.length,rb.length] at z;refine ⟨λ j h1 h2=>(key j _ _ (List.getElem?_eq_getElem h1) (List.getElem?_eq_getElem h2)).eq,z.2,λ hxy=>?_⟩;rw [z.2,<- hxy,e2E,e0w];exact λ j hj=>(key j _ _ (List.getElem?_eq_getElem (e1a.mp hj)) (hxy▸List.getElem?_eq_getElem (e1a.mp hj))).same rfl
theorem EqS.refs (rc:RcAt A s (.ref l) (.ref b) r)(same:l=b->r=true):EqS A s (.ref l) (.ref b) r:=by
 refine ⟨rc,?_,λ e=>same (by injection e)⟩;by_cases h:l=b
 · rw [same h,h]; exact .same _
 · exact .of_refs h rc
theorem a8U (g:s.heap.get? p=some o)(sq:seqObj T o xs)(g2:s.heap.get? q=some o2)(sq2:seqObj U o2 ys)(e:p=q):xs=ys:=by
 obtain rfl:=e;obtain rfl:=sj (g.symm.trans g2);exact sq.2.2.2.2.elim λ n d=>sq2.2.2.2.2.elim λ n2 d2=>by
  have:=d.symm.trans d2;injection this with this
  exact congrArg Array.toList this
theorem c0r (R:Rel B Pr ρ H s.heap){f:PV->PV->Option Bool}{A:Around}(hu:A.units < cLine)(ih:∀ a b r x y,f a b=some r->VRel B (a0G Pr ρ H) ρ s.heap a x->VRel B (a0G Pr ρ H) ρ s.heap b y->EqS A.in1 s x y r)
 (e:a7d H f a b=some r) (ra:VRel B (a0G Pr ρ H) ρ s.heap a x) (rb:VRel B (a0G Pr ρ H) ρ s.heap b y):EqS A s x y r:=by
  have viaL:(ob (a7H H a b) λ p=>bc (a1V p.1 p.2) (a5L f p.1 p.2) (some false))=some r->EqS A s x y r:=λ e=>oE e λ p hp e=>oE hp λ l hl hp=>oE hp λ m hm hp=>by
   obtain rfl:=sj hp;refine gE hl λ il hl=>gE hm λ im hm=>?_;obtain ⟨p,o,xs,g,sq,rs⟩:=a1K R ra hl il;obtain ⟨q,o2,ys,g2,sq2,rs2⟩:=a1K R rb hm im;have same:=a8U g sq g2 sq2;have hlen:=a2g l m;rw [rs.len,rs2.len] at hlen;refine bcE e (λ c e=>?_) λ c e=>?_
   · have hs:=of_decide_eq_true (hlen.symm.trans c);have k:=b5v ih e rs rs2;refine .refs (k.2.1▸?_) λ hpq=>k.2.2 (same hpq);rw [<- hs,e2E];exact RcAt.lists (sq.list g) (sq2.list g2) hs hu k.1
   · have hs:=of_decide_eq_false (hlen.symm.trans c);exact sE r e (.refs (.lists_lengths (sq.list g) (sq2.list g2) (bne_iff_ne.mpr hs) hu) λ hpq=>absurd (congrArg e1k (same hpq)) hs)
  cases a with
  | bool i=>exact oE e λ j hj e=>sE r e (ra.boolE x (VRel.boolE y (a5U hj▸rb) ⟨.bool_bool _ _,.bool_bool _ _,λ e=>by cases e; exact beq_self_eq_true i⟩))| int i=>exact oE e λ j hj e=>sE r e (a1L i j▸ra.intE x λ t=>e2q y (a0c hj▸rb) λ u=>⟨.int_int _ _ _ _,.int_int _ _ _ _,λ e=>decide_eq_true (Value.int.inj e).1⟩)| str i=>exact oE e λ j hj e=>sE r e (a6q i j▸ra.strE x λ t=>VRel.strE y (a7q hj▸rb) λ u=>⟨.str_str _ _ _ _,.str_str _ _ _ _,λ e=>decide_eq_true (Value.str.inj e).1⟩)| tup l=>
    refine oE e λ m hm e=>oE e λ c hc e=>oE e λ d hd e=>sE r e (ra.tupE x λ p o xs n1 g sq rs=>VRel.tupE y (a1s hm▸rb) λ q o2 ys n2 g2 sq2 rs2=>?_);have k:=b5v ih hc rs rs2;have hd:d=(xs.toArray.size==ys.toArray.size):=(sj hd).symm.trans ((a2g l m).trans (by rw [rs.len,rs2.len]; rfl));refine .refs ?_ λ hpq=>?_
    · rw [k.2.1,hd];exact RcAt.tuples (sq.tuple g) (sq2.tuple g2) hu k.1
    · have hx:=a8U g sq g2 sq2 hpq;rw [k.2.2 hx,hd,hx];exact beq_self_eq_true _
  | _=>exact viaL e
theorem a6t (R:Rel B Pr ρ H s.heap) (n):∀ (a b:PV)(r:Bool)(x y:Value)(A:Around),a5X H n a b=some r->VRel B (a0G Pr ρ H) ρ s.heap a x->VRel B (a0G Pr ρ H) ρ s.heap b y->A.units+n<cLine->EqS A s x y r:=by
 induction n with
 | zero=>exact λ _ _ _ _ _ _ e=>nx0 e| succ n ih=>
   intro a b r x y A e ra rb hu;have hu1:A.in1.units + n < cLine:=e1F (e1L (e2h A.units n)) hu;have hu0:A.units < cLine:=e1F (e1M _ _) hu;exact bcE e (λ ha e=>VRel.noneE x (a5B ha▸ra) (bcE e (λ hb e=>VRel.noneE y (a5B hb▸rb) (sE r e ⟨.none_none,.same _,λ _=>rfl⟩)) λ _ e=>gE e λ nn e=>sE r e (have z:=a8Z R rb nn hu0; ⟨z.r1,z.e1,λ e=>absurd e.symm z.ne⟩)))
    λ _ e=>bcE e (λ hb e=>VRel.noneE y (a5B hb▸rb) (gE e λ nn e=>sE r e (have z:=a8Z R ra nn hu0; ⟨z.r2,z.e2,λ e=>absurd e z.ne⟩)))
    λ _ e=>c0r R hu0 (λ a b r x y e ra rb=>ih a b r x y A.in1 e ra rb hu1) e ra rb
theorem c5t {mt:Addr->Prop}{f g:PV->PV->Option Bool}
 (ih:∀ a b r x y,f a b=some r->VRel B mt ρ h a x->VRel B mt ρ h b y->EqAt A s x y r)
 (ig:∀ a b r x y,g a b=some r->VRel B mt ρ h a x->VRel B mt ρ h b y->RcLt A s x y r) :
 ∀ {m:List PV} {xs ys:List Value} {r:Bool},b1m f g l m=some r->VRels B mt ρ h l xs->VRels B mt ρ h m ys->b7Y A s xs ys r:=by
 induction l with
 | nil=>exact fun {m xs ys r} e ra rb=>ra.nilE xs (match m,e with
   | [],e=>rb.nilE ys (sj e)| _::_,e=>rb.consE ys λ _ _ _ _=>sj e)
 | cons v l ihl=>exact fun {m xs ys r} e ra rb=>ra.consE xs λ x xs r1 rs1=>match m,e,rb with
   | [],e,rb=>rb.nilE ys (sj e)| w::m,e,rb=>rb.consE ys λ y ys r2 rs2=>oE e λ c h1 e=>bcE e (λ hc e=>.inl ⟨ih _ _ _ _ _ (hc▸h1) r1 r2,ihl e rs1 rs2⟩) λ hc e=>.inr ⟨ih _ _ _ _ _ (hc▸h1) r1 r2,ig _ _ _ _ _ e r1 r2⟩
theorem b3P (R:Rel B Pr ρ H s.heap) (n):∀ (a b:PV)(r:Bool)(x y:Value)(A:Around),c5d H n a b=some r->VRel B (a0G Pr ρ H) ρ s.heap a x->VRel B (a0G Pr ρ H) ρ s.heap b y->A.units+n<cLine->RcLt A s x y r:=by
 induction n with
 | zero=>exact λ _ _ _ _ _ _ e=>nx0 e| succ n ih=>intro a b r x y A e ra rb hu;have hu1:A.in1.units+n<cLine:=e1F (e1L (e2h A.units n)) hu;refine ocE e (λ i hi e=>oE e λ j hj e=>sE r e (a0h i j▸e2q x (a0c hi▸ra) λ t=>e2q y (a0c hj▸rb) λ u=>λ prog w E Q h=>PyProof.Rows.lt_int h)) λ _ e=>oE e λ p hp e=>oE hp λ l hl hp=>oE hp λ m hm hp=>?_;obtain rfl:=sj hp;refine gE hl λ il hl=>gE hm λ im hm=>?_;obtain ⟨p,o,xs,g,sq,rs⟩:=a1K R ra hl il;obtain ⟨q,o2,ys,g2,sq2,rs2⟩:=a1K R rb hm im;exact .lists (sq.list g) (sq2.list g2) (e1F (e1M _ _) hu) (c5t (λ a b r x y e ra rb=>(a6t R n a b r x y A.in1 e ra rb hu1).eq) (λ a b r x y e ra rb=>ih a b r x y A.in1 e ra rb hu1) e rs rs2)
noncomputable def d8D (i:Str):Value->Bool
 | .str j _=>j==i| _=>false
theorem c3i {mt:Addr->Prop}{i:Str}:∀ {ys:List Value}{r:Bool},c8c i l=some r->VRels B mt ρ h l ys ->
 (∀ y,y∈ys->EqAt A s y (.str i t) (d8D i y))/\r=ys.any (d8D i):=by
 induction l with
 | nil=>exact fun {ys r} e rs=>rs.nilE ys ⟨λ _ m=>absurd m e0b,(sj e).symm⟩| cons v l ih=>exact fun {ys r} e rs=>rs.consE ys λ y ys ry rs=>oE e λ j hj e=>oE e λ b hb e=>VRel.strE y (a7q hj▸ry) λ u=>
    have z:=ih hb rs
    ⟨λ y hy=>(e0d.mp hy).elim (λ q=>q▸.str_str _ _ _ _) (z.1 y),sE r e (by rw [z.2,a6q,e2F]; rfl)⟩
theorem c8b {mt:Addr->Prop}(e:isIn v l=some r)(rv:VRel B mt ρ h v x)(rs:VRels B mt ρ h l ys) :
 ∃ f:Value->Bool,(∀ y,y∈ys->EqAt A s y x (f y))/\r=ys.any f:=
 ocE e (λ i hi e=>VRel.strE x (a7q hi▸rv) λ t=>⟨_,c3i e rs⟩) λ _ e=>gE e λ _ e=>match l,e,rs with
  | [],e,rs=>rs.nilE ys ⟨λ _=>false,λ _ m=>absurd m e0b,(sj e).symm⟩| _::_,e,_=>nx0 e
end
end
section
open PySem PySem.Calls PyProof.Rows
open Sem (wp)
structure KeyView (w:World)(K:Type) [DecidableEq K] where
 conv:K->PV
 hash:K->Int
 hashes:∀ k,a8w w (conv k)=some (hash k)
 eqs:∀ k k',a5X [] 4 (conv k) (conv k')=some (decide (k=k'))
def OptR (R:PV->Value->Prop):Option PV->Option Value->Prop
 | none,none=>True| some v,some x=>R v x| _,_=>False
def K3 {K:Type}(R:PV->Value->Prop)(is:List K)(vs:List PV)(kvs:List (K×Value)):Prop:=kvs.map (·.1)=is/\All2 R vs (kvs.map (·.2))
theorem K3.nil {K:Type}{R:PV->Value->Prop}:K3 (K:=K) R [] [] []:=⟨rfl,trivial⟩
theorem K3.cons {K:Type}{R:PV->Value->Prop}{k:K}{v:PV}{x:Value}{is:List K}{vs:List PV}{kvs:List (K×Value)}(r:R v x)(h:K3 R is vs kvs):K3 R (k::is) (v::vs) ((k,x)::kvs):=⟨congrArg (k::·) h.1,r,h.2⟩
section
variable {w:World}{K:Type} [DecidableEq K](V:KeyView w K){R:PV->Value->Prop}
theorem KeyView.inj {k k':K}(h:V.conv k=V.conv k'):k=k':=by have h1:=V.eqs k k';have h2:=V.eqs k k;rw [<- h,h2] at h1;simpa using h1
theorem K3.keys {is:List K}{vs:List PV}{kvs:List (K×Value)}(h:K3 R is vs kvs):kvs.map (·.1)=is:=h.1
theorem K3.len {is:List K}{vs:List PV}{kvs:List (K×Value)}(h:K3 R is vs kvs):kvs.length=is.length:=by rw [<- h.keys,e0c]
theorem K3.at {kvs:List (K×Value)}(k:K):∀ {is:List K}{vs:List PV},K3 R is vs kvs->OptR R (dictAt (is.map V.conv) vs (V.conv k)) (valueAt kvs k):=by
 induction kvs with
 | nil=>exact fun {is vs} h=>h.1▸trivial| cons kv kvs ih=>
   intro is vs h;obtain ⟨rfl,q⟩:=h;cases vs with
   | nil=>exact q.elim| cons v vs=>
     show OptR R (bc (isT (a5X [] 4 (V.conv kv.1) (V.conv k))) (some v) (dictAt ((kvs.map (·.1)).map V.conv) vs (V.conv k))) _;rw [V.eqs];unfold valueAt;rw [List.find?_cons];by_cases hk:kv.1=k
     · rw [decide_eq_true hk]; exact q.1
     · rw [decide_eq_false hk]; exact ih ⟨rfl,q.2⟩
theorem K3.put {kvs:List (K×Value)}(k:K){v:PV}{x:Value}(r:R v x):∀ {is:List K}{vs:List PV},K3 R is vs kvs->is.Nodup ->
 ∃ is' vs',a1M (is.map V.conv) vs (V.conv k) v=(is'.map V.conv,vs')/\K3 R is' vs' (stored kvs k x)/\is'.Nodup /\ ∀ j∈is',j∈is\/j=k:=by
 induction kvs with
 | nil=>exact fun {is vs} h _=>h.1▸match vs,h.2 with
   | [],_=>⟨[k],[v],rfl,.cons r .nil,List.pairwise_singleton _ _,λ j m=>.inr (e0u.mp m)⟩
 | cons kv kvs ih=>
   intro is vs h nd;obtain ⟨rfl,h2⟩:=h;obtain ⟨k0,x0⟩:=kv;cases vs with
   | nil=>exact h2.elim| cons v0 vs=>
     have nd:=e1D.mp nd;show ∃ is' vs',bc (isT (a5X [] 4 (V.conv k0) (V.conv k))) (V.conv k0::(kvs.map (·.1)).map V.conv,v::vs) (let r:=a1M ((kvs.map (·.1)).map V.conv) vs (V.conv k) v; (V.conv k0::r.1,v0::r.2))=_/\_;rw [V.eqs];by_cases hk:k0=k
     · subst hk;rw [decide_eq_true rfl];refine ⟨((k0,x0)::kvs).map (·.1),v::vs,rfl,?_,e1D.mpr nd,λ j hj=>.inl hj⟩;have:stored ((k0,x0)::kvs) k0 x=(k0,x)::kvs:=by simp only [stored,e2F,decide_true,Bool.true_or,if_true,e0v];rw [map_store_of_not_mem kvs k0 x nd.1]
       rw [this];exact ⟨rfl,r,h2.2⟩
     · rw [decide_eq_false hk];obtain ⟨is',vs',e1,e2,e3,e4⟩:=ih ⟨rfl,h2.2⟩ nd.2;refine ⟨k0::is',v0::vs',by show (V.conv k0::(a1M _ _ _ _).1,v0::(a1M _ _ _ _).2)=_; rw [e1]; rfl,?_,e1D.mpr ⟨λ m=>(e4 k0 m).elim nd.1 hk,e3⟩,λ j hj=>?_⟩
       · have:stored ((k0,x0)::kvs) k x=(k0,x0)::stored kvs k x:=by simp only [stored,e2F,decide_eq_false hk,Bool.false_or,e0v,if_neg hk];split <;> rfl
         rw [this];exact .cons h2.1 e2
       · exact (e0d.mp hj).elim (λ q=>.inl (q▸e0X)) λ hj=>(e4 j hj).imp (e0Z _) id
end
theorem a8t:∀ l:List Int,b1y (l.map PV.int)=some l
 | []=>rfl| i::l=>by show ob (b1y (l.map PV.int)) (λ l=>some (i::l))=_;rw [a8t l]; rfl
theorem d6r {v:PV}(h:isI v=true):∃ i,v=.int i:=by cases v <;> first | exact ⟨_,rfl⟩ | exact nx2 h
theorem a3n:∀ l:List PV,a3H l=true->∃ is:List Int,l=is.map PV.int
 | [],_=>⟨[],rfl⟩
 | v::l,h=>(d6r (a0A h).1).elim λ i e=>(a3n l (a0A h).2).elim λ is q=>⟨i::is,by rw [e,q]; rfl⟩
theorem a9B:∀ a b:List Int,d0B (a5L (a5X [] 3) (a.map PV.int) (b.map PV.int)) (some (a1V (a.map PV.int) (b.map PV.int)))=some (decide (a=b))
 | [],[]=>rfl| [],_::_=>rfl| _::_,[]=>rfl| i::a,j::b=>by
   have ih:=a9B a b;show d0B (d0B (some (a3J i j)) (a5L (a5X [] 3) (a.map PV.int) (b.map PV.int))) _=_;cases h:a5L (a5X [] 3) (a.map PV.int) (b.map PV.int) with
   | none=>rw [h] at ih; exact nx0 ih| some c=>rw [h] at ih;have ih:(c&&a1V (a.map PV.int) (b.map PV.int))=decide (a=b):=sj ih;show some ((a3J i j&&c)&&a1V (a.map PV.int) (b.map PV.int))=_;rw [Bool.and_assoc,ih,a1L,<- e2N];exact congrArg some (decide_eq_decide.mpr (by rw [List.cons.injEq]))
noncomputable def a3I (w:World):KeyView w Int:=⟨.int,hashInt,λ _=>rfl,λ k k'=>by show some (a3J k k')=_; rw [a1L]⟩
noncomputable def a5b (w:World):KeyView w Str:=⟨.str,hashStr w,λ _=>rfl,λ k k'=>by show some (sEq k k')=_; rw [a6q]⟩
def a0g (w:World):KeyView w (List Int):=⟨λ l=>.tup (l.map .int),tupleKeyHash (intKind prg w),λ k=>by show ob (b1y (k.map PV.int)) _=_; rw [a8t]; rfl,λ k k'=>a9B k k'⟩
theorem a4z {w:World}{K:Type} [DecidableEq K](V:KeyView w K){n:Nat}(h1:∀ k,c3b k=n->∃ i,k=V.conv i):∀ ks,a1q n ks=true->∃ is:List K,ks=is.map V.conv
 | [],_=>⟨[],rfl⟩
 | k::ks,h=>(h1 k (e0r (a0A h).1)).elim λ i e=>(a4z V h1 ks (a0A h).2).elim λ is q=>⟨i::is,by rw [e,q]; rfl⟩
theorem a9x {l:List PV}{n:Nat}(h:c3b (.tup l)=n+1):a3H l=true/\n=2:=bcE h (λ c e=>⟨c,(Nat.succ.inj e).symm⟩) λ _ e=>e2G e
theorem d2D {w:World}(k:PV)(h:c3b k=1):∃ i,k=(a3I w).conv i:=by cases k <;> first | exact ⟨_,rfl⟩ | exact absurd (a9x h).2 (by decide) | exact absurd (show (0:Nat)=_ from h) (by decide) | exact absurd (show (1:Nat)=_ from h) (by decide) | exact absurd (show (2:Nat)=_ from h) (by decide)
theorem d2C {w:World}(k:PV)(h:c3b k=2):∃ i,k=(a5b w).conv i:=by cases k <;> first | exact ⟨_,rfl⟩ | exact absurd (a9x h).2 (by decide) | exact absurd (show (0:Nat)=_ from h) (by decide) | exact absurd (show (1:Nat)=_ from h) (by decide) | exact absurd (show (2:Nat)=_ from h) (by decide)
theorem d2B {w:World}(k:PV)(h:c3b k=3):∃ i,k=(a0g w).conv i:=by cases k <;> first | exact (a3n _ (a9x h).1).imp λ i e=>congrArg PV.tup e | exact absurd (show (0:Nat)=_ from h) (by decide) | exact absurd (show (1:Nat)=_ from h) (by decide) | exact absurd (show (2:Nat)=_ from h) (by decide)
theorem a6Z (w:World)(ks:List PV)(h:a1q 1 ks=true):∃ is:List Int,ks=is.map (a3I w).conv:=a4z _ d2D ks h
theorem b5W (w:World)(ks:List PV)(h:a1q 2 ks=true):∃ is:List Str,ks=is.map (a5b w).conv:=a4z _ d2C ks h
theorem c3Y (w:World)(ks:List PV)(h:a1q 3 ks=true):∃ is:List (List Int),ks=is.map (a0g w).conv:=a4z _ d2B ks h
inductive Fits (w:World)(ks:List PV)(x:PV):Prop
 | int (is:List Int) (i:Int):ks=is.map (a3I w).conv->x=(a3I w).conv i->Fits w ks x
 | str (is:List Str) (i:Str):ks=is.map (a5b w).conv->x=(a5b w).conv i->Fits w ks x
 | tup (is:List (List Int)) (i:List Int):ks=is.map (a0g w).conv->x=(a0g w).conv i->Fits w ks x
theorem b1s (w:World){ks:List PV}{x:PV}(h:a7O ks x=true):Fits w ks x:=by
 unfold a7O at h;cases x with
 | int i=>exact (a6Z w ks h).elim λ is e=>.int is i e rfl| str i=>exact (b5W w ks h).elim λ is e=>.str is i e rfl| tup l=>
   cases hi:a3H l with
   | false=>rw [show c3b (.tup l)=0 from by show bc (a3H l) 3 0=0; rw [hi]; rfl] at h; exact nx2 h| true=>rw [show c3b (.tup l)=3 from by show bc (a3H l) 3 0=3; rw [hi]; rfl] at h;exact (a3n l hi).elim λ m zq=>(c3Y w ks h).elim λ is e=>.tup is m e (zq▸rfl)
 | _=>exact nx2 h
section
variable {B:Base}{mt:Addr->Prop}{ρ:List Addr}{h:Heap}
structure ValView (B:Base)(K:Type) [DecidableEq K](knd:KeyKind prg B.w K) extends KeyView B.w K where
 rel:∀ (mt:Addr->Prop) (ρ:List Addr) (h:Heap) (k:K) (x:Value),VRel B mt ρ h (conv k) x↔knd.is k x=true
 hsh:∀ k,hash k=knd.hash k
theorem c6H {B:Base}(mt:Addr->Prop)(ρ:List Addr)(h:Heap)(k:Int)(x:Value):VRel B mt ρ h (.int k) x↔(intKind prg B.w).is k x=true:=
 ⟨λ r=>r.intE x λ t=>intKind_is prg B.w _ _,λ r=>(Value.isInt_shape r).elim λ t e=>e▸.int _ _⟩
theorem d0h {B:Base}(mt:Addr->Prop)(ρ:List Addr)(h:Heap)(k:Str)(x:Value):VRel B mt ρ h (.str k) x↔(strKind prg B.w).is k x=true:=
 ⟨λ r=>r.strE x λ t=>strKind_is prg B.w _ _,λ r=>(Value.isStrOf_shape r).elim λ t e=>e▸.str _ _⟩
def b1z (B:Base):ValView B Int (intKind prg B.w):=⟨a3I B.w,c6H,λ _=>rfl⟩
def b4i (B:Base):ValView B Str (strKind prg B.w):=⟨a5b B.w,d0h,λ _=>rfl⟩
theorem ERel.view {K:Type} [DecidableEq K]{knd:KeyKind prg B.w K}(V:ValView B K knd){is:List K}:∀ {vs:List PV}{es:List DictEntry},ERel B mt ρ h (is.map V.conv) vs es ->
 ∃ kvs,Pairs knd es kvs/\K3 (VRel B mt ρ h) is vs kvs /\ ∀ e∈es,∃ k,knd.is k e.key=true/\e.hash=knd.hash k:=by
 induction is with
 | nil=>exact fun {vs es} r=>r.nilE es ⟨[],.nil,.nil,λ e he=>absurd he e0b⟩| cons k is ih=>exact fun {vs es} r=>r.consE λ v vs' e es' e1 e2 hh rk rv rs=>(ih rs).elim λ kvs q=>e1▸e2 ▸
    have hk:=(V.rel _ _ _ _ _).mp rk
    ⟨(k,e.val)::kvs,.cons hk rfl q.1,.cons rv q.2.1,λ f hf=>(e0d.mp hf).elim (λ z=>z▸⟨k,hk,(sj (hh.symm.trans (V.hashes k))).trans (V.hsh k)⟩) (q.2.2 f)⟩
theorem ERel.back {K:Type} [DecidableEq K]{knd:KeyKind prg B.w K}(V:ValView B K knd){es:List DictEntry}{kvs:List (K×Value)}(p:Pairs knd es kvs):∀ {is:List K}{vs:List PV},K3 (VRel B mt ρ h) is vs kvs ->
 (∀ e∈es,∃ k,knd.is k e.key=true/\e.hash=knd.hash k)->ERel B mt ρ h (is.map V.conv) vs es:=by
 induction p with
 | nil=>exact fun {is vs} q _=>q.1▸match vs,q.2 with
   | [],_=>.nil
 | @cons e kv es kvs hk hv _ ih=>exact fun {is vs} q z=>q.1▸match vs,q.2 with
   | v::vs,q2=>.cons _ _ _ _ _ _ ((z e e0X).elim λ k' q=>(show a8w B.w (V.conv kv.1)=_ from knd.inj _ _ _ q.1 hk▸(V.hashes k').trans (congrArg some ((V.hsh k').trans q.2.symm)))) ((V.rel _ _ _ _ _).mpr hk) (hv▸q2.1) (ih ⟨rfl,q2.2⟩ λ f hf=>z f (e0Z _ hf))
theorem a1e {w:World}{K:Type} [DecidableEq K](V:KeyView w K){is:List K}:(is.map V.conv).Nodup↔is.Nodup:=by
 constructor
 · intro h;rw [List.nodup_iff_pairwise_ne] at h ⊢;rw [e1w] at h;exact h.imp λ n e=>n (by rw [e])
 · intro h;rw [List.nodup_iff_pairwise_ne] at h ⊢;rw [e1w];exact h.imp λ n e=>n (V.inj e)
theorem a4h {K:Type} [DecidableEq K]{knd:KeyKind prg B.w K}(V:ValView B K knd){is:List K}{vs:List PV}{a:Addr}{es:Array DictEntry}{n:Nat}
 (g:h.get? a=some { cls:=.type "dict",data:=.dict es n }) (nd:(is.map V.conv).Nodup) (r:ERel B mt ρ h (is.map V.conv) vs es.toList) :
 ∃ kvs,h.DictOf knd a kvs/\K3 (VRel B mt ρ h) is vs kvs:=
 (ERel.view V r).elim λ kvs q=>⟨kvs,⟨_,es,n,g,⟨rfl,rfl,rfl⟩,rfl,λ e he=>q.2.2 e (e2i.mpr he),q.1,q.2.1.keys.symm▸(a1e V.toKeyView).mp nd⟩,q.2.1⟩
theorem a7e {K:Type} [DecidableEq K]{knd:KeyKind prg B.w K}(V:ValView B K knd){is:List K}{vs:List PV}{a:Addr}{kvs:List (K×Value)}
 (D:h.DictOf knd a kvs) (q:K3 (VRel B mt ρ h) is vs kvs):∃ es n,h.get? a=some { cls:=.type "dict",data:=.dict es n }/\(is.map V.conv).Nodup/\ERel B mt ρ h (is.map V.conv) vs es.toList:=
 D.elim λ o D=>D.elim λ es D=>D.elim λ n D=>⟨es,n,a2n D.2.1 D.2.2.1▸D.1,(a1e V.toKeyView).mpr (q.keys▸D.2.2.2.2.2),ERel.back V D.2.2.2.2.1 q λ e he=>D.2.2.2.1 e (e2i.mp he)⟩
end
noncomputable def c7x (x:List Int×Addr×Value):List Int×Value:=(x.1,x.2.2)
def K3H (Rk:List Int->Addr->Prop)(R:PV->Value->Prop)(is:List (List Int))(vs:List PV)(xs:List (List Int×Addr×Value)):Prop:=K3 R is vs (xs.map c7x) /\ ∀ x∈xs,Rk x.1 x.2.1
section
variable {w:World}{Rk:List Int->Addr->Prop}{R:PV->Value->Prop}
theorem b9Q (xs:List (List Int×Addr×Value)):(xs.map c7x).map (·.1)=xs.map (·.1):=by rw [e1H]; rfl
theorem K3H.keys {is:List (List Int)}{vs:List PV}{xs:List (List Int×Addr×Value)}(h:K3H Rk R is vs xs):xs.map (·.1)=is:=(b9Q xs).symm.trans h.1.keys
theorem K3H.len {is:List (List Int)}{vs:List PV}{xs:List (List Int×Addr×Value)}(h:K3H Rk R is vs xs):xs.length=is.length:=by rw [<- h.keys,e0c]
theorem c7w (xs:List (List Int×Addr×Value))(k:List Int):valueAt (xs.map c7x) k=(atKey xs k).map (·.2):=by unfold valueAt atKey;rw [List.find?_map,Option.map_map,Option.map_map];rfl
theorem c3F (xs:List (List Int×Addr×Value))(k:List Int)(a:Addr)(x:Value):(storedH xs k a x).map c7x=stored (xs.map c7x) k x:=by
 have h:(xs.map c7x).any (λ z=>decide (z.1=k))=(atKey xs k).isSome:=by unfold atKey;rw [List.any_map,Option.isSome_map,List.isSome_find?];rfl
 unfold storedH stored;rw [h];cases (atKey xs k).isSome with
 | false=>rw [if_neg (by decide),if_neg (by decide),e0o]; rfl| true=>
   rw [if_pos rfl,if_pos rfl,e1H,e1H];refine e2j λ z _=>?_;show c7x (putAt k x z)=if z.1=k then _ else _;unfold putAt;split
   · rfl
   · rfl
theorem K3H.put {is:List (List Int)}{vs:List PV}{xs:List (List Int×Addr×Value)}(h:K3H Rk R is vs xs)(nd:is.Nodup)(k:List Int){a:Addr}{v:PV}{x:Value}(ra:Rk k a)(r:R v x) :
 ∃ is' vs',a1M (is.map (a0g w).conv) vs ((a0g w).conv k) v=(is'.map (a0g w).conv,vs')/\K3H Rk R is' vs' (storedH xs k a x)/\is'.Nodup /\ ∀ j∈is',j∈is\/j=k:=
 (h.1.put (a0g w) k r nd).imp λ is' q=>q.imp λ vs' q=>⟨q.1,⟨c3F xs k a x▸q.2.1,λ z m=>by
   unfold storedH at m;split at m
   · obtain ⟨y,my,rfl⟩:=e0e.mp m;unfold putAt;split
     · exact h.2 y my
     · exact h.2 y my
   · exact (e1E.mp m).elim (h.2 z) λ m=>e0u.mp m▸ra⟩,q.2.2⟩
end
section
variable {B:Base}{mt:Addr->Prop}{ρ:List Addr}{h:Heap}
abbrev tk (B:Base):HeapKind prg B.w (List Int):=tupleKind (intKind prg B.w)
theorem ItemsAre.ofInts {l:List Int}:∀ {xs:List Value},VRels B mt ρ h (l.map .int) xs->ItemsAre (intKind prg B.w) l xs:=by
 induction l with
 | nil=>exact fun {xs} r=>r.nilE xs .nil| cons i l ih=>exact fun {xs} r=>r.consE xs λ x xs r rs=>r.intE x λ t=>.cons (intKind_is prg B.w _ _) (ih rs)
theorem VRel.tupKey {k:List Int}{x:Value}(r:VRel B mt ρ h ((a0g B.w).conv k) x):∃ a,x=.ref a/\(tk B).is h k a:=
 VRel.tupE x r λ a o xs n g sq rs=>⟨a,rfl,o,xs.toArray,_,g,sq.1,sq.2.2.2.2.choose_spec,ItemsAre.ofInts rs⟩
theorem ERel.viewH {is:List (List Int)}:∀ {vs:List PV}{es:List DictEntry},ERel B mt ρ h (is.map (a0g B.w).conv) vs es ->
 ∃ xs,es=xs.map (entryOfKey (tk B))/\K3H (λ k a=>VRel B mt ρ h ((a0g B.w).conv k) (.ref a)) (VRel B mt ρ h) is vs xs /\ ∀ x∈xs,(tk B).is h x.1 x.2.1:=by
 induction is with
 | nil=>exact fun {vs es} r=>r.nilE es ⟨[],rfl,⟨.nil,λ _ m=>absurd m e0b⟩,λ _ m=>absurd m e0b⟩| cons k is ih=>
    intro vs es r;refine r.consE λ v vs' e es' e1 e2 hh rk rv rs=>(ih rs).elim λ xs q=>rk.tupKey.elim λ a hk=>?_;obtain ⟨eh,ek,ev⟩:=e;obtain rfl:ek=.ref a:=hk.1;obtain rfl:eh=_:=(sj (hh.symm.trans ((a0g B.w).hashes k)))
    rw [e1,e2,q.1];exact ⟨(k,a,ev)::xs,rfl,⟨.cons rv q.2.1.1,λ z m=>(e0d.mp m).elim (λ e=>e▸rk) (q.2.1.2 z)⟩,λ z m=>(e0d.mp m).elim (λ e=>e▸hk.2) (q.2.2 z)⟩
theorem ERel.backH {xs:List (List Int×Addr×Value)}:∀ {is:List (List Int)}{vs:List PV},K3H (λ k a=>VRel B mt ρ h ((a0g B.w).conv k) (.ref a)) (VRel B mt ρ h) is vs xs ->
 ERel B mt ρ h (is.map (a0g B.w).conv) vs (xs.map (entryOfKey (tk B))):=by
 induction xs with
 | nil=>exact fun {is vs} q=>q.1.1▸match vs,q.1.2 with
   | [],_=>.nil
 | cons x xs ih=>exact fun {is vs} q=>q.1.1▸match vs,q.1.2 with
   | v::vs,q2=>.cons _ _ _ _ _ _ ((a0g B.w).hashes _) (q.2 x e0X) q2.1 (ih ⟨⟨rfl,q2.2⟩,λ z m=>q.2 z (e0Z _ m)⟩)
theorem b2S {is:List (List Int)}{vs:List PV}{a:Addr}{es:Array DictEntry}{n:Nat}
 (g:h.get? a=some { cls:=.type "dict",data:=.dict es n }) (nd:(is.map (a0g B.w).conv).Nodup) (r:ERel B mt ρ h (is.map (a0g B.w).conv) vs es.toList) :
 ∃ xs,h.DictOfH (tk B) a xs/\K3H (λ k a=>VRel B mt ρ h ((a0g B.w).conv k) (.ref a)) (VRel B mt ρ h) is vs xs:=
 (ERel.viewH r).elim λ xs q=>⟨xs,⟨_,es,n,g,⟨rfl,rfl,rfl⟩,rfl,q.1,q.2.2,q.2.1.keys.symm▸(a1e (a0g B.w)).mp nd⟩,q.2.1⟩
theorem b2T {is:List (List Int)}{vs:List PV}{a:Addr}{xs:List (List Int×Addr×Value)}
 (D:h.DictOfH (tk B) a xs) (q:K3H (λ k a=>VRel B mt ρ h ((a0g B.w).conv k) (.ref a)) (VRel B mt ρ h) is vs xs) :
 ∃ es n,h.get? a=some { cls:=.type "dict",data:=.dict es n }/\(is.map (a0g B.w).conv).Nodup/\ERel B mt ρ h (is.map (a0g B.w).conv) vs es.toList:=
 D.elim λ o D=>D.elim λ es D=>D.elim λ n D=>⟨es,n,a2n D.2.1 D.2.2.1▸D.1,(a1e (a0g B.w)).mpr (q.keys▸D.2.2.2.2.2),D.2.2.2.1▸ERel.backH q⟩
inductive DictKV (B:Base)(mt:Addr->Prop)(ρ:List Addr)(h:Heap)(d:Addr)(ks vs:List PV)(kx:PV)(key:Value):Prop
 | val (K:Type) (dec:DecidableEq K) (knd:KeyKind prg B.w K) (V:ValView B K knd) (is:List K) (i:K) (kvs:List (K×Value)) :
    ks=is.map V.conv->kx=V.conv i->h.DictOf knd d kvs->K3 (VRel B mt ρ h) is vs kvs->knd.is i key=true->is.Nodup->DictKV B mt ρ h d ks vs kx key
 | tup (is:List (List Int)) (i:List Int) (xs:List (List Int×Addr×Value)) (a:Addr) :
    ks=is.map (a0g B.w).conv->kx=(a0g B.w).conv i->h.DictOfH (tk B) d xs->K3H (λ k a=>VRel B mt ρ h ((a0g B.w).conv k) (.ref a)) (VRel B mt ρ h) is vs xs->key=.ref a->(tk B).is h i a->is.Nodup->DictKV B mt ρ h d ks vs kx key
theorem b2U {d:Addr}{ks vs:List PV}{kx:PV}{key:Value}{es:Array DictEntry}{n:Nat}(g:h.get? d=some { cls:=.type "dict",data:=.dict es n }) (nd:ks.Nodup)
 (r:ERel B mt ρ h ks vs es.toList) (rk:VRel B mt ρ h kx key) (f:a7O ks kx=true):DictKV B mt ρ h d ks vs kx key:=by
 cases b1s B.w f with
 | int is i e1 e2=>subst e1 e2;refine c0x (a4h (b1z B) g nd r) λ kvs D q=>?_;exact .val Int _ _ (b1z B) is i kvs rfl rfl D q (((b1z B).rel _ _ _ _ _).mp rk) ((a1e (a3I B.w)).mp nd)| str is i e1 e2=>subst e1 e2;refine c0x (a4h (b4i B) g nd r) λ kvs D q=>?_;exact .val Str _ _ (b4i B) is i kvs rfl rfl D q (((b4i B).rel _ _ _ _ _).mp rk) ((a1e (a5b B.w)).mp nd)| tup is i e1 e2=>subst e1 e2;refine c0x (b2S g nd r) λ xs D q=>?_;refine c0x (rk.tupKey) λ a ea hk=>?_;exact .tup is i xs a rfl rfl D q ea hk ((a1e (a0g B.w)).mp nd)
variable {A:Around}{s:Shared}{d:Addr}{ks vs:List PV}{kx:PV}{key:Value}
theorem OptR.isSome {R:PV->Value->Prop}:∀ {a:Option PV}{b:Option Value},OptR R a b->a.isSome=b.isSome
 | none,none,_=>rfl| some _,some _,_=>rfl
theorem OptR.getE {R:PV->Value->Prop}{a:Option PV}{b:Option Value}{v:PV}(r:OptR R a b)(e:a=some v):∃ x,b=some x/\R v x:=by
 subst e;cases b with
 | none=>exact r.elim| some x=>exact ⟨x,rfl,r⟩
theorem OptR.getD {R:PV->Value->Prop}{a:Option PV}{b:Option Value}{v:PV}{x:Value}(r:OptR R a b)(h:R v x):R (a.getD v) (b.getD x):=by cases a <;> cases b <;> first | exact h | exact r | exact r.elim
theorem a4w (hd:d≠sysModules):(d==sysModules)=false:=beq_eq_false_iff_ne.mpr hd
theorem K3H.at' {Rk:List Int->Addr->Prop}{R:PV->Value->Prop}{is:List (List Int)}{vs:List PV}{xs:List (List Int×Addr×Value)}(h:K3H Rk R is vs xs)(k:List Int):OptR R (dictAt (is.map (a0g B.w).conv) vs ((a0g B.w).conv k)) ((atKey xs k).map (·.2)):=
 c7w xs k▸h.1.at (a0g B.w) k
theorem DictKV.isIn (D:DictKV B mt ρ s.heap d ks vs kx key)(hd:d ≠ sysModules)(hu:A.units + 1 < cLine){Q:Value->Shared->Prop}
 (h:∀ t,Q (.bool (dictAt ks vs kx).isSome) { s with toks:=t }):wpAny (Mo B.w) A (compareOp .In key (.ref d)) Q E0 s:=by
 cases D with
 | val K dec knd V is i kvs e1 e2 D q hk nd=>rw [e1,e2,(q.at V.toKeyView i).isSome] at h;exact wpAny_in_of hk (a4w hd) D.mapOf (h _)| tup is i xs a e1 e2 D q ek hk nd=>rw [e1,e2,(q.at' i).isSome,Option.isSome_map] at h;exact ek▸wpAny_in_heap (knd:=tk B) (tupleKind_room_in1 hu) hk (a4w hd) D (h _)
theorem DictKV.notIn (D:DictKV B mt ρ s.heap d ks vs kx key)(hd:d ≠ sysModules)(hu:A.units + 1 < cLine){Q:Value->Shared->Prop}
 (h:∀ t,Q (.bool (!(dictAt ks vs kx).isSome)) { s with toks:=t }):wpAny (Mo B.w) A (compareOp .NotIn key (.ref d)) Q E0 s:=by
 cases D with
 | val K dec knd V is i kvs e1 e2 D q hk nd=>rw [e1,e2,(q.at V.toKeyView i).isSome] at h;exact wpAny_notIn_of hk (a4w hd) D.mapOf (h _)| tup is i xs a e1 e2 D q ek hk nd=>rw [e1,e2,(q.at' i).isSome,Option.isSome_map] at h;exact ek▸wpAny_notIn_heap (knd:=tk B) (tupleKind_room_in1 hu) hk (a4w hd) D (h _)
theorem DictKV.getItem (D:DictKV B mt ρ s.heap d ks vs kx key)(hu:A.units + 1 < cLine){v:PV}(e:dictAt ks vs kx=some v){Q:Value->Shared->Prop}
 (h:∀ x t,VRel B mt ρ s.heap v x->Q x { s with toks:=t }):wpAny (Mo B.w) A (getItem (.ref d) key) Q E0 s:=by
 cases D with
 | val K dec knd V is i kvs e1 e2 D q hk nd=>exact ((q.at V.toKeyView i).getE (e1▸e2▸e)).elim λ x z=>wpAny_getItem_of hk D.mapOf z.1 (h x _ z.2)| tup is i xs a e1 e2 D q ek hk nd=>refine ((q.at' i).getE (e1▸e2▸e)).elim λ x z=>(e1C.mp z.1).elim λ y w=>?_;exact ek▸wpAny_getItem_heap (knd:=tk B) (tupleKind_room_in1 hu) hk D w.1 (w.2▸h x _ z.2)
theorem DictKV.get2 (D:DictKV B mt ρ s.heap d ks vs kx key)(hd:d ≠ sysModules)(hu:A.units + 1 < cLine){dv:PV}{dx:Value}(rd:VRel B mt ρ s.heap dv dx){R:Result->Shared->Prop}
 (h:∀ x t,VRel B mt ρ s.heap ((dictAt ks vs kx).getD dv) x->R (.ok (.ret x)) { s with toks:=t }) :
 ∃ S,MeetsIn prg B.w (Builtin.«dict.get» ⟨[.ref d,key,dx],[]⟩) S/\S A R s:=by
 cases D with
 | val K dec knd V is i kvs e1 e2 D q hk nd=>rw [e1,e2] at h;exact ⟨_,meets_dict_get_default knd d hk (a4w hd) dx,_,D.mapOf,h _ _ ((q.at V.toKeyView i).getD rd)⟩| tup is i xs a e1 e2 D q ek hk nd=>rw [e1,e2] at h;exact ek▸⟨_,meetsH_dict_get_default (tk B) d a (a4w hd) dx,tupleKind_room_in1 hu,i,xs,hk,D,h _ _ ((q.at' i).getD rd)⟩
theorem DictKV.get1 (D:DictKV B mt ρ s.heap d ks vs kx key)(hd:d ≠ sysModules)(hu:A.units + 1 < cLine){R:Result->Shared->Prop}
 (h:∀ x t,VRel B mt ρ s.heap ((dictAt ks vs kx).getD .none) x->R (.ok (.ret x)) { s with toks:=t }) :
 ∃ S,MeetsIn prg B.w (Builtin.«dict.get» ⟨[.ref d,key],[]⟩) S/\S A R s:=by
 cases D with
 | val K dec knd V is i kvs e1 e2 D q hk nd=>rw [e1,e2] at h;exact ⟨_,meets_dict_get knd d hk (a4w hd),_,D.mapOf,h _ _ ((q.at V.toKeyView i).getD .none)⟩| tup is i xs a e1 e2 D q ek hk nd=>rw [e1,e2] at h;exact ek▸⟨_,meetsH_dict_get (tk B) d a (a4w hd),tupleKind_room_in1 hu,i,xs,hk,D,h _ _ ((q.at' i).getD .none)⟩
theorem K3.mono {K:Type}{R R':PV->Value->Prop}{is:List K}{vs:List PV}{kvs:List (K×Value)}(h:K3 R is vs kvs)(f:∀ v x,R v x->R' v x):K3 R' is vs kvs:=⟨h.1,h.2.imp λ v _ x=>f v x⟩
theorem K3H.mono {Rk Rk':List Int->Addr->Prop}{R R':PV->Value->Prop}{is:List (List Int)}{vs:List PV}{kvs:List (List Int×Addr×Value)}(h:K3H Rk R is vs kvs)(g:∀ k a,Rk k a->Rk' k a)(f:∀ v x,R v x->R' v x):K3H Rk' R' is vs kvs:=⟨h.1.mono f,λ x m=>g _ _ (h.2 x m)⟩
theorem DictKV.setItem (D:DictKV B mt ρ s.heap d ks vs kx key)(rk:VRel B mt ρ s.heap kx key)(hu:A.units + 1 < cLine)(hl:ks.length <= sizeLine){v:PV}{x:Value}(r:VRel B mt ρ s.heap v x){mt':Addr->Prop}{Q:Unit->Shared->Prop}
 (C:∀ h',Heap.SameBut d s.heap h'->Carry mt mt' ρ ρ s.heap h')
 (h:∀ h' t es n,Heap.SameBut d s.heap h'->h'.get? d=some { cls:=.type "dict",data:=.dict es n }->(a1M ks vs kx v).1.Nodup ->
   ERel B mt' ρ h' (a1M ks vs kx v).1 (a1M ks vs kx v).2 es.toList->Q () { s with heap:=h',toks:=t }):wpAny (Mo B.w) A (PySem.setItem (.ref d) key x) Q E0 s:=by
 cases D with
 | val K dec knd V is i kvs e1 e2 D q hk nd=>rw [e1,e0c] at hl;rw [e1,e2] at h;refine wpAny_setItem_pairs hk D (λ h' D' sb=>?_) (q.len▸hl);refine (q.put V.toKeyView i r nd).elim λ is' p=>p.elim λ vs' p=>(a7e V D' (p.2.1.mono λ v x r=>r.mono (C h' sb))).elim λ es w=>w.elim λ n w=>?_;rw [p.1] at h;exact h h' _ es n sb w.1 w.2.1 w.2.2| tup is i xs a e1 e2 D q ek hk nd=>rw [e1,e0c] at hl;rw [e1,e2] at h;refine ek▸wpAny_setItem_heap (knd:=tk B) (tupleKind_room_in1 hu) hk D (λ h' D' sb=>?_) (q.len▸hl);refine (q.put (w:=B.w) nd i (ek▸e2▸rk) r).elim λ is' p=>p.elim λ vs' p=>(b2T D' (p.2.1.mono (λ k a r=>r.mono (C h' sb)) λ v x r=>r.mono (C h' sb))).elim λ es w=>w.elim λ n w=>?_;rw [p.1] at h;exact h h' _ es n sb w.1 w.2.1 w.2.2
end
end
section
open PySem PySem.Calls PyProof.Rows
open PySem.SeqAt PySem.MeetsSeq
open Sem (wp)
theorem b5g {n i:Nat}(hb:i<n):Int.negSucc i+(n:Int)=((n-1-i:Nat):Int):=by omega
theorem c0R {n i:Nat}(hb:i<n):n-1-i=(Int.negSucc i+(n:Int)).toNat /\ -(n:Int)<=Int.negSucc i/\Int.negSucc i+(n:Int)<n/\0<=Int.negSucc i+(n:Int):=
 have h0:0<=Int.negSucc i+(n:Int):=(b5g hb).symm▸e1N _
 ⟨by rw [b5g hb,Int.toNat_natCast],Int.neg_le_of_neg_le (by rw [Int.neg_negSucc]; exact Int.ofNat_le.mpr hb),Int.lt_of_lt_of_le (Int.add_lt_add_right (e2O i) n) (Int.le_of_eq (Int.zero_add _)),h0⟩
theorem c0S (h:c0T n k=some j):seqIndex? k n=some j/\j<n /\ -(n:Int)<=k/\k<n:=by
 cases k with
 | ofNat i=>refine gE h λ hb h=>?_;obtain rfl:=sj h;have hb:=e1B.mp hb;have hn:¬ ((i:Int)<0):=e1x.mpr (e1N i);exact ⟨by simp [seqIndex?,hn,hb],hb,Int.le_trans (Int.neg_nonpos_of_nonneg (e1N n)) (e1N i),e1J.mpr hb⟩
 | negSucc i=>refine gE h λ hb h=>?_;obtain rfl:=sj h;have z:=c0R (e1B.mp hb);refine ⟨?_,e1F (Nat.sub_le _ _) (Nat.sub_lt (Nat.zero_lt_of_lt (e1B.mp hb)) Nat.one_pos),z.2.1,Int.lt_of_lt_of_le (e2O i) (e1N n)⟩;simp only [seqIndex?,e2O,if_true,z.2.2.1,z.2.2.2,decide_true,Bool.and_self,z.1]
section
variable {B:Base}{Pr:Addr->Prop}{A:Around}{ρ:List Addr}{st:St}{s:Shared}
theorem VRel.fin (R:Rel B Pr ρ st.H s.heap)(r:VRel B (a0G Pr ρ st.H) ρ s.heap v x){Q:Value->Shared->Prop}(k:Fin B Pr ρ st.H s (VRel B) v st.H Q) (t) :
 Q x { s with toks:=t }:=k ρ _ _ ((e2s R).tok t) r
theorem a6m (R:Rel B Pr ρ st.H s.heap)(r:VRel B (a0G Pr ρ st.H) ρ s.heap v x)(e:b6W st.H v=some b){Q:Bool->Shared->Prop}
 (h:∀ t,Q b { s with toks:=t }):wpAny (Mo B.w) A (truthy x) Q E0 s:=
 ocE e (λ c hc e=>VRel.boolE x (a5U hc▸r) (wpAny_truthy_bool (sj e▸h s.toks))) λ _ e=>oE e λ l hl e=>gE hl λ il hl=>by
  obtain ⟨a,o,xs,g,sq,rs⟩:=a1K R r hl il;refine wpAny_truthy_list (sq.list g) (Int.lt_of_le_of_lt (Int.ofNat_le.mpr sq.size) (by decide)) ?_;have:(!xs.toArray.isEmpty)=b:=(sj e)▸match l,rs with
   | [],rs=>rs.nilE xs rfl| _::_,rs=>rs.consE xs λ _ _ _ _=>rfl
  rw [this];exact h _
theorem b7D (R:Rel B Pr ρ st.H s.heap)(ra:VRel B (a0G Pr ρ st.H) ρ s.heap (.bytes l) x)(hx:l[j]?=some n):a9N B Pr A ρ st.H s (getItem x (.int (.ofNat j) t)) (VRel B) (.int (Int.ofNat n)) st.H:=by refine ra.bytesE x λ b u hz eb=>?_;obtain ⟨l0⟩:=b;have hz':l0.length<=16777216:=hz;rw [<- eb,List.getElem?_map] at hx;refine (e1C.mp hx).elim λ u8 q=>?_;have hj:j<l0.length:=a0Q q.1;intro Q k;refine PySem.W.getItem_bytes (by omega) (e1N j) (e1J.mpr hj) ?_;rw [show l0.getD (Int.ofNat j).toNat 0=u8 from by show l0.getD j 0=u8; rw [List.getD_eq_getElem?_getD,q.1]; rfl];exact q.2▸VRel.fin R (.int _ _) k _
theorem c3c (R:Rel B Pr ρ st.H s.heap)(ra:VRel B (a0G Pr ρ st.H) ρ s.heap a x)(hl:a4H st.H a=some l)(hj:c0T l.length k=some j)(hx:l[j]?=some v) :
 a9N B Pr A ρ st.H s (getItem x (.int k t)) (VRel B) v st.H:=by
 have z:=c0S hj;obtain ⟨ad,o,xs,g,sq,rs⟩:=a2B R ra hl;have hz:xs.length<=16777216:=sq.size;refine (rs.get j v hx).elim λ y q Q kk=>?_;have fin:=VRel.fin R q.2 kk;rw [rs.len] at z hj;cases hil:a1A st.H a with
 | true=>
   rw [hil] at sq;cases k with
   | ofNat k'=>refine gE hj λ _ e=>?_;exact wpAny_getItem_list (sq.list g) (e1N _) (by simp only [e1u] at z ⊢; omega) (List.getElem?_toArray.trans ((congrArg (λ i=>xs[i]?) (sj e)).trans q.1)) (fin s.toks)| negSucc k'=>refine gE hj λ hb e=>?_;exact wpAny_getItem_list_neg (sq.list g) (e2O _) z.2.2.1 (by omega) (List.getElem?_toArray.trans ((congrArg (λ i=>xs[i]?) ((c0R (e1B.mp hb)).1.symm.trans (sj e))).trans q.1)) (fin s.toks)
 | false=>rw [hil] at sq;exact sq.eq.elim λ n zo=>P.getItem_tuple (zo▸g) (by omega) (by omega) z.1 (List.getElem?_toArray.trans q.1) (fin s.toks)
theorem b3H (hu:A.units + 8 < cLine)(R:Rel B Pr ρ st.H s.heap){a i:PV}(ra:VRel B (a0G Pr ρ st.H) ρ s.heap a x)(ri:VRel B (a0G Pr ρ st.H) ρ s.heap i y) :
 Sim B Pr A ρ st s (a6c a i) (getItem x y) (VRel B):=λ v st' e=>by
 obtain ⟨e1,hs,rfl⟩:=e.item;exact ocE e1 (λ p hd e=>a1j R x ra hd λ d es n g nd ns er Q k=>oE e λ o ho e=>gE ho λ hf ho=>(b2U g nd er ri hf).getItem (e1F (e1c (by decide) _) hu) ((sj ho).trans e) λ x t r=>VRel.fin R r k t)
  λ _ e=>oE e λ k hk e=>e2q y (a0c hk▸ri) λ t=>ocE e (λ l ha e=>oE e λ j hj e=>oE e λ n hn e=>a1Q hj▸sj e▸b7D R (a3P ha▸ra) hn)
   λ _ e=>oE e λ l hl e=>oE e λ j hj e=>c3c R ra hl hj e
end
section
variable {B:Base}{Pr:Addr->Prop}{A:Around}{ρ:List Addr}{H:List PO}{st:St}{s:Shared}
theorem Carry.upd (R:Rel B Pr ρ H s.heap){i:Nat}{a:Addr}{o P':PO}{h':Heap}(hi:ρ[i]?=some a)(ho:H[i]?=some o)(hl:o.live=true)
 (k:∀ b o,b≠a->s.heap.get? b=some o->h'.get? b=some o):Carry (a0G Pr ρ H) (a0G Pr ρ (H.set i P')) ρ ρ s.heap h':=
 ⟨λ c q n e _=>⟨k c q (λ z=>n (.inr ⟨i,o,z▸hi,ho,hl⟩)) e,λ m=>n (a8b R.nodup hi ho (λ _=>hl) m)⟩,λ _ _ e=>e⟩
theorem Went.upd (R:Rel B Pr ρ H s.heap){i:Nat}{a:Addr}{o P':PO}{h':Heap}(t:Nat)(hi:ρ[i]?=some a)(ho:H[i]?=some o)(hl:o.live=true)
 (k:∀ b o,b≠a->s.heap.get? b=some o->h'.get? b=some o) (hr:Real B (a0G Pr ρ (H.set i P')) ρ h' P' a):Went B Pr ρ H s ρ (H.set i P') { s with heap:=h',toks:=t } where
 same:=⟨_,_,rfl⟩
 ext:=⟨[],by simp,by simp⟩
 rel:=R.upd hi ho hl k hr
 keep:=λ b q n e=>.inl (k b q (λ z=>n ⟨i,o,z▸hi,ho,hl⟩) e)
 live:=λ j q hj e l=>by
  by_cases hij:i=j
  · subst hij; exact ⟨o,ho,hl⟩
  · rw [List.getElem?_set_ne hij] at e; exact ⟨q,e,l⟩
theorem a2Z {a:Addr}{h h':Heap}(sb:Heap.SameBut a h h'):∀ b o,b≠a->h.get? b=some o->h'.get? b=some o:=λ b o n e=>(sb.2 b n).trans e
theorem b7k {h:Heap} (f):∀ b o,b≠a->h.get? b=some o->(h.update a f).get? b=some o:=λ b o n e=>(Heap.get?_update_other h f (Ne.symm n)).trans e
theorem All2.set {α β:Type}{R:α->β->Prop}{l:List α}{v:α}{x:β}(rv:R v x):∀ {m:List β}(j:Nat),All2 R l m->All2 R (l.set j v) (m.set j x):=by
 induction l with
 | nil=>exact fun {m} j r=>r.nilE m trivial| cons y l ih=>exact fun {m} j r=>r.consE m λ z zs a b=>match j with
   | 0=>⟨rv,b⟩
   | j+1=>⟨a,ih j b⟩
theorem All2.take {α β:Type}{R:α->β->Prop}{l:List α}:∀ {m:List β}(n:Nat),All2 R l m->All2 R (l.take n) (m.take n):=by
 induction l with
 | nil=>exact fun {m} n r=>r.nilE m (by rw [List.take_nil,List.take_nil]; trivial)| cons y l ih=>exact fun {m} n r=>r.consE m λ z zs a b=>match n with
   | 0=>trivial| n+1=>⟨a,ih n b⟩
theorem All2.drop {α β:Type}{R:α->β->Prop}{l:List α}:∀ {m:List β}(n:Nat),All2 R l m->All2 R (l.drop n) (m.drop n):=by
 induction l with
 | nil=>exact fun {m} n r=>r.nilE m (by rw [List.drop_nil,List.drop_nil]; trivial)| cons y l ih=>exact fun {m} n r=>r.consE m λ z zs a b=>match n with
   | 0=>⟨a,b⟩
   | n+1=>ih n b
theorem All2.rev {α β:Type}{R:α->β->Prop}{l:List α}:∀ {m:List β},All2 R l m->All2 R l.reverse m.reverse:=by
 induction l with
 | nil=>exact fun {m} r=>r.nilE m trivial| cons y l ih=>exact fun {m} r=>r.consE m λ z zs a b=>(by rw [List.reverse_cons,List.reverse_cons]; exact (ih b).append ⟨a,trivial⟩)
theorem a6O {l:Addr}{items:Array Value}{n:Nat}{k:Int}{t:Tok}{v:Value}{E:Value->Shared->Prop}{Q:Unit->Shared->Prop}{w:World}{prog:Program}(hl:IsL s.heap l items n)
 (h0:0<=k) (hfit:k<2^63) (hn:k<items.size) (hQ:Q () { s with heap:=s.heap.update l (Obj.mapSeq (·.setIfInBounds k.toNat v)) }) :
 wpAny (model prog w) A (setItem (.ref l) (.int k t) v) Q E s:=by
 have hT:s.TypeIs (.ref l) "list" := ⟨_,hl,rfl⟩
 unfold setItem
 try with_reducible refine wpAny_holding ?_
 refine wpAny_bind (wpAny_sequenceKey hT (by decide) ?_);refine wpAny_bind (wpAny_callSpecial?_slot (name:=Str.ofString "__setitem__") hT slot_list_setitem
  (wpAny_call_entry slot_list_setitem hT entry_list_setitem ?_ (args_list_setitem _ _ _)))
 show wpAny _ _ (Builtin.List.listSubscript? (.int k t) >>= _) _ _ s;refine wpAny_bind (wpAny_listSubscript_int (fitsIndex_of h0 hfit) ?_);clear hfit;refine d2t (Int.eq_ofNat_of_zero_le h0) λ j zq1=>?_;subst zq1;have hj:j<items.size:=by lia
 have hx':items[j]?=some items[j]:=Array.getElem?_eq_getElem hj;show wpAny _ _ ((seqItemAt l j >>= λ r=>pure (r.map (j,·))) >>= _) _ _ s;refine wpAny_bind (wpAny_bind (wpAny_seqItemAt hl rfl (wpAny_pure ?_)));rw [hx'];show wpAny _ _ (setSeqItemAt l j v >>= _) _ _ s;refine wpAny_bind (wpAny_setSeqItemAt hl rfl ?_);exact wpAny_pure ⟨.none,rfl,wpAny_pure hQ⟩
theorem a2i (R:Rel B Pr ρ H s.heap){p:Nat}{l:List PV}{a:Addr}(hp:ρ[p]?=some a)(e:H[p]?=some (.list l)){G:Prop}(k:∀ xs n,IsL s.heap a xs.toArray n->xs.length<=sizeLine->VRels B (a0G Pr ρ H) ρ s.heap l xs->G):G:=
 (R.loc hp e).elim λ o r=>r.elim λ xs r=>r.2.1.eq.elim λ n zo=>k xs n (r.1.trans (congrArg some zo)) r.2.1.size r.2.2
theorem Went.setList (R:Rel B Pr ρ H s.heap){p:Nat}{a:Addr}{l l':List PV}{xs xs':List Value}{n:Nat}(t:Nat)(hp:ρ[p]?=some a)(e:H[p]?=some (.list l))
 (g:IsL s.heap a xs.toArray n) (f:Array Value->Array Value) (hf:f xs.toArray=xs'.toArray) (r:VRels B (a0G Pr ρ H) ρ s.heap l' xs') (hz:l'.length<=sizeLine) :
 Went B Pr ρ H s ρ (H.set p (.list l')) { s with heap:=s.heap.update a (Obj.mapSeq f),toks:=t }:=by
 refine .upd R t hp e rfl (b7k _) ?_;have g':=IsL.update g f;rw [hf] at g';exact .list _ _ _ xs' g' (.mk' (by rw [<- r.length]; exact hz) _) (r.mono (Carry.upd R hp e rfl (b7k _)))
theorem b8p (i v:PV):∀ (ks vs:List PV),ks.length <= (a1M ks vs i v).1.length
 | [],vs=>e0q _| k::ks,[]=>e0i _| k::ks,w::vs=>by
   show (k::ks).length<=(bc (isT (a5X [] 4 k i)) (k::ks,v::vs) (k::(a1M ks vs i v).1,w::(a1M ks vs i v).2)).1.length;cases isT (a5X [] 4 k i) with
   | true=>exact e0i _| false=>exact e2H (b8p i v ks vs)
theorem b3D (hu:A.units + 8 < cLine)(R:Rel B Pr ρ st.H s.heap){a i v:PV}{x y z:Value}(ra:VRel B (a0G Pr ρ st.H) ρ s.heap a x)(ri:VRel B (a0G Pr ρ st.H) ρ s.heap i y)
 (rv:VRel B (a0G Pr ρ st.H) ρ s.heap v z):Sim B Pr A ρ st s (b4s a i v) (setItem x y z) (λ _ _ _ _ _=>True):=
 .up λ u H' n' e hn=>oE e λ p hp e=>oE e λ o hH e=>VRel.locE x (a2c hp▸ra) λ ad hp=>by
  unfold d0q at e;cases o with
  | list l=>refine a2i R hp hH λ xs n g hz rs=>oE e λ k hk e=>oE e λ k' hk' e=>gE e λ hb e=>tE u H' n' e λ Q kk=>e2q y (a0c hk▸ri) λ t=>?_;have hb:=e1B.mp hb;have hz':xs.length <= 16777216:=hz;rw [rs.len] at hb;rw [a1Q hk'];refine a6O g (e1N k') (by simp only [e1u]; lia) (e1J.mpr hb) (kk ρ _ _ ?_ trivial);exact Went.setList R s.toks hp hH g _ (xs':=xs.set k' z) (by simp) (rs.set rv k') (by rw [e1W,rs.len]; exact hz)| dict ks vs=>
    refine gE e λ hf e=>?_;revert hn;refine tE u H' n' e λ hn Q kk=>(R.loc hp hH).elim λ o r=>r.elim λ es r=>r.elim λ n r=>?_;have D:=b2U (a2n r.2.1 r.2.2.1▸r.1) r.2.2.2.1.1 r.2.2.2.2 ri hf;exact D.setItem ri (e1F (e1c (by decide) _) hu) (e0l (b8p i v ks vs) hn) rv (λ h' sb=>Carry.upd R hp hH rfl (a2Z sb))
     λ h' t es' n' sb g' nd' er'=>kk ρ _ _ (Went.upd R t hp hH rfl (a2Z sb) (.dict _ _ _ _ es' n' g' ⟨rfl,rfl,rfl⟩ rfl ⟨nd',r.2.2.2.1.2⟩ er')) trivial
  | _=>exact nx0 e
theorem c1U {b c:Array UInt8}:(b.toList==c.toList)=a0q (b.toList.map UInt8.toNat) (c.toList.map UInt8.toNat):=by
 rw [a2D];by_cases hbc:b.toList=c.toList
 · rw [hbc,decide_eq_true rfl]; exact beq_self_eq_true _
 · rw [beq_eq_false_iff_ne.mpr hbc,decide_eq_false];intro hm;exact hbc ((List.map_inj_right (λ _ _ h=>UInt8.toNat_inj.mp h)).mp hm)
theorem c7f (R:Rel B Pr ρ H s.heap){f:PV->PV->Option Bool}{A:Around}(hu:A.units < cLine)(ih:∀ a b r x y,f a b=some r->VRel B (a0G Pr ρ H) ρ s.heap a x->VRel B (a0G Pr ρ H) ρ s.heap b y->EqS A.in1 s x y r)
 (e:a7d H f a b=some r) (ra:VRel B (a0G Pr ρ H) ρ s.heap a x) (rb:VRel B (a0G Pr ρ H) ρ s.heap b y):RcNeAt A s x y (!r):=by
  have viaL:(ob (a7H H a b) λ p=>bc (a1V p.1 p.2) (a5L f p.1 p.2) (some false))=some r->RcNeAt A s x y (!r):=λ e=>oE e λ p hp e=>oE hp λ l hl hp=>oE hp λ m hm hp=>by
   obtain rfl:=sj hp;refine gE hl λ il hl=>gE hm λ im hm=>?_;obtain ⟨p,o,xs,g,sq,rs⟩:=a1K R ra hl il;obtain ⟨q,o2,ys,g2,sq2,rs2⟩:=a1K R rb hm im;have hlen:=a2g l m;rw [rs.len,rs2.len] at hlen;refine bcE e (λ c e=>?_) λ c e=>?_
   · have hs:=of_decide_eq_true (hlen.symm.trans c);have k:=b5v ih e rs rs2;refine k.2.1▸?_;rw [<- hs,e2E];exact RcNeAt.lists (sq.list g) (sq2.list g2) hs hu k.1
   · exact sE r e (.lists_lengths (sq.list g) (sq2.list g2) (bne_iff_ne.mpr (of_decide_eq_false (hlen.symm.trans c))) hu)
  cases a with
  | bool i=>exact oE e λ j hj e=>sE r e (ra.boolE x (VRel.boolE y (a5U hj▸rb) (.bool_bool _ _)))| int i=>exact oE e λ j hj e=>sE r e (a1L i j▸ra.intE x λ t=>e2q y (a0c hj▸rb) λ u=>.int_int _ _ _ _)| str i=>exact oE e λ j hj e=>sE r e (a6q i j▸ra.strE x λ t=>VRel.strE y (a7q hj▸rb) λ u=>.str_str _ _ _ _)| tup l=>
    refine oE e λ m hm e=>oE e λ c hc e=>oE e λ d hd e=>sE r e (ra.tupE x λ p o xs n1 g sq rs=>VRel.tupE y (a1s hm▸rb) λ q o2 ys n2 g2 sq2 rs2=>?_);have k:=b5v ih hc rs rs2;have hl:(xs.toArray.size==ys.toArray.size)=d:=by rw [<- sj hd,a2g,rs.len,rs2.len]; exact Bool.beq_eq_decide_eq _ _
    rw [k.2.1,<- hl];exact RcNeAt.tuples (sq.tuple g) (sq2.tuple g2) hu k.1
  | _=>exact viaL e
theorem b1v {mt:Addr->Prop}(e:a9z a b=some r)(ra:VRel B mt ρ h a x)(rb:VRel B mt ρ h b y):isSame x y=pure r:=by
 cases b with
 | none=>
   refine rb.noneE y ?_;rw [isSame_none];cases a with
   | none=>exact ra.noneE x (sE r e rfl)| int=>exact ra.intE x λ _=>sE r e rfl| tup=>exact ra.tupE x λ _ _ _ _ _ _ _=>sE r e rfl| lst=>exact ra.lstE x λ _ _ _ _ _ _ _=>sE r e rfl| dct=>exact ra.dctE x λ _ _ _ _ _ _ _ _ _ _=>sE r e rfl| ins=>exact ra.insE x λ _ _ _ _ _ _ _ _ _ _ _ _ _=>sE r e rfl| _=>exact nx0 e
 | bool c=>exact oE e λ d hd e=>VRel.boolE x (a5U hd▸ra) (rb.boolE y (sE r e (by cases c <;> cases d <;> rfl)))| _=>exact nx0 e
theorem b1g (i j):(!a0X i j)=decide (j<=i):=by rw [a0h,<- decide_not]; exact decide_eq_decide.mpr e1x
theorem b3n {f:Int->Int->Bool}{G:Prop}(e:c3l f a b=some r)(k:∀ i j,a=.int i->b=.int j->r=f i j->G):G:=
 oE e λ i hi e=>oE e λ j hj e=>k i j (a0c hi) (a0c hj) (sj e).symm
theorem c4n {G:Prop}(e:b6E a b=some r)(k:∀ i j,a=.bytes i->b=.bytes j->r=a0q i j->G):G:=
 oE e λ i hi e=>oE e λ j hj e=>k i j (a3P hi) (a3P hj) (sj e).symm
theorem c6b (hu:A.units + 16 < cLine)(R:Rel B Pr ρ H s.heap)(ra:VRel B (a0G Pr ρ H) ρ s.heap a x)(rb:VRel B (a0G Pr ρ H) ρ s.heap b y)(e:c8d H a b=some r) :
 (∀ Q:Value->Shared->Prop,(∀ t,Q (.bool r) { s with toks:=t })->wpAny (Mo B.w) A (compareOp .In x y) Q E0 s) /\ ∀ Q:Value->Shared->Prop,(∀ t,Q (.bool (!r)) { s with toks:=t })->wpAny (Mo B.w) A (compareOp .NotIn x y) Q E0 s:=
 ocE e (λ p hd e=>a1j R y rb hd λ d es n g nd ns er=>oE e λ o ho e=>gE ho λ hf ho=>by have D:=b2U g nd er ra hf;have hu1:A.units + 1 < cLine:=e1F (e1c (by decide) _) hu;rw [<- sj e,<- sj ho];exact ⟨λ Q h=>D.isIn ns hu1 h,λ Q h=>D.notIn ns hu1 h⟩)
  λ _ e=>oE e λ l hl e=>by
   obtain ⟨ad,o,xs,g,sq,rs⟩:=a2B R rb hl;refine (c8b (s:=s) (A:=A.in1) e ra rs).elim λ f q=>?_;have hr':xs.toArray.any f=r:=(List.any_toArray ..).trans q.2.symm;have hf:∀ z∈xs.toArray,EqAt A.in1 s z x (f z):=λ z m=>q.1 z (List.mem_toArray.mp m);cases hil:a1A H b with
   | true=>rw [hil] at sq; exact ⟨λ Q h=>in_listAt f (sq.list g) hf (hr'.symm▸h s.toks),λ Q h=>notIn_listAt f (sq.list g) hf (hr'.symm▸h s.toks)⟩| false=>rw [hil] at sq; exact ⟨λ Q h=>in_tupleAt f (sq.tuple g) hf (hr'.symm▸h s.toks),λ Q h=>notIn_tupleAt f (sq.tuple g) hf (hr'.symm▸h s.toks)⟩
theorem b3J (hu:A.units + 16 < cLine)(R:Rel B Pr ρ st.H s.heap) (op)(ra:VRel B (a0G Pr ρ st.H) ρ s.heap a x)(rb:VRel B (a0G Pr ρ st.H) ρ s.heap b y) :
 Sim B Pr A ρ st s (cmp op a b) (compareOp op x y) (λ _ _ _ r v=>v=.bool r):=λ r st' e=>by
 obtain ⟨e1,hs,rfl⟩:=e.cmp;clear e;intro Q k;have here:∀ t,Q (.bool r) { s with toks:=t }:=λ t=>k ρ _ _ ((e2s R).tok t) rfl;clear k;have hu6:A.units+6<cLine:=e1F (e1c (by decide) _) hu;have hu5:A.in1.units+5<cLine:=e1F (e1L (e2h A.units 5)) hu6;cases op with
 | Eq=>exact (a6t R 6 a b r x y A e1 ra rb hu6).rc prg B.w _ _ (here s.toks)| NotEq=>
   exact ocE e1 (λ q hb e=>c4n hb λ i j ea eb eq=>VRel.bytesE x (ea▸ra) λ b t zb eb'=>VRel.bytesE y (eb▸rb) λ c u zc ec'=>PySem.W.ne_bytes (by rw [bne,c1U,eb',ec',<- eq,sj e]; exact here _))
    λ _ e=>oE e λ q hq e=>c7f R (e1F (e1M _ _) hu) (λ a b r x y e ra rb=>a6t R 5 a b r x y A.in1 e ra rb hu5) hq ra rb prg B.w _ _ (sj e▸here _)
 | Lt=>exact b3P R 6 a b r x y A e1 ra rb hu6 prg B.w _ _ (here s.toks)| Gt=>exact b3n e1 λ i j ea eb er=>e2q x (ea▸ra) λ t=>e2q y (eb▸rb) λ u=>PyProof.Rows.gt_int ((er.trans (a0h j i))▸here _)| LtE=>exact b3n e1 λ i j ea eb er=>e2q x (ea▸ra) λ t=>e2q y (eb▸rb) λ u=>PyProof.Rows.le_int ((er.trans (b1g _ _))▸here _)| GtE=>exact b3n e1 λ i j ea eb er=>e2q x (ea▸ra) λ t=>e2q y (eb▸rb) λ u=>PyProof.Rows.ge_int ((er.trans (b1g _ _))▸here _)| Is=>show wpAny (Mo B.w) A (do return Value.bool (<- isSame x y)) _ E0 s;rw [b1v e1 ra rb];exact wpAny_bind (wpAny_pure (wpAny_pure (here _)))| IsNot=>refine oE e1 λ q h1 e=>?_;show wpAny (Mo B.w) A (do return Value.bool (!(<- isSame x y))) _ E0 s;rw [b1v h1 ra rb];exact wpAny_bind (wpAny_pure (wpAny_pure (sj e▸here _)))| In=>exact (c6b hu R ra rb e1).1 Q here| NotIn=>exact oE e1 λ q h1 e=>(c6b hu R ra rb h1).2 Q (sj e▸here)
end
end
section
open PySem PySem.Calls PyProof.Rows
open Sem (wp)
section
variable {prog:Program}{w:World}{A:Around}{E:Value->Shared->Prop}{s:Shared}
theorem a3b (p:IsPart v o){Q:Option Int->Shared->Prop}(h:Q o s):wpAny (model prog w) A (Builtin.Slice.slicePartIndex v) Q E s:=by
 cases p with
 | none=>exact slicePart_none h| int i t=>exact slicePart_int h
theorem a6l {lo hi st:Option Int}{Q:Int×Int×Nat->Shared->Prop}(hs:s.heap.IsSliceOf sl vl vu vs)(pl:IsPart vl lo)(pu:IsPart vu hi)(ps:IsPart vs st)(h0:(st.getD 1 == 0)=false)
 (h:Q ((Builtin.Slice.sliceAdjust lo hi (st.getD 1) n).1,st.getD 1,Builtin.Slice.slicePlaces (Builtin.Slice.sliceAdjust lo hi (st.getD 1) n).1 (Builtin.Slice.sliceAdjust lo hi (st.getD 1) n).2 (st.getD 1)) s) :
 wpAny (model prog w) A (Builtin.Slice.sliceApplied (.ref sl) (pure n)) Q E s:=by
 refine d7H (id hs) λ os hos hcs hds=>?_;unfold Builtin.Slice.sliceApplied Builtin.Slice.sliceFields;refine wpAny_bind (wpAny_bind (wpAny_field hos hds (x:=vl) rfl (wpAny_bind (wpAny_field hos hds (x:=vu) rfl (wpAny_bind (wpAny_field hos hds (x:=vs) rfl (wpAny_pure ?_)))))));refine wpAny_bind (a3b ps ?_);show wpAny _ _ (if (st.getD 1==0)=true then _ else _) _ _ s;rw [if_neg (by rw [h0]; exact e2P)];refine wpAny_bind (a3b pl (wpAny_bind (a3b pu (wpAny_bind (wpAny_pure ?_)))));exact wpAny_pure h
theorem a2I {t sl:Addr}{items:Array Value}{n:Nat}{vl vu vs:Value}{lo hi st:Option Int}{xs:List Value}{Q:Value->Shared->Prop}(ht:IsT s.heap t items n)(hs:s.heap.IsSliceOf sl vl vu vs)(pl:IsPart vl lo)(pu:IsPart vu hi)(ps:IsPart vs st)
 (h0:(st.getD 1==0)=false) (a b:Int) (hab:Builtin.Slice.sliceAdjust lo hi (st.getD 1) (items.size:Int)=(a,b)) (c:Nat) (hc:Builtin.Slice.slicePlaces a b (st.getD 1)=c)
 (hno:¬ ((a==0&&st.getD 1==1&&c==items.size)=true)) (hx:((e0f c).filterMap λ (k:Nat)=>items[(a+(k:Int) * st.getD 1).toNat]?)=xs) (hsz:xs.length<=sizeLine)
 (h:Q (.ref s.heap.objs.size) { s with heap:=s.heap.push { cls:=.type "tuple",data:=.seq xs.toArray } }):wpAny (model prog w) A (getItem (.ref t) (.ref sl)) Q E s:=by
 refine d7H (id hs) λ os hos hcs hds=>?_;have hTs:s.TypeIs (.ref sl) "slice" := ⟨os,hos,hcs⟩
 have hTt:s.TypeIs (.ref t) "tuple" := ⟨_,ht,rfl⟩
 have hIs:IsTup s.heap t items:=⟨_,ht,rfl,n,rfl⟩
 have hdrop:sizeOk (.seq xs.toArray):=by show xs.toArray.size<=sizeLine;rw [e1l]; exact hsz
 unfold getItem
 try with_reducible refine wpAny_holding ?_
 first | refine wpAny_bind (wpAny_pure ?_) | skip
 refine wpAny_bind (wpAny_sequenceKey hTt (by decide) ?_);refine wpAny_bind (wpAny_callSpecial?_slot (name:=Str.ofString "__getitem__") hTt slot_tuple_getitem
  (wpAny_call_entry slot_tuple_getitem hTt entry_tuple_getitem ?_ (args_tuple_getitem _ _)))
 show wpAny _ _ (Builtin.Tuple.tupleItemsOf (.ref t) >>= _) _ _ s;refine wpAny_bind (tupleItemsOf_ hIs ?_);refine wpAny_bind (wpAny_typeOf hTs ?_);rw [if_pos (by decide)];refine wpAny_bind (a6l hs pl pu ps h0 ?_);rw [hab];show wpAny _ _ (if (a==0&&st.getD 1==1&&Builtin.Slice.slicePlaces a b (st.getD 1)==items.size)=true then _ else _) _ _ s;rw [hc,if_neg hno,hx]
 first
  | exact wpAny_bind (m:=Builtin.Tuple.tupleExact _) (wpAny_newObj_type (wpAny_pure ⟨_,rfl,wpAny_pure h⟩) hdrop)
  | exact wpAny_bind (m:=Builtin.Tuple.tupleExact _) (wpAny_newObj_type (wpAny_bind (wpAny_pure (wpAny_pure ⟨_,rfl,wpAny_pure h⟩))) hdrop)
  | exact wpAny_bind (wpAny_bind (m:=Builtin.Tuple.tupleExact _) (wpAny_newObj_type (wpAny_pure (wpAny_pure ⟨_,rfl,wpAny_pure h⟩)) hdrop))
  | exact wpAny_bind (wpAny_bind (m:=Builtin.Tuple.tupleExact _) (wpAny_newObj_type (wpAny_pure ⟨_,rfl,wpAny_pure h⟩) hdrop))
end
theorem a8H (items:Array Value)(b:Nat):((e0f b).filterMap λ (k:Nat)=>items[((0:Int)+(k:Int) * 1).toNat]?)=items.toList.take b:=by have:=pick_run items 0 b;rw [List.filterMap_map] at this;rw [e2I] at this;rw [<- this];congr 1;funext k;simp [Function.comp]
theorem b0P (items:Array Value):((e0f items.size).filterMap λ (k:Nat)=>items[((items.size:Int)-1+(k:Int) * (-1)).toNat]?)=items.toList.reverse:=by have h1:=PySem.W.krv_all items;have h2:=PySem.W.krv_range items.size;rw [<- h1,<- List.filterMap_reverse,<- h2,List.filterMap_map];congr 1;funext k;simp only [Function.comp];congr 1;rw [Int.mul_neg_one,Int.sub_eq_add_neg,Int.add_assoc,<- Int.neg_add,<- Int.sub_eq_add_neg,show (1:Int)+(k:Int)=((1+k:Nat):Int) from (Int.natCast_add 1 k).symm,Int.toNat_sub,Nat.sub_add_eq]
section
variable {B:Base}{Pr:Addr->Prop}{A:Around}{ρ:List Addr}{st:St}{s:Shared}
def OptV (B:Base)(mt:Addr->Prop)(ρ:List Addr)(h:Heap)(o:Option PV)(x:Value):Prop:=(o=none->x=.none) /\ ∀ v,o=some v->VRel B mt ρ h v x
theorem c5n {v:PV}{n:Nat}(e:d6e v=some n):v=.int (.ofNat n):=oE e λ i h e=>a1Q e▸a0c h
theorem a2l {α:Type}{o:Option α}(e:b5c o=true):o=none:=by
 cases o with
 | none=>rfl| some=>exact nx2 e
theorem b5I {mt:Addr->Prop}(e:c7k d n o=some k)(r:OptV B mt ρ h o x):∃ io,IsPart x io/\k=io.elim d (clipAt n):=
 ocE e (λ v hv e=>oE e λ j hj e=>e2q x (c5n hj▸r.2 v hv) λ t=>⟨_,.int _ _,(sj e).symm.trans (by show min j n=clipAt n (j:Int); rw [clipAt_nat])⟩)
  λ hn e=>⟨none,r.1 hn▸.none,(sj e).symm⟩
theorem c6a {α:Type}{mt:Addr->Prop}{l r:List α}{lo hi:Option PV}(e:d3F l lo hi=some r)(rl:OptV B mt ρ h lo x)(ru:OptV B mt ρ h hi y){G:Prop}
 (k:∀ io jo p q,IsPart x io->IsPart y jo->p=io.elim 0 (clipAt l.length)->q=jo.elim l.length (clipAt l.length)->(l.drop p).take (q-p)=r->G):G:=
 oE e λ p hp e=>oE e λ q hq e=>(b5I hp rl).elim λ io z=>(b5I hq ru).elim λ jo w=>k io jo p q z.1 w.1 z.2 w.2 (sj e)
theorem c0c (R:Rel B Pr ρ st.H s.heap)(ra:VRel B (a0G Pr ρ st.H) ρ s.heap a x)(hs:s.heap.IsSliceOf sl vl vu vs){l r:List PV}(hl:a1v st.H a=some l)
 (hrl:r.length<=sizeLine) (io jo ko) (p1:IsPart vl io) (p2:IsPart vu jo) (p3:IsPart vs ko) (h0:ko≠some 0)
 (hp:∀ xs,VRels B (a0G Pr ρ st.H) ρ s.heap l xs->∃ ys:List Value,slicePick xs.toArray io jo ko=ys.toArray/\VRels B (a0G Pr ρ st.H) ρ s.heap r ys) :
 a9N B Pr A ρ st.H s (getItem x (.ref sl)) (VRel B) (.loc st.H.length) (st.H++[.list r]):=
 a0r R x ra hl λ ad xs n g hz rs Q k=>(hp xs rs).elim λ ys z=>wpAny_getItem_list_slice ⟨_,g,rfl,n,rfl⟩ hs p1 p2 p3 h0 (z.1▸a7I R z.2 hrl 0 s.toks k) hz
theorem c3x (R:Rel B Pr ρ st.H s.heap){lo hi:Option PV}(ra:VRel B (a0G Pr ρ st.H) ρ s.heap a x)
 (rl:OptV B (a0G Pr ρ st.H) ρ s.heap lo vl) (ru:OptV B (a0G Pr ρ st.H) ρ s.heap hi vu) (hs:s.heap.IsSliceOf sl vl vu .none) (hl:a1v st.H a=some l) (e:d3F l lo hi=some r) (hz:r.length<=sizeLine) :
 a9N B Pr A ρ st.H s (getItem x (.ref sl)) (VRel B) (.loc st.H.length) (st.H++[.list r]):=
 c6a e rl ru λ io jo p q p1 p2 k1 k2 f1=>c0c (r:=r) R ra hs hl hz io jo none p1 p2 .none nofun λ xs rxs=>⟨(xs.drop p).take (q-p),by rw [slicePick_plain];rw [rxs.len] at k1 k2;simp only [e1l];rw [<- k1,<- k2],f1▸(rxs.drop p).take _⟩
theorem c3y (R:Rel B Pr ρ st.H s.heap){lo hi:Option PV}(ra:VRel B (a0G Pr ρ st.H) ρ s.heap (.bytes l) x)
 (rl:OptV B (a0G Pr ρ st.H) ρ s.heap lo vl) (ru:OptV B (a0G Pr ρ st.H) ρ s.heap hi vu) (hs:s.heap.IsSliceOf sl vl vu .none) (f1:d3F l lo hi=some r) :
 a9N B Pr A ρ st.H s (getItem x (.ref sl)) (VRel B) (.bytes r) st.H:=
 ra.bytesE x λ b t hz eb=>c6a f1 rl ru λ io jo p q p1 p2 k1 k2 f1 Q k=>by
  have hlen:l.length=b.size:=by rw [<- eb]; simp
  have hz':=e0l (PySem.W.KBc.size_picked_le b io jo) hz;refine getItem_meets (PySem.W.typeIs_bytes s b t) (by decide) PySem.W.FB.slot_bytes_getitem PySem.W.FB.entry_bytes_getitem (PySem.W.FB.args_bytes_getitem_2 _ _) (PySem.W.KBc.meets_slice2 b t _ p1 p2)
   ⟨hs,hz',λ t' _=>k ρ _ _ ((e2s R).tok _) (.bytes _ _ _ hz' ?_)⟩
  rw [PySem.W.KBc.picked_eq,<- f1,k1,k2,hlen,<- eb,List.map_take,List.map_drop]
theorem c3s {n b:Nat}(h:b<n):Builtin.Slice.sliceAdjust none (some (Int.ofNat b)) 1 (n:Int)=(0,(b:Int)):=by
 simp only [Builtin.Slice.sliceAdjust];have n1:¬ ((1:Int)<0):=by decide
 have n2:¬ ((b:Int)<0):=e1x.mpr (e1N b);simp only [n1,if_false,e1u,n2];exact congrArg _ (Int.min_eq_left (Int.ofNat_le.mpr (e1d h)))
theorem b3o (b:Nat):Builtin.Slice.slicePlaces 0 (b:Int) 1=b:=by
 simp only [Builtin.Slice.slicePlaces];have n1:(1:Int)>0:=by decide
 simp only [n1,if_true,Int.ediv_one];split <;> lia
theorem d2a (R:Rel B Pr ρ st.H s.heap){lo hi:Option PV}(ra:VRel B (a0G Pr ρ st.H) ρ s.heap (.tup l) x)
 (rl:OptV B (a0G Pr ρ st.H) ρ s.heap lo vl) (ru:OptV B (a0G Pr ρ st.H) ρ s.heap hi vu) (hs:s.heap.IsSliceOf sl vl vu .none) (f1:d2X l lo hi=some r) :
 a9N B Pr A ρ st.H s (getItem x (.ref sl)) (VRel B) (.tup r) st.H:=
 gE f1 λ hlo e=>oE e λ v hv e=>oE e λ b hb e=>gE e λ hlt e=>by
  rw [rl.1 (a2l hlo)] at hs;revert hs;refine e2q vu (c5n hb▸ru.2 v hv) λ u hs=>ra.tupE x λ t o xs nt g sq rxs Q k=>sq.eq.elim λ n zo=>?_;have hlt:=e1B.mp hlt;have hlen:=rxs.len;have hz:(l.take b).length<=sizeLine:=e0l (List.length_take_le' ..) (hlen▸sq.size);rw [hlen] at hlt;refine a2I (xs:=xs.take b) (zo▸g) hs .none (.int _ u) .none rfl 0 (b:Int) (c3s hlt) b (b3o b) ?_ (a8H xs.toArray b) ((rxs.take b).len▸hz) ?_
  · simp only [e1h,beq_iff_eq,e1l];exact λ h=>absurd h.2 (e1q hlt)
  · exact k ρ _ _ ((e2s R).more s.toks λ b o e=>Heap.get?_push_of_some _ e) (sj e▸VRel.newTup R 0 (rxs.take b) hz)
theorem b6m (n:Nat):Builtin.Slice.slicePlaces ((n:Int)-1) (-1) (Int.negSucc 0)=n:=by
 simp only [Builtin.Slice.slicePlaces];have n1:¬ ((Int.negSucc 0:Int)>0):=by decide
 have n2:-Int.negSucc 0=1:=by decide
 simp only [n1,if_false,n2,Int.ediv_one];split <;> lia
theorem c8p (R:Rel B Pr ρ st.H s.heap)(ra:VRel B (a0G Pr ρ st.H) ρ s.heap (.tup l) x)(hs:s.heap.IsSliceOf sl .none .none (.int (.negSucc 0) u3)) :
 a9N B Pr A ρ st.H s (getItem x (.ref sl)) (VRel B) (.tup l.reverse) st.H:=
 ra.tupE x λ t o xs nt g sq rxs Q k=>sq.eq.elim λ n zo=>by
  have hz:xs.reverse.length<=sizeLine:=by rw [List.length_reverse]; exact sq.size
  refine a2I (xs:=xs.reverse) (zo▸g) hs .none .none (.int _ u3) rfl ((xs.length:Int)-1) (-1) (by simp [Builtin.Slice.sliceAdjust]) xs.length (b6m _) (by simp) (b0P xs.toArray) hz ?_;exact k ρ _ _ ((e2s R).more s.toks λ b o e=>Heap.get?_push_of_some _ e) (VRel.newTup R 0 rxs.rev (rxs.rev.len▸hz))
theorem c6F {i:Int}(h:d6p i=true):i=.negSucc 0:=by
 cases i with
 | ofNat=>exact nx2 h| negSucc n=>cases n with
   | zero=>rfl| succ=>exact nx2 h
theorem b1A (R:Rel B Pr ρ st.H s.heap){lo hi sp:Option PV}(ra:VRel B (a0G Pr ρ st.H) ρ s.heap a x)
 (rl:OptV B (a0G Pr ρ st.H) ρ s.heap lo vl) (ru:OptV B (a0G Pr ρ st.H) ρ s.heap hi vu) (rs:OptV B (a0G Pr ρ st.H) ρ s.heap sp vs) (hs:s.heap.IsSliceOf sl vl vu vs) :
 Sim B Pr A ρ st s (a6b a lo hi sp) (getItem x (.ref sl)) (VRel B):=
 .up λ v H n e=>ocE e (λ w hw e=>oE e λ i hi' e=>gE e λ hc e=>by have hc2:=a0A (a0A hc).2;rw [rl.1 (a2l hc2.1),ru.1 (a2l hc2.2)] at hs;revert hs;refine e2q vs (c6F (a0A hc).1▸a0c hi'▸rs.2 w hw) λ u hs=>?_;exact ocE e (λ l hl e=>tE v H n e λ _=>c8p R (a1s hl▸ra) hs) λ _ e=>oE e λ l hl e=>tE v H n e λ hz=>c0c (r:=l.reverse) R ra hs hl hz none none (some (-1)) .none .none (.int _ u) nofun λ xs rxs=>⟨xs.reverse,by rw [PySem.W.krv_pick],rxs.rev⟩)
  λ hn e=>by
   rw [rs.1 hn] at hs;exact ocE e (λ l hl e=>oE e λ r hr e=>tE v H n e λ _=>c3y R (a3P hl▸ra) rl ru hs hr) λ _ e=>
    ocE e (λ l hl e=>oE e λ r hr e=>tE v H n e λ _=>d2a R (a1s hl▸ra) rl ru hs hr) λ _ e=>
    oE e λ l hl e=>oE e λ r hr e=>tE v H n e λ hz=>c3x R ra rl ru hs hl hr hz
end
structure ClsOK (B:Base)(k:Nat):Prop where
 ok:∃ N mN,ClsAt B.hB (B.adr k) N mN /\ mN "__getattribute__" = none /\ mN "__getattr__" = none /\ mN "__setattr__" = none /\ (∀ x,a4a k x=true->mN x=none) /\
  (∀ x j,a8c k x=some j->mN x=some (.ref (B.adr j)) /\ ∃ o,B.hB.get? (B.adr j)=some o/\o.cls=.type "function")
theorem b8d (h:sEq f x=false):(x==f)=false:=beq_eq_false_iff_ne.mpr λ z=>nx2 (h.symm.trans (a0w.mpr z.symm))
theorem a8j {mt:Addr->Prop}:∀ {fs:List Str}{vs:List PV},NRel B mt ρ h fs vs l->a9s fs vs x=some v->∃ y,l.lookup x=some y/\VRel B mt ρ h v y:=by
 induction l with
 | nil=>intro fs vs r e;rw [r.nilE.2] at e;exact nx0 e| cons p l ih=>intro fs vs r e;refine r.consE λ w vs' fs' e1 e2 ry rs=>?_;rw [e1,e2,a8k] at e;exact bcE e (λ hf e=>⟨p.2,by rw [<- a0w.mp hf,e0x,beq_self_eq_true],sj e▸ry⟩) λ hf e=>(ih rs e).imp λ y q=>⟨by rw [e0x,b8d hf]; exact q.1,q.2⟩
theorem b6v {mt:Addr->Prop}:∀ {fs:List Str}{vs:List PV},NRel B mt ρ h fs vs l->a9s fs vs x=none->l.lookup x=none:=by
 induction l with
 | nil=>exact fun {fs vs} r e=>rfl| cons p l ih=>intro fs vs r e;refine r.consE λ w vs' fs' e1 e2 ry rs=>?_;rw [e1,e2,a8k] at e;exact bcE e (λ hf e=>nx1 e) λ hf e=>by rw [e0x,b8d hf]; exact ih rs e
theorem NRel.keys {mt:Addr->Prop}(r:NRel B mt ρ h fs vs l) (y)(hy:l.lookup y≠none):y∈fs:=by
 rw [<- r.2];clear r;induction l with
 | nil=>exact absurd rfl hy| cons p l ih=>
   rw [e0x] at hy;cases hf:y==p.1 with
   | true=>rw [eq_of_beq hf]; exact e0X| false=>rw [hf] at hy; exact e0Z _ (ih hy)
theorem NRel.set {mt:Addr->Prop} (x)(rv:VRel B mt ρ h v y):∀ {fs:List Str}{vs:List PV},NRel B mt ρ h fs vs l ->
 ∃ l',NRel B mt ρ h (b2q fs vs x v).1 (b2q fs vs x v).2 l'/\(∀ z,l'.lookup z=if z=x then some y else l.lookup z)/\fs.length<=(b2q fs vs x v).1.length:=by
 induction l with
 | nil=>
   intro fs vs r;rw [r.nilE.1,r.nilE.2];refine ⟨[(x,y)],NRel.cons x v [] [] y [] rv .nil,λ z=>?_,e0q _⟩;rw [e0x];by_cases hz:z=x
   · rw [if_pos hz,hz,beq_self_eq_true]
   · rw [if_neg hz,beq_eq_false_iff_ne.mpr hz]
 | cons p l ih=>
   intro fs vs r;refine r.consE λ w vs' fs' e1 e2 ry rs=>?_;rw [e1,e2,b8X];cases hf:sEq p.1 x with
   | true=>
     have hf:=a0w.mp hf;refine ⟨(p.1,y)::l,.cons _ _ _ _ _ _ rv rs,λ z=>?_,e0i _⟩;rw [e0x,e0x,<- hf];by_cases hz:z=p.1
     · rw [if_pos hz,hz,beq_self_eq_true]
     · rw [if_neg hz,beq_eq_false_iff_ne.mpr hz]
   | false=>
     refine (ih rs).elim λ l' q=>⟨(p.1,p.2)::l',.cons _ _ _ _ _ _ ry q.1,λ z=>?_,e2H q.2.2⟩
     rw [e0x,e0x,q.2.1];cases hz:z==p.1 with
     | true=>have hne:¬ z=x:=λ w=>nx2 ((b8d hf).symm.trans (w▸hz));exact (if_neg hne).symm| false=>rfl
theorem a5h:∀ {a b:List Nat},a6y a b=1->a=b
 | [],[],_=>rfl| [],_::_,h=>e2G h| _::_,[],h=>e2G (Nat.succ.inj h)| a::as,b::bs,h=>bcE h (λ hb h=>by rw [e0r hb,a5h h]) λ _ h=>bcE h (λ _ h=>e2G h) λ _ h=>e2G (Nat.succ.inj h)
noncomputable def GT.names:GT->List (List Nat)
 | .leaf=>[]
 | .node k _ l r=>k::(l.names++r.names)
noncomputable def GT.rows:GT->List (List Nat×PV)
 | .leaf=>[]
 | .node k v l r=>(k,v)::(l.rows++r.rows)
theorem GT.at_mem:∀ {t:GT}{x:List Nat}{v:PV},t.at x=some v->(x,v)∈t.rows
 | .leaf,x,v,h=>by exact nx0 h
 | .node k w l r,x,v,h=>by
   dsimp only [GT.at] at h;cases hc:a6y x k with
   | zero=>rw [hc] at h; exact e0Z _ (e1R _ (GT.at_mem h))| succ n=>
     rw [hc] at h;cases n with
     | zero=>rw [a5h hc,<- sj h]; exact e0X| succ n=>exact e0Z _ (e1i _ (GT.at_mem h))
theorem a8K:(d3M.rows.all λ p=>oc (builtinLookup "object" (S p.1)) b5c false)=true:=by decide +kernel
theorem d3X (x:Str):S x.cps.toList=x:=by obtain ⟨⟨l⟩⟩:=x; rfl
theorem b5Z {α:Type}{o:Option α}(h:a5j o=true):∃ v,o=some v:=by
 cases o with
 | none=>exact nx2 h| some v=>exact ⟨v,rfl⟩
theorem a3p (h:a4a c x=true):typeLookup (.type "object") x=pure none:=by refine (b5Z (a0A (a0A h).2).1).elim λ v e=>?_;have:=e0w.mp a8K _ (GT.at_mem e);simp only [d3X] at this;rw [typeLookup_type];exact anE this λ o ho h=>by rw [ho,a2l h]
section
variable {B:Base}{Pr:Addr->Prop}{A:Around}{ρ:List Addr}{H:List PO}{st:St}{s:Shared}
theorem ClsAt.of (R:Rel B Pr ρ H h)(X:ClsAt B.hB C N mN):ClsAt h C N mN:=by obtain ⟨nm,q,bs,sn,sub,col,dd,k0,k1,k2,k3,k5,e⟩:=X.obj;exact ⟨⟨nm,q,bs,sn,sub,col,dd,k0,k1,k2,k3,k5,R.old e (λ vs x=>by simp [excClassObj] at x)⟩,R.oldNs X.ns⟩
structure InstV (B:Base)(mt:Addr->Prop)(ρ:List Addr)(h:Heap)(c:Nat)(fs:List Str)(vs:List PV)(x:Value):Prop where
 ok:∃ a o da l,x=.ref a/\h.get? a=some o/\o.cls=.ref (B.adr c)/\(∀ cd,o.data≠.cls cd)/\o.dict=some da/\da≠a/\h.Ns1 da (λ z=>l.lookup z)/\NRel B mt ρ h fs vs l
theorem c0M {mt:Addr->Prop}(r:VRel B mt ρ h (.ins c fs vs) x):InstV B mt ρ h c fs vs x:=
 r.insE x λ a d o l nm nd g hc hd hn hne ns r=>⟨a,o,d,l,rfl,g,hc,hn,hd,hne,ns,r⟩
theorem a4b {i:Nat}(e:a4S H i=some q):H[i]?=some (.inst q.1 q.2.1)/\H[q.2.1]?=some (.ns q.2.2.1 q.2.2.2):=
 oE e λ o ho e=>oE e λ p hp e=>oE e λ o2 ho2 e=>oE e λ r hr e=>sj e▸⟨(a1d H i).symm.trans (ho.trans (congrArg some (b6L hp))),(a1d H p.2).symm.trans (ho2.trans (congrArg some (b6K hr)))⟩
theorem a5C (R:Rel B Pr ρ H h){i:Nat}(hi:ρ[i]?=some a)(e:a4S H i=some q) :
 ∃ o da l,h.get? a=some o/\o.cls=.ref (B.adr q.1)/\(∀ cd,o.data≠.cls cd)/\o.dict=some da/\ρ[q.2.1]?=some da/\da≠a/\h.Ns1 da (λ z=>l.lookup z)/\NRel B (a0G Pr ρ H) ρ h q.2.2.1 q.2.2.2 l:=
 have z:=a4b e
 (R.loc hi z.1).elim λ da r=>r.elim λ o r=>(R.loc r.2.2.1 z.2).elim λ l w=>
   ⟨o,da,l,r.1,r.2.1,r.2.2.2.2,r.2.2.2.1,r.2.2.1,(λ k=>nomatch (sj (z.1.symm.trans ((congrArg (λ j=>H[j]?) (R.inj hi (k▸r.2.2.1))).trans z.2)))),w.1,w.2⟩
theorem c0N {G:Prop}(R:Rel B Pr ρ H h){i:Nat}(hi:ρ[i]?=some a)(e:a4S H i=some q)
 (k:∀ o da l,h.get? a=some o->o.cls=.ref (B.adr q.1)->(∀ cd,o.data≠.cls cd)->o.dict=some da->ρ[q.2.1]?=some da->da≠a->h.Ns1 da (λ z=>l.lookup z)->NRel B (a0G Pr ρ H) ρ h q.2.2.1 q.2.2.2 l->G):G:=
 (a5C R hi e).elim λ o z=>z.elim λ da z=>z.elim λ l z=>k o da l z.1 z.2.1 z.2.2.1 z.2.2.2.1 z.2.2.2.2.1 z.2.2.2.2.2.1 z.2.2.2.2.2.2.1 z.2.2.2.2.2.2.2
theorem ClsAt.objE {G:Prop}(X:ClsAt h C N mN)(k:∀ nm q bs sn sub col dd k0 k1 k2 k3 k5,h.get? C=some (excClassObj nm q C N bs [.type "object"] true sn sub false col dd k0 k1 k2 k3 k5 "object.__new__")->G):G:=by obtain ⟨nm,q,bs,sn,sub,col,dd,k0,k1,k2,k3,k5,e⟩:=X.obj;exact k nm q bs sn sub col dd k0 k1 k2 k3 k5 e
theorem ClsOK.E {G:Prop}(X:ClsOK B k)(f:∀ N mN,ClsAt B.hB (B.adr k) N mN->mN "__getattribute__" = none->mN "__getattr__" = none->mN "__setattr__" = none->(∀ x,a4a k x=true->mN x=none) ->
 (∀ x j,a8c k x=some j->mN x=some (.ref (B.adr j)) /\ ∃ o,B.hB.get? (B.adr j)=some o/\o.cls=.type "function")->G):G:=
 X.ok.elim λ N z=>z.elim λ mN z=>f N mN z.1 z.2.1 z.2.2.1 z.2.2.2.1 z.2.2.2.2.1 z.2.2.2.2.2
theorem c3n (R:Rel B Pr ρ H h){i:Nat}(r:VRel B (a0G Pr ρ H) ρ h (.loc i) x)(e:a4S H i=some q):InstV B (a0G Pr ρ H) ρ h q.1 q.2.2.1 q.2.2.2 x:=
 r.locE x λ a hi=>(a5C R hi e).elim λ o z=>z.elim λ da z=>z.elim λ l z=>⟨a,o,da,l,rfl,z.1,z.2.1,z.2.2.1,z.2.2.2.1,z.2.2.2.2.2.1,z.2.2.2.2.2.2.1,z.2.2.2.2.2.2.2⟩
theorem b2B (R:Rel B Pr ρ H h)(r:VRel B (a0G Pr ρ H) ρ h a x)(e:c3o H a=some q):InstV B (a0G Pr ρ H) ρ h q.1 q.2.1 q.2.2 x:=by
 cases a with
 | ins c fs vs=>exact sj e▸c0M r| loc i=>exact oE e λ p hp e=>sj e▸c3n R r hp| _=>exact nx0 e
theorem InstV.inst {mt:Addr->Prop}(I:InstV B mt ρ h c fs vs x):∃ a l,x=.ref a/\h.Inst a (B.adr c) (λ z=>l.lookup z)/\NRel B mt ρ h fs vs l:=
 I.ok.elim λ a z=>z.elim λ o z=>z.elim λ da z=>z.elim λ l z=>⟨a,l,z.1,⟨o,z.2.1,z.2.2.1,z.2.2.2.1,.inr ⟨da,z.2.2.2.2.1,z.2.2.2.2.2.1,z.2.2.2.2.2.2.1⟩⟩,z.2.2.2.2.2.2.2⟩
@[elab_as_elim] theorem InstV.E {G:Value->Prop}{h:Heap}{mt:Addr->Prop}{c:Nat}{fs:List Str}{vs:List PV}(x:Value)(I:InstV B mt ρ h c fs vs x)(k:∀ a l,h.Inst a (B.adr c) (λ z=>l.lookup z)->NRel B mt ρ h fs vs l->G (.ref a)):G x:=
  I.inst.elim λ a z=>z.elim λ l z=>z.1▸k a l z.2.1 z.2.2
def b6R (B:Base):Prop:=∀ k,a2E k a2J=true->ClsOK B k
theorem a7P (h:a4a c x=true):a2E c a2J=true:=(a0A h).1
theorem b0H {mt:Addr->Prop}(r:VRel B mt ρ h v x)(hb:(!d2N v)=true):handedOut x=pure x:=by
 cases v with
 | blt=>exact nx2 hb| none=>exact r.noneE x rfl| bool=>exact r.boolE x rfl| int=>exact r.intE x λ _=>rfl| str=>exact r.strE x λ _=>rfl| bytes=>exact r.bytesE x λ _ _ _ _=>rfl| typ=>exact r.typE x rfl| gl=>exact r.glE x rfl| loc=>exact r.locE x λ _ _=>rfl| tup=>exact r.tupE x λ _ _ _ _ _ _ _=>rfl| lst=>exact r.lstE x λ _ _ _ _ _ _ _=>rfl| dct=>exact r.dctE x λ _ _ _ _ _ _ _ _ _ _=>rfl| ins=>exact r.insE x λ _ _ _ _ _ _ _ _ _ _ _ _ _=>rfl
theorem b3I (K:b6R B)(R:Rel B Pr ρ st.H s.heap) (name)(ra:VRel B (a0G Pr ρ st.H) ρ s.heap a x) :
 Sim B Pr A ρ st s (b5k a name) (getAttr x name true) (VRel B):=
 .rd λ v e=>oE e λ q hq e=>gE e λ hf e=>oE e λ w hw e=>gE e λ hb e=>by
  rw [<- sj e];exact (b2B R ra hq).E x λ p l hI rl=>(a8j rl hw).elim λ y h12=>(K _ (a7P hf)).E λ N mN X k1 k2 k3 k4 k5=>ClsAt.objE (ClsAt.of R X) λ nm q bs sn sub col dd c0 c1 c2 c3 c5 eC Q k=>
   load_attr (d:=s.drawn) eC (ClsAt.of R X).ns k1 (k4 name hf) (a3p hf) hI h12.1 (b0H h12.2 hb) (VRel.fin R h12.2 k _)
theorem Carry.upd2 (R:Rel B Pr ρ H s.heap){i j:Nat}{h':Heap}(hi:ρ[i]?=some a)(ho:H[i]?=some o)(hl:o.live=true)(hj:ρ[j]?=some a2)(ho2:H[j]?=some o2)(hl2:o2.live=true)
 (k:∀ b o,b≠a->b≠a2->s.heap.get? b=some o->h'.get? b=some o):Carry (a0G Pr ρ H) (a0G Pr ρ (H.set i P')) ρ ρ s.heap h':=
 ⟨λ c q n e _=>⟨k c q (λ z=>n (.inr ⟨i,o,z▸hi,ho,hl⟩)) (λ z=>n (.inr ⟨j,o2,z▸hj,ho2,hl2⟩)) e,λ m=>n (a8b R.nodup hi ho (λ _=>hl) m)⟩,λ _ _ e=>e⟩
theorem Went.upd2 (R:Rel B Pr ρ H s.heap){i j:Nat}{h':Heap} (t)(hi:ρ[i]?=some a)(ho:H[i]?=some o)(hl:o.live=true)(hj:ρ[j]?=some a2)(ho2:H[j]?=some o2)(hl2:o2.live=true)(hij:j ≠ i)
 (k:∀ b o,b≠a->b≠a2->s.heap.get? b=some o->h'.get? b=some o) (hr:Real B (a0G Pr ρ (H.set i P')) ρ h' P' a) (hr2:Real B (a0G Pr ρ (H.set i P')) ρ h' o2 a2):Went B Pr ρ H s ρ (H.set i P') { s with heap:=h',toks:=t } where
 same:=⟨_,_,rfl⟩
 ext:=⟨[],by simp,by simp⟩
 rel:={
  base:=R.base.ext λ b o _ e q=>k b o (λ z=>by rw [z,(R.away a (e0s hi)).2] at q; cases q) (λ z=>by rw [z,(R.away a2 (e0s hj)).2] at q; cases q) e
  len:=by rw [e1W]; exact R.len
  nodup:=R.nodup
  prl:=λ b p=>let ⟨⟨o,e⟩,n⟩:=R.prl b p; ⟨⟨o,k _ _ (λ z=>(R.away a (e0s hi)).1 (z▸p)) (λ z=>(R.away a2 (e0s hj)).1 (z▸p)) e⟩,n⟩
  away:=R.away
  tabs:=R.tabs.mono (ρ:=ρ) (ρ':=ρ) ⟨λ c q n e _=>⟨k c q (λ z=>n (.inr ⟨i,o,z▸hi,ho,hl⟩)) (λ z=>n (.inr ⟨j,o2,z▸hj,ho2,hl2⟩)) e,λ m=>n (a8b R.nodup hi ho (λ _=>hl) m)⟩,λ _ _ e=>e⟩
   λ P q o' b e=>k P q (λ z=>by rw [z,(R.away a (e0s hi)).2] at b; cases b) (λ z=>by rw [z,(R.away a2 (e0s hj)).2] at b; cases b) e
  real:=λ m p b e1 e2=>by
   by_cases hm:i=m
   · subst hm;rw [hi] at e2;obtain rfl:=Option.some.inj e2;rw [List.getElem?_set_self (a0Q ho)] at e1;obtain rfl:=Option.some.inj e1;exact hr
   · rw [List.getElem?_set_ne hm] at e1;by_cases hm2:j=m
     · subst hm2;rw [hj] at e2;obtain rfl:=Option.some.inj e2;rw [ho2] at e1;obtain rfl:=Option.some.inj e1;exact hr2
     · have hb:b≠a:=λ z=>hm (R.inj hi (z▸e2));have hb2:b≠a2:=λ z=>hm2 (R.inj hj (z▸e2));refine (R.real m p b e1 e2).mono ⟨λ c q n e _=>?_,λ _ _ e=>e⟩ λ ob e=>k _ _ hb hb2 e;refine ⟨k c q (λ z=>n (.inr ⟨i,o,z▸hi,ho,hl⟩)) (λ z=>n (.inr ⟨j,o2,z▸hj,ho2,hl2⟩)) e,λ m=>n ?_⟩;exact a8b R.nodup hi ho (λ _=>hl) m }
 keep:=λ b q n e=>.inl (k b q (λ z=>n ⟨i,o,z▸hi,ho,hl⟩) (λ z=>n ⟨j,o2,z▸hj,ho2,hl2⟩) e)
 live:=λ m q hm e l=>by
  by_cases him:i=m
  · subst him; exact ⟨o,ho,hl⟩
  · rw [List.getElem?_set_ne him] at e; exact ⟨q,e,l⟩
theorem b3E (K:b6R B)(R:Rel B Pr ρ st.H s.heap) (name)(ra:VRel B (a0G Pr ρ st.H) ρ s.heap a x)(rv:VRel B (a0G Pr ρ st.H) ρ s.heap v y) :
 Sim B Pr A ρ st s (b4t a name v) (setAttr x name y) (λ _ _ _ _ _=>True):=
 .up λ u H' n' e hn=>oE e λ i hi e=>oE e λ q hat e=>gE e λ hf e=>VRel.locE x (a2c hi▸ra) λ p hp=>by
  revert hn;refine tE u H' n' e λ hn Q kk=>?_;refine c0N R hp hat λ o da l g hc hno hdd hd hne ns rl=>(K q.1 (a7P hf)).E λ N mN X k1 k2 k3 k4 k5=>ClsAt.objE (ClsAt.of R X) λ nm q' bs sn sub col dd c0 c1 c2 c3 c5 eC=>?_;have i12:=a4b hat;have hI:s.heap.Inst p (B.adr q.1) (λ z=>l.lookup z):=⟨o,g,hc,hno,.inr ⟨da,hdd,hne,ns⟩⟩
  have hxC:p≠B.adr q.1:=λ z=>ClsAt.objE X λ _ _ _ _ _ _ _ _ _ _ _ _ e0=>nx1 (e0.symm.trans (z▸(R.away p (e0s hp)).2));refine (NRel.set (v:=v) name rv rl).elim λ l' r=>?_;refine store_attr (ns:=q.2.2.1) (d:=s.drawn) PySem.F.store_object eC (ClsAt.of R X).ns k3 (k4 name hf) (a3p hf) hxC hI (λ h' tk' I' hk hsame=>?_) (λ z hz=>rl.keys z hz) (e0l r.2.2 hn);obtain ⟨o1,g1,e1,e2,e3,e4⟩:=hsame o g;have hdi:q.2.1≠i:=λ z=>nomatch (sj (i12.1.symm.trans ((congrArg (λ j=>st.H[j]?) z.symm).trans i12.2)));have hk':∀ b ob,b≠da->b≠p->s.heap.get? b=some ob->h'.get? b=some ob:=λ b ob n1 n2 e=>hk b ob n2 (λ o0 dx e0 e5=>sj (hdd.symm.trans ((congrArg Obj.dict (sj (g.symm.trans e0))).trans e5))▸n1) e;refine kk ρ _ _ (Went.upd2 (P':=.ns (b2q q.2.2.1 q.2.2.2 name v).1 (b2q q.2.2.1 q.2.2.2 name v).2) R tk' hd i12.2 rfl hp i12.1 rfl (λ z=>hdi z.symm) hk' ?_ ⟨da,o1,g1,e1▸hc,hd,e4 da hdd,e2▸hno⟩) trivial;obtain ⟨o2,g2,c2',n2,hd2⟩:=I';obtain rfl:=sj (g1.symm.trans g2);rcases hd2 with ⟨hnone,_⟩ | ⟨dx,h1,h2,h3⟩
  · exact nx1 ((e4 da hdd).symm.trans hnone)
  · obtain rfl:=sj ((e4 da hdd).symm.trans h1);exact ⟨l',(funext r.2.1:(λ z=>l'.lookup z)=_)▸h3,r.1.mono (Carry.upd2 R hd i12.2 rfl hp i12.1 rfl hk')⟩
end
theorem a1k {α:Type}:∀ (l:List (Str×α))(x:Str),a1H l x=l.lookup x
 | [],_=>rfl| (k,v)::r,x=>by
   dsimp only [a1H];rw [e0x];cases h:sEq k x with
   | true=>rw [a0w] at h; subst h; simp| false=>
     have hne:x≠k:=λ z=>by rw [a0w.mpr z.symm] at h; exact nx3 h
     rw [beq_eq_false_iff_ne.mpr hne];exact a1k r x
def b6Q (B:Base):Prop:=∃ mg mb,B.hB.Ns B.gA mg /\ B.hB.Ns B.bA mb /\
 ∀ x v,a5m.at x.cps.toList=some v->(∃ y,mg x=some y/\VRel B Mt0 [] B.hB v y)\/(mg x=none /\ ∃ y,mb x=some y/\VRel B Mt0 [] B.hB v y)
theorem c4a {x:Str}(h:a0q x.cps.toList b1G=false):(x==("__debug__" : Str))=false:=by rw [beq_eq_false_iff_ne];intro e;subst e;revert h;decide +kernel
section
variable {B:Base}{Pr:Addr->Prop}{A:Around}{ρ:List Addr}{H:List PO}{st:St}{s:Shared}
theorem a1I {i:Nat}(e:c0i H i=some p):H[i]?=some (.fr p.1 p.2):=oE e λ o ho e=>(a1d H i).symm.trans (ho.trans (congrArg some (d3P e)))
theorem b4J {i:Nat}(e:c6e H i=some v):H[i]?=some (.cell (some v)):=oE e λ c hc e=>oE hc λ o ho hc=>ho.trans (congrArg some ((b6N hc).trans (congrArg PO.cell e)))
theorem c9a (R:Rel B Pr ρ H h){i:Nat}(hi:ρ[i]?=some a)(e:H[i]?=some (.cell (some v))):∃ y,h.IsCell a (some y)/\VRel B (a0G Pr ρ H) ρ h v y:=by
 refine (R.loc hi e).elim λ x r=>?_;cases x with
 | none=>exact r.2.elim| some y=>exact ⟨y,r⟩
theorem EnvOK.hk (x:EnvOK B ae env ρ):env.scope.kind=.function:=by rw [x.sc]; exact x.kind
theorem EnvOK.kindOf (x:EnvOK B ae env ρ) (n):env.kindOf n=a1H ae.sc.names n:=by rw [a1k,Env.kindOf,x.sc]
theorem a9W (G:b6Q B)(V:EnvOK B ae env ρ)(R:Rel B Pr ρ st.H s.heap) (x):Sim B Pr A ρ st s (a9A ae x) (loadName env x) (VRel B):=
 .rd λ v e=>gE e λ _ e=>oE e λ k hK e=>by
  have hkind:=(V.kindOf x).trans hK;clear hK;intro Q kk;cases k with
  | «local»=>exact oE e λ p hf f1=>(R.loc V.L (a1I hf)).elim λ l r=>(a8j r.2 f1).elim λ y z=>wpAny_loadName_local V.hk hkind r.1 z.1 (VRel.fin R z.2 kk s.toks)| cell=>exact oE e λ i hc f1=>(V.cells x i hc).elim λ c z=>(c9a R z.2 (b4J f1)).elim λ y w=>wpAny_loadName_cell V.hk hkind z.1 w.1 (VRel.fin R w.2 kk s.toks)| globalImplicit=>
    obtain ⟨mg,mb,n1,n2,hg⟩:=G;rw [loadName_read V.hk hkind];exact (hg x v e).elim (λ z=>z.elim λ y z=>loadGlobal_global (V.g▸R.oldNs n1) z.1 (VRel.fin R (z.2.mono R.carry0) kk s.toks))
     λ z=>z.2.elim λ y w=>loadGlobal_builtin (V.g▸R.oldNs n1) z.1 (V.b▸R.oldNs n2) w.1 (VRel.fin R (w.2.mono R.carry0) kk s.toks)
  | _=>exact nx0 e
theorem a3D (h:(!b)=true):b=false:=by cases b <;> first | rfl | exact nx2 h
theorem a8a {st st':St}(e:Ran B (a9A ae x) st v st'):(x==("__debug__" : Str))=false:=gE e.rd.1 λ h _=>c4a (a3D h)
def c5R (ae:AEnv)(x:Str)(v:PV)(k:NameKind)(H:List PO):Option (Unit×List PO×Nat):=match k with
 | .local=>ob (c0i H ae.L) λ p=>some ((),H.set ae.L (.fr (b2q p.1 p.2 x v).1 (b2q p.1 p.2 x v).2),0)| .cell=>ob (a1H ae.cells x) λ i=>ob (ob H[i]? a7r) λ _=>some ((),H.set i (.cell (some v)),0)| _=>none
theorem d1B {o:Option (Nat×PO)}{st:St}:ob o (Prod.rec λ i o=>putK st.H i o λ H'=>some ((),⟨H',st.hs⟩,⟨[],0⟩))=ob (ob o λ q=>some ((),st.H.set q.1 q.2,0)) (Prod.rec λ a=>Prod.rec λ H n=>Ev.force H λ H'=>some (a,(⟨H',st.hs⟩:St),(⟨[],n⟩:Obs))):=by
 cases o with
 | none=>rfl| some q=>exact (putK_eq ..).trans (a4B _ λ H'=>some ((),(⟨H',st.hs⟩:St),(⟨[],0⟩:Obs))).symm
theorem b0s:a3a ae x v=.up λ H=>ob (a1H ae.sc.names x) λ k=>c5R ae x v k H:=by
 funext st;show ob (a1H ae.sc.names x) _=ob (ob (a1H ae.sc.names x) _) _;cases a1H ae.sc.names x with
 | none=>rfl| some k=>exact d1B.trans (congrArg (ob · _) (match k with
   | .local=>by
     show ob (ob (c0i st.H ae.L) _) _=ob (c0i st.H ae.L) _;cases c0i st.H ae.L with
     | none=>rfl| some p=>exact congrArg (ob · _) (c7V p.1 p.2 x v λ fs vs=>some (ae.L,PO.fr fs vs))
   | .cell=>by
     show ob (ob (a1H ae.cells x) _) _=ob (a1H ae.cells x) _;cases a1H ae.cells x with
     | none=>rfl| some i=>show ob (ob (ob st.H[i]? a7r) _) _=ob (ob st.H[i]? a7r) _;cases ob st.H[i]? a7r <;> rfl
   | .free | .globalImplicit | .globalExplicit=>rfl))
theorem Ran.stn {st st':St}(e:Ran B (a3a ae x v) st u st'):Ran B (.up λ H=>ob (a1H ae.sc.names x) λ k=>c5R ae x v k H) st u st':=b0s▸e
theorem a2e (V:EnvOK B ae env ρ)(R:Rel B Pr ρ st.H s.heap) (x)(rv:VRel B (a0G Pr ρ st.H) ρ s.heap v y) :
 Sim B Pr A ρ st s (a3a ae x v) (storeName env x y) (λ _ _ _ _ _=>True):=b0s ▸
 .up λ u H' n' e _=>oE e λ k hK e=>by
  have hkind:=(V.kindOf x).trans hK;clear hK;cases k with
  | «local»=>refine oE e λ p hf e=>tE u H' n' e λ Q kk=>(R.loc V.L (a1I hf)).elim λ l r=>(NRel.set (v:=v) x rv r.2).elim λ l' r2=>?_;exact wpAny_storeName_local hkind r.1 (λ h' hn' hs'=>kk ρ _ _ (Went.upd R _ V.L (a1I hf) rfl (a2Z hs') ⟨l',(funext r2.2.1:(λ z=>l'.lookup z)=_)▸hn',r2.1.mono (Carry.upd R V.L (a1I hf) rfl (a2Z hs'))⟩) trivial) (by rw [V.hk]; rfl)| cell=>refine oE e λ i hc e=>oE e λ c0 h0 e=>oE h0 λ o ho h0=>tE u H' n' e λ Q kk=>(V.cells x i hc).elim λ c z=>?_;have hH:=ho.trans (congrArg some (b6N h0));exact (R.loc z.2 hH).elim λ x0 r=>wpAny_storeName_cell V.hk hkind z.1 r.1 λ h' hc' hs'=>kk ρ _ _ (Went.upd R s.toks z.2 hH rfl (a2Z hs') ⟨some y,hc',rv.mono (Carry.upd R z.2 hH rfl (a2Z hs'))⟩) trivial| _=>exact nx0 e
end
def FRel (B:Base)(mt:Addr->Prop)(ρ:List Addr)(h:Heap)(f:Fl)(g:Flow):Prop:=match f with
 | .next=>g=.next
 | .brk=>g=.brk| .cont=>g=.cont| .ret v=>∃ x,g=.ret x/\VRel B mt ρ h v x
theorem FRel.mono {mt mt':Addr->Prop}(C:Carry mt mt' ρ ρ' h h')(r:FRel B mt ρ h f g):FRel B mt' ρ' h' f g:=by
 cases f with
 | ret v=>exact r.imp λ x q=>⟨q.1,q.2.mono C⟩
 | _=>exact r
abbrev c9u:(Addr->Prop)->List Addr->Heap->Bool->Bool->Prop:=λ _ _ _ a b=>b=a
abbrev b7X {β:Type}:(Addr->Prop)->List Addr->Heap->Unit->β->Prop:=λ _ _ _ _ _=>True
structure Cf where
 ρ:List Addr
 st:St
 s:Shared
abbrev Rl (B:Base)(Pr:Addr->Prop)(c:Cf):Prop:=Rel B Pr c.ρ c.st.H c.s.heap
abbrev Wt (B:Base)(Pr:Addr->Prop)(c c':Cf):Prop:=Went B Pr c.ρ c.st.H c.s c'.ρ c'.st.H c'.s
abbrev Cf.mt (Pr:Addr->Prop)(c:Cf):Addr->Prop:=a0G Pr c.ρ c.st.H
abbrev VR (B:Base)(Pr:Addr->Prop)(c:Cf)(v:PV)(x:Value):Prop:=VRel B (a0G Pr c.ρ c.st.H) c.ρ c.s.heap v x
abbrev VRs (B:Base)(Pr:Addr->Prop)(c:Cf)(v:List PV)(x:List Value):Prop:=VRels B (a0G Pr c.ρ c.st.H) c.ρ c.s.heap v x
abbrev Sm {α β:Type}(B:Base)(Pr:Addr->Prop)(A:Around)(c:Cf)(m:Ev α)(t:Sem β)(P:(Addr->Prop)->List Addr->Heap->α->β->Prop):Prop:=Sim B Pr A c.ρ c.st c.s m t P
abbrev Fn {α β:Type}(B:Base)(Pr:Addr->Prop)(c:Cf)(P:(Addr->Prop)->List Addr->Heap->α->β->Prop)(a:α)(st':St)(Q:β->Shared->Prop):Prop:=Fin B Pr c.ρ c.st.H c.s P a st'.H Q
structure At (B:Base)(n:Nat)(ae:AEnv)(env:Env)(Pr:Addr->Prop)(A:Around)(c:Cf):Prop where
 ro:Room n A
 v:EnvOK B ae env c.ρ
 r:Rl B Pr c
section
variable {B:Base}{n:Nat}{ae:AEnv}{env:Env}{Pr:Addr->Prop}{A:Around}{c c1 c2:Cf}{α β γ:Type}{m:Ev α}{t:Sem β}{P:(Addr->Prop)->List Addr->Heap->α->β->Prop}{Q:β->Shared->Prop}
theorem At.went (X:At B n ae env Pr A c)(W:Wt B Pr c c1):At B n ae env Pr A c1:=⟨X.ro,X.v.went W,W.rel⟩
theorem At.le (X:At B n ae env Pr A c)(h:k<=n):At B k ae env Pr A c:=⟨X.ro.le h,X.v,X.r⟩
theorem At.dn (X:At B (n+1) ae env Pr A c):At B n ae env Pr A c:=X.le (e1r n)
theorem Room.hu (R:Room n A):A.units+16<cLine:=e1F (Nat.add_le_add (e1M _ _) (by decide)) R.un
theorem Room.hu8 (R:Room n A):A.units+8<cLine:=e1F (e1c (by decide) _) R.hu
theorem Went.tr (W:Wt B Pr c c1)(R:Rl B Pr c)(W':Wt B Pr c1 c2):Wt B Pr c c2:=Went.trans R W W'
theorem Went.ca (W:Wt B Pr c c1)(R:Rl B Pr c):Carry (c.mt Pr) (c1.mt Pr) c.ρ c1.ρ c.s.heap c1.s.heap:=W.carry R
theorem Sim.then (S:Sm B Pr A c m t P){f:α->Ev γ}{b:γ}(e:Ran B (Ev.bind m f) c.st b st2)
 (k:∀ a c1 x,Ran B (f a) c1.st b st2->Wt B Pr c c1->P (c1.mt Pr) c1.ρ c1.s.heap a x->Q x c1.s):wpAny (Mo B.w) A t Q E0 c.s:=
 e.bind λ a st1 e1 e2=>S a st1 e1 Q λ ρ1 s1 x W p=>k a ⟨ρ1,st1,s1⟩ x e2 W p
theorem Sim.last (S:Sm B Pr A c1 m t P){v:α}(e:Ran B m c1.st v st')(R:Rl B Pr c)(W:Wt B Pr c c1)(k:Fn B Pr c P v st' Q):wpAny (Mo B.w) A t Q E0 c1.s:=
 S v st' e Q λ ρ' s' b W' p=>k ρ' s' b (W.trans R W') p
theorem Ran.fin {a b:α}{x:β}(e:Ran B (Ev.ret a) c1.st b st')(k:Fn B Pr c P b st' Q)(W:Wt B Pr c c1)(p:P (c1.mt Pr) c1.ρ c1.s.heap a x):Q x c1.s:=by rw [e.ret.1,e.ret.2] at k;exact k _ _ _ W p
theorem Ran.rdT {f:List PO->Option α}{g:α->Ev γ}{b:γ}{st st':St}{G:Prop}(e:Ran B (Ev.bind (Ev.rd f) g) st b st')(k:∀ a,f st.H=some a->Ran B (g a) st b st'->G):G:=
 e.bind λ a st1 e1 e2=>k a e1.rd.1 (e1.rd.2▸e2)
theorem Ran.optT {o:Option α}{g:α->Ev γ}{b:γ}{st st':St}{G:Prop}(e:Ran B (Ev.bind (Ev.opt o) g) st b st')(k:∀ a,o=some a->Ran B (g a) st b st'->G):G:=
 e.bind λ a st1 e1 e2=>k a e1.opt.1 (e1.opt.2▸e2)
end
structure BaseOK (B:Base):Prop where
 nolimit:B.hB.NoLimit
 cls:b6R B
 glob:b6Q B
 sys:∃ o,B.hB.get? sysModules=some o
structure RcOK (B:Base)(n:Nat)(r:Rc):Prop where
 e:∀ {ae:AEnv} {env:Env} {Pr:Addr->Prop} {A:Around} {c:Cf} (e:Expr),At B n ae env Pr A c->Sm B Pr A c (r.e e ae) (eval e env) (VRel B)
 t:∀ {ae:AEnv} {env:Env} {Pr:Addr->Prop} {A:Around} {c:Cf} (e:Expr),At B n ae env Pr A c->Sm B Pr A c (r.t e ae) (isTrue e env (eval e env)) c9u
 s:∀ {ae:AEnv} {env:Env} {Pr:Addr->Prop} {A:Around} {c:Cf} (e:Stmt),At B n ae env Pr A c->Sm B Pr A c (r.s e ae) (exec e env) (FRel B)
 ss:∀ {ae:AEnv} {env:Env} {Pr:Addr->Prop} {A:Around} {c:Cf} (e:List Stmt),At B n ae env Pr A c->Sm B Pr A c (r.ss e ae) (execs e env) (FRel B)
 call:∀ {Pr:Addr->Prop} {A:Around} {c:Cf} (k:Nat) {args:List PV} {xs:List Value},Room n A->Rl B Pr c->VRs B Pr c args xs->Sm B Pr A c (r.call k args) (call (.ref (B.adr k)) xs) (VRel B)
section
variable {B:Base}{n:Nat}{r:Rc}{ae:AEnv}{env:Env}{Pr:Addr->Prop}{A:Around}
theorem a2w (h:(!a2k e)=true):starEach (e::es) env=(false,eval e env)::starEach es env:=by cases e <;> first | rfl | exact nx2 h
theorem a9X (K:RcOK B n r) (pos) (es):∀ {c:Cf},At B n ae env Pr A c->Sm B Pr A c (evs r ae es) (spliced (backTo pos (starEach es env))) (VRels B):=by
 induction es with
 | nil=>exact fun {c} X=>.ret λ Q k=>wpAny_items_nil (k _ _ _ (e2s X.r) .nil)| cons x es ih=>intro c X;refine .gE' λ hx v st' e Q k=>wpAny_items_cons ((K.e x X).then e λ a c1 y e1 W1 r1=>?_) (a2w hx);exact (ih (X.went W1)).then e1 λ b c2 ys e2 W2 r2=>e2.fin k (W1.tr X.r W2) ⟨r1.mono (W2.ca W1.rel),r2⟩
theorem c2c (K:RcOK B n r) (op) (es):∀ {c:Cf},At B n ae env Pr A c->Sm B Pr A c (d7S r ae op es) (allTrue op es env) c9u:=by
 induction es with
 | nil=>exact fun {c} X=>.ret λ Q k=>match op,k with
   | .And,k=>wpAny_allTrue_And_nil (k _ _ _ (e2s X.r) rfl)| .Or,k=>wpAny_allTrue_Or_nil (k _ _ _ (e2s X.r) rfl)
 | cons x es ih=>
   intro c X v st' e Q k;have go:∀ a c1 y,Ran B (bc (a == c0L op) (d7S r ae op es) (Ev.ret a)) c1.st v st'->Wt B Pr c c1->y=a->match op,y with
    | .And,true=>wpAny (Mo B.w) A (allTrue op es env) Q E0 c1.s| .Or,false=>wpAny (Mo B.w) A (allTrue op es env) Q E0 c1.s| _,y=>Q y c1.s:=by
    rintro a c1 y e1 W1 rfl;cases op <;> cases y
    · exact Ran.fin e1 k W1 rfl
    · exact (ih (X.went W1)).last e1 X.r W1 k
    · exact (ih (X.went W1)).last e1 X.r W1 k
    · exact Ran.fin e1 k W1 rfl
   cases op with
   | And=>exact wpAny_allTrue_And_cons ((K.t x X).then e λ a c1 y e1 W1 r1=>by have:=go a c1 y e1 W1 r1; cases y <;> exact this)| Or=>exact wpAny_allTrue_Or_cons ((K.t x X).then e λ a c1 y e1 W1 r1=>by have:=go a c1 y e1 W1 r1; cases y <;> exact this)
set_option backward.match.sparseCases true in
theorem b8S (K:RcOK B n r) (op) (pos) (es):∀ {c:Cf},At B n ae env Pr A c->Sm B Pr A c (c4p r ae op es) (boolOp pos op (evalEach es env)) (VRel B):=by
 induction es with
 | nil=>exact fun {c} X=>.no| cons x es ih=>cases es with
   | nil=>exact fun {c} X=>K.e x X| cons y es=>
     intro c X v st' e Q k;have e:Ran B (Ev.bind (r.e x ae) λ v=>Ev.bind (Ev.rd λ H=>b6W H v) λ b=>bc (b == c0L op) (c4p r ae op (y::es)) (Ev.ret v)) c.st v st':=e;show wpAny (Mo B.w) A (do
      let v <- eval x env
      standAt pos
      let t <- holding [v] (truthy v)
      match op,t with
      | .And,false | .Or,true=>pure v
      | _,_=>boolOp pos op (evalEach (y::es) env)) _ E0 c.s
     refine wpAny_bind ((K.e x X).then e λ a c1 xv e1 W1 r1=>e1.rdT λ b g2 e2=>?_);refine wpAny_bind (wpAny_standAt (wpAny_bind (wpAny_holding (a6m W1.rel r1 g2 λ t=>?_))));have W2:Wt B Pr c ⟨c1.ρ,c1.st,{ c1.s with toks:=t }⟩:=W1.tok t;cases op <;> cases b
     · exact wpAny_pure (Ran.fin (c1:=⟨c1.ρ,c1.st,{ c1.s with toks:=t }⟩) e2 k W2 r1)
     · exact (ih (X.went W2)).last e2 X.r W2 k
     · exact (ih (X.went W2)).last e2 X.r W2 k
     · exact wpAny_pure (Ran.fin (c1:=⟨c1.ρ,c1.st,{ c1.s with toks:=t }⟩) e2 k W2 r1)
theorem a4R (h:behindInMarks op x=false):markedEach [op] [x] [t]=[t]:=by
 show [markedBehindIn op x t]=[t]
 rw [markedBehindIn_of_false h]
theorem a6F (h:(!b5a x)=true):behindInMarks op x=false:=by cases x <;> first | rfl | exact nx2 h
abbrev d3d:(Addr->Prop)->List Addr->Heap->Bool->Value->Prop:=λ _ _ _ c v=>v=.bool c
theorem b1B (K:RcOK B n r) (pos) (ops):∀ (xs:List Expr){a:PV}{x:Value}{c:Cf},At B n ae env Pr A c->VR B Pr c a x ->
 Sm B Pr A c (b4I r ae a ops xs) (compareChain pos x ops (markedEach ops xs (evalEach xs env))) d3d /\
 Sm B Pr A c (b4I r ae a ops xs) (testChain pos x ops (markedEach ops xs (evalEach xs env))) c9u:=by
 induction ops with
 | nil=>exact λ xs a x c X ra=>⟨.no,.no⟩
 | cons op ops ih=>
   intro xs a x c X ra;cases xs with
   | nil=>exact ⟨.no,.no⟩| cons y ys=>
     have hu:=X.ro.hu;cases ops with
     | nil=>
       cases ys with
       | cons=>exact ⟨.gE' λ _ v st' e=>e.bind λ _ _ _ e2=>nx2 e2.gE'.1,.gE' λ _ v st' e=>e.bind λ _ _ _ e2=>nx2 e2.gE'.1⟩| nil=>
         refine ⟨.gE' λ hs v st' e Q k=>?_,.gE' λ hs v st' e Q k=>?_⟩
         · rw [show markedEach [op] [y] (evalEach [y] env)=[eval y env] from a4R (a6F hs)];show wpAny (Mo B.w) A (do
            let rv <- holding [x] (eval y env)
            standAt pos
            operate [x,rv] (compareOp op x rv)) _ E0 c.s
           exact wpAny_bind (wpAny_holding ((K.e y X).then e λ b c1 z e1 W1 r1=>wpAny_bind (wpAny_standAt (wpAny_operate' ((b3J hu W1.rel op (ra.mono (W1.ca X.r)) r1:Sm B Pr A c1 _ _ d3d).last e1.gE'.2 X.r W1 k)))))
         · rw [show markedEach [op] [y] (evalEach [y] env)=[eval y env] from a4R (a6F hs)];show wpAny (Mo B.w) A (do
            let rv <- holding [x] (eval y env)
            standAt pos
            let c <- operate [x,rv] (compareOp op x rv)
            holding [c] (truthy c)) _ E0 c.s
           exact wpAny_bind (wpAny_holding ((K.e y X).then e λ b c1 z e1 W1 r1=>wpAny_bind (wpAny_standAt (wpAny_bind (wpAny_operate' ((b3J hu W1.rel op (ra.mono (W1.ca X.r)) r1:Sm B Pr A c1 _ _ d3d).last e1.gE'.2 X.r W1
            λ ρ' s' b W p=>p▸wpAny_holding (wpAny_truthy_bool (k ρ' s' _ W rfl))))))))
     | cons op2 ops=>
       have hm:markedEach (op::op2::ops) (y::ys) (evalEach (y::ys) env)=eval y env::markedEach (op2::ops) ys (evalEach ys env):=rfl;rw [hm];have ih2:∀ {b:PV} {z:Value} {c2:Cf},At B n ae env Pr A c2->VR B Pr c2 b z->_:=λ X r=>ih ys X r;clear ih hm;revert ih2;generalize markedEach (op2::ops) ys (evalEach ys env)=ms;intro ih2;have step:∀ {β:Type} {v:Bool} {st':St} {t:Value->Sem β} {f:Value->β} {P:(Addr->Prop)->List Addr->Heap->Bool->β->Prop} {Q:β->Shared->Prop},Ran B (Ev.bind (r.e y ae) λ b=>Internal.gE' (isI a) (Ev.bind (cmp op a b) λ c=>bc c (b4I r ae b (op2::ops) ys) (Ev.ret false))) c.st v st' ->
        (∀ {b:PV} {z:Value} {c2:Cf},At B n ae env Pr A c2->VR B Pr c2 b z->Sm B Pr A c2 (b4I r ae b (op2::ops) ys) (t z) P)->(∀ mt ρ h,P mt ρ h false (f (.bool false)))->Fn B Pr c P v st' Q ->
        wpAny (Mo B.w) A (do
         let rv <- holding [x] (eval y env)
         standAt pos
         let c <- holding [x,rv] (compareOp op x rv)
         release [x,rv] [c]
         if <- holding [c,rv] (truthy c) then t rv else pure (f c)) Q E0 c.s:=by
        intro β v st' t f P Q e hI hf k;refine wpAny_bind (wpAny_holding ((K.e y X).then e λ b c1 z e1 W1 r1=>?_));refine wpAny_bind (wpAny_standAt (wpAny_bind (wpAny_holding ?_)));refine (b3J hu W1.rel op (ra.mono (W1.ca X.r)) r1:Sm B Pr A c1 _ _ d3d).then e1.gE'.2 λ w c2 x2 e2 W2 r2=>?_;obtain rfl:x2=.bool w:=r2;refine wpAny_bind (wpAny_release' (wpAny_bind (wpAny_holding (wpAny_truthy_bool ?_))));have W:=W1.tr X.r W2;cases w with
        | true=>exact (hI (X.went W) (r1.mono (W2.ca W1.rel))).last e2 X.r W k| false=>exact wpAny_pure (Ran.fin e2 k W (hf _ _ _))
       exact ⟨.gE' λ hs v st' e Q k=>by
        cases ys <;> exact step (P:=d3d) e (λ X r=>(ih2 X r).1) (λ _ _ _=>rfl) k,.gE' λ hs v st' e Q k=>by
        cases ys <;> exact step (P:=c9u) (f:=λ _=>false) e (λ X r=>(ih2 X r).2) (λ _ _ _=>rfl) k⟩
end
noncomputable def a4O (env:Env)(pos:Pos):List (Option Expr)->List Expr->List (Sem Value×Sem Value)
 | [],_=>[]
 | k::ks,vs=>match k with
   | none=>[]
   | some k=>match vs with
     | []=>[]
     | v::vs=>(eval k env,do let x <- eval v env; standAt pos; pure x)::a4O env pos ks vs
def d7V (B:Base):(Addr->Prop)->List Addr->Heap->List PV×List PV->List (Value×Value)->Prop:=λ mt ρ h p l=>VRels B mt ρ h p.1 (l.map (·.1))/\VRels B mt ρ h p.2 (l.map (·.2))
section
variable {B:Base}{n:Nat}{r:Rc}{ae:AEnv}{env:Env}{Pr:Addr->Prop}{A:Around}{ρ:List Addr}{st:St}{s:Shared}
theorem c3f (h:c0G l=true):l=[]:=by
 cases l with
 | nil=>rfl| cons=>exact nx2 h
theorem b4B (pos) (ks):∀ (vs:List Expr){st st':St}{p:List PV×List PV},Ran B (b4C r ae ks vs) st p st' ->
 ((evalEachOpt ks env).zip ((evalEach vs env).map λ v=>do let x <- v; standAt pos; pure x)=(a4O env pos ks vs).map λ p=>(some p.1,p.2))/\p.1.length=ks.length/\(a4O env pos ks vs).length=ks.length/\vs.length=ks.length:=by
 induction ks with
 | nil=>exact λ vs st st' p e=>by rw [c3f e.gE'.1,e.gE'.2.ret.1]; exact ⟨rfl,rfl,rfl,rfl⟩
 | cons k ks ih=>
   intro vs st st' p e;cases k with
   | none=>exact e.no| some k=>cases vs with
     | nil=>exact e.no| cons v vs=>have e:Ran B (Ev.bind (r.e k ae) λ kv=>Ev.bind (r.e v ae) λ vv=>Ev.bind (b4C r ae ks vs) λ p=>Ev.ret (kv::p.1,vv::p.2)) st p st':=e;refine e.bind λ _ _ _ e=>e.bind λ _ _ _ e=>e.bind λ q _ e1 e2=>?_;have z:=ih vs e1;rw [e2.ret.1];exact ⟨congrArg (_::·) z.1,congrArg (· + 1) z.2.1,congrArg (· + 1) z.2.2.1,congrArg (· + 1) z.2.2.2⟩
theorem b8N (K:RcOK B n r) (pos) (ks):∀ (vs:List Expr){c:Cf},At B n ae env Pr A c->Sm B Pr A c (b4C r ae ks vs) (evalPairs (a4O env pos ks vs)) (d7V B):=by
 induction ks with
 | nil=>exact λ vs c X=>.gE' λ _=>.ret λ Q k=>evalPairs_nil (k _ _ _ (e2s X.r) ⟨.nil,.nil⟩)| cons k ks ih=>
   intro vs c X;cases k with
   | none=>exact .no| some k=>cases vs with
     | nil=>exact .no| cons v vs=>intro p st' e Q kk;have e:Ran B (Ev.bind (r.e k ae) λ kv=>Ev.bind (r.e v ae) λ vv=>Ev.bind (b4C r ae ks vs) λ p=>Ev.ret (kv::p.1,vv::p.2)) c.st p st':=e;refine evalPairs_cons ((K.e k X).then e λ a c1 x e1 W1 r1=>?_);refine wpAny_bind ((K.e v (X.went W1)).then e1 λ b c2 y e2 W2 r2=>wpAny_bind (wpAny_standAt (wpAny_pure ?_)));have W:=W1.tr X.r W2;exact (ih vs (X.went W)).then e2 λ q c3 l e3 W3 r3=>e3.fin kk (W.tr X.r W3) ⟨⟨(r1.mono (W2.ca W1.rel)).mono (W3.ca W2.rel),r3.1⟩,r2.mono (W3.ca W2.rel),r3.2⟩
theorem c3a {w:World}{K:Type} [DecidableEq K](V:KeyView w K){k j:K}{l:List PV}(h:a8p (V.conv k) (V.conv j::l)=true):j≠k/\a8p (V.conv k) l=true:=by
 dsimp only [a8p] at h;rw [V.eqs] at h;cases hj:decide (j=k) with
 | true=>rw [hj] at h; exact nx2 h| false=>rw [hj] at h; exact ⟨of_decide_eq_false hj,h⟩
theorem a8o {w:World}{K:Type} [DecidableEq K](V:KeyView w K){k:K}:∀ {l:List K},a8p (V.conv k) (l.map V.conv)=true->k ∉ l
 | [],_=>e0b| j::l,h=>have z:=c3a V h; λ m=>(e0d.mp m).elim (λ e=>z.1 e.symm) (a8o V z.2)
theorem a2G {K:Type} [DecidableEq K](V:KeyView w K):∀ {is:List K},a2j (is.map V.conv)=true->is.Nodup
 | [],_=>e1Q| k::is,h=>e1D.mpr ⟨a8o V (a0A h).1,a2G V (a0A h).2⟩
theorem a8d {K:Type} [DecidableEq K]:∀ (kvs acc:List (K×Value)),((acc++kvs).map (·.1)).Nodup->merged acc kvs=acc++kvs
 | [],acc,_=>(e0k acc).symm| kv::kvs,acc,h=>by
   have h1:stored acc kv.1 kv.2=acc++[kv]:=by unfold stored;rw [if_neg];intro ha;rw [e1y] at ha;obtain ⟨x,hx,hk⟩:=ha;rw [e0o,e1n] at h;exact h.2.2 x.1 (e0e.mpr ⟨x,hx,rfl⟩) kv.1 e0X (of_decide_eq_true hk)
   show merged (stored acc kv.1 kv.2) kvs=_;rw [h1,a8d kvs (acc++[kv]) (by rw [e0h]; exact h),e0h];rfl
def Pr1 (Pr:Addr->Prop)(a:Addr):Addr->Prop:=λ b=>Pr b\/b=a
theorem Carry.protect {h h0:Heap}(ha:h.get? a=none)(k0:∀ b o,h.get? b=some o->h0.get? b=some o):Carry (a0G Pr ρ H) (a0G (Pr1 Pr a) ρ H) ρ ρ h h0:=
 ⟨λ c q nn e _=>⟨k0 c q e,λ m=>by
  rcases m with (m | rfl) | m
  · exact nn (.inl m)
  · rw [ha] at e; exact nx0 e
  · exact nn (.inr m)⟩,λ _ _ e=>e⟩
theorem Rel.protect {h h0:Heap}(R:Rel B Pr ρ H h)(ha:h.get? a=none)(ha0:∃ o,h0.get? a=some o)(k0:∀ b o,h.get? b=some o->h0.get? b=some o):Rel B (Pr1 Pr a) ρ H h0 where
 base:=R.base.ext λ b o _ e _=>k0 b o e
 len:=R.len
 nodup:=R.nodup
 prl:=λ b p=>by
  rcases p with p | rfl
  · (refine c9J (R.prl b p) λ zq16 q=>?_; obtain ⟨o,e⟩:=zq16); exact ⟨⟨o,k0 _ _ e⟩,q⟩
  · exact ⟨ha0,R.notBase ha⟩
 away:=λ b hb=>by
  refine ⟨λ p=>?_,(R.away b hb).2⟩;rcases p with p | rfl
  · exact (R.away b hb).1 p
  · refine d2t (R.mem hb) λ o e=>?_;rw [ha] at e; exact nx0 e
 tabs:=R.tabs.mono (ρ:=ρ) (ρ':=ρ) (.protect ha k0) λ P o o' _ e=>k0 P o e
 real:=λ i o b e1 e2=>(R.real i o b e1 e2).mono ⟨λ c q nn e _=>⟨k0 c q e,λ m=>by
  rcases m with (m | rfl) | m
  · exact nn (.inl m)
  · rw [ha] at e; exact nx0 e
  · exact nn (.inr m)⟩,λ _ _ e=>e⟩ λ ob e=>k0 _ _ e
theorem Carry.adopt {h1 h':Heap}(R1:Rel B (Pr1 Pr a) ρ1 H1 h1)(k:∀ b o,b ≠ a->h1.get? b=some o->h'.get? b=some o) :
 Carry (a0G (Pr1 Pr a) ρ1 H1) (a0G Pr (ρ1++[a]) (H1++[P])) ρ1 (ρ1++[a]) h1 h':=
 ⟨λ c q nn e _=>by
  have hc:c≠a:=λ z=>nn (.inl (.inr z));refine ⟨k c q hc e,λ m=>?_⟩;rcases m with m | m
  · exact nn (.inl (.inl m))
  · rcases m.append R1.len with m | m
    · exact nn (.inr m)
    · exact hc m,λ i x e=>by rw [List.getElem?_append_left (a0Q e)]; exact e⟩
theorem Went.adopt {s1:Shared}{h':Heap}{h0:Heap}(R:Rel B Pr ρ H s.heap) (t)(ha:s.heap.get? a=none)
 (k0:∀ b o,s.heap.get? b=some o->h0.get? b=some o)
 (W:Went B (Pr1 Pr a) ρ H { s with heap:=h0,toks:=t0 } ρ1 H1 s1) (k:∀ b o,b≠a->s1.heap.get? b=some o->h'.get? b=some o)
 (hr:Real B (a0G Pr (ρ1++[a]) (H1++[P])) (ρ1++[a]) h' P a):Went B Pr ρ H s (ρ1++[a]) (H1++[P]) { s1 with heap:=h',toks:=t }:=by
 have R1:=W.rel;have hn:a∉ρ1:=λ hm=>(R1.away a hm).1 (.inr rfl);have hb:B.hB.get? a=none:=R.notBase ha;have hnp:¬ Pr a:=λ p=>by refine c9J (R.prl a p) λ zq17 _=>?_;obtain ⟨o,e⟩:=zq17;rw [ha] at e; exact nx0 e
 have C:=Carry.adopt (P:=P) R1 k;refine ⟨?_,?_,?_,?_,?_⟩
 · refine e0N (W.same) λ h tk e=>?_;exact ⟨h',t,by rw [e]⟩
 · refine c0x (W.ext) λ more e fr=>?_;refine ⟨more++[a],by rw [e,e0h],λ b hb=>?_⟩;rcases e1E.mp hb with hb | hb
   · have:=fr b hb;cases e':s.heap.get? b with
     | none=>rfl| some o=>have h2:=k0 b o e';have h3:h0.get? b=none:=fr b hb;rw [h3] at h2;cases h2
   · rw [e0u.mp hb]; exact ha
 · refine ⟨R1.base.ext λ b o _ e q=>k b o (λ z=>by rw [z,hb] at q; cases q) e,by simp [R1.len],?_,?_,?_,R1.tabs.mono C λ P o o' hP e=>k P o (λ z=>by rw [z,hb] at hP; cases hP) e,?_⟩
   · refine e1n.mpr ⟨R1.nodup,by simp,λ x hx y hy e=>?_⟩;rw [e0u.mp hy] at e;exact hn (e▸hx)
   · intro b p;refine c9J (R1.prl b (.inl p)) λ zq18 q=>?_;obtain ⟨o,e⟩:=zq18;exact ⟨⟨o,k b o (λ z=>hnp (z▸p)) e⟩,q⟩
   · intro b hb';rcases e1E.mp hb' with hb' | hb'
     · exact ⟨λ p=>(R1.away b hb').1 (.inl p),(R1.away b hb').2⟩
     · rw [e0u.mp hb']; exact ⟨hnp,hb⟩
   · intro j o b e1 e2;rcases e1A j ρ1.length with hj | hj
     · rw [List.getElem?_append_left hj] at e2;rw [List.getElem?_append_left (R1.len▸hj)] at e1;exact (R1.real j o b e1 e2).mono C λ ob e=>k b ob (λ z=>hn (z▸e0s e2)) e
     · have hj':j=ρ1.length:=by have:=a0Q e2; simp at this; lia
       subst hj';rw [List.getElem?_append_right (e0i _)] at e2;rw [R1.len,List.getElem?_append_right (e0i _)] at e1;simp at e1 e2;subst e1 e2;exact hr
 · intro b o nl e;have e0:=k0 b o e;have hba:b ≠ a:=λ z=>by rw [z,ha] at e; exact nx0 e
   rcases W.keep b o nl e0 with x | ⟨t1,c,vs,more,d,x⟩
   · exact .inl (k b _ hba x)
   · exact .inr ⟨t1,c,vs,more,d,k b _ hba x⟩
 · intro i o hi e l;refine W.live i o hi ?_ l;rw [List.getElem?_append_left] at e
   · exact e
   · refine c0x (W.ext) λ more e3 _=>?_;rw [<- R1.len,e3,e0a,R.len]; lia
theorem c1T {K:Type} [DecidableEq K]{knd:KeyKind prg B.w K}(V:ValView B K knd){mt:Addr->Prop}{h:Heap}{l:List (Value×Value)}:∀ {is:List K}{vs:List PV},VRels B mt ρ h (is.map V.conv) (l.map (·.1))->VRels B mt ρ h vs (l.map (·.2)) ->
 ∃ kvs,Carries knd l kvs/\K3 (VRel B mt ρ h) is vs kvs:=by
 induction l with
 | nil=>
   intro is vs r1 r2;cases is with
   | cons=>exact r1.elim| nil=>cases vs with
     | cons=>exact r2.elim| nil=>exact ⟨[],trivial,.nil⟩
 | cons p l ih=>
   intro is vs r1 r2;cases is with
   | nil=>exact r1.elim| cons k is=>cases vs with
     | nil=>exact r2.elim| cons v vs=>exact (ih r1.2 r2.2).elim λ kvs q=>⟨(k,p.2)::kvs,⟨(V.rel _ _ _ _ _).mp r1.1,rfl,q.1⟩,.cons r2.1 q.2⟩
theorem b9M (R:Rel B Pr ρ st.H s.heap)(hsys:∃ o,B.hB.get? sysModules=some o):s.heap.objs.size≠sysModules:=λ z=>hsys.elim λ o e=>nx1 (e.symm.trans (z▸R.notBase (a1X s.heap)))
theorem c4W (hsys:∃ o,B.hB.get? sysModules=some o) (pos)(R:Rel B Pr ρ st.H s.heap):a9N B Pr A ρ st.H s (eval (.Dict [] [] pos) env) (VRel B) (.loc st.H.length) (st.H++[.dict [] []]):=λ Q k=>by rw [arm_eval_Dict];refine wpAny_bind (wpAny_standAt ?_);show wpAny (Mo B.w) A newDict _ E0 s;unfold newDict;exact wpAny_bind (wpAny_alloc (wpAny_pure (k _ _ _ ((e2s R).new R s.toks rfl (.dict [] [] _ _ #[] 0 (Heap.get?_push_size _ rfl) ⟨rfl,rfl,rfl⟩ rfl ⟨e1Q,b9M R hsys⟩ .nil)) (.locNew R))))
theorem c1C (hsys:∃ o,B.hB.get? sysModules=some o){ks:List (Option Expr)}{vs:List Expr} (pos)(R:Rel B Pr ρ st.H s.heap){p:List PV×List PV}{st1:St}
 (hsh:(evalEachOpt ks env).zip ((evalEach vs env).map λ v=>do let x <- v; standAt pos; pure x)=(a4O env pos ks vs).map λ p=>(some p.1,p.2)) (hpne:a4O env pos ks vs≠[]) (hle:(a4O env pos ks vs).length<=15) (hap:a2j p.1=true)
 (S:a9N B (Pr1 Pr s.heap.objs.size) A ρ st.H { s with heap:=s.heap.push { cls:=.type "dict",data:=.dict #[] } } (evalPairs (a4O env pos ks vs)) (d7V B) p st1.H)
 {Kt:Type} [DecidableEq Kt] {knd:KeyKind prg B.w Kt} (VV:ValView B Kt knd) {is:List Kt} (his:p.1=is.map VV.conv):a9N B Pr A ρ st.H s (eval (.Dict ks vs pos) env) (VRel B) (.loc st1.H.length) (st1.H++[.dict p.1 p.2]):=λ Q kk=>by
 have k0:∀ b o,s.heap.get? b=some o->(s.heap.push { cls:=.type "dict",data:=.dict #[] }).get? b=some o:=λ b o e=>Heap.get?_push_of_some _ e;refine wpAny_Dict_pairs (knd:=knd) hsh hpne hle (S _ λ ρ1 s1 l W r=>?_);rw [d7V,his] at r;rw [his] at hap kk;refine (c1T VV r.1 r.2).elim λ kvs q=>?_;have hobj:s1.heap.get? s.heap.objs.size=some { cls:=.type "dict",data:=.dict #[] }:=
  (W.keep _ _ (λ z=>(R.mem z.mem).elim λ o e=>nx1 (e.symm.trans (a1X _))) (Heap.get?_push_size _ rfl)).elim id λ x=>nomatch x.2.1
 have hm:merged [] kvs=kvs:=a8d kvs [] (by rw [e1V,q.2.keys]; exact a2G VV.toKeyView hap);refine ⟨kvs,q.1,⟨_,#[],0,hobj,⟨rfl,rfl,rfl⟩,rfl,λ _ he=>absurd he (Array.not_mem_empty _),.nil,e1Q⟩,λ h' D sb=>?_⟩;rw [hm] at D;have k:=a2Z sb;refine (a7e VV D (q.2.mono λ v x r=>r.mono (Carry.adopt (P:=.dict (is.map VV.conv) p.2) W.rel k))).elim λ es w=>w.elim λ m w=>?_;exact kk _ _ _ (Went.adopt R _ (a1X _) k0 W k (.dict _ _ _ _ es m w.1 ⟨rfl,rfl,rfl⟩ rfl ⟨w.2.1,b9M R hsys⟩ w.2.2)) (.loc _ _ (by rw [<- W.rel.len]; simp))
theorem c2d (hsys:∃ o,B.hB.get? sysModules=some o)(K:RcOK B n r) (pos)(X:At B n ae env Pr A c) :
 Sm B Pr A c (Ev.bind (b4C r ae ks vs) λ p=>Ev.up λ H=>gd (c6Z p.1) (some (PV.loc H.length,H++[.dict p.1 p.2],p.1.length))) (eval (.Dict ks vs pos) env) (VRel B):=λ v st' e=>e.bind λ p st1 e1 e2=>by
 obtain ⟨H',n',e3,_,rfl⟩:=e2.up;clear e2 e;refine gE e3 λ hd e=>tE v H' n' e ?_;have z:=b4B (env:=env) pos ks vs e1;cases ks with
 | nil=>obtain rfl:=e2k.mp z.2.2.2;obtain ⟨rfl,rfl⟩:=e1.gE'.2.ret;exact c4W hsys pos X.r
 | cons k0 ks=>
   have hpne:a4O env pos (k0::ks) vs ≠ []:=λ w=>nomatch z.2.2.1.symm.trans (congrArg e1k w);have hd:((a1q 1 p.1 || a1q 2 p.1) && (a2j p.1 && e0m p.1.length 15))=true:=by
    cases hp:p.1 with
    | nil=>exact nomatch z.2.1.symm.trans (congrArg e1k hp)| cons a l=>rw [hp] at hd; exact hd
   have hle:(a4O env pos (k0::ks) vs).length<=15:=z.2.2.1.symm▸z.2.1▸e0t (a0A (a0A hd).2).2;have k0:∀ b o,c.s.heap.get? b=some o->(c.s.heap.push { cls:=.type "dict",data:=.dict #[] }).get? b=some o:=λ b o e=>Heap.get?_push_of_some _ e;have X0:At B n ae env (Pr1 Pr c.s.heap.objs.size) A ⟨c.ρ,c.st,{ c.s with heap:=c.s.heap.push { cls:=.type "dict",data:=.dict #[] } }⟩:=⟨X.ro,X.v,X.r.protect (a1X c.s.heap) ⟨_,Heap.get?_push_size _ rfl⟩ k0⟩
   have S:=b8N K pos (_::ks) vs X0 p st1 e1;have hk:=(Bool.or_eq_true _ _).mp (a0A hd).1;exact hk.elim (λ hk=>(a6Z B.w p.1 hk).elim λ is his=>c1C hsys pos X.r z.1 hpne hle (a0A (a0A hd).2).1 S (b1z B) his)
    λ hk=>(b5W B.w p.1 hk).elim λ is his=>c1C hsys pos X.r z.1 hpne hle (a0A (a0A hd).2).1 S (b4i B) his
end
theorem c2S {id:Str}(h:a0q id.cps.toList c5T=false):(id != ("super" : Str))=true:=bne_iff_ne.mpr λ e=>by subst e;exact absurd h (by decide +kernel)
theorem a3V (h:(!a3Y o)=true):attributeBase o a env t=t:=by
 cases o with
 | Call f args kws pos=>
   cases f with
   | Name id p=>
     cases args with
     | nil=>cases kws with
       | nil=>unfold attributeBase;simp only [c2S (a3D h),Bool.true_or,if_true]| cons=>rfl
     | cons=>rfl
   | _=>rfl
 | _=>rfl
section
variable {M:Model}{A:Around}{E:Value->Shared->Prop}{s:Shared}{env:Env}
theorem b6T (hb:(!a3Y o)=true)
 (h:wpAny (model prog w) A (eval o env) (λ v s₁=>wpAny (model prog w) A (getAttr v a true) Q E s₁) E s):wpAny (model prog w) A (eval (.Attribute o a pos) env) Q E s:=by
 show wpAny (model prog w) A (do
  let v <- attributeBase o a env (eval o env)
  standAt pos.atName
  let r <- holding [v] (getAttr v a true)
  letTemporaryGo o v r
  pure r) Q E s
 rw [a3V hb];exact wpAny_bind (wpAny_mono h (λ v s₁ h₁=>wpAny_bind (wpAny_standAt (wpAny_bind (wpAny_holding (wpAny_mono h₁ (λ r s₂ h₂=>wpAny_bind (wpAny_letTemporaryGo (wpAny_pure h₂))) λ _ _ x=>x))))) λ _ _ x=>x)
theorem a5a (sl) (o i)(h:wpAny (model prog w) A (getItem o i) Q E s):wpAny (model prog w) A (subscripted sl false o i) Q E s:=by
 unfold subscripted;cases sl with
 | Slice lo hi st p=>cases st <;> exact wpAny_operate' h
 | _=>exact wpAny_operate' h
theorem b6S {o i:Expr}
 (h:wpAny (model prog w) A (eval o env) (λ v s₁=>wpAny (model prog w) A (eval i env) (λ j s₂=>(∃ T id,typeLookup (.type T) "__getitem__" = pure (some (.builtin id))/\s₂.TypeIs v T)/\wpAny (model prog w) A (getItem v j) Q E s₂) E s₁) E s) :
 wpAny (model prog w) A (eval (.Subscript o i pos) env) Q E s:=by
 rw [eval_Subscript];refine wpAny_bind (wpAny_mono h (λ v s₁ h₁=>wpAny_bind (wpAny_holding (wpAny_mono h₁ (λ j s₂ h₂=>wpAny_bind (wpAny_standAt ?_)) λ _ _ x=>x))) λ _ _ x=>x);refine c9J (h₂) λ zq1 hg=>?_;obtain ⟨T,id,hl,hT⟩:=zq1;have fin:wpAny (model prog w) A (subscripted i false v j) (λ r s₃=>wpAny (model prog w) A (letTemporaryGo o v r >>= λ _=>pure r) Q E s₃) E s₂:=
  a5a i v j (wpAny_mono hg (λ r s₃ h₃=>wpAny_bind (wpAny_letTemporaryGo (wpAny_pure h₃))) λ _ _ x=>x)
 have hin:∀ Q':Bool->Shared->Prop,Q' false s₂->wpAny (model prog w) A (getitemInPython v) Q' E s₂:=by intro Q' hq;unfold getitemInPython;refine wpAny_bind (wpAny_specialOf hT hl ?_);exact wpAny_pure hq
 exact wpAny_bind (hin _ (wpAny_bind fin))
end
section
variable {B:Base}{Pr:Addr->Prop}{A:Around}{ρ:List Addr}{st:St}{s:Shared}
def a7s (s:Shared)(x:Value):Prop:=∃ T id,typeLookup (.type T) "__getitem__" = pure (some (.builtin id))/\s.TypeIs x T
theorem a2H (R:Rel B Pr ρ st.H s.heap)(ra:VRel B (a0G Pr ρ st.H) ρ s.heap a x)(hl:a4H st.H a=some l):a7s s x:=by
 obtain ⟨ad,o,xs,g,sq,rs⟩:=a2B R ra hl;cases hil:a1A st.H a with
 | true=>rw [hil] at sq; exact ⟨"list",_,slot_list_getitem.lookup,⟨o,g,sq.1⟩⟩| false=>rw [hil] at sq; exact ⟨"tuple",_,slot_tuple_getitem.lookup,⟨o,g,sq.1⟩⟩
theorem a5D (ra:VRel B (a0G Pr ρ st.H) ρ s.heap a x)(hl:a8L a=some l):a7s s x:=
 VRel.bytesE x (a3P hl▸ra) λ b t _ _=>⟨"bytes",_,PySem.W.FB.slot_bytes_getitem.lookup,PySem.W.typeIs_bytes s b t⟩
theorem b1q (e:a1v H a=some l):a4H H a=some l:=gE e λ _ e=>e
theorem b2g (e:a5R a=some l):a4H H a=some l:=a1s e▸rfl
theorem a7W (R:Rel B Pr ρ st.H s.heap){a i v:PV}(ra:VRel B (a0G Pr ρ st.H) ρ s.heap a x)(e:Ran B (a6c a i) st v st'):a7s s x:=
 ocE e.item.1 (λ p hp _=>a1j R x ra hp λ d es m g _ _ _=>⟨"dict",_,slot_dict_getitem.lookup,⟨_,g,rfl⟩⟩) λ _ e=>oE e λ k _ e=>ocE e (λ l hl _=>a5D ra hl) λ _ e=>oE e λ l hl _=>a2H R ra hl
theorem a6R (R:Rel B Pr ρ st.H s.heap){lo hi sp:Option PV}(ra:VRel B (a0G Pr ρ st.H) ρ s.heap a x)(e:Ran B (a6b a lo hi sp) st v st'):a7s s x:=
 e.up.elim λ H e=>e.elim λ n e=>ocE e.1 (λ w _ e=>oE e λ i _ e=>gE e λ _ e=>ocE e (λ l hl _=>a2H R ra (b2g hl)) λ _ e=>oE e λ l hl _=>a2H R ra (b1q hl))
  λ _ e=>ocE e (λ l hl _=>a5D ra hl) λ _ e=>ocE e (λ l hl _=>a2H R ra (b2g hl)) λ _ e=>oE e λ l hl _=>a2H R ra (b1q hl)
end
section
variable {B:Base}{n:Nat}{r:Rc}{ae:AEnv}{env:Env}{Pr:Addr->Prop}{A:Around}{c:Cf}
theorem b8O (R:Rl B Pr c) (k) (m) (pos):Sm B Pr A c (Ev.opt (b0T k)) (eval (.Constant k m pos) env) (VRel B):=
 .opt λ v e Q kk=>by
  have fin:∀ {x:Value} (t:Nat),VR B Pr c v x->Q x { c.s with toks:=t }:=λ t r=>VRel.fin R r kk t;cases k with
  | none=>obtain rfl:=sj e; exact wpAny_Constant_none (fin c.s.toks .none)
  | bool b=>obtain rfl:=sj e; exact wpAny_Constant_bool (fin c.s.toks (.bool b))
  | int i=>obtain rfl:=sj e; exact wpAny_Constant_int (fin _ (.int _ _))
  | str x=>obtain rfl:=sj e; exact wpAny_Constant_str (fin _ (.str _ _))
  | bytes b=>
    cases b with
    | nil=>obtain rfl:=sj e;show wpAny (Mo B.w) A (mkTextBytes #[]) _ E0 c.s;exact wpAny_mkTextBytes (fin _ (.bytes [] #[] _ (e0q _) rfl))
    | cons=>exact nx0 e
  | _=>exact nx0 e
theorem a9V (K:RcOK B n r)(X:At B n ae env Pr A c) (o):Sm B Pr A c (c7o r ae o) (evalPart o env) (OptV B):=by
 cases o with
 | none=>exact .ret λ Q k=>(evalPart_none env).symm▸wpAny_pure (k _ _ _ (e2s X.r) ⟨λ _=>rfl,λ v h=>nx0 h⟩)| some x=>exact λ v st' e Q k=>(K.e x X).then e λ a c1 y e1 W1 r1=>e1.fin k W1 ⟨λ h=>nx1 h,λ v h=>sj h▸r1⟩
theorem OptV.mono {mt mt':Addr->Prop}(C:Carry mt mt' ρ ρ' h h')(r:OptV B mt ρ h o x):OptV B mt' ρ' h' o x:=⟨r.1,λ v e=>(r.2 v e).mono C⟩
def c1u (B:Base)(n:Nat)(r:Rc):Prop:=∀ {ae:AEnv}{env:Env}{Pr:Addr->Prop}{A:Around}{c:Cf}(f:Expr)(args:List Expr)(kws:List Keyword)(pos:Pos),
 At B (n+1) ae env Pr A c->Sm B Pr A c (c6W r ae f args kws pos) (eval (.Call f args kws pos) env) (VRel B)
def c1s (B:Base)(n:Nat)(r:Rc):Prop:=∀ {ae:AEnv}{env:Env}{Pr:Addr->Prop}{A:Around}{c:Cf}(elt t it:Expr)(ifs:List Expr)(sc:Scope)(pos:Pos),
 At B (n+1) ae env Pr A c->Sm B Pr A c (b5u r ae elt t it ifs sc c3E) (eval (.ListComp elt [⟨t,it,ifs,0⟩] sc pos) env) (VRel B)
theorem c6P (e:d6z gens=some g):gens=[⟨g.1,g.2.1,g.2.2,0⟩]:=by
 cases gens with
 | nil=>exact nx0 e| cons a l=>cases l with
   | nil=>obtain ⟨t,it,ifs,s⟩:=a; exact gE e λ h e=>by obtain rfl:=sj e; exact congrArg (λ i=>[Comprehension.mk t it ifs i]) (of_decide_eq_true ((a1L _ _).symm.trans h))
   | cons=>exact nx0 e
theorem c1j (h:c1k e=some q):∃ p,e=.Slice q.1 q.2.1 q.2.2 p:=by
 cases e with
 | Slice a b c p=>exact ⟨p,sj h▸rfl⟩| _=>exact nx0 h
theorem c2a (R:Rl B Pr c) (op)(ra:VR B Pr c a x):Sm B Pr A c (d7Y op a) (unaryOp op x) (VRel B):=by
 cases op with
 | Not=>exact .rd (f:=λ H=>ob (b6W H a) λ b=>some (PV.bool (!b))) λ v e=>oE e λ b hb e=>sE v e λ Q k=>not_value (a6m R ra hb λ t=>k _ _ _ ((e2s R).tok t) (.bool _))| USub=>exact .opt λ v e=>oE e λ i hi e=>sE v e (e2q x (a0c hi▸ra) λ t Q k=>neg_int (k _ _ _ ((e2s R).tok _) (.int _ _)))| _=>exact .no
theorem b8M (K:RcOK B n r)(X:At B n ae env Pr A c){lo hi sp:Option Expr}(W1:Wt B Pr c c1)(r1:VR B Pr c1 x y)
 (e:Ran B (Ev.bind (c7o r ae lo) λ l=>Ev.bind (c7o r ae hi) λ h=>Ev.bind (c7o r ae sp) λ s=>a6b x l h s) c1.st v st') (k:Fn B Pr c (VRel B) v st' Q) :
 wpAny (Mo B.w) A (eval (.Slice lo hi sp p) env) (λ j s₂=>a7s s₂ y/\wpAny (Mo B.w) A (getItem y j) Q E0 s₂) E0 c1.s:=by
 refine wpAny_Slice ((a9V K (X.went W1) lo).then e λ lv c2 lx e2 W2 r2=>?_);have W12:=W1.tr X.r W2;refine (a9V K (X.went W12) hi).then e2 λ uv c3 ux e3 W3 r3=>?_;have W13:=W12.tr X.r W3;refine (a9V K (X.went W13) sp).then e3 λ pv c4 px e4 W4 r4=>?_;have kk:∀ b o,c4.s.heap.get? b=some o->(c4.s.heap.push { cls:=.type "slice",data:=.fields #[lx,ux,px] }).get? b=some o:=λ b o e=>Heap.get?_push_of_some _ e;have W5:Wt B Pr c ⟨c4.ρ,c4.st,{ c4.s with heap:=c4.s.heap.push { cls:=.type "slice",data:=.fields #[lx,ux,px] } }⟩:=(W13.tr X.r W4).more c4.s.toks kk;have C5:=Carry.ext (mt:=c4.mt Pr) (ρ:=c4.ρ) kk;have C4:=W4.ca W3.rel;have C3:=W3.ca W2.rel;have ry:=(((r1.mono (W2.ca W1.rel)).mono C3).mono C4).mono C5;exact ⟨a6R W5.rel ry e4,(b1A W5.rel ry (((r2.mono C3).mono C4).mono C5) ((r3.mono C4).mono C5) (r4.mono C5) (Heap.IsSliceOf.new ..):Sm B Pr A ⟨c4.ρ,c4.st,{ c4.s with heap:=c4.s.heap.push { cls:=.type "slice",data:=.fields #[lx,ux,px] } }⟩ _ _ _).last e4 X.r W5 k⟩
theorem c4U (BO:BaseOK B)(K:RcOK B n r)(hcall:c1u B n r)(hcomp:c1s B n r) (e)(X1:At B (n+1) ae env Pr A c):Sm B Pr A c (d2s r e ae) (eval e env) (VRel B):=by
 have X:=X1.dn;cases e with
 | Constant k m pos=>exact b8O X.r k m pos| Name x pos=>exact λ v st' h Q k=>wpAny_Name (a9W BO.glob X.v X.r x v st' h Q k) (a8a h)| BoolOp op xs pos=>exact b8S K op pos xs X| BinOp l op x pos=>exact λ v st' h Q k=>wpAny_BinOp ((K.e l X).then h λ a c1 y e1 W1 r1=>(K.e x (X.went W1)).then e1 λ b c2 z e2 W2 r2=>(b8T W2.rel op (r1.mono (W2.ca W1.rel)) r2:Sm B Pr A c2 _ _ _).last e2 X.r (W1.tr X.r W2) k)| UnaryOp op x pos=>exact λ v st' h Q k=>wpAny_UnaryOp ((K.e x X).then h λ a c1 y e1 W1 r1=>(c2a W1.rel op r1).last e1 X.r W1 k)| IfExp t a b pos=>
   exact λ v st' h Q k=>wpAny_IfExp ((K.t t X).then h λ c c1 y e1 W1 r1=>by
    obtain rfl:y=c:=r1;cases y with
    | true=>exact (K.e a (X.went W1)).last e1 X.r W1 k| false=>exact (K.e b (X.went W1)).last e1 X.r W1 k)
 | Dict ks vs pos=>exact c2d BO.sys K pos X| List es pos=>exact λ v st' h Q k=>wpAny_List ((a9X K pos es X).then h λ l c1 xs e1 W1 r1=>by obtain ⟨rfl,rfl,hz⟩:=e1.new;exact ⟨r1.length▸hz,k _ _ _ (W1.newList X.r c1.s.toks 0 r1 hz) (.locNew W1.rel)⟩)| Tuple es m pos=>exact λ v st' h Q k=>wpAny_Tuple ((a9X K pos es X).then h λ l c1 xs e1 W1 r1=>by obtain ⟨H',n',f1,hz,rfl⟩:=e1.up;obtain ⟨rfl,rfl,rfl⟩:=a1C f1;exact ⟨r1.length▸hz,k _ _ _ (W1.more c1.s.toks λ b o e=>Heap.get?_push_of_some _ e) (VRel.newTup W1.rel 0 r1 hz)⟩)| ListComp elt gens sc pos=>exact .oc (λ g hg=>c6P hg▸hcomp elt g.1 g.2.1 g.2.2 sc pos X1) λ _=>.no| Compare l ops xs pos=>intro v st' h Q k;show wpAny (Mo B.w) A (do compareChain pos (<- eval l env) ops (markedEach ops xs (evalEach xs env))) _ E0 c.s;exact wpAny_bind ((K.e l X).then h λ a c1 y e1 W1 r1=>(b1B K pos ops xs (X.went W1) r1).1.then e1 λ d c2 w e2 W2 r2=>e2.fin k (W1.tr X.r W2) ((show w=.bool d from r2)▸VRel.bool d))| Call f args kws pos=>exact hcall f args kws pos X1| Attribute o a pos=>exact .gE' λ hs v st' h Q k=>b6T hs ((K.e o X).then h λ x c1 y e1 W1 r1=>(b3I BO.cls W1.rel a r1:Sm B Pr A c1 _ _ _).last e1 X.r W1 k)| Subscript o i pos=>
   exact λ v st' h Q k=>b6S ((K.e o X).then h λ x c1 y e1 W1 r1=>e1.oc (λ q hq e1=>(c1j hq).elim λ p z=>by rw [z]; exact b8M K X W1 r1 e1 k)
    λ _ e1=>(K.e i (X.went W1)).then e1 λ b c2 z e2 W2 r2=>⟨a7W W2.rel (r1.mono (W2.ca W1.rel)) e2,(b3H X.ro.hu8 W2.rel (r1.mono (W2.ca W1.rel)) r2:Sm B Pr A c2 _ _ _).last e2 X.r (W1.tr X.r W2) k⟩)
 | _=>exact .no
theorem b1u (h:d2H op=false):isTrue (.UnaryOp op y p) env w=(do let v <- w; standAt p; holding [v] (truthy v)):=by cases op <;> first | rfl | exact nx3 h
theorem a8Q (K:RcOK B n r)(X:At B n ae env Pr A c)(h:isTrue e env (eval e env)=(do let v <- eval e env; standAt e.pos; holding [v] (truthy v))):Sm B Pr A c (b8r r e ae) (isTrue e env (eval e env)) c9u:=λ v st' e1 Q k=>by rw [h];exact wpAny_bind ((K.e e X).then e1 λ a c1 y e1 W1 r1=>wpAny_bind (wpAny_standAt (wpAny_holding (a6m W1.rel r1 e1.rd.1 λ t=>k c1.ρ _ _ (e1.rd.2▸W1.tok t) rfl))))
theorem c2P (K:RcOK B n r) (e)(X1:At B (n+1) ae env Pr A c):Sm B Pr A c (d0P r e ae) (isTrue e env (eval e env)) c9u:=by
 have X:=X1.dn;cases e with
 | UnaryOp op x pos=>
   refine .bc (λ hn=>?_) λ hn=>a8Q K X (b1u hn);obtain rfl:op=.Not:=by cases op <;> first | rfl | exact nx2 hn
   exact λ v st' h Q k=>wpAny_isTrue_Not ((K.t x X).then h λ a c1 y e1 W1 r1=>e1.fin k W1 (r1▸rfl))
 | BoolOp op xs pos=>exact λ v st' h Q k=>wpAny_isTrue_BoolOp (c2c K op xs X v st' h Q k)| IfExp t a b pos=>exact .no| Compare l ops xs pos=>intro v st' h Q k;show wpAny (Mo B.w) A (do testChain pos (<- eval l env) ops (markedEach ops xs (evalEach xs env))) _ E0 c.s;exact wpAny_bind ((K.e l X).then h λ a c1 y e1 W1 r1=>(b1B K pos ops xs (X.went W1) r1).2.last e1 X.r W1 k)| _=>exact a8Q K X rfl
end
section
variable {B:Base}{n:Nat}{r:Rc}{ae:AEnv}{env:Env}{Pr:Addr->Prop}{A:Around}
theorem a9n (h:a3T t=some x):∃ p,t=.Name x p:=by
 cases t with
 | Name y p=>exact ⟨p,sj h▸rfl⟩| _=>exact nx0 h
theorem a4F {st st':St}{G:Prop}(e:Ran B (a1Z ae (t::ts) l) st u st')
 (k:∀ x p v l' st1,t=.Name x p->l=v::l'->Ran B (a3a ae x v) st () st1->Ran B (a1Z ae ts l') st1 u st'->G):G:=by
 dsimp only [a1Z] at e;cases h:a3T t with
 | none=>rw [h] at e; exact e.no| some x=>
   rw [h] at e;cases l with
   | nil=>exact e.no| cons v l=>exact (a9n h).elim λ p hp=>Ran.bind e λ _ st1 e1 e2=>k x p v l st1 hp rfl e1 e2
theorem b0A (h:c3g l=true):l=[]:=by
 cases l with
 | nil=>rfl| cons=>exact nx2 h
theorem a4V:∀ {l:List PV}{st st':St}{u:Unit},Ran B (a1Z ae ts l) st u st'->ts.length=l.length/\(assignEach ts env).length=ts.length/\(assignEach ts env).findIdx? (·.1)=none:=by
 induction ts with
 | nil=>exact fun {l st st' u} e=>by rw [b0A e.gE'.1]; exact ⟨rfl,rfl,rfl⟩
 | cons t ts ih=>exact fun {l st st' u} e=>a4F e λ x p v l' st1 h1 h2 _ e2=>by have z:=ih e2;rw [h1,h2];have e:assignEach (.Name x p::ts) env=(false,assign (.Name x p) env)::assignEach ts env:=rfl;rw [e];exact ⟨congrArg (· + 1) z.1,congrArg (· + 1) z.2.1,by rw [List.findIdx?_cons,z.2.2]; rfl⟩
theorem b1C:∀ {l:List PV}{xs:List Value}{c:Cf},EnvOK B ae env c.ρ->Rl B Pr c->VRs B Pr c l xs->Sm B Pr A c (a1Z ae ts l) (assignInOrder ((assignEach ts env).map (·.2)) xs) b7X:=by
 induction ts with
 | nil=>exact fun {l xs c} V R rs=>.gE' λ h=>.ret λ Q k=>by obtain rfl:=b0A h;exact rs.nilE xs (wpAny_pure (k _ _ _ (e2s R) trivial))
 | cons t ts ih=>intro l xs c V R rs u st' e Q k;refine a4F e λ x p v l' st1 h1 h2 e1 e2=>?_;rw [h2] at rs;rw [h1];refine rs.consE xs λ y ys ry rys=>?_;show wpAny (Mo B.w) A (do holding ys (assign (.Name x p) env y); assignInOrder ((assignEach ts env).map (·.2)) ys) _ E0 c.s;refine wpAny_bind (wpAny_holding (wpAny_assign_Name (a2e V R x ry () st1 e1 _ λ ρ1 s1 z W1 _=>?_)));have W1:Wt B Pr c ⟨ρ1,st1,s1⟩:=W1;exact (ih (V.went W1) W1.rel (rys.mono (W1.ca R))).last e2 R W1 k
theorem b6d {c:Cf}(hh:A.handled=none)(V:EnvOK B ae env c.ρ)(R:Rl B Pr c)(rv:VR B Pr c v x) (ts) :
 Sm B Pr A c (Ev.bind (Ev.rd λ H=>a4H H v) λ l=>a1Z ae ts l) (unpack x (assignEach ts env)) b7X:=λ u st' e Q k=>e.rdT λ l f1 e2=>by
 have z:=a4V (env:=env) e2;obtain ⟨ad,o,xs,g,sq,rs⟩:=a2B R rv f1;have hlen:(assignEach ts env).length=xs.toArray.size:=z.2.1.trans (z.1.trans rs.len);have go:∀ h',Heap.ExtBut c.s.heap.objs.size c.s.heap h'->wpAny (Mo B.w) A (assignInOrder ((assignEach ts env).map (·.2)) xs.toArray.toList) Q E0 { c.s with heap:=h' }:=λ h' hx=>by have kk:∀ b o,c.s.heap.get? b=some o->h'.get? b=some o:=λ b o e=>hx b o (e1q (Heap.lt_size e)) e;have W:Wt B Pr c ⟨c.ρ,c.st,{ c.s with heap:=h' }⟩:=(e2s R).more c.s.toks kk;exact (b1C (V.went W) W.rel (rs.mono (.ext kk))).last e2 R W k
 unfold unpack;rw [hlen,z.2.2];refine wpAny_bind (wpAny_holding ?_);cases hil:a1A c.st.H v with
 | true=>rw [hil] at sq; exact PySem.W.kun_itemsOf hh (sq.list g) go| false=>rw [hil] at sq; exact wpAny_unpackItems_tuple hh (sq.tuple g) go
theorem b3K (BO:BaseOK B)(K:RcOK B n r) (t)(X:At B n ae env Pr A c)(rv:VR B Pr c v x):Sm B Pr A c (asg r ae t v) (assign t env x) b7X:=by
 cases t with
 | Name y p=>exact λ u st' e Q k=>wpAny_assign_Name (a2e X.v X.r y rv u st' e Q k)| Tuple ts m p=>exact λ u st' e Q k=>by rw [arm_assign_Tuple]; exact wpAny_bind (wpAny_standAt (b6d X.ro.hd X.v X.r rv ts u st' e Q k))
 | Attribute o a p=>
   intro u st' e Q k;rw [arm_assign_Attribute];exact wpAny_bind (wpAny_holding ((K.e o X).then e λ w c1 y e1 W1 r1=>wpAny_bind (wpAny_standAt (wpAny_bind (wpAny_holding
    ((b3E BO.cls W1.rel a r1 (rv.mono (W1.ca X.r)):Sm B Pr A c1 _ _ b7X).last e1 X.r W1 λ ρ' s' b W p=>wpAny_release' (k ρ' s' b W p)))))))
 | Subscript o i p=>refine .gE' λ _ u st' e Q k=>?_;rw [arm_assign_Subscript];refine wpAny_bind (wpAny_holding ((K.e o X).then e λ w c1 y e1 W1 r1=>wpAny_bind (wpAny_holding ((K.e i (X.went W1)).then e1 λ w2 c2 z e2 W2 r2=>wpAny_bind (wpAny_standAt (wpAny_bind (wpAny_holding ?_)))))));have W:=W1.tr X.r W2;exact (b3D X.ro.hu8 W2.rel (r1.mono (W2.ca W1.rel)) r2 (rv.mono (W.ca X.r)):Sm B Pr A c2 _ _ b7X).last e2 X.r W λ ρ' s' b W p=>wpAny_release' (k ρ' s' b W p)| _=>exact .no
end
end
section
end
section
open PySem PySem.Calls PyProof.Rows
open Sem (wp)
noncomputable def c6T (m:Str->Option Value):List (Str×Value)->Str->Option Value
 | []=>m| p::L=>c6T (λ z=>if z=p.1 then some p.2 else m z) L
theorem a9r:∀ {L:List (Str×Value)},z ∉ L.map (·.1)->L.lookup z=none
 | [],_=>rfl| p::L,h=>by rw [e0x,beq_eq_false_iff_ne.mpr (λ e:z=p.1=>h (by rw [e]; exact e0X))];exact a9r λ m=>h (e0Z _ m)
theorem b3u:∀ {L:List (Str×Value)}{m:Str->Option Value},(L.map (·.1)).Nodup->c6T m L z=(L.lookup z).or (m z)
 | [],m,_=>rfl| p::L,m,h=>by
   have h:=e1D.mp h;rw [c6T,b3u h.2,e0x];by_cases hz:z=p.1
   · rw [a9r (hz▸h.1),if_pos hz,beq_iff_eq.mpr hz]; rfl
   · rw [if_neg hz,beq_eq_false_iff_ne.mpr hz]
theorem b5Q:∀ {L:List (Str×Value)},(L.map (·.1)).Nodup->L.reverse.lookup z=L.lookup z
 | [],_=>rfl| p::L,h=>by
   have h:=e1D.mp h;rw [List.reverse_cons,List.lookup_append,b5Q h.2,e0x,e0x];by_cases hz:z=p.1
   · rw [a9r (hz▸h.1),beq_iff_eq.mpr hz]; rfl
   · rw [beq_eq_false_iff_ne.mpr hz]; exact Option.or_none
theorem c4J {L:List (Str×Value)}(h:(L.map (·.1)).Nodup):c6T m L.reverse=c6T m L:=funext λ z=>by rw [b3u h,b3u (by rw [e2Q]; exact List.pairwise_reverse.mpr (h.imp λ n e=>n e.symm)),b5Q h]
section
variable {B:Base}{n:Nat}{r:Rc}{ae:AEnv}{env:Env}{Pr:Addr->Prop}{A:Around}{mt:Addr->Prop}{ρ:List Addr}{h:Heap}
theorem b0r {st st':St}(hk:a1H ae.sc.names x=some .local)(e:Ran B (a3a ae x v) st u st')(hH:st.H[ae.L]?=some (.fr fs vs)) :
 st'=⟨st.H.set ae.L (.fr (b2q fs vs x v).1 (b2q fs vs x v).2),st.hs⟩:=by
 obtain ⟨H',n',f1,_,rfl⟩:=e.stn.up;refine oE f1 λ k h1 f1=>?_;rw [<- sj (hk.symm.trans h1)] at f1;refine oE f1 λ p hp f1=>?_;have z:=sj (hH.symm.trans (a1I hp));injection z with z1 z2
 have w:=a1C f1;rw [<- w.2.1,z1,z2]
theorem b9Y {ts:List Expr}:∀ {ns:List Str}{l:List PV}{xs:List Value}{st st':St}{u:Unit}{fs:List Str}{vs:List PV}{l0:List (Str×Value)},ts.map a3T=ns.map some->(∀ x∈ns,a1H ae.sc.names x=some .local)->Ran B (a1Z ae ts l) st u st' ->
 st.H[ae.L]?=some (.fr fs vs)->NRel B mt ρ h fs vs l0->VRels B mt ρ h l xs->∃ fs' vs' l',st'.H=st.H.set ae.L (.fr fs' vs')/\NRel B mt ρ h fs' vs' l'/\(λ z=>l'.lookup z)=c6T (λ z=>l0.lookup z) (ns.zip xs)/\ns.length=xs.length:=by
 induction ts with
 | nil=>intro ns l xs st st' u fs vs l0 hn hl e hH r rs;obtain rfl:ns=[]:=List.map_eq_nil_iff.mp hn.symm;obtain rfl:=b0A e.gE'.1;rw [e.gE'.2.ret.2];exact rs.nilE xs ⟨fs,vs,l0,by obtain ⟨hi,z⟩:=List.getElem?_eq_some_iff.mp hH; rw [<- z,List.set_getElem_self],r,rfl,rfl⟩
 | cons t ts ih=>
   intro ns l xs st st' u fs vs l0 hn hl e hH r rs;refine a4F e λ x p v l' st1 h1 h2 e1 e2=>?_;cases ns with
   | nil=>exact nomatch hn| cons y ns=>have hn:=List.cons.inj hn;obtain rfl:x=y:=sj ((congrArg a3T h1).symm.trans hn.1);rw [h2] at rs;refine rs.consE xs λ w ws rw_ rws=>?_;obtain rfl:=b0r (hl _ e0X) e1 hH;refine (NRel.set (v:=v) x rw_ r).elim λ l1 q=>?_;obtain ⟨fs',vs',l2,g1,g2,g3,g4⟩:=ih hn.2 (λ z m=>hl z (e0Z _ m)) e2 (List.getElem?_set_self (a0Q hH)) q.1 rws;exact ⟨fs',vs',l2,g1.trans (List.set_set ..),g2,g3.trans (congrArg (λ m=>c6T m (ns.zip ws)) (funext q.2.1)),congrArg (· + 1) g4⟩
theorem c3H (hk:env.scope.kind=.function):∀ {m:Str->Option Value}{s:Shared}{Q:Unit->Shared->Prop},s.heap.Ns env.locals m->(∀ p∈L,env.kindOf p.1=some .local) ->
 (∀ h' t,(∀ b o,b≠env.locals->s.heap.get? b=some o->h'.get? b=some o)->h'.Ns env.locals (c6T m L)->Q () { s with heap:=h',toks:=t })->wpAny (Mo B.w) A (assignInOrder (L.map λ p v=>bindName env p.1 v) (L.map (·.2))) Q E0 s:=by
 induction L with
 | nil=>exact fun {m s Q} hn _ k=>wpAny_pure (k s.heap s.toks (λ _ _ _ e=>e) hn)| cons p L ih=>intro m s Q hn hl k;show wpAny (Mo B.w) A (do holding (L.map (·.2)) (bindName env p.1 p.2); assignInOrder (L.map λ p v=>bindName env p.1 v) (L.map (·.2))) _ E0 s;refine wpAny_bind (wpAny_holding (wpAny_bindName (wpAny_storeName_local (hl p e0X) hn (λ ha hna hsa=>?_) (by rw [hk]; rfl))));exact ih (s:={ s with heap:=ha,toks:=s.toks+1 }) hna (λ q m=>hl q (e0Z _ m)) λ h' t kk hf=>k h' t (λ b o nb e=>kk b o nb ((hsa.2 b nb).trans e)) hf
end
noncomputable def a0i (env:Env)(line:Nat):Expr->Option Str
 | .Name id pos=>if env.kindOf id==some .local&&pos.line==line then some id else none
 | _=>none
set_option backward.match.sparseCases true in
theorem a9S {ts vs:List Expr}(ok:(vs.all (foldedForSure 8) || !vs.all (constantsAlone 8))=true) :
 swappedStores [.Tuple ts k p] (.Tuple vs k2 p2) env=pure none \/
 ∃ line,swappedStores [.Tuple ts k p] (.Tuple vs k2 p2) env=pure (some (ts.filterMap (a0i env line)))/\(ts.length=2\/ts.length=3)/\(ts.filterMap (a0i env line)).length=ts.length/\(ts.filterMap (a0i env line)).eraseDups.length=(ts.filterMap (a0i env line)).length:=by
 have hf:(λ x:Expr=>match x with | .Name id pos=>if env.kindOf id==some .local&&pos.line==(ts.head?.map (·.pos.line)).getD 0 then some id else none | _=>none)=a0i env ((ts.head?.map (·.pos.line)).getD 0):=by funext x; cases x <;> rfl
 have key:swappedStores [.Tuple ts k p] (.Tuple vs k2 p2) env =
  (if (!(ts.length == 2 || ts.length == 3) || vs.length != ts.length || env.blockKind != .function)=true then pure none
   else if (vs.any fun | .Starred ..=>true | _=>false)=true then pure none
   else if ((ts.filterMap (a0i env ((ts.head?.map (·.pos.line)).getD 0))).length != ts.length||(ts.filterMap (a0i env ((ts.head?.map (·.pos.line)).getD 0))).eraseDups.length != (ts.filterMap (a0i env ((ts.head?.map (·.pos.line)).getD 0))).length)=true then pure none
   else if vs.all (foldedForSure 8)=true then pure none
   else if vs.all (constantsAlone 8)=true then unsupported "assign.tuple-of-constant-expressions:order-of-the-stores"
   else pure (some (ts.filterMap (a0i env ((ts.head?.map (·.pos.line)).getD 0))))):=by
  rw [<- hf];rfl
 rw [key];by_cases c1:(!(ts.length==2||ts.length==3)||vs.length != ts.length||env.blockKind != .function)=true
 · rw [if_pos c1]; exact .inl rfl
 rw [if_neg c1];by_cases c2:(vs.any fun | .Starred ..=>true | _=>false)=true
 · rw [if_pos c2]; exact .inl rfl
 rw [if_neg c2];by_cases c3:((ts.filterMap (a0i env ((ts.head?.map (·.pos.line)).getD 0))).length != ts.length||(ts.filterMap (a0i env ((ts.head?.map (·.pos.line)).getD 0))).eraseDups.length != (ts.filterMap (a0i env ((ts.head?.map (·.pos.line)).getD 0))).length)=true
 · rw [if_pos c3]; exact .inl rfl
 rw [if_neg c3];by_cases c4:vs.all (foldedForSure 8)=true
 · rw [if_pos c4]; exact .inl rfl
 rw [if_neg c4];have c5:¬ vs.all (constantsAlone 8)=true:=by intro h;rw [h] at ok;simp only [Bool.not_true,Bool.or_false] at ok;exact c4 ok
 rw [if_neg c5];refine .inr ⟨_,rfl,?_,?_,?_⟩
 · simp only [Bool.not_eq_true,e2R] at c1;have:=c1.1.1;simp only [Bool.not_eq_false',Bool.or_eq_true,beq_iff_eq] at this;exact this
 · simp only [Bool.not_eq_true,e2R,bne_eq_false_iff_eq] at c3;exact c3.1
 · simp only [Bool.not_eq_true,e2R,bne_eq_false_iff_eq] at c3;exact c3.2
section
variable {B:Base}{n:Nat}{r:Rc}{ae:AEnv}{env:Env}{Pr:Addr->Prop}{A:Around}{c:Cf}
theorem a9J (x):∀ l:List (Str×NameKind),a5t x l=l.any λ (n,k)=>n == x && (k == .local || k == .cell)
 | []=>rfl| (n,k)::l=>by show ((sEq n x&&_)||a5t x l)=_;rw [e2F,<- a9J x l,a6q];have:(n==x)=decide (n=x):=Bool.eq_iff_iff.mpr (by rw [beq_iff_eq,decide_eq_true_iff]);dsimp only;rw [this];cases k <;> rfl
theorem b4g (V:EnvOK B ae env ρ) (line)(ho:b3a e=true):swapsWith e (some t) line env=pure (a8P ae t e).isSome:=by
 cases e with
 | ListComp elt gens sc pos=>
   cases t with
   | Name x p=>
     show (pure (env.blockKind==.function&&env.kindOf x==some .local&&p.line==pos.line && !(sc.names.any λ (n,k)=>n==x&&(k==.local||k==.cell))):Sem Bool)=pure (gd (c0H (a1H ae.sc.names x)&&(e0Y p.line pos.line && !a5t x sc.names)) (some x)).isSome;have hb:(env.blockKind==ScopeKind.function)=true:=by unfold Env.blockKind;rw [V.hk]; rfl
     have hl:(a1H ae.sc.names x == some .local)=c0H (a1H ae.sc.names x):=by
      cases a1H ae.sc.names x with
      | none=>rfl| some k=>cases k <;> rfl
     have hp:(p.line==pos.line)=e0Y p.line pos.line:=Bool.eq_iff_iff.mpr (by rw [beq_iff_eq]; exact ⟨λ h=>by rw [h]; exact e1X _,e0r⟩);rw [hb,V.kindOf x,<- a9J,hl,hp,Bool.true_and,Bool.and_assoc];cases c0H (a1H ae.sc.names x)&&(e0Y p.line pos.line && !a5t x sc.names) <;> rfl
   | _=>rfl
 | SetComp=>exact nx2 ho| DictComp=>exact nx2 ho| _=>rfl
theorem a7y (h:a4v t e=true):b3a e=true:=(a0A h).1
theorem c5k {a b:Str}(h:[a,b].eraseDups.length=2):[a,b].Nodup:=by refine e1D.mpr ⟨λ m=>?_,List.pairwise_singleton _ _⟩;rw [e0u.mp m,e2S] at h;simp at h
theorem d1X {a b c:Str}(h:[a,b,c].eraseDups.length=3):[a,b,c].Nodup:=by
 rw [e2S] at h;cases hb:(b==a) with
 | true=>simp only [e2T,hb,Bool.not_true,e2U,if_false,e0n] at h;cases hc:(c==a) <;> simp [hc,e2S] at h
 | false=>cases hc:(c == a) with
   | true=>simp [hb,hc,e2S] at h| false=>simp only [e2T,hb,hc,Bool.not_false,if_true,List.filter_nil,e0n] at h;exact e1D.mpr ⟨λ m=>(e0d.mp m).elim (λ e=>beq_eq_false_iff_ne.mp hb e.symm) λ m=>beq_eq_false_iff_ne.mp hc (e0u.mp m).symm,c5k (Nat.succ.inj h)⟩
theorem b7L {l:List Str}(hl:l.length=2\/l.length=3)(h:l.eraseDups.length=l.length):l.Nodup:=by
 rcases hl with hl | hl
 · match l,hl with
   | [a,b],_=>exact c5k h
 · match l,hl with
   | [a,b,c],_=>exact d1X h
theorem a7A (h:a0i env line e=some x):a3T e=some x/\env.kindOf x=some .local:=by
 cases e with
 | Name id pos=>
   unfold a0i at h;dsimp only at h;split at h
   · rename_i hc;obtain rfl:=sj h;exact ⟨rfl,eq_of_beq (a0A hc).1⟩
   · exact nx0 h
 | _=>exact nx0 h
theorem c0m:∀ {l:List Expr},(l.filterMap (a0i env line)).length=l.length->l.map a3T=(l.filterMap (a0i env line)).map some /\ ∀ x∈l.filterMap (a0i env line),env.kindOf x=some .local
 | [],_=>⟨rfl,λ _ m=>absurd m e0b⟩
 | a::l,h=>by
   rw [e2V] at h ⊢;cases ha:a0i env line a with
   | none=>rw [ha] at h;exact absurd (h▸List.length_filterMap_le (a0i env line) l) (Nat.not_succ_le_self _)| some x=>rw [ha] at h;have z:=c0m (Nat.succ.inj h);exact ⟨by rw [e0v,e0v,z.1,(a7A ha).1],λ y m=>(e0d.mp m).elim (λ e=>e▸(a7A ha).2) (z.2 y)⟩
theorem b8J (V:EnvOK B ae env c.ρ)(R:Rl B Pr c){ts:List Expr}(hl2:(ts.filterMap (a0i env line)).length=ts.length)(hnd:(ts.filterMap (a0i env line)).Nodup)(rs:VRs B Pr c l xs)(hH:c.st.H[ae.L]?=some (.fr fs vs)) :
 Sm B Pr A c (a1Z ae ts l) (assignInOrder ((ts.filterMap (a0i env line)).reverse.map λ n=>bindName env n) xs.reverse) b7X:=by
 intro u st' e Q k;have z:=c0m hl2;refine (R.loc V.L hH).elim λ l0 r=>?_;obtain ⟨fs',vs',l',g1,g2,g3,g4⟩:=b9Y z.1 (λ x m=>(V.kindOf x).symm.trans (z.2 x m)) e hH r.2 rs;have hf:((ts.filterMap (a0i env line)).zip xs).map (·.1)=ts.filterMap (a0i env line):=List.map_fst_zip (e1L g4);have hs:((ts.filterMap (a0i env line)).zip xs).map (·.2)=xs:=List.map_snd_zip (e1L g4.symm);have e1:(ts.filterMap (a0i env line)).reverse.map (λ n=>bindName env n)=((ts.filterMap (a0i env line)).zip xs).reverse.map (λ p v=>bindName env p.1 v):=by rw [e2Q,e2Q];exact congrArg List.reverse ((congrArg (List.map λ n=>bindName env n) hf.symm).trans (e1H ..))
 rw [e1,show xs.reverse=((ts.filterMap (a0i env line)).zip xs).reverse.map (·.2) from by rw [e2Q,hs]];refine c3H V.hk r.1 (λ p m=>z.2 p.1 (by rw [<- hf]; exact e0e.mpr ⟨p,List.mem_reverse.mp m,rfl⟩)) λ h' t kk hn=>k c.ρ _ _ ?_ trivial;rw [c4J (by rw [hf]; exact hnd),<- g3] at hn;rw [g1];exact Went.upd R t V.L hH rfl kk ⟨l',hn,g2.mono (Carry.upd R V.L hH rfl kk)⟩
theorem b2v (ts) (k) (p) (env)(h:b2h e=none):swappedStores [.Tuple ts k p] e env=pure none:=by cases e <;> first | rfl | exact nx1 h
theorem c4t (h:b2h e=some vs):∃ k p,e=.Tuple vs k p:=by cases e <;> first | exact nx0 h | exact ⟨_,_,by rw [sj h]⟩
theorem c9j (x)(h:Ran B (asg r ae t v) st1 u st'):assignAll x ((assignEach [t] env).map (·.2))=assign t env x:=by cases t <;> first | rfl | exact h.no
abbrev c9s (B:Base):(Addr->Prop)->List Addr->Heap->Unit->Flow->Prop:=λ _ _ _ _ f=>f=.next
theorem a1n (BO:BaseOK B)(K:RcOK B n r)(X:At B n ae env Pr A c)(rv:VR B Pr c v x)(hw:swappedStores [t] e env=pure none) :
 Sm B Pr A c (asg r ae t v) (do assignStores env x (<- swappedStores [t] e env) ((assignEach [t] env).map (·.2))) (c9s B):=by
 intro u st' h Q k;rw [hw];refine wpAny_bind (wpAny_pure ?_);show wpAny (Mo B.w) A (do assignAll x ((assignEach [t] env).map (·.2)); pure Flow.next) _ E0 c.s;rw [c9j x h];exact wpAny_bind (b3K BO K t X rv u st' h _ λ ρ' s' b W _=>wpAny_pure (k ρ' s' _ W rfl))
theorem b3s (V:EnvOK B ae env c.ρ){ts:List Expr}(hl:0<ts.length)(hk:∀ t∈ts,∃ x,a3T t=some x/\a1H ae.sc.names x=some .local)(e:Ran B (a1Z ae ts l) c.st u st'):∃ fs vs,c.st.H[ae.L]?=some (.fr fs vs):=by
 cases ts with
 | nil=>exact absurd hl (Nat.lt_irrefl 0)| cons t ts=>exact a4F e λ x p v l' st1 h1 _ e1 _=>(hk t e0X).elim λ y q=>by obtain rfl:y=x:=sj (q.1.symm.trans (congrArg a3T h1));obtain ⟨H',n',f1,_,_⟩:=e1.stn.up;refine oE f1 λ k h1 f1=>?_;rw [<- sj (q.2.symm.trans h1)] at f1;exact oE f1 λ p hp _=>⟨_,_,a1I hp⟩
theorem b4P (X:At B n ae env Pr A c)(rv:VR B Pr c v x)
 (hw:swappedStores [.Tuple ts k p] e env=pure (some (ts.filterMap (a0i env line)))) (hlen:ts.length=2\/ts.length=3) (hl2:(ts.filterMap (a0i env line)).length=ts.length)
 (hdup:(ts.filterMap (a0i env line)).eraseDups.length=(ts.filterMap (a0i env line)).length) :
 Sm B Pr A c (asg r ae (.Tuple ts k p) v) (do assignStores env x (<- swappedStores [.Tuple ts k p] e env) ((assignEach [.Tuple ts k p] env).map (·.2))) (c9s B):=by
 intro u st' h Q kk;rw [hw];refine wpAny_bind (wpAny_pure (Ran.rdT h λ l g3 f4=>?_));have hll:=(a4V (env:=env) f4).1;have hnd:(ts.filterMap (a0i env line)).Nodup:=b7L (hl2▸hlen) hdup;have z:=c0m hl2;obtain ⟨fs,vs,hH⟩:=b3s X.v (hlen.elim (λ q=>q▸by decide) λ q=>q▸by decide) (λ t m=>by obtain ⟨x,hx,e⟩:=e0e.mp (z.1▸e0e.mpr ⟨t,m,rfl⟩:a3T t∈(ts.filterMap (a0i env line)).map some);exact ⟨x,e.symm,(X.v.kindOf x).symm.trans (z.2 x hx)⟩)             f4;obtain ⟨ad,o,xs,g,sq,rs⟩:=a2B X.r rv g3;have go:∀ h',Heap.ExtBut c.s.heap.objs.size c.s.heap h'->wpAny (Mo B.w) A (do assignInOrder ((ts.filterMap (a0i env line)).reverse.map λ n=>bindName env n) xs.toArray.toList.reverse; pure Flow.next) Q E0 { c.s with heap:=h' }:=λ h' hx=>by have k1:∀ b o,c.s.heap.get? b=some o->h'.get? b=some o:=λ b o e=>hx b o (e1q (Heap.lt_size e)) e;have W:Wt B Pr c ⟨c.ρ,c.st,{ c.s with heap:=h' }⟩:=(e2s X.r).more c.s.toks k1;exact wpAny_bind ((b8J (c:=⟨c.ρ,c.st,{ c.s with heap:=h' }⟩) X.v W.rel hl2 hnd (rs.mono (.ext k1)) hH).last f4 X.r W λ ρ2 s2 b W2 _=>wpAny_pure (kk ρ2 s2 _ W2 rfl))
 show wpAny (Mo B.w) A (do
  rule "assign.swapped-stores"
  let items <- unpackItems (.ref ad) (ts.filterMap (a0i env line)).length none
  assignInOrder ((ts.filterMap (a0i env line)).reverse.map λ n=>bindName env n) items.reverse
  pure Flow.next) _ E0 c.s
 refine wpAny_bind (wpAny_rule (wpAny_bind ?_));rw [show (ts.filterMap (a0i env line)).length=xs.toArray.size from hl2.trans (hll.trans rs.len)];cases hil:a1A c.st.H v with
 | true=>rw [hil] at sq; exact PySem.W.kun_itemsOf X.ro.hd (sq.list g) go| false=>rw [hil] at sq; exact wpAny_unpackItems_tuple X.ro.hd (sq.tuple g) go
theorem b7V (BO:BaseOK B)(K:RcOK B n r)(X:At B n ae env Pr A c)(rv:VR B Pr c v x)(hok:a4v t e=true) :
 Sm B Pr A c (asg r ae t v) (do assignStores env x (<- swappedStores [t] e env) ((assignEach [t] env).map (·.2))) (c9s B):=by
 cases t with
 | Tuple ts k p=>
   cases he:b2h e with
   | none=>exact a1n BO K X rv (b2v ts k p env he)| some vs=>obtain ⟨k2,p2,rfl⟩:=c4t he;exact (a9S (env:=env) (k2:=k2) (p2:=p2) (a0A hok).2).elim (λ hw=>a1n BO K X rv hw) λ z=>z.elim λ line z=>b4P X rv z.1 z.2.1 z.2.2.1 z.2.2.2
 | Name=>exact a1n BO K X rv rfl| Attribute=>exact a1n BO K X rv rfl| Subscript=>exact a1n BO K X rv rfl| _=>exact .no
theorem b6l (BO:BaseOK B)(K:RcOK B n r) (t e) (pos)(X:At B n ae env Pr A c)(hsw:a8P ae t e=none)(hok:a4v t e=true) :
 Sm B Pr A c (Ev.bind (r.e e ae) λ v=>Ev.bind (asg r ae t v) λ _=>Ev.ret Fl.next) (exec (.Assign [t] e pos) env) (FRel B):=by
 intro f st' h Q k;rw [exec_Assign_arm];refine wpAny_bind (wpAny_standAt ?_);have h1:swapsWithSole [t] e pos.line env=pure false:=by show swapsWith e (some t) pos.line env=_;rw [b4g X.v pos.line (a7y hok),hsw]; rfl
 rw [h1];refine wpAny_bind (wpAny_pure ?_);rw [if_neg (by decide)];exact wpAny_bind ((K.e e X).then h λ v c1 x e1 W1 r1=>(b7V BO K (X.went W1) r1 hok).then e1 λ u c2 y e2 W2 r2=>e2.fin k (W1.tr X.r W2) r2)
end
section
variable {B:Base}{n:Nat}{r:Rc}{ae:AEnv}{env:Env}{Pr:Addr->Prop}{A:Around}{c:Cf}
def b4S (B:Base)(n:Nat)(r:Rc):Prop:=∀ {ae:AEnv}{env:Env}{Pr:Addr->Prop}{A:Around}{c:Cf}(t:Expr)(b:List Stmt)(pos:Pos),At B (n+1) ae env Pr A c->Sm B Pr A c (b4W (r.t t ae) (r.ss b ae) 200) (exec (.While t b [] pos) env) (FRel B)
def c9t (B:Base)(n:Nat)(r:Rc):Prop:=∀ {ae:AEnv}{env:Env}{Pr:Addr->Prop}{A:Around}{c:Cf}(t it:Expr)(b:List Stmt)(pos:Pos),At B (n + 1) ae env Pr A c ->
 Sm B Pr A c (Ev.bind (a1w r ae t it) λ src=>bc (b2E pos) (Ev.bind (Ev.rd λ H=>some H.length) λ s=>a3o (λ x=>Ev.bind (a5q r ae t b x) λ f=>c6Q s f) src) (a3o (a5q r ae t b) src)) (exec (.For t it b [] pos) env) (FRel B)
def c9q (B:Base)(n:Nat)(r:Rc):Prop:=∀ {ae:AEnv}{env:Env}{Pr:Addr->Prop}{A:Around}{c:Cf}(x:Str)(p:Pos)(e:Expr)(pos:Pos),At B (n+1) ae env Pr A c->a8P ae (.Name x p) e=some x->Sm B Pr A c (b4E r ae x e) (exec (.Assign [.Name x p] e pos) env) (FRel B)
theorem b2w (h:a8P ae t e=some x):∃ p,t=.Name x p:=by
 cases e with
 | ListComp elt gens sc pos=>
   cases t with
   | Name y p=>exact gE h λ _ h=>⟨p,sj h▸rfl⟩
   | _=>exact nx0 h
 | _=>exact nx0 h
theorem b0C (h:(!c0K e)=true) (line):swapsWith e none line env=pure false:=by cases e <;> first | rfl | exact nx2 h
theorem b3G (R:Rl B Pr c) (op)(e:d3L op x y=some v):a9N B Pr A c.ρ c.st.H c.s (inplaceOp op (.int x t) (.int y u)) (VRel B) v c.st.H:=by
 cases op with
 | Add=>exact sE v e λ Q k=>AutoIntOps.iadd_0 (k _ _ _ ((e2s R).tok _) (.int _ _))| Sub=>exact sE v e λ Q k=>AutoIntOps.isub_0 (k _ _ _ ((e2s R).tok _) (.int _ _))| _=>exact nx0 e
theorem c2j (BO:BaseOK B)(K:RcOK B n r)(hW:b4S B n r)(hF:c9t B n r)(hU:c9q B n r) (e)(X1:At B (n+1) ae env Pr A c):Sm B Pr A c (d0r r e ae) (exec e env) (FRel B):=by
 have X:=X1.dn;cases e with
 | Break pos=>exact .ret λ Q k=>wpAny_Break (k _ _ _ (e2s X.r) rfl)| Continue pos=>exact .ret λ Q k=>wpAny_Continue (k _ _ _ (e2s X.r) rfl)| Expr e pos=>
   refine .gE' λ hc f st' h Q k=>wpAny_Expr ((K.e e X).then h λ v c1 y e1 W1 r1=>?_) (by unfold interactive; rw [X.v.hk]; rfl) (b0C hc _);have z:=e1.gE';cases v with
   | none=>exact VRel.noneE y r1 (z.2.fin k W1 rfl)| int i=>exact e2q y r1 λ t=>z.2.fin k W1 rfl| _=>exact nx2 z.1
 | Return e pos=>
   cases e with
   | none=>exact .no| some e=>exact λ f st' h Q k=>wpAny_Return_some ((K.e e X).then h λ v c1 y e1 W1 r1=>e1.fin k W1 ⟨y,rfl,r1⟩)
 | Assign ts e pos=>exact λ f st' h Q k=>h.optT λ t ht h=>d6V ht▸h.oc (λ x hs h=>(b2w hs).elim λ p zt=>by rw [zt] at hs ⊢; exact hU x p e pos X1 hs f st' h Q k) λ hs h=>b6l BO K t e pos X hs h.gE'.1 f st' h.gE'.2 Q k| AugAssign t op e pos=>refine λ f st' h Q k=>h.optT λ x ht h=>(a9n ht).elim λ p zt=>zt▸wpAny_AugAssign_Name ((a9W BO.glob X.v X.r x:Sm B Pr A c _ _ (VRel B)).then h λ a c1 y e1 W1 r1=>?_);refine (K.e e (X.went W1)).then e1 λ b c2 z e2 W2 r2=>e2.optT λ v hv e3=>oE hv λ i hi hv=>oE hv λ j hj hv=>?_;have W:=W1.tr X.r W2;refine e2q y (a0c hi▸r1.mono (W2.ca W1.rel)) λ t=>e2q z (a0c hj▸r2) λ u=>b3G W2.rel op hv _ λ ρ3 s3 w W3 r3=>?_;have W':Wt B Pr c ⟨ρ3,c2.st,s3⟩:=W.tr X.r (c2:=⟨ρ3,c2.st,s3⟩) W3;exact (a2e (X.v.went W') W'.rel x r3:Sm B Pr A ⟨ρ3,c2.st,s3⟩ _ _ b7X).then e3 λ u c4 w4 e4 W4 _=>e4.fin k (W'.tr X.r W4) rfl| If t a b pos=>
   exact λ f st' h Q k=>wpAny_If ((K.t t X).then h λ d c1 y e1 W1 r1=>by
    obtain rfl:y=d:=r1;cases y with
    | true=>exact (K.ss a (X.went W1)).last e1 X.r W1 k| false=>exact (K.ss b (X.went W1)).last e1 X.r W1 k)
 | While t b o pos=>
   cases o with
   | nil=>exact .gE' λ _=>hW t b pos X1| cons=>exact .gE' λ h=>nx2 h
 | For t it b o pos=>
   cases o with
   | nil=>exact .gE' λ _=>hF t it b pos X1| cons=>exact .gE' λ h=>nx2 h
 | _=>exact .no
theorem b5f (h:a6G f=true):f=.next:=by cases f <;> first | rfl | exact nx2 h
theorem c2V (K:RcOK B n r) (l):∀ {c:Cf},At B n ae env Pr A c->Sm B Pr A c (a0a r ae l) (execs l env) (FRel B):=by
 induction l with
 | nil=>exact fun {c} X=>.ret λ Q k=>wpAny_execs_nil (k _ _ _ (e2s X.r) rfl)| cons x l ih=>
   intro c X f st' h Q k;refine wpAny_execs_cons ((K.s x X).then h λ g c1 y e1 W1 r1=>e1.bc (λ hg e1=>?_) λ hg e1=>?_)
   · obtain rfl:=b5f hg;obtain rfl:y=.next:=r1
     exact (ih (X.went W1)).last e1 X.r W1 k
   · have fin:=λ p=>e1.fin (x:=y) k W1 p;cases g with
     | next=>exact nx3 hg
     | brk=>obtain rfl:y=.brk:=r1; exact fin rfl
     | cont=>obtain rfl:y=.cont:=r1; exact fin rfl
     | ret v=>obtain ⟨z,rfl,rz⟩:=r1; exact fin ⟨z,rfl,rz⟩
end
theorem noE {α:Type}{t:Sem α}{Q:α->Shared->Prop}(h:wpAny (model prog w) A t Q E0 s):wpAny (model prog w) A t Q E s:=
 wpAny_mono h (λ _ _ h=>h) λ _ _ h=>h.elim
@[elab_as_elim] theorem b1I {B:Base}{Pr:Addr->Prop}{c c1:Cf}{go:Ev Fl}{g f:Fl}{st':St}{Q:Flow->Shared->Prop}{G:Flow->Prop}(y:Flow)(e:Ran B (b2F go g) c1.st f st')(r:FRel B (c1.mt Pr) c1.ρ c1.s.heap g y)(W:Wt B Pr c c1)(k:Fn B Pr c (FRel B) f st' Q)
 (hn:Ran B go c1.st f st'->G .next) (hc:Ran B go c1.st f st'->G .cont) (hb:Q .next c1.s->G .brk) (hr:∀ x,Q (.ret x) c1.s->G (.ret x)):G y:=by
  cases g with
  | next=>obtain rfl:y=.next:=r; exact hn e
  | cont=>obtain rfl:y=.cont:=r; exact hc e
  | brk=>obtain rfl:y=.brk:=r; exact hb (Ran.fin e k W rfl)
  | ret v=>obtain ⟨z,rfl,rz⟩:=r; exact hr z (Ran.fin e k W ⟨z,rfl,rz⟩)
theorem c2E (B) (n) (r)(K:RcOK B n r):b4S B n r:=by
 intro ae env Pr A c t b pos X1 f st' h Q k;have X:=X1.dn;refine wpAny_While (codeAny_whileLoop (λ m s'=>∃ c1:Cf,c1.s=s'/\Wt B Pr c c1/\Ran B (b4W (r.t t ae) (r.ss b ae) m) c1.st f st') ?_ 200 ⟨c,rfl,e2s X.r,h⟩);rintro m s' ⟨c1,rfl,W,e⟩;cases m with
 | zero=>exact e.no| succ m=>
   refine noE ((K.t t (X.went W)).then e λ d c2 y e2 W2 r2=>?_);obtain rfl:y=d:=r2;have W':=W.tr X.r W2;cases y with
   | false=>exact wpAny_execs_nil (Ran.fin e2 k W' rfl)| true=>
     refine noE ((K.ss b (X.went W')).then e2 λ g c3 z e3 W3 r3=>?_);have W3':=W'.tr X.r W3;refine b1I z e3 r3 W3' k (λ e=>?_) (λ e=>?_) (λ q=>?_) λ x q=>?_
     · exact ⟨m,e2J m,c3,rfl,W3',e⟩
     · exact ⟨m,e2J m,c3,rfl,W3',e⟩
     · exact q
     · exact q
def ClosRel (ρ:List Addr)(clos:List (Str×Nat))(cl:List (Str×Addr)):Prop:=∀ x i,a1H clos x=some i->∃ c,cl.lookup x=some c/\ρ[i]?=some c
theorem ClosRel.cons (h:ClosRel ρ clos cl){i:Nat}(hi:ρ[i]?=some c):ClosRel ρ ((x,i)::clos) ((x,c)::cl):=by
 intro y j e;rw [a1k,e0x] at e;rw [e0x];cases hx:y==x with
 | true=>rw [hx] at e; exact ⟨c,rfl,sj e▸hi⟩| false=>rw [hx] at e; exact h y j ((a1k clos y).trans e)
theorem ClosRel.ext (h:ClosRel ρ clos cl):ClosRel (ρ++more) clos cl:=λ x i e=>
 (h x i e).imp λ c q=>⟨q.1,(List.getElem?_append_left (a0Q q.2)).trans q.2⟩
section
variable {B:Base}{Pr:Addr->Prop}{A:Around}{ρ:List Addr}{H:List PO}{s:Shared}
theorem b9y (R:Rel B Pr ρ H s.heap) (names):∀ {ρ1:List Addr}{H1:List PO}{s1:Shared}{clos:List (Str×Nat)}{cl:List (Str×Addr)},Went B Pr ρ H s ρ1 H1 s1->ClosRel ρ1 clos cl ->
 ∃ more,Went B Pr ρ H s (ρ1++more) (H1++a2h names) { s1 with heap:=pushCells s1.heap names }/\ClosRel (ρ1++more) (b2X H1.length names clos) (cellsFrom s1.heap.objs.size names cl):=by
 induction names with
 | nil=>exact fun {ρ1 H1 s1 clos cl} W C=>⟨[],by rw [e0k]; exact (e0k H1).symm▸W,by rw [e0k]; exact C⟩
 | cons xk names ih=>
   obtain ⟨x,k⟩:=xk;intro ρ1 H1 s1 clos cl W C;cases k with
   | cell=>
     have W1:Went B Pr ρ H s (ρ1++[s1.heap.objs.size]) (H1++[.cell none]) { s1 with heap:=s1.heap.push { cls:=.type "cell",data:=.cell none },toks:=s1.toks }:=
      W.new R s1.toks rfl ⟨none,⟨_,Heap.get?_push_size _ rfl,rfl⟩,trivial⟩
     refine (ih W1 (C.ext.cons (x:=x) (i:=H1.length) (c:=s1.heap.objs.size) (by rw [<- W.rel.len]; exact List.getElem?_concat_length))).elim λ more q=>⟨s1.heap.objs.size::more,?_,?_⟩
     · have z:=q.1;rw [e0h,e0h] at z;exact z
     · have z:=q.2;rw [e0h,e0a,show (Shared.heap { s1 with heap:=s1.heap.push { cls:=.type "cell",data:=.cell none },toks:=s1.toks }).objs.size=s1.heap.objs.size+1 from Heap.size_push ..] at z;exact z
   | _=>exact ih W C
end
def BRels (B:Base)(mt:Addr->Prop)(ρ:List Addr)(h:Heap)(l:List (Str×PV))(m:List (Str×Value)):Prop:=All2 (λ p q=>p.1=q.1/\VRel B mt ρ h p.2 q.2) l m
theorem BRels.mono {B:Base}{mt mt':Addr->Prop}{ρ ρ':List Addr}{h h':Heap}(C:Carry mt mt' ρ ρ' h h'){l:List (Str×PV)}{m:List (Str×Value)}(r:BRels B mt ρ h l m):BRels B mt' ρ' h' l m:=r.imp λ _ _ _ q=>⟨q.1,q.2.mono C⟩
section
variable {B:Base}{Pr:Addr->Prop}{A:Around}{ae:AEnv}{env:Env}
theorem b0x (f:Str×Value->PUnit->Sem (ForInStep PUnit))(hf:∀ n v u,f (n,v) u=(do storeName env n v; pure (.yield ⟨⟩))){l:List (Str×PV)}:∀ {m:List (Str×Value)}{c:Cf},EnvOK B ae env c.ρ->Rl B Pr c->BRels B (c.mt Pr) c.ρ c.s.heap l m ->
 Sm B Pr A c (a9T ae l) (forIn m ⟨⟩ f) b7X:=by
 induction l with
 | nil=>exact fun {m c} V R r=>r.nilE m (.ret λ Q k=>by rw [e2K]; exact wpAny_pure (k _ _ _ (e2s R) trivial))| cons p l ih=>intro m c V R r;refine r.consE m λ q m r rs u st' e Q k=>?_;rw [e1e,hf q.1 q.2,<- r.1];exact wpAny_bind (wpAny_bind ((a2e V R p.1 r.2:Sm B Pr A c _ _ b7X).then e λ a c1 z e1 W1 r1=>wpAny_pure ((ih (V.went W1) W1.rel (BRels.mono (W1.ca R) rs)).last e1 R W1 k)))
theorem a6n {c:Cf}(R:Rl B Pr c){sc:Scope}(hk:sc.kind=.function){clos:List (Str×Nat)}{cl:List (Str×Addr)}(C:ClosRel c.ρ clos cl){l:List (Str×PV)}{m:List (Str×Value)}(r:BRels B (c.mt Pr) c.ρ c.s.heap l m)
 {g:Addr} {qual:Str} {func:Option Addr} {code:Value} {around:Option Env} {bi:Addr} (hg:g=B.gA) (hb:(match around with | some o=>o.builtins | none=>bi)=B.bA) {top:Bool}
 (hlam:top=true->∃ c P,(match around with | some o=>o.code | none=>code)=.ref c/\PySem.W.CodeHd B.hB c P/\B.lam P=some (qual ++ "<lambda>")) :
 Sm B Pr A c (enter top sc clos l) (newFunctionEnv sc g cl m qual func code around bi) (λ _ ρ' _ ae' env'=>EnvOK B ae' env' ρ'/\ae'.sc=sc /\ ∃ L cs,env'=newEnv sc L g cs qual func code around bi):=λ ae' st' e Q k=>e.bind λ a0 st1 e1 e2=>by
 obtain ⟨H',n',f1,_,rfl⟩:=e1.up;obtain ⟨rfl,rfl,_⟩:=a1C f1;clear f1 e1 e;have W0:Went B Pr c.ρ c.st.H c.s (c.ρ++[c.s.heap.objs.size]) (c.st.H++[.fr [] []]) { c.s with heap:=c.s.heap.push { cls:=.type (if around.isSome then "dict" else "frame"),data:=.dict #[] },toks:=c.s.toks }:=
  (e2s R).new R c.s.toks rfl ⟨[],by simpa [List.lookup] using Heap.Ns.new c.s.heap (.type (if around.isSome then "dict" else "frame")),.nil⟩
 refine (b9y R sc.names W0 (C.ext (more:=[c.s.heap.objs.size]))).elim λ more q=>?_;obtain ⟨W1,C1⟩:=q;have hL:(c.ρ++[c.s.heap.objs.size]++more)[c.st.H.length]?=some c.s.heap.objs.size:=by rw [e0h,<- R.len,List.getElem?_append_right (e0i _)]; simp
 rw [e0h c.st.H] at W1;rw [e0a] at C1;unfold newFunctionEnv;refine wpAny_bind (wpAny_alloc (wpAny_bind (wpAny_layCells _ (λ name kind cells=>by cases hkc:kind == NameKind.cell <;> simp [hkc]) _ _ _ _ ?_)));have V:EnvOK B ⟨sc,c.st.H.length,b2X (c.st.H.length + 1) sc.names clos,top⟩ (newEnv sc c.s.heap.objs.size g (cellsFrom (c.s.heap.push { cls:=.type (if around.isSome then "dict" else "frame"),data:=.dict #[] }).objs.size sc.names cl) qual func code around bi) (c.ρ++[c.s.heap.objs.size]++more):=by
  cases around with
  | none=>exact ⟨rfl,hk,hL,C1,hg,hb,hlam⟩| some o=>exact ⟨rfl,hk,hL,C1,hg,hb,hlam⟩
 have W1:Wt B Pr c ⟨c.ρ++[c.s.heap.objs.size]++more,⟨c.st.H++(PO.fr [] []::a2h sc.names),c.st.hs⟩,_⟩:=W1;exact wpAny_bind ((b0x (c:=⟨c.ρ++[c.s.heap.objs.size]++more,⟨c.st.H++(PO.fr [] []::a2h sc.names),c.st.hs⟩,_⟩) _ (λ _ _ _=>rfl) V W1.rel (BRels.mono (W1.ca R) r)).then e2 λ u c2 z e3 W2 r3=>wpAny_pure (e3.fin k (W1.tr R W2) ⟨V.went W2,rfl,_,_,rfl⟩))
end
theorem a8C {β:Type}(l m:List (Str×β)) (x):(l++m).lookup x=(l.lookup x).or (m.lookup x):=by
 induction l with
 | nil=>simp| cons p l ih=>obtain ⟨k,v⟩:=p;rw [e1t,e0x,e0x];cases h:x==k <;> simp [ih]
theorem a3k {β:Type}:∀ (ps:List Str)(xs:List β)(x:Str),x ∉ ps->(ps.zip xs).lookup x=none
 | [],_,_,_=>rfl| p::ps,[],x,_=>by simp
 | p::ps,y::xs,x,h=>by have hne:x≠p:=λ e=>h (by rw [e]; exact e0X);rw [e2W,e0x,beq_eq_false_iff_ne.mpr hne];exact a3k ps xs x λ m=>h (e0Z _ m)
theorem a4T {α β:Type}(f g:α->Option β):∀ (l:List α),(∀ x∈l,f x=g x)->l.filterMap f=l.filterMap g
 | [],_=>rfl| x::l,h=>by rw [e2V,e2V,h x e0X,a4T f g l λ y hy=>h y (e0Z _ hy)]
theorem a5J {β:Type}:∀ (ps:List Str)(xs:List β),ps.Nodup->ps.length=xs.length->(ps.filterMap λ n=>((ps.zip xs).lookup n).map (n,·))=ps.zip xs
 | [],_,_,_=>rfl| p::ps,[],_,h=>by simp at h
 | p::ps,y::xs,nd,h=>by
   rw [e1D] at nd;have ih:=a5J ps xs nd.2 (by simpa using h);rw [e2W,e2V];have e1:(((p,y)::ps.zip xs).lookup p).map (p,·)=some (p,y):=by simp [List.lookup]
   rw [e1];have e2:=a4T (λ n=>(((p,y)::ps.zip xs).lookup n).map (n,·)) (λ n=>((ps.zip xs).lookup n).map (n,·)) ps λ n hn=>by have hne:n≠p:=λ e=>nd.1 (e▸hn);simp only [e0x,beq_eq_false_iff_ne.mpr hne]
   show (p,y)::_=_;rw [e2,ih]
noncomputable def a1J:Str×Value->List (Str×Value)->Sem (ForInStep (List (Str×Value))):=λ x acc=>if (acc.lookup x.1).isNone=true then pure (.yield (acc++[(x.1,x.2)])) else pure (.yield acc)
theorem b0w:∀ (L acc:List (Str×Value)),(∀ p∈L,(acc.lookup p.1).isSome=true)->forIn L acc a1J=pure acc
 | [],acc,_=>by rw [e2K]
 | p::L,acc,h=>by
   rw [e1e];have h1:=h p e0X;have:a1J p acc=pure (.yield acc):=by unfold a1J;rw [if_neg];intro e;rw [Option.isNone_iff_eq_none] at e;rw [e] at h1; exact nx2 h1
   rw [this,pure_bind];exact b0w L acc λ q hq=>h q (e0Z _ hq)
theorem b4p:∀ (L acc:List (Str×Value)),(L.map (·.1)).Nodup->(∀ p∈L,acc.lookup p.1=none)->forIn L acc a1J=pure (acc++L)
 | [],acc,_,_=>by rw [e2K,e0k]
 | (x,v)::L,acc,nd,h=>by
   rw [e1e];have h1:acc.lookup x=none:=h (x,v) e0X;have:a1J (x,v) acc=pure (.yield (acc++[(x,v)])):=by unfold a1J;rw [if_pos (by rw [h1]; rfl)]
   rw [this,pure_bind];rw [e0v,e1D] at nd;show forIn L (acc++[(x,v)]) a1J=_;rw [b4p L (acc++[(x,v)]) nd.2 λ q hq=>?_]
   · simp
   · rw [a8C,h q (e0Z _ hq)];have hne:q.1≠x:=λ e=>nd.1 (e0e.mpr ⟨q,hq,e⟩);simp [List.lookup,beq_eq_false_iff_ne.mpr hne]
theorem b0L (L M acc:List (Str×Value)):(forIn (L++M) acc a1J:Sem _)=(do let a <- forIn L acc a1J; forIn M a a1J):=by
 induction L generalizing acc with
 | nil=>simp| cons p L ih=>
   rw [e1t,e1e,e1e];unfold a1J;split
   · rw [pure_bind,pure_bind]; exact ih _
   · rw [pure_bind,pure_bind]; exact ih _
theorem a3j {ps:List Str}{xs:List Value}(h:n∈ps.take xs.length):((ps.zip xs).lookup n).isSome=true:=by
 induction ps generalizing xs with
 | nil=>simp at h| cons p ps ih=>
   cases xs with
   | nil=>simp at h| cons y xs=>
     rw [e2W,e0x];by_cases hp:n=p
     · subst hp; simp
     · rw [beq_eq_false_iff_ne.mpr hp];refine ih ?_;simp only [e0n,List.take_succ_cons,e0d] at h;exact h.resolve_left hp
theorem c2B {ps:List Str}{xs ys:List Value}(h:xs.length<=ps.length):ps.zip xs++(ps.drop xs.length).zip ys=ps.zip (xs++ys):=by
 induction ps generalizing xs with
 | nil=>cases xs with
   | nil=>simp| cons=>simp at h
 | cons p ps ih=>
   cases xs with
   | nil=>simp| cons y xs=>simp only [e2W,e0n,List.drop_succ_cons,e1t];rw [ih (by simpa using h)]
def b6I (R1 R2:Option (Array Value)->Sem (List (Str×Value)))(ps:List Str)(xs:List Value)(o:Option (Array Value))(dv:List Value):Sem (List (Str×Value)):=
 if (decide (xs.length>ps.length)&&(none:Option Arg).isNone)=true then R1 o else
 if (!((ps.take (ps.length-dv.length)).filter λ n=>((ps.zip xs).lookup n).isNone).isEmpty)=true then R2 o else
 forIn ((ps.drop (ps.length-dv.length)).zip dv) (ps.zip xs) a1J >>= λ s=>pure ((ps++[]).filterMap λ n=>(s.lookup n).map (n,·))
theorem c1f {fd:FuncData}(hp:fd.params=⟨[],as,none,[],[],none,ds⟩) (xs):∃ R1 R2,bindArgs fd ⟨xs,[]⟩=seqItems? fd.defaults >>= λ o=>b6I R1 R2 (as.map (·.arg)) xs o ((o.getD #[]).toList.drop ((o.getD #[]).toList.length-(as.map (·.arg)).length)):=by cases fd; cases hp;exact ⟨_,_,rfl⟩
section
variable {ps:List Str}{xs dv:List Value}{k:Nat}
theorem c2D {p:Str×Value}{l:List Value}(hp:p∈((ps.drop k).take (xs.length-k)).zip l):((ps.zip xs).lookup p.1).isSome=true:=by refine a3j (e2l (i:=k) ?_);rw [List.drop_take];exact (List.of_mem_zip (a:=p.1) (b:=p.2) hp).1
theorem c2C (nd:ps.Nodup)(hlen:xs.length<=ps.length){p:Str×Value}{l:List Value}(hp:p∈(ps.drop xs.length).zip l):(ps.zip xs).lookup p.1=none:=by have h1:p.1∈ps.drop xs.length:=(List.of_mem_zip (a:=p.1) (b:=p.2) hp).1;have h2:(ps.take xs.length++ps.drop xs.length).zip (xs++[])=(ps.take xs.length).zip xs++(ps.drop xs.length).zip []:=List.zip_append (by rw [e1b,e1z hlen]);rw [e1Y,e0k,List.zip_nil_right,e0k] at h2;rw [h2];refine a3k _ _ _ λ hm=>?_;rw [<- e1Y xs.length ps] at nd;exact (e1n.mp nd).2.2 _ hm _ h1 rfl
theorem c6s (hk:k<=xs.length)(hlen:xs.length<=ps.length)(hd:ps.length-k=dv.length):(ps.drop k).zip dv=((ps.drop k).take (xs.length-k)).zip (dv.take (xs.length-k))++(ps.drop xs.length).zip (dv.drop (xs.length-k)):=by
 have e1:ps.drop xs.length=(ps.drop k).drop (xs.length-k):=by rw [List.drop_drop,e2M hk]
 rw [e1,<- List.zip_append (by rw [e1b,e1b,e1s,hd]),e1Y,e1Y]
theorem c1e (nd:ps.Nodup)(hk:k<=xs.length)(hlen:xs.length<=ps.length)(hd:ps.length-k=dv.length):(forIn ((ps.drop k).zip dv) (ps.zip xs) a1J:Sem (List (Str×Value)))=pure (ps.zip (xs++dv.drop (xs.length-k))):=by rw [c6s hk hlen hd,b0L,b0w _ _ λ p hp=>c2D hp,pure_bind,b4p _ _ ?_ λ p hp=>c2C nd hlen hp,c2B hlen];rw [List.map_fst_zip (by rw [e1s,e1s,<- hd,Nat.sub_sub_sub_cancel_right hk]; exact e0i _)];exact List.Nodup.sublist (List.drop_sublist _ _) nd
theorem c1d (hk:k<=xs.length):((ps.take k).filter λ n=>((ps.zip xs).lookup n).isNone)=[]:=List.filter_eq_nil_iff.mpr λ n hn hc=>by have hm:=a3j (xs:=xs) (show n∈ps.take xs.length from by rw [<- e1z hk,<- List.take_take] at hn;exact e2X hn);rw [Option.isNone_iff_eq_none] at hc;rw [hc] at hm; exact nx2 hm
variable {M:Model}{A:Around}{E:Value->Shared->Prop}{s:Shared}
theorem a1t {fd:FuncData}{Q:List (Str×Value)->Shared->Prop}(hp:fd.params=⟨[],as,none,[],[],none,ds⟩)(hps:as.map (·.arg)=ps)(nd:ps.Nodup)
 (hdef:∀ Q':Option (Array Value)->Shared->Prop,(∀ o,(o.getD #[]).toList=dv->Q' o s)->wpAny M A (seqItems? fd.defaults) Q' E s)
 (hlen:xs.length<=ps.length) (hdl:dv.length<=ps.length) (hcov:ps.length-dv.length<=xs.length)
 (h:Q (ps.zip (xs++dv.drop (xs.length-(ps.length-dv.length)))) s):wpAny M A (bindArgs fd ⟨xs,[]⟩) Q E s:=by
 obtain ⟨R1,R2,e⟩:=c1f hp xs;rw [e];refine wpAny_bind (hdef _ λ o ho=>?_);rw [ho,hps,e2f hdl,e2I];unfold b6I;rw [if_neg (by rw [decide_eq_false (e1U.mpr hlen)]; exact nofun),if_neg (by rw [c1d hcov]; exact nofun),c1e nd hcov hlen (Nat.sub_sub_self hdl),pure_bind];refine wpAny_pure ?_;rw [e0k,a5J ps _ nd (by rw [e0a,e1s,Nat.sub_sub_right _ hcov,e2M hdl,e2M hlen])];exact h
end
inductive FnRec (B:Base)(k:Nat)(f:FnI):Prop
 | mk (o:Obj) (fd:FuncData) (as:List Arg) (dsE:List Expr) (ho:B.hB.get? (B.adr k)=some o) (hd:o.data=.func fd) (hsc:fd.scope=f.sc) (hbody:fd.body=.stmts f.body) (hgl:fd.globals=B.gA) (hbi:fd.builtins=B.bA)
   (hpar:fd.params=⟨[],as,none,[],[],none,dsE⟩) (hps:as.map (·.arg)=f.params) (hdf:(f.dflts=[]/\fd.defaults=.none) \/ ∃ T oT items,fd.defaults=.ref T/\B.hB.get? T=some oT/\seqObj "tuple" oT items/\VRels B Mt0 [] B.hB f.dflts items)
   (c:Addr) (oc:Obj) (vs:Array Value) (t:Tok) (hcd:fd.code=.ref c) (hoc:B.hB.get? c=some oc) (hncl:oc.cls≠.none) (hfl:oc.data=.fields vs) (hvs:vs[1]?=some (.str fd.qualname t)) (P:Addr) (hch:PySem.W.CodeHd B.hB c P) (hlam:B.lam P=some (fd.qualname ++ ".<locals>." ++ "<lambda>"))
structure FnAt (B:Base)(k:Nat)(f:FnI):Prop where
 isFn:f.sc.isCoroutine=false/\f.sc.isGenerator=false/\f.sc.kind=.function
 nd:f.params.Nodup
 dl:f.dflts.length<=f.params.length
 at':FnRec B k f
section
variable {B:Base}
theorem BRels.zip {mt:Addr->Prop}(ps:List Str):∀ {l:List PV}{m:List Value},VRels B mt ρ h l m->BRels B mt ρ h (ps.zip l) (ps.zip m):=by
 induction ps with
 | nil=>exact fun {l m} _=>trivial| cons p ps ih=>exact fun {l m} r=>match l,r with
   | [],r=>r.nilE m trivial| v::l,r=>r.consE m λ x xs r rs=>⟨⟨rfl,r⟩,ih rs⟩
theorem b7S {mt:Addr->Prop}(rd:VRels B mt ρ h ds dv):∀ (ps:List Str){xs:List Value}{l:List (Str×PV)},a2N ps ds as=some l->VRels B mt ρ h as xs ->
 xs.length<=ps.length/\ps.length-dv.length<=xs.length/\(∀ t:Nat,t+(ps.length-xs.length)=dv.length->BRels B mt ρ h l (ps.zip (xs++dv.drop t))):=by
 induction as with
 | nil=>
   intro ps xs l e r;refine r.nilE xs (gE (show gd (e0m ps.length ds.length) (some (ps.zip (ds.drop (ds.length-ps.length))))=some l from e) λ hl e=>?_);have hl:=e0t hl;rw [rd.len] at hl;refine ⟨e0q _,e1L (e2f hl),λ t ht=>?_⟩;have ht:t=ds.length-ps.length:=by rw [rd.len,<- ht]; exact (Nat.add_sub_cancel ..).symm
   rw [<- sj e,ht];exact .zip ps (rd.drop _)
 | cons a as ih=>
   intro ps xs l e r;cases ps with
   | nil=>exact nx0 e| cons p ps=>refine oE (show ob (a2N ps ds as) (λ r=>some ((p,a)::r))=some l from e) λ l' e e2=>r.consE xs λ x xs r rs=>?_;obtain ⟨h1,h2,h3⟩:=ih ps e rs;refine ⟨e2H h1,e0l (Nat.sub_le_of_le_add (Nat.add_right_comm (ps.length-dv.length) 1 dv.length▸e2H (Nat.le_add_of_sub_le (e0i _)))) (e2H h2),λ t ht=>?_⟩;rw [<- sj e2];exact ⟨⟨rfl,r⟩,h3 t (by simp only [e0n,Nat.add_sub_add_right] at ht; exact ht)⟩
end
structure BaseOK2 (B:Base):Prop extends BaseOK B where
 fn:∀ k f,a2U k=some f->FnAt B k f
 main:B.gA=mainGlobals/\B.bA=builtinsNs /\ ∃ mg,B.hB.Ns mainGlobals mg /\ ∃ bm ob,mg "__builtins__" = some (.ref bm)/\bm≠builtinsNs/\bm≠mainGlobals/\B.hB.get? bm=some ob/\ob.cls=.type "module" /\ ob.dict=some builtinsNs/\ob.data=.plain
theorem BaseOK2.obj (BO:BaseOK2 B)(h:c3j k=true):∃ o fd,B.hB.get? (B.adr k)=some o/\o.data=.func fd:=by
 unfold c3j at h;cases e:a2U k with
 | none=>rw [e] at h; exact nx2 h| some f=>
   cases (BO.fn k f e).at' with
   | mk o fd as dsE ho hd=>exact ⟨o,fd,ho,hd⟩
section
variable {B:Base}{n:Nat}{r:Rc}{Pr:Addr->Prop}{A:Around}{c:Cf}
theorem b8f (q)(h:m+1<=n)(hq:q<=k)(x:a+k * n+b<l):a+q+k * m+b<l:=
 e1F (Nat.add_le_add_right (by rw [Nat.add_assoc]; exact e1c (e0l (by rw [Nat.mul_add,Nat.mul_one,e2A]; exact e1c hq _) (Nat.mul_le_mul_left k h)) a) b) x
theorem Room.deeper (R:Room n A)(h:m+1<=n):Room m (A.deeper env):=⟨R.hd,b8f 1 h (by decide) R.dp,b8f 3 h (by decide) R.un⟩
theorem Went.clr (R:Rl B Pr c)(W:Wt B Pr c c1) (L):Went B Pr c.ρ c.st.H c.s c1.ρ (b0e L c1.st.H) c1.s /\ ∀ a,a0G Pr c1.ρ (b0e L c1.st.H) a->c1.mt Pr a:=by
 unfold b0e;cases hf:c0i c1.st.H L with
 | none=>exact ⟨W,λ _ m=>m⟩| some p=>refine (W.rel.at (a1I hf)).elim λ a q=>q.2.has.elim λ o ho=>?_;exact ⟨W.trans R (Went.upd W.rel c1.s.toks q.1 (a1I hf) rfl (λ _ _ _ e=>e) ⟨o,ho⟩),λ b m=>a8b W.rel.nodup q.1 (a1I hf) (λ _=>rfl) m⟩
theorem c4h (e:Ran B (d3I L) st1 u st2):st2=⟨b0e L st1.H,st1.hs⟩:=e.up.elim λ H e=>e.elim λ n e=>e.2.2.trans (by rw [(a1C e.1).2.1])
theorem c4X {f:FnI}{fd:FuncData}(R:Rl B Pr c)(hdf:(f.dflts=[] /\ fd.defaults=.none) \/ ∃ T oT items,fd.defaults=.ref T /\ B.hB.get? T=some oT /\ seqObj "tuple" oT items /\ VRels B Mt0 [] B.hB f.dflts items) :
 ∃ dv,VRs B Pr c f.dflts dv /\ ∀ (Q':Option (Array Value)->Shared->Prop) (E':Value->Shared->Prop),(∀ o,(o.getD #[]).toList=dv->Q' o c.s)->wpAny (Mo B.w) A (seqItems? fd.defaults) Q' E' c.s:=
 hdf.elim (λ q=>⟨[],by rw [q.1]; exact .nil,λ Q' E' h=>by rw [q.2]; exact wpAny_bind (wpAny_pure (wpAny_pure (h none rfl)))⟩)
  λ ⟨T,oT,items,h1,h2,h3,h4⟩=>⟨items,h4.mono R.carry0,λ Q' E' h=>by rw [h1]; exact h3.2.2.2.2.elim λ n' hsd=>wpAny_seqItems ((R.carry0.obj T oT (λ x=>x) h2 h3.noFields).1) hsd (h _ rfl)⟩
set_option backward.match.sparseCases true in
theorem a3u (K:RcOK B n r)(BO:BaseOK2 B)(Ro:Room (n+1) A)(R:Rl B Pr c)(rx:VRs B Pr c args xs):Sm B Pr A c (a1T r k args) (call (.ref (B.adr k)) xs) (VRel B):=λ v st' e Q kk=>
 e.optT λ f hf e=>e.optT λ l hb e=>by
  obtain ⟨⟨hco,hgen,hk⟩,nd,dl,⟨o,fd,as,dsE,ho,hd,hsc,hbody,hgl,hbi,hpar,hps,hdf,cc,oc,vs,t,hcd,hoc,hncl,hfl,hvs,P,hch,hlamP⟩⟩:=BO.fn k f hf;have ho':c.s.heap.get? (B.adr k)=some o:=R.old ho λ vs x=>nomatch hd.symm.trans x;have hoc':c.s.heap.get? cc=some oc:=(R.carry0.obj cc oc (λ x=>x) hoc (.inr hncl)).1;refine wpAny_call (codeAny_call_function (fd:=fd) (body:=f.body) (e1F (by rw [Nat.add_assoc]; exact e1M _ _) Ro.dp) ho' hd (by rw [hsc]; exact hco) (by rw [hsc]; exact hgen) hbody ⟨cc,oc,vs,t,hcd,hoc',hfl,hvs⟩ ?_);obtain ⟨dv,rdv,hdv⟩:=c4X (A:=A.in1) (fd:=fd) R hdf;obtain ⟨b1,b2,b3⟩:=b7S rdv f.params hb rx;have hdl:=rdv.len;refine a1t hpar hps nd (λ Q' h=>hdv Q' _ h) b1 (hdl▸dl) b2 ?_;have BR:=b3 (xs.length-(f.params.length-dv.length)) ((e2A ..).trans ((Nat.sub_add_sub_cancel b1 b2).trans (Nat.sub_sub_self (hdl▸dl))));clear b1 b2 b3 hdv rdv hdl dl hdf ho ho' hoc hoc' hfl hvs hncl hpar hps nd hb hf hd;refine (a6n (A:=A.in1) R (by rw [hsc]; exact hk) (clos:=[]) (cl:=fd.closure) (λ x i e=>nx0 e) BR hgl (by exact hbi) (top:=true) (around:=none) (code:=fd.code) (λ _=>⟨cc,P,hcd,hch,hlamP⟩)).then (by rw [hsc]; exact e) λ ae c1 env e1 W1 q=>?_;refine ⟨W1.rel.noLimit BO.nolimit,codeAny_func ?_⟩;refine wpAny_mono ((K.ss f.body ⟨Ro.deeper (e0i _),q.1,W1.rel⟩).then (Q:=λ fl s'=>Q (match fl with | .ret v=>v | _=>.none) s') e1 λ fl c2 flow e2 W2 r2=>e2.bind λ u st3 e3 e4=>?_) (λ _ _ h=>h) λ _ _ h=>h.elim;have e4:=e4.opt;rw [e4.2,c4h e3] at kk;have WM:=(W1.tr R W2).clr R ae.L;cases fl with
  | next=>obtain rfl:flow=.next:=r2; exact kk _ _ _ WM.1 (sj e4.1▸.none)
  | ret w=>obtain ⟨x,rfl,r'⟩:=r2; exact kk _ _ _ WM.1 (sj e4.1▸r'.mono ⟨λ a o n e _=>⟨e,λ m=>n (WM.2 a m)⟩,λ _ _ e=>e⟩)
  | _=>exact nx0 e4.1
end
section
variable {B:Base}{mt:Addr->Prop}{ρ ρ':List Addr}{h:Heap}
theorem a1f {k:PV->Value->Prop}:∀ {l:List PV}{m:List Value},All2 (λ v x=>a0e v=true->k v x) l m->a0E l=true->All2 k l m
 | [],m,r,_=>r.nilE m trivial| v::l,m,r,n=>r.consE m λ x xs a b=>⟨a (a0A n).1,a1f b (a0A n).2⟩
theorem a3y (r:VRel B mt ρ h v x):a0e v=true->VRel B mt ρ' h v x:=r (λ v x=>a0e v=true->VRel B mt ρ' h v x) λ v x s n=>.mk (by
 cases v with
 | loc=>exact nx2 n| tup l=>exact s.imp λ a s=>s.imp λ o s=>s.imp λ items s=>⟨s.1,s.2.1,s.2.2.1,s.2.2.2.1,a1f s.2.2.2.2 n⟩
 | lst l=>exact s.imp λ a s=>s.imp λ o s=>s.imp λ items s=>⟨s.1,s.2.1,s.2.2.1,s.2.2.2.1,a1f s.2.2.2.2 n⟩
 | dct ks vs=>exact s.imp λ a s=>s.imp λ o s=>s.imp λ es s=>s.imp λ m s=>⟨s.1,s.2.1,s.2.2.1,s.2.2.2.1,s.2.2.2.2.1,s.2.2.2.2.2.1,a1f s.2.2.2.2.2.2.1 (a0A n).1,a1f s.2.2.2.2.2.2.2.1 (a0A n).2,s.2.2.2.2.2.2.2.2⟩
 | ins c fs vs=>exact s.imp λ a s=>s.imp λ d s=>s.imp λ o s=>s.imp λ l s=>⟨s.1,s.2.1,s.2.2.1,s.2.2.2.1,s.2.2.2.2.1,s.2.2.2.2.2.1,s.2.2.2.2.2.2.1,s.2.2.2.2.2.2.2.1,s.2.2.2.2.2.2.2.2.1,a1f s.2.2.2.2.2.2.2.2.2.1 n,s.2.2.2.2.2.2.2.2.2.2⟩
 | _=>exact s)
theorem a3F (r:VRels B mt ρ h l m)(n:a0E l=true):VRels B mt ρ' h l m:=a1f (r.imp λ _ _ _ q=>a3y q) n
theorem a3x (n:a0E l=true)(r:VRels B mt ρ h l m):VRels B mt ρ' h l m:=a3F r n
end
section
variable {B:Base}{Pr:Addr->Prop}{ρ:List Addr}{H H1 H2:List PO}{h:Heap}
structure Froze (H H1:List PO):Prop where
 len:H1.length=H.length
 live:∀ (i:Nat) (o:PO),H1[i]?=some o->o.live=true->H[i]?=some o
theorem Froze.refl:Froze H H:=⟨rfl,λ _ _ e _=>e⟩
theorem Froze.trans (x:Froze H H1)(y:Froze H1 H2):Froze H H2:=⟨y.len.trans x.len,λ i o e l=>x.live i o (y.live i o e l) l⟩
theorem Froze.lv (x:Froze H H1)(l:lv ρ H1 a):lv ρ H a:=let ⟨i,o,e1,e2,e3⟩:=l; ⟨i,o,e1,x.live i o e2 e3,e3⟩
theorem Froze.carry (x:Froze H H1):Carry (a0G Pr ρ H) (a0G Pr ρ H1) ρ ρ h h:=⟨λ _ _ n e _=>⟨e,λ m=>n (m.imp id x.lv)⟩,λ _ _ e=>e⟩
theorem Froze.set {i:Nat}{p q:PO}(e:H[i]?=some p)(hl:q.live=false):Froze H (H.set i q):=⟨e1W,λ j o ej hl'=>by
 by_cases hj:i=j
 · rw [<- hj,List.getElem?_set_self (a0Q e)] at ej;exact nx2 (hl.symm.trans ((congrArg PO.live (sj ej)).trans hl'))
 · rwa [List.getElem?_set_ne hj] at ej⟩
def Thw (B:Base)(Pr:Addr->Prop)(ρ:List Addr)(h:Heap)(H H1:List PO):Prop:=Froze H H1/\Rel B Pr ρ H1 h
theorem a4m {f:List PO->PV->Option (PV×List PO)}
 (hf:∀ {H:List PO} {v:PV} {p:PV×List PO} {x:Value},f H v=some p->Rel B Pr ρ H h->VRel B (a0G Pr ρ H) ρ h v x->Thw B Pr ρ h H p.2/\VRel B (a0G Pr ρ p.2) ρ h p.1 x) :
 ∀ {H:List PO} {p:List PV×List PO} {m:List Value},a2W f H l=some p->Rel B Pr ρ H h->VRels B (a0G Pr ρ H) ρ h l m->Thw B Pr ρ h H p.2/\VRels B (a0G Pr ρ p.2) ρ h p.1 m:=by
 induction l with
 | nil=>intro H p m e R r;obtain rfl:=sj (show some ([],H)=some p from e);exact r.nilE m ⟨⟨.refl,R⟩,.nil⟩
 | cons v l ih=>intro H p m e R r;refine oE (show ob (f H v) _=some p from e) λ q hq e=>oE e λ q2 hq2 e=>r.consE m λ x xs r rs=>?_;obtain rfl:=sj e;have z:=hf hq R r;have w:=ih hq2 z.1.2 (rs.mono z.1.1.carry);exact ⟨⟨z.1.1.trans w.1.1,w.1.2⟩,z.2.mono w.1.1.carry,w.2⟩
theorem c3B (R:Rel B Pr ρ H h){i:Nat}(hi:ρ[i]?=some a)(ho:H2[i]?=some o)(hl:o.live=false):¬ a0G Pr ρ H2 a:=λ z=>z.elim (λ p=>(R.away a (e0s hi)).1 p) λ z=>z.elim λ j z=>z.elim λ q z=>
 nx2 (hl.symm.trans ((congrArg PO.live (sj (ho.symm.trans ((congrArg (λ k=>H2[k]?) (R.inj hi z.1)).trans z.2.1)))).trans z.2.2))
theorem Rel.turn2 (R:Rel B Pr ρ H h)(C:Carry (a0G Pr ρ H) (a0G Pr ρ H2) ρ ρ h h)(len:H2.length=H.length){i d:Nat}(hi:ρ[i]?=some a)(hd:ρ[d]?=some da)(g0:H2[i]?=some p0)(g1:H2[d]?=some p1)(g:∀ q,q ≠ i->q ≠ d->H2[q]?=H[q]?)
 (r0:Real B (a0G Pr ρ H2) ρ h p0 a) (r1:Real B (a0G Pr ρ H2) ρ h p1 da):Rel B Pr ρ H2 h:=
 ⟨R.base,R.len.trans len.symm,R.nodup,R.prl,R.away,R.tabs.mono C λ _ _ _ _ e=>e,λ q po b e1 e2=>by
  by_cases q1:q=i
  · exact sj (g0.symm.trans (q1▸e1))▸sj (hi.symm.trans (q1▸e2))▸r0
  · by_cases q2:q=d
    · exact sj (g1.symm.trans (q2▸e1))▸sj (hd.symm.trans (q2▸e2))▸r1
    · exact (R.real q po b ((g q q1 q2).symm.trans e1) e2).mono C λ _ e=>e⟩
theorem c4E {i d:Nat}(g0:H2[i]?=some p0)(g1:H2[d]?=some p1)(g:∀ q,q≠i->q≠d->H2[q]?=H[q]?)(len:H2.length=H.length)(l0:p0.live=false)(l1:p1.live=false):Froze H H2:=⟨len,λ q o e l=>by
 by_cases q1:q=i
 · exact nx2 (l0.symm.trans ((congrArg PO.live (sj (g0.symm.trans (q1▸e)))).trans l))
 · by_cases q2:q=d
   · exact nx2 (l1.symm.trans ((congrArg PO.live (sj (g1.symm.trans (q2▸e)))).trans l))
   · exact (g q q1 q2).symm.trans e⟩
theorem c4F (R:Rel B Pr ρ H h){i d c:Nat}(hi:ρ[i]?=some a)(hd:ρ[d]?=some da)(g0:H2[i]?=some (.fins c fs vs))(g1:H2[d]?=some .dead)(g:∀ q,q ≠ i->q ≠ d->H2[q]?=H[q]?)(len:H2.length=H.length)
 (gh:h.get? a=some o) (hda:∃ ob,h.get? da=some ob) (k:¬ a0G Pr ρ H2 a->¬ a0G Pr ρ H2 da->Carry (a0G Pr ρ H) (a0G Pr ρ H2) ρ ρ h h->VRel B (a0G Pr ρ H2) ρ h (.ins c fs vs) (.ref a)):Thw B Pr ρ h H H2/\VRel B (a0G Pr ρ H2) ρ h (.ins c fs vs) (.ref a):=
 have F:=c4E g0 g1 g len rfl rfl;have v:=k (c3B R hi g0 rfl) (c3B R hd g1 rfl) F.carry
 ⟨⟨F,R.turn2 F.carry len hi hd g0 g1 g ⟨o,gh,v⟩ hda⟩,v⟩
theorem c8w (R:Rel B Pr ρ H h){i d c c2 d2:Nat}(hi:ρ[i]?=some a)(hd:ρ[d]?=some da)(hdi:i ≠ d)(e1:H[i]?=some (.inst c2 d2))(e2:H[d]?=some (.ns fs2 vs2))(gh:h.get? a=some o)
 (k:∀ mt,¬ mt a->¬ mt da->Carry (a0G Pr ρ H) mt ρ ρ h h->VRel B mt ρ h (.ins c fs vs) (.ref a)):Thw B Pr ρ h H ((H.set i (.fins c fs vs)).set d .dead)/\VRel B (a0G Pr ρ ((H.set i (.fins c fs vs)).set d .dead)) ρ h (.ins c fs vs) (.ref a):=
 c4F R hi hd (by rw [List.getElem?_set_ne (Ne.symm hdi),List.getElem?_set_self (a0Q e1)]) (List.getElem?_set_self (by rw [e1W]; exact a0Q e2)) (λ q h1 h2=>by rw [List.getElem?_set_ne (Ne.symm h2),List.getElem?_set_ne (Ne.symm h1)]) (by rw [e1W,e1W]) gh (R.real d _ da e2 hd).has (k _)
theorem b7y {th:List PO->List PV->Option (List PV×List PO)}
 (ht:∀ {l:List PV} {H:List PO} {p:List PV×List PO} {m:List Value},th H l=some p->Rel B Pr ρ H h->VRels B (a0G Pr ρ H) ρ h l m->Thw B Pr ρ h H p.2/\VRels B (a0G Pr ρ p.2) ρ h p.1 m)
 {i c d c2 d2:Nat} (R:Rel B Pr ρ H h) (hi:ρ[i]?=some a) (ho:H[i]?=some (.inst c d)) (hd:H[d]?=some (.ns fs vs)) (hq:th H vs=some q) (h2:q.2[i]?=some (.inst c2 d2)) (h3:q.2[d]?=some (.ns fs2 vs2)) :
 Thw B Pr ρ h H ((q.2.set i (.fins c fs q.1)).set d .dead)/\VRel B (a0G Pr ρ ((q.2.set i (.fins c fs q.1)).set d .dead)) ρ h (.ins c fs q.1) (.ref a):=by
 obtain ⟨o1,da,l,g,hc,hn,hdd,hda,hne,ns,nr⟩:=a5C R hi (show a4S H i=some (c,d,fs,vs) by unfold a4S; rw [a1d,ho]; show ob (b3Y H d) _=_; rw [a1d,hd]; rfl);have z:=ht hq R nr.1;have y:=c8w (c:=c) (fs:=fs) (vs:=q.1) z.1.2 hi hda (λ k=>nomatch (sj (ho.symm.trans ((congrArg (λ j=>H[j]?) k).trans hd)))) h2 h3 g λ mt n1 n2 C=>.ins c fs q.1 a da o1 l n1 n2 g hc hdd hn hne ns ⟨z.2.mono C,nr.2⟩;exact ⟨⟨z.1.1.trans y.1.1,y.1.2⟩,y.2⟩
theorem b7x {th:List PO->List PV->Option (List PV×List PO)}
 (ht:∀ {l:List PV} {H:List PO} {p:List PV×List PO} {m:List Value},th H l=some p->Rel B Pr ρ H h->VRels B (a0G Pr ρ H) ρ h l m->Thw B Pr ρ h H p.2/\VRels B (a0G Pr ρ p.2) ρ h p.1 m)
 {i:Nat} (R:Rel B Pr ρ H h) (hi:ρ[i]?=some a) (ho:H[i]?=some (.list l)) (hq:th H l=some q) (h2:q.2[i]?=some (.list l2)):Thw B Pr ρ h H (q.2.set i (.froz l))/\VRel B (a0G Pr ρ (q.2.set i (.froz l))) ρ h (.lst q.1) (.ref a):=
 (R.loc hi ho).elim λ ob r=>r.elim λ items r=>
   have z:=ht hq R r.2.2;have h2:q.2[i]?=some (.list l):=h2.trans ((z.1.1.live i _ h2 rfl).symm.trans ho);have F2:Froze q.2 (q.2.set i (.froz l)):=.set h2 rfl
   ⟨⟨z.1.1.trans F2,z.1.2.freeze h2⟩,.lst q.1 a ob items (c3B R hi (List.getElem?_set_self (a0Q h2)) rfl) r.1 r.2.1 (z.2.mono F2.carry)⟩
theorem b7z {th:List PO->List PV->Option (List PV×List PO)}
 (ht:∀ {l:List PV} {H:List PO} {p:List PV×List PO} {m:List Value},th H l=some p->Rel B Pr ρ H h->VRels B (a0G Pr ρ H) ρ h l m->Thw B Pr ρ h H p.2/\VRels B (a0G Pr ρ p.2) ρ h p.1 m)
 {i:Nat} (e:d0O th H i o=some p) (R:Rel B Pr ρ H h) (hi:ρ[i]?=some a) (ho:H[i]?=some o):Thw B Pr ρ h H p.2/\VRel B (a0G Pr ρ p.2) ρ h p.1 (.ref a):=by
 cases o with
 | list l=>refine oE e λ q hq e=>oE e λ o2 h2 e=>oE e λ l2 h3 e=>?_;rw [<- sj e];exact b7x ht R hi ho hq (h2.trans (congrArg some (a1x h3)))| froz l=>refine oE e λ q hq e=>(R.loc hi ho).elim λ ob r=>r.elim λ items r=>?_;rw [<- sj e];have z:=ht hq R r.2.2;exact ⟨z.1,.lst q.1 a ob items (λ m=>c3B R hi ho rfl (m.imp id z.1.1.lv)) r.1 r.2.1 z.2⟩| fins c fs vs=>rw [<- sj (show some (PV.ins c fs vs,H)=some p from e)];exact ⟨⟨.refl,R⟩,(R.loc hi ho).elim λ _ r=>r.2⟩| inst c d=>refine oE e λ od hd e=>oE e λ w hw e=>oE e λ q hq e=>oE e λ o2 h2 e=>oE e λ w2 hw2 e=>oE e λ o3 h3 e=>oE e λ w3 hw3 e=>?_;rw [<- sj e];exact b7y ht R hi ho (hd.trans (congrArg some (b6K hw))) hq (h2.trans (congrArg some (b6L hw2))) (h3.trans (congrArg some (b6K hw3)))| _=>exact nx0 e
theorem b4f (n):∀ {H:List PO}{v:PV}{p:PV×List PO}{x:Value},c1w n H v=some p->Rel B Pr ρ H h->VRel B (a0G Pr ρ H) ρ h v x->Thw B Pr ρ h H p.2/\VRel B (a0G Pr ρ p.2) ρ h p.1 x:=by
 induction n with
 | zero=>exact λ e=>nx0 e| succ n ih=>
   intro H v p x e R r;cases v with
   | loc i=>exact r.locE x λ a hi=>oE e λ o ho e=>b7z (a4m ih) e R hi ho| tup l=>refine oE e λ q hq e=>r.tupE x λ a o items nm g s rs=>?_;rw [<- sj e];have z:=a4m ih hq R rs;exact ⟨z.1,.tup q.1 a o items (λ m=>nm (m.imp id z.1.1.lv)) g s z.2⟩| _=>exact sj e▸⟨⟨.refl,R⟩,r⟩
theorem Real.mono2 {mt mt':Addr->Prop}(C:Carry mt mt' ρ ρ' h h')(r:Real B mt ρ h o a)
 (k:∀ ob,h.get? a=some ob->h'.get? a=some ob\/(ob.cls=.none/\(∃ vs,ob.data=.fields vs) /\ ∃ ob',h'.get? a=some ob')):Real B mt' ρ' h' o a:=by
 have nf:∀ {ob},h.get? a=some ob->((∀ vs,ob.data ≠ .fields vs) \/ ob.cls ≠ .none)->∀ ob',h.get? a=some ob'->h'.get? a=some ob':=fun {ob} e f ob' e'=>
  sj (e.symm.trans e')▸(k ob e).elim id λ x=>f.elim (λ f=>x.2.1.elim λ vs d=>absurd d (f vs)) λ f=>absurd x.1 f
 have dt:∀ {ob:Obj} {es n},ob.data=.dict es n->((∀ vs,ob.data≠.fields vs)\/ob.cls≠.none):=λ d=>.inl λ vs e=>nomatch d.symm.trans e;have has:(∃ ob,h.get? a=some ob)->∃ ob,h'.get? a=some ob:=λ r=>r.elim λ o g=>(k o g).elim (λ x=>⟨_,x⟩) λ x=>x.2.2;cases o with
 | list l=>exact e2r C r (r.elim λ o q=>q.elim λ items q=>nf q.1 q.2.1.noFields)| froz l=>exact e2r C r (r.elim λ o q=>q.elim λ items q=>nf q.1 q.2.1.noFields)| dict ks vs=>exact e2r C r (r.elim λ o q=>q.elim λ es q=>q.elim λ n q=>nf q.1 (dt q.2.2.1))| inst c d=>exact e2r C r (r.elim λ da q=>q.elim λ o q=>nf q.1 (.inr (by rw [q.2.1]; exact nofun)))| ns fs vs=>exact e2r C r (r.elim λ l q=>q.1.elim λ o q=>q.elim λ es q=>q.elim λ ep q=>nf q.1 (dt q.2.1))| fr fs vs=>exact e2r C r (r.elim λ l q=>q.1.elim λ o q=>q.elim λ es q=>q.elim λ ep q=>nf q.1 (dt q.2.1))| cell v=>exact e2r C r (r.elim λ x q=>q.1.elim λ o q=>nf q.1 (.inl λ vs e=>nomatch q.2.symm.trans e))| opq=>exact has r| fins c fs vs=>refine e2r C r (r.elim λ o q=>?_);obtain ⟨a',d,o',l,e,_,_,g',hc,_⟩:=q.2.inv;exact nf (Value.ref.inj e▸g') (.inr (by rw [hc]; exact nofun))
 | dead=>exact has r
end
section
variable {B:Base}{n:Nat}{r:Rc}{Pr:Addr->Prop}{A:Around}{ρ:List Addr}{H H1:List PO}{st:St}{s s':Shared}{h:Heap}
theorem b3j {mt:Addr->Prop}(k:b2n B Mt0 h h'):Carry mt mt ρ ρ h h':=
 ⟨λ a o n e f=>⟨(k a o (λ x=>x) e).elim id λ ⟨_,c,vs,_,d,_⟩=>f.elim (λ f=>absurd d (f vs)) λ f=>absurd c f,n⟩,λ _ _ e=>e⟩
theorem Went.call (R:Rel B Pr ρ H s.heap)(X:Thw B Pr ρ s.heap H H1)(same:∃ h tk,s'={ s with heap:=h,toks:=tk })(k:b2n B Mt0 s.heap s'.heap)(tb:TabsOK B (a0G Pr ρ H1) s'.heap):Went B Pr ρ H s ρ H1 s' where
 same:=same
 ext:=⟨[],(e0k _).symm,λ _ m=>absurd m e0b⟩
 rel:=
  { base:=X.2.base.trans k λ b o _ x=>x
    len:=X.2.len
    nodup:=X.2.nodup
    prl:=λ a p=>⟨(X.2.prl a p).1.elim λ o e=>(k a o (λ x=>x) e).elim (λ x=>⟨_,x⟩) λ ⟨_,_,_,_,_,x⟩=>⟨_,x⟩,(X.2.prl a p).2⟩
    away:=X.2.away
    tabs:=tb
    real:=λ i o a e1 e2=>(X.2.real i o a e1 e2).mono2 (b3j k) λ ob e=>(k a ob (λ x=>x) e).imp id λ ⟨_,c,vs,_,d,x⟩=>⟨c,⟨vs,d⟩,_,x⟩ }
 keep:=k.mono λ a x=>x.elim
 live:=λ i o _ e l=>⟨o,X.1.live i o e l,l⟩
theorem Rel.outer (R:Rel B Pr ρ H h):Rel B (a0G Pr ρ H) [] [] h where
 base:=R.base
 len:=rfl
 nodup:=e1Q
 prl:=λ a p=>by
  rcases p with p | p
  · exact R.prl a p
  · exact ⟨R.mem p.mem,(R.away a p.mem).2⟩
 away:=λ a m=>by cases m
 tabs:=R.tabs.mono (ρ:=[]) (ρ':=[]) ⟨λ a o n e _=>⟨e,λ m=>n (m.elim id λ m=>absurd m.mem e0b)⟩,λ _ _ e=>e⟩ λ _ _ _ _ e=>e
 real:=λ i o a e=>by exact nx0 e
end
def PrT (Pr T:Addr->Prop):Addr->Prop:=λ a=>Pr a\/T a
section
variable {B:Base}{Pr Pr' T:Addr->Prop}{A:Around}{ρ ρ0 ρ1:List Addr}{H H0 H1:List PO}{s s0 s1:Shared}{h h':Heap}
theorem Carry.protectT (fr:∀ a,T a->h.get? a=none)(k:∀ b o,h.get? b=some o->h'.get? b=some o):Carry (a0G Pr ρ H) (a0G (PrT Pr T) ρ H) ρ ρ h h':=
 ⟨λ a o n e _=>⟨k a o e,λ m=>m.elim (λ m=>m.elim (λ m=>n (.inl m)) λ m=>nx1 (e.symm.trans (fr a m))) λ m=>n (.inr m)⟩,λ _ _ e=>e⟩
theorem Carry.touchT (k:∀ b o,¬ T b->h.get? b=some o->h'.get? b=some o):Carry (a0G (PrT Pr T) ρ H) (a0G (PrT Pr T) ρ H) ρ0 ρ0 h h':=
 ⟨λ a o n e _=>⟨k a o (λ t=>n (.inl (.inr t))) e,n⟩,λ _ _ e=>e⟩
theorem Carry.dropT (k:∀ b o,¬ T b->h.get? b=some o->h'.get? b=some o):Carry (a0G (PrT Pr T) ρ H) (a0G Pr ρ H) ρ ρ h h':=
 ⟨λ a o n e _=>⟨k a o (λ t=>n (.inl (.inr t))) e,λ m=>n (m.imp .inl id)⟩,λ _ _ e=>e⟩
structure Shift (B:Base)(Pr Pr' T:Addr->Prop)(ρ:List Addr)(H:List PO)(h h':Heap):Prop where
 k:∀ b o,¬ T b->h.get? b=some o->h'.get? b=some o
 pr:∀ a,Pr' a->(∃ o,h'.get? a=some o)/\B.hB.get? a=none
 aw:∀ a∈ρ,¬ Pr' a /\ ¬ T a
 nb:∀ a,T a->B.hB.get? a=none
 c:Carry (a0G Pr ρ H) (a0G Pr' ρ H) ρ ρ h h'
theorem Rel.shift (R:Rel B Pr ρ H h)(X:Shift B Pr Pr' T ρ H h h'):Rel B Pr' ρ H h' where
 base:=R.base.ext λ b o _ e q=>X.k b o (λ t=>nx2 ((congrArg e2L (X.nb b t)).symm.trans q)) e
 len:=R.len
 nodup:=R.nodup
 prl:=X.pr
 away:=λ a m=>⟨(X.aw a m).1,(R.away a m).2⟩
 tabs:=R.tabs.mono X.c λ P o o' hP e=>X.k P o (λ t=>nx1 (hP.symm.trans (X.nb P t))) e
 real:=λ i o a e1 e2=>(R.real i o a e1 e2).mono X.c λ ob e=>X.k a ob (X.aw a (e0s e2)).2 e
theorem Went.shift (W:Went B Pr ρ H s ρ1 H1 s1) (t)(X:Shift B Pr Pr' T ρ1 H1 s1.heap h')(fr:∀ a,T a->s.heap.get? a=none):Went B Pr' ρ H s ρ1 H1 { s1 with heap:=h',toks:=t } where
 same:=W.same.elim λ h e=>e.elim λ tk e=>⟨h',t,by rw [e]⟩
 ext:=W.ext
 rel:=W.rel.shift X
 keep:=W.keep.ext λ b o _ e z=>X.k b o (λ t=>nx2 ((congrArg e2L (fr b t)).symm.trans z)) e
 live:=W.live
theorem Went.fresh (W:Went B Pr ρ H s ρ1 H1 s1)(e:s1.heap.get? b=none):s.heap.get? b=none:=by
 cases e':s.heap.get? b with
 | none=>rfl| some o=>exact (W.has' e').elim λ o' x=>nx1 (x.symm.trans e)
theorem Went.protectT (W:Went B Pr ρ H s ρ1 H1 s1) (t)(fr:∀ a,T a->s1.heap.get? a=none)(hx:∀ a,T a->∃ o,h'.get? a=some o)(k:∀ b o,s1.heap.get? b=some o->h'.get? b=some o) :
 Went B (PrT Pr T) ρ H s ρ1 H1 { s1 with heap:=h',toks:=t }:=
 have R:=W.rel;have nt:∀ {a},a∈ρ1->¬ T a:=λ m t=>(R.mem m).elim λ o e=>nx1 (e.symm.trans (fr _ t))
 W.shift t ⟨λ b o _ e=>k b o e,λ a p=>p.elim (λ p=>⟨(R.prl a p).1.imp λ o e=>k a o e,(R.prl a p).2⟩) λ t=>⟨hx a t,R.notBase (fr a t)⟩,
  λ a m=>⟨λ p=>p.elim (R.away a m).1 (nt m),nt m⟩,λ a t=>R.notBase (fr a t),.protectT fr k⟩ λ a t=>W.fresh (fr a t)
theorem Went.touchT (W:Went B (PrT Pr T) ρ H s ρ1 H1 s1) (t)(fr:∀ a,T a->s.heap.get? a=none)(k:∀ b o,¬ T b->s1.heap.get? b=some o->h'.get? b=some o)(hx:∀ a,T a->∃ o,h'.get? a=some o) :
 Went B (PrT Pr T) ρ H s ρ1 H1 { s1 with heap:=h',toks:=t }:=
 have R:=W.rel
 W.shift t ⟨k,λ a p=>⟨(Classical.em (T a)).elim (hx a) λ t=>(R.prl a p).1.imp λ o e=>k a o t e,(R.prl a p).2⟩,λ a m=>⟨(R.away a m).1,λ t=>(R.away a m).1 (.inr t)⟩,λ a t=>(R.prl a (.inr t)).2,.touchT k⟩ fr
theorem Went.dropT (W:Went B (PrT Pr T) ρ H s ρ1 H1 s1) (t)(dj:∀ a,T a->¬ Pr a)(fr:∀ a,T a->s.heap.get? a=none)(k:∀ b o,¬ T b->s1.heap.get? b=some o->h'.get? b=some o) :
 Went B Pr ρ H s ρ1 H1 { s1 with heap:=h',toks:=t }:=
 have R:=W.rel
 W.shift t ⟨k,λ a p=>⟨(R.prl a (.inl p)).1.imp λ o e=>k a o (λ t=>dj a t p) e,(R.prl a (.inl p)).2⟩,λ a m=>⟨λ p=>(R.away a m).1 (.inl p),λ t=>(R.away a m).1 (.inr t)⟩,λ a t=>(R.prl a (.inr t)).2,.dropT k⟩ fr
theorem Rel.dj (R:Rel B Pr ρ H s.heap)(fr:∀ a,T a->s.heap.get? a=none):∀ a,T a->¬ Pr a:=λ a t p=>(R.prl a p).1.elim λ o e=>nx1 (e.symm.trans (fr a t))
end
def KeepT (T:Addr->Prop)(h h':Heap):Prop:=∀ a o,T a->h.get? a=some o->o.cls≠.none->h'.get? a=some o
def Tn (T:Addr->Prop)(h h':Heap):Prop:=(∀ b o,¬ T b->h.get? b=some o->h'.get? b=some o) /\ ∀ a,T a->∃ o,h'.get? a=some o
def RQ (B:Base)(A:Around)(E:Value->Shared->Prop)(tgt:Expr)(I:Value)(END:Shared->Prop)(ITEM:Value->Shared->Prop)(y:Option Value)(s:Shared):Prop:=match y with
 | none=>END s| some v=>wpAny (Mo B.w) A (letOwnedTupleGo tgt I v) (λ _ s2=>ITEM v s2) E s
structure Now (B:Base)(Pr T:Addr->Prop)(A:Around)(ρs:List Addr)(mt:Addr->Prop)(h:Heap)(ρ:List Addr)(H:List PO)(s:Shared):Prop where
 hd:A.handled=none
 loc:∀ (i:Nat) (a:Addr),ρs[i]?=some a->ρ[i]?=some a
 rel:Rel B (PrT Pr T) ρ H s.heap
 c:Carry mt (a0G (PrT Pr T) ρ H) ρs ρs h s.heap
 kT:KeepT T h s.heap
def c5D (T:Addr->Prop)(END:Shared->Prop)(s:Shared):Prop:=∀ h' tk,(∀ b o,¬ T b->s.heap.get? b=some o->h'.get? b=some o)->END { s with heap:=h',toks:=tk }
def StatIt (B:Base)(Pr T:Addr->Prop)(tgt:Expr)(ρs:List Addr)(I:Value)(l:List PV)(mt:Addr->Prop)(h:Heap):Prop:=match l with
 | []=>∀ {A:Around} {E:Value->Shared->Prop} {END:Shared->Prop} {ITEM:Value->Shared->Prop} {ρ:List Addr} {H:List PO} {s:Shared},Now B Pr T A ρs mt h ρ H s->c5D T END s->wpAny (Mo B.w) A (pyNext I) (RQ B A E tgt I END ITEM) E s| x::l=>∀ {A:Around} {E:Value->Shared->Prop} {END:Shared->Prop} {ITEM:Value->Shared->Prop} {ρ:List Addr} {H:List PO} {s:Shared},Now B Pr T A ρs mt h ρ H s ->
      (∀ v h' tk,Tn T s.heap h'->VRel B (a0G (PrT Pr T) ρ H) ρ h' x v->StatIt B Pr T tgt ρs I l (a0G (PrT Pr T) ρ H) h'->ITEM v { s with heap:=h',toks:=tk })->wpAny (Mo B.w) A (pyNext I) (RQ B A E tgt I END ITEM) E s
section
variable {B:Base}{Pr T mt mt':Addr->Prop}{A:Around}{ρ ρs ρ1:List Addr}{H H1:List PO}{s s1:Shared}{h h' h'':Heap}{tgt:Expr}{I:Value}
theorem KeepT.trans (k:KeepT T h h')(k':KeepT T h' h''):KeepT T h h'':=λ a o t e c=>k' a o t (k a o t e c) c
theorem Now.from (X:Now B Pr T A ρs mt' h' ρ H s)(C:Carry mt mt' ρs ρs h h')(k:KeepT T h h'):Now B Pr T A ρs mt h ρ H s:=
 ⟨X.hd,X.loc,X.rel,⟨λ a o n e f=>have z:=C.obj a o n e f; X.c.obj a o z.2 z.1 f,λ _ _ e=>e⟩,k.trans X.kT⟩
theorem Now.self (hd:A.handled=none)(loc:∀ (i:Nat)(a:Addr),ρs[i]?=some a->ρ[i]?=some a)(R:Rel B (PrT Pr T) ρ H s.heap):Now B Pr T A ρs (a0G (PrT Pr T) ρ H) s.heap ρ H s:=
 ⟨hd,loc,R,⟨λ a o n e _=>⟨e,n⟩,λ _ _ e=>e⟩,λ _ _ _ e _=>e⟩
theorem StatIt.mono (C:Carry mt mt' ρs ρs h h')(k:KeepT T h h')(S:StatIt B Pr T tgt ρs I l mt h):StatIt B Pr T tgt ρs I l mt' h':=by
 cases l with
 | nil=>exact λ X=>S (X.from C k)| cons x l=>exact λ X=>S (X.from C k)
theorem a9U (P:List PV->(Addr->Prop)->Heap->Prop)(hm:∀ {l mt mt' h h'},Carry mt mt' ρs ρs h h'->KeepT T h h'->P l mt h->P l mt' h')
 (he:∀ {A:Around} {E:Value->Shared->Prop} {END:Shared->Prop} {ITEM:Value->Shared->Prop} {s:Shared} {mt:Addr->Prop},A.handled=none->P [] mt s.heap->c5D T END s->wpAny (Mo B.w) A (pyNext I) (RQ B A E tgt I END ITEM) E s)
 (hi:∀ {A:Around} {E:Value->Shared->Prop} {END:Shared->Prop} {ITEM:Value->Shared->Prop} {ρ:List Addr} {H:List PO} {s:Shared} {x:PV} {l:List PV},(∀ (i:Nat) (a:Addr),ρs[i]?=some a->ρ[i]?=some a)->Rel B (PrT Pr T) ρ H s.heap->P (x::l) (a0G (PrT Pr T) ρ H) s.heap ->
   (∀ v h' tk,Tn T s.heap h'->VRel B (a0G (PrT Pr T) ρ H) ρ h' x v->P l (a0G (PrT Pr T) ρ H) h'->ITEM v { s with heap:=h',toks:=tk })->wpAny (Mo B.w) A (pyNext I) (RQ B A E tgt I END ITEM) E s) :
 ∀ (l:List PV) {mt:Addr->Prop} {h:Heap},P l mt h->StatIt B Pr T tgt ρs I l mt h
 | [],_,_,p=>λ X=>he X.hd (hm X.c X.kT p)| x::l,_,_,p=>λ X k=>hi X.loc X.rel (hm X.c X.kT p) λ v h' tk t r q=>k v h' tk t r (a9U P hm he hi l q)
inductive ItS where
 | stat (l:List PV)
 | dyn (i j:Nat)
def ItAt (B:Base)(Pr T:Addr->Prop)(tgt:Expr)(ρs:List Addr)(I:Value)(src:ItS)(mt:Addr->Prop)(h:Heap):Prop:=match src with
 | .stat l=>StatIt B Pr T tgt ρs I l mt h| .dyn i j=>∃ a Ia,I=.ref Ia/\ρs[i]?=some a/\T Ia/\h.IsListIter Ia a j
theorem KeepT.list (k:KeepT T h h'){I a:Addr}(t:T I)(q:h.IsListIter I a j):h'.IsListIter I a j:=q.imp λ o q=>⟨k _ o t q.1 (by rw [q.2.1]; exact nofun),q.2⟩
theorem ItAt.mono (C:Carry mt mt' ρs ρs h h')(k:KeepT T h h')(S:ItAt B Pr T tgt ρs I src mt h):ItAt B Pr T tgt ρs I src mt' h':=by
 cases src with
 | stat l=>exact StatIt.mono C k S| dyn i j=>exact S.imp λ a S=>S.imp λ Ia S=>⟨S.1,S.2.1,S.2.2.1,k.list S.2.2.1 S.2.2.2⟩
theorem ItAt.went (R:Rel B (PrT Pr T) ρ H s.heap)(W:Went B (PrT Pr T) ρ H s ρ1 H1 s1)(S:ItAt B Pr T tgt ρs I src (a0G (PrT Pr T) ρ H) s.heap):ItAt B Pr T tgt ρs I src (a0G (PrT Pr T) ρ1 H1) s1.heap:=
 S.mono ⟨(W.carry R).obj,λ _ _ e=>e⟩ λ a o t e c=>(W.keep a o (λ l=>(R.away a l.mem).1 (.inr t)) e).elim id λ x=>absurd x.2.1 c
end
abbrev b3R (n:String):Prop:=["enumerate", "zip", "dict_itemiterator", "dict_reverseitemiterator", "odict_iterator", "itertools.zip_longest", "itertools.pairwise"].contains n=false
section
variable {prog:Program}{w:World}{A:Around}{E:Value->Shared->Prop}{s:Shared}
theorem b3h {I:Addr}{Q:Unit->Shared->Prop}(ho:s.heap.get? I=some o)(hc:o.cls=.type n)(hn:b3R n)(h:Q () s) :
 wpAny (model prog w) A (letOwnedTupleGo tgt (.ref I) v) Q E s:=by
 have go:wpAny (model prog w) A (letOwnedTupleGo (.Tuple [] 0 ⟨0,0,0,0⟩) (.ref I) v) Q E s:=by
  unfold letOwnedTupleGo;cases v with
  | ref a=>
    refine wpAny_bind (wpAny_load ho ?_);obtain ⟨c,d,dt,sl⟩:=o;obtain rfl:c=.type n:=hc;cases dt with
    | fields vs=>dsimp only;rw [if_neg (by rw [hn]; simp)];exact wpAny_pure h| _=>exact wpAny_pure h
  | _=>exact wpAny_pure h
 cases tgt with
 | Tuple=>exact go| List=>exact go| _=>exact wpAny_pure h
theorem a6D {i ep:Nat}{es:Array DictEntry}{Q:Option Value->Shared->Prop}(hit:s.heap.IsKeyIter it d i es.size ep)
 (hod:s.heap.get? d=some od) (hdd:od.data=.dict es ep)
 (hQ:∀ e,es[i]?=some e->∀ h',h'.IsKeyIter it d (i+1) es.size ep->Heap.SameBut it s.heap h'->Q (some e.key) { s with heap:=h' })
 (hN:es[i]?=none->A.handled=none /\ ∀ h',Heap.ExtBut it s.heap h'->Q none { s with heap:=h' }):wpAny (model prog w) A (pyNext (.ref it)) Q E s:=by
 refine d7H (id hit) λ o ho hc hd=>?_;unfold pyNext;refine wpAny_bind (wpAny_attempt (wpAny_callSpecial?_slot (name:=Str.ofString "__next__") hit.typeIs F.slot_dict_keyiterator_next
  (wpAny_call_entry F.slot_dict_keyiterator_next hit.typeIs F.entry_dict_keyiterator_next ?_ (F.args_dict_keyiterator_next_1 _))))
 refine wpAny_bind (wpAny_pure (wpAny_bind (wpAny_bind ?_)))
 first | refine wpAny_bind (wpAny_typeNameOfWhole_keyiter hit.typeIs (wpAny_pure ?_)) | refine wpAny_bind (wpAny_typeNameOf_keyiter hit.typeIs (wpAny_pure ?_))
 refine wpAny_bind (wpAny_fieldsOf ho hd ?_);rw [show Builtin.Dict_items.ownsTuple "dict_keyiterator" = false from by decide];show wpAny _ _ (if (Value.ref d==Value.none)=true then _ else _) _ _ s;rw [if_neg (show ¬ ((Value.ref d==Value.none)=true) from e2P)];refine wpAny_bind (wpAny_pure (wpAny_bind (wpAny_dictEntries hod hdd ?_)));rw [if_neg (by simp)];refine wpAny_bind (wpAny_pure (wpAny_bind (wpAny_dictEpoch hod hdd ?_)));rw [if_neg (by simp)];refine wpAny_pure ?_;dsimp only;rw [if_neg (show ¬ ((i:Int)<0) from by omega),Int.toNat_natCast];cases hx:es[i]? with
 | some e=>
   dsimp only;refine wpAny_bind ?_
   first | refine wpAny_bind (wpAny_typeNameOfWhole_keyiter hit.typeIs (wpAny_pure ?_)) | refine wpAny_bind (wpAny_typeNameOf_keyiter hit.typeIs (wpAny_pure ?_))
   refine wpAny_bind (wpAny_isOneOf_keyiter hit.typeIs ?_);show wpAny _ _ (setField (.ref it) 1 (rawInt ((i:Int) + 1)) >>= _) _ _ s;refine wpAny_bind (wpAny_setField ho hd (by simp) ?_);have hit':(s.heap.update it (Obj.mapFields (·.setIfInBounds 1 (rawInt ((i:Int) + 1))))).IsKeyIter it d (i + 1) es.size ep:=
    ⟨_,Heap.get?_update_self _ ho (Obj.isFreed_of_fields (Obj.data_mapFields hd _)),(Obj.cls_mapFields ..).trans hc,by rw [Obj.data_mapFields hd]; simp [rawInt]⟩
   refine wpAny_bind (wpAny_holding ?_);refine wpAny_bind (wpAny_isOneOf_keyiter (s:={ s with heap:=s.heap.update it (Obj.mapFields (·.setIfInBounds 1 (rawInt ((i:Int)+1)))) }) hit'.typeIs ?_);exact wpAny_pure (wpAny_pure ⟨_,rfl,wpAny_pure (hQ e hx _ hit' (Heap.SameBut.update ..))⟩)
 | none=>
   dsimp only;refine wpAny_bind ?_
   first | refine wpAny_bind (wpAny_typeNameOfWhole_keyiter hit.typeIs (wpAny_pure ?_)) | refine wpAny_bind (wpAny_typeNameOf_keyiter hit.typeIs (wpAny_pure ?_))
   show wpAny _ _ (setField (.ref it) 0 .none >>= _) _ _ s;refine wpAny_bind (wpAny_setField ho hd (by simp) ?_);show wpAny _ _ (newExc (.type "StopIteration") [] >>= _) _ _ _;refine wpAny_bind ?_;unfold newExc newTuple;refine wpAny_bind (wpAny_newObj_type ?_ (by size_fits));refine wpAny_bind (m:=firstArgMember _ _) (wpAny_of_eq (a:=Value.none) (by first | rfl | (simp only [firstArgMember]; rfl)) ?_);refine wpAny_newObj_type ?_ (by size_fits);unfold raiseNew;refine wpAny_bind (wpAny_handled ?_);rw [show A.in1.handled=none from (hN hx).1];refine wpAny_bind (wpAny_pure (wpAny_throw ?_));refine wpAny_bind (wpAny_isInstance (T := "StopIteration") (b:=true) ⟨_,Heap.get?_push_size _ rfl,rfl⟩ isSubtype_stop ?_);exact wpAny_pure ((hN hx).2 _ (((Heap.SameBut.update ..).extBut.push _).push _))
end
theorem a3q {α:Type}{l:List α}{j:Nat}{x:α}{r:List α}(h:l.drop j=x::r):l[j]?=some x/\l.drop (j+1)=r:=
 ⟨(List.getElem?_drop (xs:=l) (i:=j) (j:=0)).symm.trans (congrArg (·[0]?) h),(List.drop_drop (l:=l) (i:=1) (j:=j)).symm.trans (congrArg (List.drop 1) h)⟩
theorem b2Q {α:Type}{l:List α}{j:Nat}(h:l.drop j=[]):l[j]?=none:=List.getElem?_eq_none_iff.mpr (e1p.mp h)
section
variable {B:Base}{Pr T:Addr->Prop}{A:Around}{ρ ρs:List Addr}{H:List PO}{s:Shared}{tgt:Expr}{h':Heap}{I a:Addr}{E:Value->Shared->Prop}{END:Shared->Prop}{ITEM:Value->Shared->Prop}
theorem b4u (t:T I)(sb:Heap.SameBut I s.heap h'):∀ b o,¬ T b->s.heap.get? b=some o->h'.get? b=some o:=λ b o n e=>(sb.2 b (λ z=>n (z▸t))).trans e
theorem c4O (t:T I)(sb:Heap.ExtBut I s.heap h'):∀ b o,¬ T b->s.heap.get? b=some o->h'.get? b=some o:=λ b o n e=>sb b o (λ z=>n (z▸t)) e
theorem d7a (R:Rel B (PrT Pr T) ρ H s.heap)(t:T I)(sb:Heap.SameBut I s.heap h')(hI:∃ o,h'.get? I=some o):Tn T s.heap h':=⟨b4u t sb,λ b tb=>by
 by_cases e:b=I
 · rwa [e]
 · exact (R.prl b (.inr tb)).1.imp λ o q=>(sb.2 b e).trans q⟩
theorem a5e (R:Rel B (PrT Pr T) ρ H s.heap)(hC:∀ (i:Nat)(a:Addr),ρs[i]?=some a->ρ[i]?=some a)(t:T I)(sb:Heap.SameBut I s.heap h'){o:Obj}{n:String}(ho:h'.get? I=some o /\ o.cls=.type n)(hn:b3R n){x:PV}{v:Value}{tk:Nat}
 (rv:VRel B (a0G (PrT Pr T) ρ H) ρs s.heap x v) {P:Heap->Prop} (k:∀ v h' tk,Tn T s.heap h'->VRel B (a0G (PrT Pr T) ρ H) ρ h' x v->P h'->ITEM v { s with heap:=h',toks:=tk }) (p:P h'):RQ B A E tgt (.ref I) END ITEM (some v) { s with heap:=h',toks:=tk }:=
 b3h (s:={ s with heap:=h',toks:=tk }) ho.1 ho.2 hn (k v h' tk (d7a R t sb ⟨o,ho.1⟩) (rv.mono ⟨(Carry.touchT (ρ:=ρ) (H:=H) (Pr:=Pr) (ρ0:=ρs) (b4u t sb)).obj,hC⟩) p)
theorem b8Y {n:String}{It:Heap->Nat->Prop}{o:Obj}{items:List Value}(nf:(∀ vs,o.data ≠ .fields vs) \/ o.cls ≠ .none)(t:T I)(hn:b3R n)(cl:∀ {h j},It h j->∃ o,h.get? I=some o /\ o.cls=.type n)
 (kp:∀ {h h' j},KeepT T h h'->It h j->It h' j)
 (he:∀ {A:Around} {E:Value->Shared->Prop} {Q:Option Value->Shared->Prop} {s:Shared} {j:Nat},A.handled=none->It s.heap j->s.heap.get? a=some o->items[j]?=none->(∀ h',Heap.ExtBut I s.heap h'->Q none { s with heap:=h' })->wpAny (Mo B.w) A (pyNext (.ref I)) Q E s)
 (hi:∀ {A:Around} {E:Value->Shared->Prop} {Q:Option Value->Shared->Prop} {s:Shared} {j:Nat} {x:Value},It s.heap j->s.heap.get? a=some o->items[j]?=some x->(∀ h',It h' (j+1)->Heap.SameBut I s.heap h'->Q (some x) { s with heap:=h' })->wpAny (Mo B.w) A (pyNext (.ref I)) Q E s)
 {l:List PV} {mt:Addr->Prop} {h:Heap} (j:Nat) (nm:¬ mt a) (g:h.get? a=some o) (rs:VRels B mt ρs h l (items.drop j)) (q:It h j):StatIt B Pr T tgt ρs (.ref I) l mt h:=
 a9U (λ l mt h=>∃ j,¬ mt a /\ h.get? a=some o /\ VRels B mt ρs h l (items.drop j) /\ It h j)
  (λ C k p=>p.imp λ j p=>have z:=C.obj a o p.1 p.2.1 nf; ⟨z.2,z.1,p.2.2.1.mono C,kp k p.2.2.2⟩)
  (fun {A E END ITEM s mt} hh p k=>p.elim λ j p=>he hh p.2.2.2 p.2.1 (b2Q (List.eq_nil_of_length_eq_zero p.2.2.1.length.symm)) λ h' eb=>k h' s.toks (c4O t eb))
  (fun {A E END ITEM ρ H s x l} hC R p k=>p.elim λ j p=>by
    have r:=p.2.2.1;revert r;generalize hm:items.drop j=m;exact λ r=>r.consE m (λ v vs rv rs hm=>hi p.2.2.2 p.2.1 (a3q hm).1 λ h' q sb=>(cl q).elim λ oi ho=>
     a5e R hC t sb (tk:=s.toks) ho hn rv (P:=λ h'=>∃ j,¬ a0G (PrT Pr T) ρ H a /\ h'.get? a=some o /\ VRels B (a0G (PrT Pr T) ρ H) ρs h' l (items.drop j) /\ It h' j) k
      ⟨j+1,p.1,b4u t sb a o (λ z=>p.1 (.inl (.inr z))) p.2.1,(a3q hm).2▸rs.mono (.touchT (b4u t sb)),q⟩) hm)
  l ⟨j,nm,g,rs,q⟩
theorem d1l (t:T I){mt:Addr->Prop}{h:Heap}(nm:¬ mt a)(g:h.get? a=some o)(sq:seqObj "list" o items) (rs:VRels B mt ρs h l items) (q:h.IsListIter I a 0):StatIt B Pr T tgt ρs (.ref I) l mt h:=
 b8Y (It:=λ h j=>h.IsListIter I a j) sq.noFields t (by decide) (λ q=>q.imp λ o q=>⟨q.1,q.2.1⟩) (λ k q=>k.list t q)
  (λ hh q g hx k=>wpAny_pyNext_list_end hh q (sq.list g) (by rwa [List.getElem?_toArray]) k) (λ q g hx k=>wpAny_pyNext_list_item q (sq.list g) (by rwa [List.getElem?_toArray]) k) 0 nm g rs q
theorem d0N (t:T I){mt:Addr->Prop}{h:Heap}(nm:¬ mt a)(g:h.get? a=some o)(sq:seqObj "tuple" o items) (rs:VRels B mt ρs h l items) (q:h.IsTupleIter I a 0):StatIt B Pr T tgt ρs (.ref I) l mt h:=
 b8Y (It:=λ h j=>h.IsTupleIter I a j) sq.noFields t (by decide) (λ q=>q.imp λ o q=>⟨q.1,q.2.1⟩) (λ k q=>q.imp λ o q=>⟨k _ o t q.1 (by rw [q.2.1]; exact nofun),q.2⟩)
  (λ hh q g hx k=>wpAny_pyNext_tuple_end hh q (sq.tuple g) (by rwa [List.getElem?_toArray]) k) (λ q g hx k=>wpAny_pyNext_tuple_item q (sq.tuple g) (by rwa [List.getElem?_toArray]) k) 0 nm g rs q
theorem d0x (t:T I){mt:Addr->Prop}{h:Heap}{x step:Int}{n:Nat}(q:IsRangeIter h I x n step):StatIt B Pr T tgt ρs (.ref I) (a6s n x step) mt h:=
 a9U (λ l _ h=>∃ (n:Nat) (x:Int),l=a6s n x step /\ IsRangeIter h I x n step)
  (λ C k p=>p.imp λ n p=>p.imp λ x p=>⟨p.1,k _ _ t p.2 nofun⟩)
  (fun {A E END ITEM s mt} hh p k=>p.elim λ n p=>p.elim λ x p=>by
    cases n with
    | succ n=>exact nomatch p.1| zero=>exact wpAny_pyNext_range_end hh p.2 (by simp) λ h' eb=>k h' s.toks (c4O t eb))
  (fun {A E END ITEM ρ H s y l} hC R p k=>p.elim λ n p=>p.elim λ x p=>by
    cases n with
    | zero=>exact nomatch p.1| succ n=>have z:=List.cons.inj p.1;refine wpAny_pyNext_range_item p.2 (by push_cast; lia) λ h' q sb=>?_;have q2:IsRangeIter h' I (x+step) (n:Nat) step:=(show ((n+1:Nat):Int)-1=(n:Nat) by push_cast; lia)▸q;exact a5e R hC t sb ⟨q2,rfl⟩ (by decide) (z.1▸.int x s.toks) k ⟨n,_,z.2,q2⟩)
  _ ⟨n,x,rfl,q⟩
theorem d2y (t:T I){mt:Addr->Prop}{h:Heap}(nm:¬ mt a)(g:h.get? a=some o)(d:o.data=.dict es n)(rs:VRels B mt ρs h l (es.toList.map (·.key)))(q:h.IsKeyIter I a 0 es.size n):StatIt B Pr T tgt ρs (.ref I) l mt h:=
 have at_:∀ j:Nat,(es.toList.map (·.key))[j]?=es[j]?.map (·.key):=λ j=>by rw [List.getElem?_map,Array.getElem?_toList]
 b8Y (It:=λ h j=>h.IsKeyIter I a j es.size n) (.inl λ vs e=>nomatch d.symm.trans e) t (by decide) (λ q=>q.imp λ o q=>⟨q.1,q.2.1⟩) (λ k q=>q.imp λ o q=>⟨k _ o t q.1 (by rw [q.2.1]; exact nofun),q.2⟩)
  (λ hh q g hx k=>a6D q g d (λ e he=>nx1 ((congrArg (Option.map (·.key)) he).symm.trans ((at_ _).symm.trans hx))) λ _=>⟨hh,k⟩)
  (fun {A E Q s j x} q g hx k=>a6D q g d (λ e he=>(show x=e.key from sj (((at_ _).symm.trans hx).symm.trans (congrArg (Option.map (·.key)) he)))▸k) λ hn=>nx0 ((congrArg (Option.map (·.key)) hn).symm.trans ((at_ _).symm.trans hx))) 0 nm g rs q
theorem b5y {I:Value}(hh:A.handled=none)(hC:∀ (i:Nat)(a:Addr),ρs[i]?=some a->ρ[i]?=some a)(R:Rel B (PrT Pr T) ρ H s.heap){i j:Nat}(S:ItAt B Pr T tgt ρs I (.dyn i j) (a0G (PrT Pr T) ρ H) s.heap)(e:a7J H i=some l)
 (he:l[j]?=none->c5D T END s) (hi:∀ x,l[j]?=some x->∀ v h' tk,Tn T s.heap h'->VRel B (a0G (PrT Pr T) ρ H) ρ h' x v->ItAt B Pr T tgt ρs I (.dyn i (j+1)) (a0G (PrT Pr T) ρ H) h'->ITEM v { s with heap:=h',toks:=tk }) :
 wpAny (Mo B.w) A (pyNext I) (RQ B A E tgt I END ITEM) E s:=by
 obtain ⟨a,Ia,rfl,ha,t,q⟩:=S;refine oE e λ po hp e=>?_;have rr:=R.loc (hC i a ha) hp;have rr:∃ o items,s.heap.get? a=some o/\seqObj "list" o items/\VRels B (a0G (PrT Pr T) ρ H) ρ s.heap l items:=(c6k e).elim (λ z=>by subst z; exact rr) λ z=>by subst z; exact rr
 obtain ⟨o,items,g,sq,rs⟩:=rr;cases hx:l[j]? with
 | none=>exact wpAny_pyNext_list_end hh q (sq.list g) (by rw [List.getElem?_toArray]; exact List.getElem?_eq_none_iff.mpr (rs.length▸List.getElem?_eq_none_iff.mp hx)) λ h' eb=>he hx h' s.toks (c4O t eb)| some x=>refine (rs.get j x hx).elim λ v z=>wpAny_pyNext_list_item q (sq.list g) (x:=v) (by rw [List.getElem?_toArray]; exact z.1) λ h' q sb=>?_;exact q.elim λ oi ho=>a5e R (λ _ _ e=>e) t sb (tk:=s.toks) ⟨ho.1,ho.2.1⟩ (by decide) z.2 (hi x hx) ⟨a,Ia,rfl,ha,t,q⟩
end
section
variable {M:Model}{A:Around}{E:Value->Shared->Prop}{s:Shared}
theorem b2L {fv:Value}{args:List (Bool×Sem Value)}{Q:Args->Shared->Prop}(hp:args.any (·.1)=false)(h:wpAny M A (spliced args) (λ vs s'=>Q ⟨vs,[]⟩ s') E s):wpAny M A (evalArgs fv true args []) Q E s:=by
 rcases args with _ | ⟨⟨b,x⟩,rest⟩
 · unfold evalArgs;show wpAny M A (spliced [] >>= _) Q E s;refine wpAny_bind (wpAny_mono h (λ vs s' h'=>wpAny_bind (wpAny_pure ?_)) λ _ _ x=>x);refine wpAny_holding ?_;exact wpAny_bind (wpAny_pure (wpAny_bind (wpAny_pure (wpAny_pure h'))))
 · cases b with
   | true=>exact nx3 hp| false=>exact evalArgs_plain h
end
noncomputable def Src.init:Src->ItS
 | .stat l=>.stat l| .dyn i _=>.dyn i 0
section
variable {B:Base}{n:Nat}{r:Rc}{ae:AEnv}{env:Env}{Pr T:Addr->Prop}{A:Around}{c c1:Cf}{s:Shared}
theorem a2o (pos:Pos){es:List Expr}:∀ {st st':St}{vs:List PV},Ran B (evs r ae es) st vs st'->(backTo pos (starEach es env)).any (·.1)=false:=by
 induction es with
 | nil=>exact λ _=>rfl| cons e es ih=>intro st st' vs h;have h:Ran B (gE' (!a2k e) (Ev.bind (r.e e ae) λ v=>Ev.bind (evs r ae es) λ vs=>Ev.ret (v::vs))) st vs st':=h;refine h.gE'.2.bind λ v st1 _ h2=>h2.bind λ vs' st2 h3 _=>?_;rw [a2w h.gE'.1];have ih:=ih h3;unfold backTo at ih ⊢;exact ih
theorem b3O {w:World}{prog:Program}{E:Value->Shared->Prop}{d:Addr}{o:Obj}{es:Array DictEntry}{ep:Nat}{Q:Value->Shared->Prop}(hd:d ≠ sysModules)(ho:s.heap.get? d=some o)(hx:o.ExactDict)(hdat:o.data=.dict es ep)
 (hQ:Q (.ref s.heap.objs.size) { s with heap:=s.heap.push { cls:=.type "dict_keyiterator",data:=.fields #[.ref d,.int 0 0,.int es.size 0,.int ep 0] } }) :
 wpAny (model prog w) A (pyIter (.ref d)) Q E s:=by
 have hT:s.TypeIs (.ref d) "dict" := ⟨o,ho,hx.1⟩
 refine wpAny_pyIter_slot hT F.slot_dict_iter (wpAny_call_entry F.slot_dict_iter hT F.entry_dict_iter ?_ (F.args_dict_iter_1 _));unfold Builtin.«dict.__iter__»;refine wpAny_bind ?_;unfold Builtin.Dict.dictSlotNone;refine wpAny_bind (wpAny_notOrdered_dict hT ?_);show wpAny _ _ (pure (Value.ref d)) _ _ s;refine wpAny_pure ?_;show wpAny _ _ (Builtin.Dict.showsAll d >>= _) _ _ s;unfold Builtin.Dict.showsAll;rw [if_neg (by rw [a4w hd]; exact e2P)];refine wpAny_bind (wpAny_pure (wpAny_bind (wpAny_dictEntries ho hdat (wpAny_bind (wpAny_dictEpoch ho hdat ?_)))));exact wpAny_bind (wpAny_newObj_type (wpAny_pure ⟨_,rfl, "dict_keyiterator",_,⟨_,Heap.get?_push_size _ rfl,rfl⟩,F.slot_dict_keyiterator_next.lookup,hQ⟩))
def c9r (B:Base)(T:Addr->Prop)(I:Value)(h:Heap):Prop:=∀ {A:Around}{E:Value->Shared->Prop}{Q:Value->Shared->Prop}{s:Shared},KeepT T h s.heap->Q I s->wpAny (Mo B.w) A (pyIter I) Q E s
theorem KeepT.obj {h h':Heap}(k:KeepT T h h'){I:Addr}(t:T I){n:String}{dt:Data}(q:∃ o,h.get? I=some o/\o.cls=.type n/\o.data=dt):∃ o,h'.get? I=some o/\o.cls=.type n/\o.data=dt:=
 q.imp λ o q=>⟨k _ o t q.1 (by rw [q.2.1]; exact nofun),q.2⟩
def b2p (B:Base)(Pr:Addr->Prop)(c:Cf)(st':St)(t:Expr)(src:Src)(I:Value)(s2:Shared):Prop:=
 ∃ ρ' T,Went B (PrT Pr T) c.ρ c.st.H c.s ρ' st'.H s2/\(∀ a,T a->c.s.heap.get? a=none)/\ItAt B Pr T t ρ' I src.init (a0G (PrT Pr T) ρ' st'.H) s2.heap/\c9r B T I s2.heap
theorem d3K (W:Wt B Pr c c1){I:Value}{h':Heap}{tk:Nat}{t:Expr}{src:Src}(fr:∀ a,T a->c1.s.heap.get? a=none)(hx:∀ a,T a->∃ o,h'.get? a=some o)(k:∀ b p,c1.s.heap.get? b=some p->h'.get? b=some p)
 (S:Carry (c1.mt Pr) (a0G (PrT Pr T) c1.ρ c1.st.H) c1.ρ c1.ρ c1.s.heap h'->ItAt B Pr T t c1.ρ I src.init (a0G (PrT Pr T) c1.ρ c1.st.H) h'/\c9r B T I h'):b2p B Pr c c1.st t src I { c1.s with heap:=h',toks:=tk }:=
 have z:=S (.protectT fr k)
 ⟨c1.ρ,T,W.protectT tk fr hx k,λ a t=>W.fresh (fr a t),z.1,z.2⟩
theorem a3s (W:Wt B Pr c c1){t:Expr}{src:Src}{o:Obj}(nf:o.isFreed=false)(tk:Nat)
 (S:∀ T h',T c1.s.heap.objs.size->(∀ b p,c1.s.heap.get? b=some p->h'.get? b=some p)->h'.get? c1.s.heap.objs.size=some o->Carry (c1.mt Pr) (a0G (PrT Pr T) c1.ρ c1.st.H) c1.ρ c1.ρ c1.s.heap h' ->
   ItAt B Pr T t c1.ρ (.ref c1.s.heap.objs.size) src.init (a0G (PrT Pr T) c1.ρ c1.st.H) h'/\c9r B T (.ref c1.s.heap.objs.size) h') :
 b2p B Pr c c1.st t src (.ref c1.s.heap.objs.size) { c1.s with heap:=c1.s.heap.push o,toks:=tk }:=
 have k:∀ b p,c1.s.heap.get? b=some p->(c1.s.heap.push o).get? b=some p:=λ b p e=>Heap.get?_push_of_some _ e
 d3K W (T:=λ b=>b=c1.s.heap.objs.size) (λ a e=>e▸a1X _) (λ a e=>⟨o,e▸Heap.get?_push_size _ nf⟩) k (S _ _ rfl k (Heap.get?_push_size _ nf))
theorem d0k (W:Wt B Pr c c1){v:PV}{x:Value}(rv:VR B Pr c1 v x){t:Expr}{src:Src}(e:d0l c1.st.H v=some src):wpAny (Mo B.w) A (pyIter x) (λ I s2=>b2p B Pr c c1.st t src I s2) E0 c1.s:=by
 cases v with
 | tup l=>
   exact sE src e (rv.tupE x λ a o items nm g sq rs=>wpAny_pyIter_tuple (sq.tuple g) (a3s W rfl c1.s.toks λ T h' t k hI C=>
    have z:=C.obj a o nm g sq.noFields;have q:h'.IsTupleIter _ a 0:=⟨_,hI,rfl,rfl⟩
    ⟨d0N t z.2 z.1 sq (rs.mono C) q,λ kT h=>wpAny_pyIter_tupleiter (kT.obj t q) h⟩))
 | lst l=>
   exact sE src e (rv.lstE x λ a o items nm g sq rs=>wpAny_pyIter_list (sq.list g) (a3s W rfl c1.s.toks λ T h' t k hI C=>
    have z:=C.obj a o nm g sq.noFields;have q:h'.IsListIter _ a 0:=⟨_,hI,rfl,rfl⟩
    ⟨d1l t z.2 z.1 sq (rs.mono C) q,λ kT h=>wpAny_pyIter_listiter (kT.obj t q) h⟩))
 | dct ks vs=>
   exact sE src e (rv.dctE x λ a o es n nm g hx d nd er=>b3O nd.2 g hx d (a3s W rfl c1.s.toks λ T h' t k hI C=>
    have z:=C.obj a o nm g (.inl λ vs e=>nomatch d.symm.trans e);have q:h'.IsKeyIter _ a 0 es.size n:=⟨_,hI,rfl,rfl⟩
    ⟨d2y t z.2 z.1 d (er.1.mono C) q,λ kT h=>wpAny_pyIter_keyiter (kT.obj t q) h⟩))
 | loc i=>
   refine oE e λ po hp e=>oE e λ l hl e=>sE src e (rv.locE x λ a hi=>?_);have rr:=W.rel.loc hi (hp.trans (congrArg some (a1x hl)));obtain ⟨o,items,g,sq,rs⟩:=rr;exact wpAny_pyIter_list (sq.list g) (a3s W rfl c1.s.toks λ T h' t k hI C=>
    have q:h'.IsListIter _ a 0:=⟨_,hI,rfl,rfl⟩
    ⟨⟨a,_,rfl,hi,t,q⟩,λ kT h=>wpAny_pyIter_listiter (kT.obj t q) h⟩)
 | _=>exact nx0 e
end
theorem a4N (a b:Int):Builtin.Range.rangeSize a b (-1)=if a>b then a-b else 0:=by unfold Builtin.Range.rangeSize;simp only [show ¬ ((-1:Int)>0) by decide,if_false,Int.neg_neg,Int.ediv_one];split <;> lia
theorem b6c {a b:Int}(ha:-(2^62)<=a)(ha':a<2^62)(hb:-(2^62)<=b)(hb':b<2^62):Builtin.Range.small a b (-1)=true:=by unfold Builtin.Range.small;rw [a4N];simp only [Builtin.Range.rangeFitsLong,e1h,Bool.or_eq_true,decide_eq_true_eq,beq_iff_eq,show ¬ ((-1:Int)>0) by decide,if_false];split <;> lia
theorem a3v {i:Int}(h:b7Z i=true):-(2^30)<=i/\i<2^30:=by
 cases i with
 | ofNat n=>
   have:n<1000000000:=by simpa [b7Z] using h
   simp only [e1u];lia
 | negSucc n=>
   have:n<1000000000:=by simpa [b7Z] using h
   lia
section
variable {B:Base}{n:Nat}{r:Rc}{ae:AEnv}{env:Env}{Pr T:Addr->Prop}{A:Around}{c c1:Cf}{ρs:List Addr}{st st1:St}
theorem c0I {k:Option NameKind}(h:b0B k=true):k=some .globalImplicit:=by
 cases k with
 | none=>exact nx2 h| some k=>cases k <;> first | rfl | exact nx2 h
theorem b3x {x:Str}{l:List Nat}{v:PV}(hl:a0q x.cps.toList l=true)(hd:a0q l b1G=false)(hk:b0B (a1H ae.sc.names x)=true)(hg:a5m.at l=some v):Ran B (a9A ae x) st v st:=by
 refine ⟨Obs.nil,?_,λ x hx=>absurd hx e0b,e0q _⟩;rw [a2D,decide_eq_true_eq] at hl;have z:(gd (!a0q x.cps.toList b1G) (Internal.ob (a1H ae.sc.names x) λ k=>d2c ae x k st.H))=some v:=by rw [hl,hd,c0I hk];exact (congrArg (a5m.at ·) hl).trans hg
 exact congrArg (λ o=>Internal.ob o λ v=>some (v,st,Obs.nil)) z
theorem a2z (K:RcOK B n r)(pos:Pos)(X:At B n ae env Pr A c){es:List Expr}{fv:Value}{vs:List PV}(e:Ran B (evs r ae es) c.st vs st1){Q:Args->Shared->Prop}
 (h:∀ ρ1 s1 xs,Wt B Pr c ⟨ρ1,st1,s1⟩->VRs B Pr ⟨ρ1,st1,s1⟩ vs xs->Q ⟨xs,[]⟩ s1):wpAny (Mo B.w) A (evalArgs fv true (backTo pos (starEach es env)) []) Q E0 c.s:=
 b2L (a2o pos e) (a9X K pos es X vs st1 e _ λ ρ1 s1 xs W r=>h ρ1 s1 xs W r)
theorem b4a (G:b6Q B)(K:RcOK B n r)(X:At B n ae env Pr A c){f:Str}{p pos:Pos}{T:String}{l:List Nat}{args:List Expr}(hl:a0q f.cps.toList l=true)(hd:a0q l b1G=false)(hk:b0B (a1H ae.sc.names f)=true)(hg:a5m.at l=some (.typ T))
 {vs:List PV} (e:Ran B (evs r ae args) c.st vs st1) {Q:Value->Shared->Prop}
 (h:∀ ρ1 s1 xs,Wt B Pr c ⟨ρ1,st1,s1⟩->VRs B Pr ⟨ρ1,st1,s1⟩ vs xs->wpAny (Mo B.w) A (call (.type T) xs) Q E0 s1):wpAny (Mo B.w) A (eval (.Call (.Name f p) args [] pos) env) Q E0 c.s:=by
 have e0:Ran B (a9A ae f) c.st (.typ T) c.st:=b3x hl hd hk hg;refine Call_Name rfl (wpAny_Name ((a9W G X.v X.r f:Sm B Pr A c _ _ (VRel B)) _ c.st e0 _ λ ρ0 s0 x W0 r0=>?_) (a8a e0));have W0:Wt B Pr c ⟨ρ0,c.st,s0⟩:=W0;exact VRel.typE x r0 (PySem.callWith_type (a2o pos e) (a2z K pos (X.went W0) e λ ρ1 s1 xs W1 r1=>h ρ1 s1 xs (W0.tr X.r W1) r1))
theorem c3d {t:Expr}(h:b1t t=true):∃ a b c,t=.Tuple a b c:=by
 cases t with
 | Tuple a b c=>exact ⟨a,b,c,rfl⟩| _=>exact nx2 h
theorem d2p {en itr a:Addr}{o:Obj}{items:List Value}{tgt:Expr}(ht:b1t tgt=true)(t1:T en)(t2:T itr)(ne:en ≠ itr){l:List PV}{mt:Addr->Prop}{h:Heap}{old:Value}(nm:¬ mt a)(g:h.get? a=some o)(sq:seqObj "list" o items) (rs:VRels B mt ρs h l items)
 (q1:IsEnum h en itr ((0:Nat):Int) old) (q2:h.IsListIter itr a 0):StatIt B Pr T tgt ρs (.ref en) (a4f 0 l) mt h:=
 a9U (λ l mt h=>∃ (j:Nat) (m:List PV) (old:Value),l=a4f j m /\ ¬ mt a /\ h.get? a=some o /\ VRels B mt ρs h m (items.drop j) /\ IsEnum h en itr (j:Int) old /\ h.IsListIter itr a j)
  (λ C k p=>p.imp λ j p=>p.imp λ m p=>p.imp λ old p=>have z:=C.obj a o p.2.1 p.2.2.1 sq.noFields; ⟨p.1,z.2,z.1,p.2.2.2.1.mono C,k _ _ t1 p.2.2.2.2.1 nofun,k.list t2 p.2.2.2.2.2⟩)
  (fun {A E END ITEM s mt} hh p k=>p.elim λ j p=>p.elim λ m p=>p.elim λ old p=>by
    cases m with
    | cons=>exact nomatch p.1| nil=>exact wpAny_pyNext_enum_end hh p.2.2.2.2.1 p.2.2.2.2.2 (sq.list p.2.2.1) ((List.getElem?_toArray ..).trans (b2Q (List.eq_nil_of_length_eq_zero p.2.2.2.1.length.symm))) λ h' eb=>k h' s.toks (c4O t2 eb))
  (fun {A E END ITEM ρ H s y l} hC R p k=>p.elim λ j p=>p.elim λ m p=>p.elim λ old p=>by
    cases m with
    | nil=>exact nomatch p.1| cons x m=>
      have z:=List.cons.inj p.1;have r:=p.2.2.2.1;revert r;generalize hm:items.drop j=w;refine λ r=>r.consE w (λ v vs rv rs hm=>wpAny_pyNext_enum_item p.2.2.2.2.1 p.2.2.2.2.2 (sq.list p.2.2.1) ((List.getElem?_toArray ..).trans (a3q hm).1) ne λ h' heo hit' htu hsz kp=>?_) hm;obtain ⟨elts,x1,pos,rfl⟩:=c3d ht;refine wpAny_letOwnedTupleGo_enum (s:={ s with heap:=h',toks:=s.toks + 1 }) heo λ h2 he2 sb=>?_;replace sb:Heap.SameBut en h' h2:=sb;have kp2:∀ b o,¬ T b->s.heap.get? b=some o->h2.get? b=some o:=λ b o n e=>(sb.2 b (λ z=>n (z▸t1))).trans (kp b o (λ z=>n (z▸t1)) (λ z=>n (z▸t2)) e);have hit2:h2.IsListIter itr a (j + 1):=hit'.extBut sb.extBut (Ne.symm ne);have tn:Tn T s.heap h2:=⟨kp2,λ b tb=>by
       by_cases e1:b=en
       · exact e1▸⟨_,he2⟩
       · by_cases e2:b=itr
         · exact e2▸hit2.imp λ o q=>q.1
         · exact (R.prl b (.inr tb)).1.imp λ o q=>(sb.2 b e1).trans (kp b o e1 e2 q)⟩
      have C:=Carry.touchT (ρ:=ρ) (H:=H) (Pr:=Pr) (ρ0:=ρs) kp2;refine k _ h2 (s.toks+1) tn (z.1▸.tup _ s.heap.objs.size _ [.int (j:Int) s.toks,v] (R.fresh (a1X _)) ((sb.2 _ (Nat.ne_of_gt (Heap.lt_size p.2.2.2.2.1))).trans htu) (.mk' (by show 2<=sizeLine; decide) _) ?_) ⟨j+1,m,v,z.2,p.2.1,kp2 a o (λ z=>p.2.1 (.inl (.inr z))) p.2.2.1,(a3q hm).2▸rs.mono C,?_,hit2⟩
      · exact .cons _ _ _ _ (.int _ _) (.one (rv.mono ⟨C.obj,hC⟩))
      · exact (show ((j+1:Nat):Int)=(j:Int)+1 by push_cast; rfl)▸he2)
  _ ⟨0,l,old,rfl,nm,g,rs,q1,q2⟩
theorem b7T (W:Wt B Pr c c1){v:PV}{x:Value}(rv:VR B Pr c1 v x){t:Expr}(ht:b1t t=true){src:Src}(e:b8E v=some src) :
 wpAny (Mo B.w) A (call (.type "enumerate") [x]) (λ y s2=>wpAny (Mo B.w) A (pyIter y) (λ I s3=>b2p B Pr c c1.st t src I s3) E0 s2) E0 c1.s:=
 oE e λ l hl e=>sE src e (VRel.lstE x (b4Q hl▸rv) λ a o items nm g sq rs=>call_enumerate_list (sq.list g) λ h' he hit hsz k=>wpAny_pyIter_enum he (d3K W
  (T:=λ b=>b=c1.s.heap.objs.size \/ b=c1.s.heap.objs.size + 1) (λ a e=>by
    have none_of:∀ a,c1.s.heap.objs.size <= a->c1.s.heap.get? a=none:=λ a ha=>by
     cases q:c1.s.heap.get? a with
     | none=>rfl| some o=>exact absurd (Heap.lt_size q) (e1U.mpr ha)
    exact e.elim (λ e=>e▸none_of _ (e0i _)) λ e=>e▸none_of _ (e1r _))
  (λ a e=>e.elim (λ e=>e▸hit.imp λ o q=>q.1) λ e=>e▸⟨_,he⟩) k λ C=>
    have z:=C.obj a o nm g sq.noFields
    ⟨d2p ht (.inr rfl) (.inl rfl) (Nat.succ_ne_self _) z.2 z.1 sq (rs.mono C) he hit,λ kT h=>wpAny_pyIter_enum (kT _ _ (.inr rfl) he nofun) h⟩))
theorem a7p (W:Wt B Pr c c1){t:Expr}{a b s:Int}{t1 t2 t3:Tok}{m:Nat}(tk:Nat)(hs:Builtin.Range.small a b s=true)(hz:Builtin.Range.rangeSize a b s=(m:Int)) :
 wpAny (Mo B.w) A (pyIter (.ref c1.s.heap.objs.size)) (λ I s3=>b2p B Pr c c1.st t (.stat (a6s m a s)) I s3) E0 { c1.s with heap:=c1.s.heap.push { cls:=.type "range",data:=.fields #[.int a t1,.int b t2,.int s t3] },toks:=tk }:=by
 have W2:Wt B Pr c ⟨c1.ρ,c1.st,{ c1.s with heap:=c1.s.heap.push { cls:=.type "range",data:=.fields #[.int a t1,.int b t2,.int s t3] },toks:=tk }⟩:=W.more tk λ b o e=>Heap.get?_push_of_some _ e;exact wpAny_pyIter_range (IsRange.new ..) hs (a3s W2 rfl tk λ T h' t k hI C=>⟨d0x t (hz▸hI),λ kT h=>wpAny_pyIter_rangeiter (kT _ _ t hI nofun) h⟩)
theorem c5Z {a b:Int}(ha:b7Z a=true)(hb:b7Z b=true):Builtin.Range.small a b 1=true/\Builtin.Range.rangeSize a b 1=(a8B (b-a):Int):=by have:=a3v ha;have:=a3v hb;refine ⟨small_one (by lia) (by lia) (by lia) (by lia),?_⟩;rw [rangeSize_one,a3G];split <;> lia
theorem c2o {a b:Int}(ha:b7Z a=true)(hb:b7Z b=true):Builtin.Range.small a b (-1)=true/\Builtin.Range.rangeSize a b (-1)=(a8B (a-b):Int):=by have:=a3v ha;have:=a3v hb;refine ⟨b6c (by lia) (by lia) (by lia) (by lia),?_⟩;rw [a4N,a3G];split <;> lia
theorem b4O (W:Wt B Pr c c1){vs:List PV}{xs:List Value}(rv:VRs B Pr c1 vs xs){t:Expr}{l:List PV}(e:b8m vs=some l) :
 wpAny (Mo B.w) A (call (.type "range") xs) (λ y s2=>wpAny (Mo B.w) A (pyIter y) (λ I s3=>b2p B Pr c c1.st t (.stat l) I s3) E0 s2) E0 c1.s:=by
 cases vs with
 | nil=>exact nx0 e| cons v vs=>refine rv.consE xs λ x xs r1 rs=>?_; cases vs with
   | nil=>refine rs.nilE xs (oE e λ b hb e=>gE e λ h e=>sE l e (e2q x (a0c hb▸r1) λ u=>?_));have z:=c5Z (a:=0) (b:=b) rfl h;rw [Int.sub_zero] at z;exact call_range_1 (a7p W _ z.1 z.2)| cons v2 vs=>refine rs.consE xs λ x2 xs r2 rs=>?_; cases vs with
     | nil=>refine rs.nilE xs (oE e λ a ha e=>oE e λ b hb e=>gE e λ h e=>sE l e (e2q x (a0c ha▸r1) λ u=>e2q x2 (a0c hb▸r2) λ u2=>?_));have z:=c5Z (a0A h).1 (a0A h).2;exact call_range_2 (a7p W _ z.1 z.2)| cons v3 vs=>refine rs.consE xs λ x3 xs r3 rs=>?_; cases vs with
       | nil=>refine rs.nilE xs (oE e λ a ha e=>oE e λ b hb e=>oE e λ d hd e=>gE e λ h e=>sE l e (e2q x (a0c ha▸r1) λ u=>e2q x2 (a0c hb▸r2) λ u2=>e2q x3 (a0c hd▸r3) λ u3=>?_));have z:=c2o (a0A (a0A h).2).1 (a0A (a0A h).2).2;rw [c6F (a0A h).1];exact call_range_3 (by decide) (a7p W _ z.1 z.2) (.inl (PyProof.noPylong_small (by decide)))| cons=>exact nx0 e
end
section
variable {B:Base}{n:Nat}{r:Rc}{ae:AEnv}{env:Env}{Pr T:Addr->Prop}{A:Around}{c:Cf}{st':St}
theorem a9y {it:Expr}(h:(!b5a it)=true)(x:Value):foldedSetIterable it env x=pure x:=by cases it <;> first | rfl | exact nx2 h
theorem b5d {l:List Keyword}(h:b5e l=true):l=[]:=by
 cases l with
 | nil=>rfl| cons=>exact nx2 h
theorem c4l {e:Expr}{q:Str×List Expr}(h:c6f e=some q):∃ p pos,e=.Call (.Name q.1 p) q.2 [] pos:=by
 cases e with
 | Call f args kws pos=>exact gE h λ hk h=>oE h λ x hx h=>(a9n hx).elim λ p z=>by rw [<- sj h,z,b5d hk]; exact ⟨p,pos,rfl⟩
 | _=>exact nx0 h
theorem b8K (BO:BaseOK B)(K:RcOK B n r)(X:At B n ae env Pr A c)(t it:Expr){src:Src}(e:Ran B (a1w r ae t it) c.st src st') :
 wpAny (Mo B.w) A (eval it env) (λ x s1=>wpAny (Mo B.w) A (pyIter x) (λ I s2=>b2p B Pr c st' t src I s2) E0 s1) E0 c.s /\ ∀ x,foldedSetIterable it env x=pure x:=by
 refine ⟨?_,a9y e.gE'.1⟩;have gen:Ran B (a9e r ae it) c.st src st'->wpAny (Mo B.w) A (eval it env) (λ x s1=>wpAny (Mo B.w) A (pyIter x) (λ I s2=>b2p B Pr c st' t src I s2) E0 s1) E0 c.s:=λ e=>
  (K.e it X).then e λ v c1 x e1 W1 r1=>e1.rd.2▸d0k W1 r1 e1.rd.1
 refine e.gE'.2.oc (λ q hq e=>?_) λ _ e=>gen e;obtain ⟨p,pos,rfl⟩:=c4l hq;have hk:=e.gE'.1;refine e.gE'.2.bc (λ hr e=>e.bind λ vs st1 e1 e2=>?_) λ _ e=>e.bc (λ hn e=>e.gE'.2.bind λ vs st1 e1 e2=>?_) λ _ e=>gen e
 · refine b4a (T := "range") BO.glob K X hr rfl hk (by kernel_rfl) e1 λ ρ1 s1 xs W1 r1=>?_;obtain ⟨H,m,e3,_,rfl⟩:=e2.up;refine oE e3 λ l hl e3=>?_;have z:=a1C e3;rw [<- z.1,<- z.2.1];exact b4O W1 r1 hl
 · refine b4a (T := "enumerate") BO.glob K X hn rfl hk (by kernel_rfl) e1 λ ρ1 s1 xs W1 r1=>oE e2.opt.1 λ v hv e3=>?_;have r1:VRs B Pr ⟨ρ1,st1,s1⟩ [v] xs:=b4o hv▸r1;rw [e2.opt.2];exact r1.consE xs λ x xs r1 rs=>rs.nilE xs (b7T W1 r1 e.gE'.1 e3)
def b3e (body:PV->Ev Fl)(c:Nat)(src:ItS):Ev Fl:=match src with
 | .stat l=>a0R body l| .dyn i j=>b5o body i c j
noncomputable def b6q (c:Nat)(src:ItS):Nat:=match src with
 | .stat l=>l.length| .dyn _ _=>c
noncomputable def Src.cnt:Src->Nat
 | .stat _=>0| .dyn _ n=>n
theorem a6J (body:PV->Ev Fl)(src:Src):a3o body src=b3e body src.cnt src.init:=by cases src <;> rfl
theorem d0w {body:PV->Ev Fl}{tgt:Expr}{I:Value}{ρ ρs:List Addr}{s:Shared}{st:St}{f:Fl}{c:Nat}{src:ItS}{E:Value->Shared->Prop}{END:Shared->Prop}{ITEM:Value->Shared->Prop}(hh:A.handled=none)(hC:∀ (i:Nat)(a:Addr),ρs[i]?=some a->ρ[i]?=some a)
 (R:Rel B (PrT Pr T) ρ st.H s.heap) (S:ItAt B Pr T tgt ρs I src (a0G (PrT Pr T) ρ st.H) s.heap) (e:Ran B (b3e body c src) st f st') (he:f=.next->st'=st->c5D T END s)
 (hi:∀ x c' src',b6q c' src'<b6q c src->Ran B (Ev.bind (body x) λ g=>b2F (b3e body c' src') g) st f st'->∀ v h' tk,Tn T s.heap h'->VRel B (a0G (PrT Pr T) ρ st.H) ρ h' x v->ItAt B Pr T tgt ρs I src' (a0G (PrT Pr T) ρ st.H) h'->ITEM v { s with heap:=h',toks:=tk }) :
 wpAny (Mo B.w) A (pyNext I) (RQ B A E tgt I END ITEM) E s:=by
 cases src with
 | stat l=>cases l with
   | nil=>have z:=Ran.ret e;exact S (Now.self hh hC R) (he z.1 z.2)| cons x l=>exact S (Now.self hh hC R) (hi x c (.stat l) (e2J _) e)
 | dyn i j=>cases c with
   | zero=>refine Ran.rdT e λ u h e=>oE h λ l hl h=>gE h λ hb _=>b5y hh hC R S hl (λ _=>he e.ret.1 e.ret.2) λ x hx=>?_;exact nx2 ((a3D hb).symm.trans (e1B.mpr (a0Q hx)))| succ c=>
     refine Ran.rdT e λ o h e=>oE h λ l hl h=>?_;obtain rfl:=sj h;refine b5y hh hC R S hl (λ hn=>?_) λ x hx=>?_
     · rw [hn] at e;exact he (Ran.ret e).1 (Ran.ret e).2
     · rw [hx] at e;exact hi x c (.dyn i (j+1)) (e2J _) e
end
section
variable {B:Base}{mt mt':Addr->Prop}{ρ ρ':List Addr}{h:Heap}{f:Nat->Option Nat}
theorem a3z (M:∀ a,mt' a->mt a):Carry mt mt' ρ ρ h h:=⟨λ a o nm e _=>⟨e,λ m=>nm (M a m)⟩,λ _ _ e=>e⟩
theorem c7y (M:∀ a,mt' a->mt a)(n:a0e v=true)(r:VRel B mt ρ h v x):VRel B mt' ρ' h v x:=(a3y (ρ':=ρ') r n).mono (a3z M)
theorem a9l (M:∀ a,mt' a->mt a)(n:a0E v=true)(r:VRels B mt ρ h v x):VRels B mt' ρ' h v x:=(a3F (ρ':=ρ') r n).mono (a3z M)
def c5C (f:Nat->Option Nat)(ρ ρ':List Addr):Prop:=∀ i j,f i=some j->∀ a,ρ[i]?=some a->ρ'[j]?=some a
abbrev OKs (B:Base)(p:List Ob):Prop:=∀ o∈p,o.ok B
abbrev d3Y (B:Base)(mt mt':Addr->Prop)(ρ ρ':List Addr)(h:Heap)(g:PV->Option (PV×List Ob)):Prop:=∀ {v:PV}{q:PV×List Ob}{x:Value},g v=some q->OKs B q.2->VRel B mt ρ h v x->VRel B mt' ρ' h q.1 x
theorem b1M (hg:d3Y B mt mt' ρ ρ' h g):∀ {w:List PV×List Ob}{m:List Value},a9d g l=some w->OKs B w.2->VRels B mt ρ h l m->VRels B mt' ρ' h w.1 m:=by
 induction l with
 | nil=>exact fun {w m} e O r=>r.nilE m (sE w e .nil)| cons x l ih=>intro w m e O r;refine oE (show ob (g x) _=some w from e) λ q h1 e=>oE e λ z h2 e=>r.consE m λ y ys r rs=>?_;obtain rfl:=sj e;exact ⟨hg h1 (λ o m=>O o (e1R _ m)) r,ih h2 (λ o m=>O o (e1i _ m)) rs⟩
theorem b5D:∀ {ks:List PV},a7L ks=true->a0E ks=true
 | [],_=>rfl| k::ks,e=>e1I.mpr ⟨by have:=(a0A e).1; cases k <;> first | rfl | exact nx2 this,b5D (a0A e).2⟩
theorem b5C (F:c5C f ρ ρ')(M:∀ a,mt' a->mt a) (n):d3Y B mt mt' ρ ρ' h (c2q f n):=by
 induction n with
 | zero=>exact λ e=>nx0 e| succ n ih=>
   intro v q x e O r;cases v with
   | loc i=>exact oE e λ j h1 e=>r.locE x λ a ha=>by obtain rfl:=sj e; exact .loc j a (F i j h1 a ha)
   | tup l=>exact oE e λ w h1 e=>r.tupE x λ a o items nm g s rs=>by obtain rfl:=sj e; exact .tup _ a o items (λ m=>nm (M a m)) g s (b1M ih h1 O rs)
   | _=>obtain rfl:=sj e;exact c7y M (by first | rfl | exact O _ e0X) r
theorem b8k (F:c5C f ρ ρ')(M:∀ a,mt' a->mt a)(e:d0y f o=some q)(O:OKs B q.2)(r:Real B mt ρ h o a):Real B mt' ρ' h q.1 a:=by
 have go:∀ {l:List PV} {w:List PV×List Ob} {m:List Value},a9d (c2q f 3) l=some w->OKs B w.2->VRels B mt ρ h l m->VRels B mt' ρ' h w.1 m:=λ e O r=>b1M (b5C F M 3) e O r;cases o with
 | list l=>exact oE e λ w h1 e=>by obtain rfl:=sj e; exact r.imp λ o r=>r.imp λ items r=>⟨r.1,r.2.1,go h1 O r.2.2⟩
 | froz l=>exact oE e λ w h1 e=>by obtain rfl:=sj e; exact r.imp λ o r=>r.imp λ items r=>⟨r.1,r.2.1,go h1 O r.2.2⟩
 | dict ks vs=>refine gE e λ hk e=>oE e λ w h1 e=>?_;obtain rfl:=sj e;exact r.imp λ o r=>r.imp λ es r=>r.imp λ n r=>⟨r.1,r.2.1,r.2.2.1,r.2.2.2.1,a9l M (b5D hk) r.2.2.2.2.1,go h1 O r.2.2.2.2.2.1,r.2.2.2.2.2.2⟩
 | inst c d=>exact oE e λ j h1 e=>by obtain rfl:=sj e; exact r.imp λ da r=>r.imp λ o r=>⟨r.1,r.2.1,F d j h1 da r.2.2.1,r.2.2.2⟩
 | ns fs vs=>exact oE e λ w h1 e=>by obtain rfl:=sj e; exact r.imp λ l r=>⟨r.1,go h1 O r.2.1,r.2.2⟩
 | fr fs vs=>exact oE e λ w h1 e=>by obtain rfl:=sj e; exact r.imp λ l r=>⟨r.1,go h1 O r.2.1,r.2.2⟩
 | cell v=>
   cases v with
   | none=>obtain rfl:=sj e; exact r.imp λ x r=>⟨r.1,by cases x <;> exact r.2⟩
   | some v=>
     refine oE e λ w h1 e=>?_;obtain rfl:=sj e;exact r.imp λ x r=>⟨r.1,by
      cases x with
      | none=>exact r.2| some x=>exact b5C F M 3 h1 O r.2⟩
 | opq=>obtain rfl:=sj e; exact r
 | dead=>obtain rfl:=sj e; exact r
 | fins=>exact nx0 e
end
theorem b8l (e:d0y f o=some q):q.1.live=o.live:=by
 cases o with
 | list l=>exact oE e λ w _ e=>sE q e rfl| froz l=>exact oE e λ w _ e=>sE q e rfl| dict ks vs=>exact gE e λ _ e=>oE e λ w _ e=>sE q e rfl| inst c d=>exact oE e λ w _ e=>sE q e rfl| ns fs vs=>exact oE e λ w _ e=>sE q e rfl| fr fs vs=>exact oE e λ w _ e=>sE q e rfl| cell v=>cases v with
   | none=>exact sE q e rfl| some v=>exact oE e λ w _ e=>sE q e rfl
 | opq=>exact sE q e rfl| dead=>exact sE q e rfl| fins=>exact nx0 e
theorem c5c {i:Nat}{G:Prop}(e:c9w sk f i o=some q)(k:d0y f o=some q->G)(k':∀ l,d3U o=some l->(o,[Ob.nl (.lst l)])=q->G):G:=
 bcE e (λ _ e=>ocE e (λ l h e=>k' l h (sj e)) λ _ e=>k e) λ _ e=>k e
theorem b1L {sk:List Nat}{f:Nat->Option Nat}{i:Nat}{o:PO}{q:PO×List Ob}(e:c9w sk f i o=some q):q.1.live=o.live:=c5c e b8l λ l _ z=>z▸rfl
theorem b8j {B:Base}{mt mt':Addr->Prop}{ρ ρ':List Addr}{h:Heap}{sk:List Nat}{f:Nat->Option Nat}(F:c5C f ρ ρ')(M:∀ a,mt' a->mt a){i:Nat}{o:PO}{q:PO×List Ob}{a:Addr}(e:c9w sk f i o=some q)(O:OKs B q.2)(r:Real B mt ρ h o a):Real B mt' ρ' h q.1 a:=
 c5c e (λ e=>b8k F M e O r) λ l hl z=>by subst z;have O2:a0E l=true:=O _ e0X;exact (c6k hl).elim (λ z=>by subst z; exact r.imp λ o r=>r.imp λ items r=>⟨r.1,r.2.1,a9l M O2 r.2.2⟩) λ z=>by subst z; exact r.imp λ o r=>r.imp λ items r=>⟨r.1,r.2.1,a9l M O2 r.2.2⟩
theorem c0g {sk:List Nat}{f:Nat->Option Nat}{H:List PO}{is:List Nat}:∀ {w:List PO×List Ob},c4C sk f H is=some w->w.1.length=is.length/\(∀ i∈is,i<H.length) /\ ∀ (j:Nat)(o':PO),w.1[j]?=some o'->∃ (i:Nat)(o:PO)(q:List Ob),is[j]?=some i/\H[i]?=some o/\c9w sk f i o=some (o',q) /\ ∀ x∈q,x∈w.2:=by
 induction is with
 | nil=>exact fun {w} e=>sE w e ⟨rfl,λ i m=>absurd m e0b,λ j o' h=>nx0 h⟩| cons i is ih=>
   intro w e;refine oE (show ob H[i]? _=some w from e) λ o h0 e=>oE e λ q h1 e=>oE e λ z h2 e=>?_;obtain rfl:=sj e;have y:=ih h2;refine ⟨congrArg (· + 1) y.1,λ k m=>(e0d.mp m).elim (λ k=>k▸a0Q h0) (y.2.1 k),λ j o2 hj=>?_⟩;cases j with
   | zero=>exact ⟨i,o,q.2,rfl,h0,sj hj▸h1,λ x m=>e1R _ m⟩| succ j=>exact (y.2.2 j o2 hj).imp λ i' y=>y.imp λ o3 y=>y.imp λ q y=>⟨y.1,y.2.1,y.2.2.1,λ x m=>e1i _ (y.2.2.2 x m)⟩
theorem c9i {i j:Nat}(h:e0Y i j=true):i=j:=e0r h
theorem b1Q {i:Nat}:∀ {l:List Nat}{j:Nat},b1R i l=some j->l[j]?=some i
 | [],j,e=>nx0 e| k::l,j,e=>by
   dsimp only [b1R] at e;cases hb:e0Y k i with
   | true=>rw [hb] at e; exact sj e▸congrArg some (c9i hb)| false=>
     rw [hb] at e;dsimp only at e;cases h1:b1R i l with
     | none=>rw [h1] at e; exact nx0 e| some m=>rw [h1] at e; exact sE j e (show (k::l)[m+1]?=some i from b1Q (l:=l) h1)
theorem b1j:∀ {l:List Nat},k∈l->a2E k l=true
 | x::l,m=>by
   dsimp only [a2E];cases hb:e0Y k x with
   | true=>rfl| false=>exact (e0d.mp m).elim (λ e=>nx2 (hb.symm.trans (e▸e1X k))) b1j
theorem a3h:∀ {l:List Nat},a6z l=true->l.Nodup
 | [],_=>e1Q| x::l,e=>e1D.mpr ⟨λ m=>nx2 ((a3D (a0A e).1).symm.trans (b1j m)),a3h (a0A e).2⟩
theorem b4Z:∀ (n:Nat)(l:List Nat),(∀ j:Nat,j < n->(d0K n l)[j]?=some j) /\ (d0K n l)[n]?=l[0]?
 | 0,l=>⟨λ j h=>absurd h (Nat.not_lt_zero j),rfl⟩
 | n+1,l=>by have y:=b4Z n (n::l);refine ⟨λ j h=>(Nat.lt_succ_iff_lt_or_eq.mp h).elim (y.1 j) λ e=>e▸y.2,?_⟩;exact upTo_next n (n::l) 1
where upTo_next:∀ (n:Nat) (l:List Nat) (k:Nat),(d0K n l)[n + k]?=l[k]?
 | 0,l,k=>by rw [e1S]; rfl
 | n+1,l,k=>by have:=upTo_next n (n::l) (k+1);rwa [<- Nat.add_assoc,Nat.add_right_comm] at this
section
variable {B:Base}{Pr:Addr->Prop}{ρ0 ρ:List Addr}{H0 H H':List PO}{s0 s1:Shared}{s:Nat}
theorem c0f {l:List Addr}{i:Nat}{a:Addr}(e:l[i]?=some a):l.getD i 0=a:=by rw [List.getD_eq_getElem?_getD,e]; rfl
theorem c8t (hl:ρ0.length=H0.length)(W:Went B Pr ρ0 H0 s0 ρ H s1)(hs:ρ0.length <= s){sk is:List Nat}{w:List PO×List Ob}(nd:is.Nodup)(pre:∀ j,j < s->is[j]?=some j)(e:c4C sk (λ i=>b1R i is) H is=some w)(O:OKs B w.2) :
 ∃ ρ',Went B Pr ρ0 H0 s0 ρ' w.1 s1/\(∀ a,a0G Pr ρ' w.1 a->a0G Pr ρ H a) /\ ∀ (i:Nat) (a:Addr),i<s->ρ[i]?=some a->ρ'[i]?=some a:=by
 obtain ⟨g1,g2,g3⟩:=c0g e;have R:=W.rel;have at':∀ (j i:Nat) (a:Addr),is[j]?=some i->ρ[i]?=some a->(is.map λ i=>ρ.getD i 0)[j]?=some a:=λ j i a h1 h2=>by rw [List.getElem?_map,h1]; exact congrArg some (c0f h2)
 have old:∀ i∈is,ρ[i]?=some (ρ.getD i 0):=λ i m=>by have hi:i<ρ.length:=R.len▸g2 i m;rw [c0f (List.getElem?_eq_getElem hi)]; exact List.getElem?_eq_getElem hi
 have back:∀ (j:Nat) (a:Addr),(is.map λ i=>ρ.getD i 0)[j]?=some a->∃ i,is[j]?=some i /\ ρ[i]?=some a:=λ j a h=>by
  rw [List.getElem?_map] at h;cases h1:is[j]? with
  | none=>rw [h1] at h; exact nx0 h| some i=>rw [h1] at h; exact ⟨i,rfl,sj h▸old i (e0s h1)⟩
 have same:∀ (j:Nat) (a:Addr) (o:PO),(is.map λ i=>ρ.getD i 0)[j]?=some a->w.1[j]?=some o->∃ i o1 q,is[j]?=some i /\ ρ[i]?=some a /\ H[i]?=some o1 /\ c9w sk (λ i=>b1R i is) i o1=some (o,q) /\ ∀ x∈q,x∈w.2:=λ j a o h1 h2=>
  (back j a h1).elim λ i z=>(g3 j o h2).elim λ i' y=>y.elim λ o1 y=>y.elim λ q y=>have k:i'=i:=sj (y.1.symm.trans z.1); ⟨i,o1,q,z.1,z.2,k▸y.2⟩
 have lvs:∀ a,lv (is.map λ i=>ρ.getD i 0) w.1 a->lv ρ H a:=λ a m=>m.elim λ j m=>m.elim λ o m=>(same j a o m.1 m.2.1).elim λ i y=>y.elim λ o1 y=>y.elim λ q y=>⟨i,o1,y.2.1,y.2.2.1,(b1L y.2.2.2.1).symm.trans m.2.2⟩
 have M:∀ a,a0G Pr (is.map λ i=>ρ.getD i 0) w.1 a->a0G Pr ρ H a:=λ a m=>m.imp id (lvs a);have F:c5C (λ i=>b1R i is) ρ (is.map λ i=>ρ.getD i 0):=λ i j h a ha=>at' j i a (b1Q h) ha;obtain ⟨more,hm,fr⟩:=W.ext;have late:∀ (j i:Nat),is[j]?=some i->s<=j->s<=i:=λ j i h1 h2=>(e1A i s).elim (λ l=>by have k:=(List.getElem?_inj (a0Q h1) nd).mp (h1.trans (pre i l).symm);exact absurd l (e1U.mpr (k▸h2))) id;refine ⟨is.map λ i=>ρ.getD i 0,⟨W.same,⟨(is.map λ i=>ρ.getD i 0).drop ρ0.length,?_,λ a m=>?_⟩,⟨R.base,(e0c ..).trans g1.symm,?_,R.prl,λ a m=>?_,?_,λ j o a h1 h2=>?_⟩,W.keep,λ j o hj h1 h2=>?_⟩,M,λ i a hi ha=>at' i i a (pre i hi) ha⟩
 · refine (e1Y ρ0.length _).symm.trans (congrArg (·++_) (List.ext_getElem? λ j=>?_));rw [List.getElem?_take];split
   · rename_i hj;have k:ρ[j]?=ρ0[j]?:=by rw [hm,List.getElem?_append_left hj]
     rw [<- k,List.getElem?_map,pre j (e1j hj hs)];exact (old j (e0s (pre j (e1j hj hs)))).symm
   · rename_i hj;exact (List.getElem?_eq_none (Nat.le_of_not_lt hj)).symm
 · obtain ⟨j,hj⟩:=e2e.mp m;rw [List.getElem?_drop] at hj;obtain ⟨i,e1,e2⟩:=back _ a hj;have hi:ρ0.length<=i:=(e1A (ρ0.length+j) s).elim (λ l=>sj ((pre _ l).symm.trans e1)▸e1M _ _) λ l=>e0l hs (late _ i e1 l);rw [hm,List.getElem?_append_right hi] at e2;exact fr a (e0s e2)
 · exact e1w.mpr (nd.imp_of_mem fun {i j} mi mj hij h=>hij (R.inj (old i mi) ((old j mj).trans (congrArg some h.symm))))
 · obtain ⟨j,hj⟩:=e2e.mp m;exact (back j a hj).elim λ i z=>R.away a (e0s z.2)
 · exact R.tabs.mono (a3z (ρ:=ρ) M) λ _ _ _ _ e=>e
 · exact (same j a o h2 h1).elim λ i y=>y.elim λ o1 y=>y.elim λ q y=>b8j F M y.2.2.2.1 (λ x m=>O x (y.2.2.2.2 x m)) (R.real i o1 a y.2.2.1 y.2.1)
 · refine (g3 j o h1).elim λ i y=>y.elim λ o1 y=>y.elim λ q y=>?_;obtain rfl:j=i:=sj ((pre j (e1j (hl▸hj) hs)).symm.trans y.1);exact W.live j o1 hj y.2.1 ((b1L y.2.2.1).symm.trans h2)
theorem Went.gc (hl:ρ0.length=H0.length)(W:Went B Pr ρ0 H0 s0 ρ H s1)(hs:ρ0.length <= s)(e:c8u sk s H=some w)(O:OKs B w.2) :
 ∃ ρ',Went B Pr ρ0 H0 s0 ρ' w.1 s1/\(∀ a,a0G Pr ρ' w.1 a->a0G Pr ρ H a) /\ ∀ (i:Nat) (a:Addr),i<s->ρ[i]?=some a->ρ'[i]?=some a:=
 gE e λ hb e=>c8t hl W hs (a3h (a0A hb).1) (b4Z s _).1 e O
end
section
variable {B:Base}{n:Nat}{r:Rc}{ae:AEnv}{env:Env}{Pr:Addr->Prop}{A:Around}{c:Cf}{ρs:List Addr}
theorem d7B {st st':St}(e:Ran B (gcE s) st u st'):∃ sk w,c8u sk s st.H=some w/\OKs B w.2/\st'.H=w.1:=
 e.elim λ o e=>oE e.1 λ q h e1=>have z:=a1C ((a4B q.1 _).symm.trans e1); ⟨_,q,h,λ x m=>e.2.1 x ((show q.2=o.ps from congrArg Obs.ps z.2.2)▸m),congrArg St.H z.2.1.symm⟩
def Cleans (B:Base)(Pr:Addr->Prop)(c:Cf)(ρs:List Addr)(f:Fl)(st2 st':St):Prop:=∀ {ρ:List Addr}{s:Shared}{y:Flow},Went B Pr c.ρ c.st.H c.s ρ st2.H s->FRel B (a0G Pr ρ st2.H) ρ s.heap f y ->
 ∃ ρ',Went B Pr c.ρ c.st.H c.s ρ' st'.H s/\FRel B (a0G Pr ρ' st'.H) ρ' s.heap f y/\(∀ a,a0G Pr ρ' st'.H a->a0G Pr ρ st2.H a) /\ ∀ (i:Nat) (a:Addr),ρs[i]?=some a->ρ[i]?=some a->ρ'[i]?=some a
theorem Cleans.refl {st:St}:Cleans B Pr c ρs f st st:=λ W r=>⟨_,W,r,λ _ m=>m,λ _ _ _ e=>e⟩
theorem d2f (hl:c.ρ.length=c.st.H.length)(hs:c.ρ.length<=ρs.length){st st':St}(e:Ran B (c6Q ρs.length f) st g st'):g=f/\Cleans B Pr c ρs f st st':=
 e.bc (λ hf e=>e.bind λ u st3 e1 e2=>⟨e2.ret.1,e2.ret.2▸λ W r=>(d7B e1).elim λ sk z=>z.elim λ w z=>(W.gc hl hs z.1 z.2.1).elim λ ρ' y=>⟨ρ',z.2.2.symm▸y.1,by cases f <;> first | exact r | exact nx2 hf,z.2.2.symm▸y.2.1,λ i a h=>y.2.2 i a (a0Q h)⟩⟩) λ _ e=>⟨e.ret.1,e.ret.2▸Cleans.refl⟩
def FQ (n:Nat)(Inv:Nat->Shared->Prop)(R:Result->Shared->Prop)(f:Flow)(s:Shared):Prop:=match f with
 | .brk=>R (.ok .next) s| .ret v=>R (.ok (.ret v)) s| _=>∃ m,m<n/\Inv m s
theorem c4G {I:Value}{R:Result->Shared->Prop}(Inv:Nat->Shared->Prop)
 (turn:∀ n s,Inv n s->wpAny (Mo B.w) A (pyNext I) (RQ B A E0 tgt I (R (.ok .next)) λ v s=>wpAny (Mo B.w) A (assign tgt env v) (λ _ s2=>wpAny (Mo B.w) A (execs b env) (FQ n Inv R) E0 s2) E0 s) E0 s) (n) (h:Inv n s):codeAny (Mo B.w) A (.forLoop tgt I b [] env) R s:=
 codeAny_forLoop_any Inv (λ n s h=>noE (wpAny_mono (turn n s h) (λ y s q=>by
  cases y with
  | none=>exact wpAny_execs_nil q| some v=>exact noE (wpAny_mono q (λ _ s q=>noE (wpAny_mono q (λ _ s q=>noE (wpAny_mono q (λ f s q=>by cases f <;> exact q) λ _ _ h=>h)) λ _ _ h=>h)) λ _ _ h=>h)) λ _ _ h=>h)) n h
theorem b5n (BO:BaseOK B)(K:RcOK B n r)(X:At B n ae env Pr A c)(e1:Ran B (a1w r ae t it) c.st src st1){body:PV->Ev Fl}(e2:Ran B (a3o body src) st1 f st')
 (hb:∀ {T:Addr->Prop} {ρs:List Addr} {x:PV} {g:Fl} {sa sb:St},ρs.length=st1.H.length->c.ρ.length<=ρs.length->Ran B (body x) sa g sb->∃ st2,Ran B (a5q r ae t b x) sa g st2/\Cleans B (PrT Pr T) c ρs g st2 sb) (k:Fn B Pr c (FRel B) f st' Q) :
 wpAny (Mo B.w) A (exec (.For t it b [] pos) env) Q E0 c.s:=by
 have hsrc:=b8K BO K X t it e1;refine wpAny_For (wpAny_mono hsrc.1 (λ x s1 h1=>wpAny_mono h1 (λ I s2 h2=>?_) λ _ _ x=>x.elim) λ _ _ x=>x.elim) hsrc.2;obtain ⟨ρs,T,W1,fr,S1,_⟩:=h2;clear hsrc;have dj:=X.r.dj fr;rw [a6J] at e2;refine c4G (λ k s'=>∃ ρ1 st c' src,k=b6q c' src /\ Went B (PrT Pr T) c.ρ c.st.H c.s ρ1 st.H s' /\ (∀ (i:Nat) (a:Addr),ρs[i]?=some a->ρ1[i]?=some a) /\ ItAt B Pr T t ρs I src (a0G (PrT Pr T) ρ1 st.H) s'.heap /\ Ran B (b3e body c' src) st f st') ?_ _
  ⟨ρs,st1,_,_,rfl,W1,λ _ _ e=>e,S1,e2⟩
 have hb:=fun {x g sa sb}=>hb (T:=T) (x:=x) (g:=g) (sa:=sa) (sb:=sb) W1.rel.len (W1.ext.elim λ more z=>z.1▸(e0a▸e1M _ _));clear e1 e2 S1 W1;rintro m s' ⟨ρ1,st,c',src',rfl,W,hC,S,e⟩;refine d0w X.ro.hd hC W.rel S e (λ z1 z2 h' tk kp=>?_) λ x c2 src2 hm e v h' tk tn rv S=>?_
 · exact k ρ1 _ .next (z2▸W.dropT tk dj fr kp) (z1▸rfl)
 · refine e.bind λ g sb e3 e4=>(hb e3).elim λ st2 z=>?_;have W2:Wt B (PrT Pr T) c ⟨ρ1,st,{ s' with heap:=h',toks:=tk }⟩:=W.touchT tk fr tn.1 tn.2;have X1:At B n ae env (PrT Pr T) A ⟨ρ1,st,{ s' with heap:=h',toks:=tk }⟩:=⟨X.ro,X.v.went W2,W2.rel⟩
   refine (b3K BO K t X1 rv:Sm B (PrT Pr T) A ⟨ρ1,st,{ s' with heap:=h',toks:=tk }⟩ _ _ b7X).then z.1 λ u c3 y e6 W3 _=>K.ss b (X1.went W3) g st2 e6 _ λ ρ4 s4 y W4 r4=>?_;have W4:Wt B (PrT Pr T) c3 ⟨ρ4,st2,s4⟩:=W4;have W24:=W3.tr X1.r W4;obtain ⟨ρ5,W5,r5,M,P⟩:=z.2 (W2.trans' X.r.len W24) r4;have W6:Wt B Pr c ⟨ρ5,sb,s4⟩:=W5.dropT s4.toks dj fr λ _ _ _ e=>e;have nxt:=λ e=>(⟨_,hm,ρ5,sb,c2,src2,rfl,W5,λ i a h=>P i a h (W24.loc (hC i a h)),(S.went X1.r W24).mono (a3z M) λ _ _ _ e _=>e,e⟩:∃ m,m<b6q c' src' /\ ∃ ρ1 st c' src,m=b6q c' src/\Went B (PrT Pr T) c.ρ c.st.H c.s ρ1 st.H s4/\(∀ (i:Nat) (a:Addr),ρs[i]?=some a->ρ1[i]?=some a)/\ItAt B Pr T t ρs I src (a0G (PrT Pr T) ρ1 st.H) s4.heap/\Ran B (b3e body c' src) st f st')
   exact b1I y e4 (r5.mono (.dropT λ _ _ _ e=>e)) W6 k nxt nxt (λ q=>q) λ x q=>q
theorem d2h (B)(BO:BaseOK B) (n) (r)(K:RcOK B n r):c9t B n r:=by intro ae env Pr A c t it b pos X1 f st' e Q k;refine e.bind λ src st1 e1 e2=>e2.bc (λ _ e2=>e2.rdT λ s hs e2=>?_) λ _ e2=>b5n BO K X1.dn e1 e2 (λ _ _ e=>⟨_,e,Cleans.refl⟩) k;refine b5n BO K X1.dn e1 e2 (fun {T} _ _ _ _ _ hl hc e=>e.bind λ g st2 e3 e4=>?_) k;rw [<- sj hs,<- hl] at e4;have z:=d2f (Pr:=PrT Pr T) X1.r.len hc e4;exact ⟨st2,z.1▸e3,z.1▸z.2⟩
end
section
variable {M:Model}{A:Around}{E:Value->Shared->Prop}{s:Shared}{env:Env}
def b4U (M:Model)(A:Around)(E:Value->Shared->Prop)(use:Option (Value->Sem Unit))(Q:Value->Shared->Prop)(acc:Value)(C:Addr)(r:Result)(s':Shared):Prop:=
 match r,use with
 | .error _,_=>False| .ok _,none=>∃ m,s'.heap.Ns C m /\ ∀ h' m',h'.Ns C m'->Heap.SameBut C s'.heap h'->Q acc { s' with heap:=h' }| .ok _,some u=>wpAny M A (u acc) (λ _ s''=>∃ m,s''.heap.Ns C m /\ ∀ h' m',h'.Ns C m'->Heap.SameBut C s''.heap h'->Q .none { s'' with heap:=h' }) E s'
theorem c1M
 (hcl:clausesOf e=g::gs) (hs:∀ x,foldedSetIterable g.iter env x=pure x) (hclos:closureFor scope env=pure cl)
 (hkind:scope.kind=.function) (hnames:∀ x∈scope.names,x.2=.local->scope.names.lookup x.1=some .local)
 (h:wpAny M A first (λ x s₁=>wpAny M A (pyIter x) (λ it s₂=>wpAny M A newAcc (λ acc s₃=>
   wpAny M A (newFunctionEnv scope env.globals cl [] env.qual none .none (some env)) (λ cenv s₄=>
    codeAny M A (.compStart e 0 it acc { cenv with scope:=relabel scope env }) (b4U M A E use Q acc cenv.locals) s₄) E s₃) E s₂) E s₁) E s) :
 wpAny M A (comprehension e scope env pos newAcc false first use) Q E s:=by
 unfold comprehension;rw [hclos,hcl];refine wpAny_bind (wpAny_mono h (λ x s₁ h₁=>wpAny_bind (wpAny_standAt (wpAny_bind (wpAny_of_eq (hs x) (wpAny_bind (wpAny_holding (wpAny_mono h₁ (λ it s₂ h₂=>
  wpAny_standIf (wpAny_bind (wpAny_mono h₂ (λ acc s₃ h₃=>wpAny_bind (wpAny_pure (wpAny_bind (wpAny_mono h₃ (λ cenv s₄ h₄=>?_) λ _ _ h'=>h')))) λ _ _ h'=>h')))
   λ _ _ h'=>h'))))))) λ _ _ h'=>h')
 dsimp only;have hv:∀ x∈(scope.names.filter λ x=>(x.2 == .local || x.2 == .cell) && x.1 != (".0" : Str)).reverse,x.2=.local ->
  Env.kindOf { cenv with scope:=relabel scope env } x.1=some .local:=λ x hx hl=>lookup_relabel_local (hnames x (e2Y.mp (List.mem_reverse.mp hx)).1 hl)
 have hv':∀ x∈(scope.names.filter λ x=>(x.2 == .local || x.2 == .cell) && x.1 != (".0" : Str)).reverse.drop 1++(scope.names.filter λ x=>(x.2 == .local || x.2 == .cell) && x.1 != (".0" : Str)).reverse.take 1,
  x.2=.local->Env.kindOf { cenv with scope:=relabel scope env } x.1=some .local:=λ x hx hl=>by
  rcases e1E.mp hx with h1 | h1
  · exact hv x (e2l h1) hl
  · exact hv x (e2X h1) hl
 refine wpAny_holding (wpAny_bind (wpAny_attempt (wpAny_holding (wpAny_run (codeAny_mono h₄ λ r s' hr=>?_)))));cases r with
 | ok f=>
   cases use with
   | none=>refine c0x (hr) λ m hn hr=>?_;exact wpAny_bind (wpAny_holding (wpAny_comp_letGo (cenv:={ cenv with scope:=relabel scope env }) hkind _ s' m hv hn λ h' m' hn' hs'=>wpAny_pure (hr h' m' hn' hs')))| some u=>refine wpAny_bind (wpAny_rule (wpAny_bind (wpAny_holding (wpAny_mono hr (λ _ s'' hr'=>?_) λ _ _ h'=>h'))));refine c0x (hr') λ m hn hr'=>?_;exact wpAny_bind (wpAny_comp_letGo (cenv:={ cenv with scope:=relabel scope env }) hkind _ s'' m hv' hn λ h' m' hn' hs'=>wpAny_pure (hr' h' m' hn' hs'))
 | error x=>exact hr.elim
end
noncomputable abbrev ifT (env:Env)(ifs:List Expr)(b:Bool):Sem Bool:=forIn ifs b λ c r=>if r=true then do let ok <- isTrue c env (eval c env); pure (ForInStep.yield ok) else pure (ForInStep.yield r)
section
variable {B:Base}{A:Around}{R:Result->Shared->Prop}{s:Shared}
theorem c1K (I:Nat->Shared->Prop)
 (turn:∀ n s,I n s->wpAny (Mo B.w) A (pyNext it) (RQ B A E0 target it (R (.ok .next)) λ v s=>wpAny (Mo B.w) A (assign target env v) (λ _ s₂=>wpAny (Mo B.w) A (ifT env ifs true) (λ ok s₃=>
        if ok=true then wpAny (Mo B.w) A (eval elt env) (λ x s₄=>wpAny (Mo B.w) A (call (.builtin "list.append") [acc,x]) (λ _ s₅=>∃ m,m<n/\I m s₅) E0 s₄) E0 s₃
        else ∃ m,m<n/\I m s₃) E0 s₂) E0 s) E0 s)
 (n) (h:I n s):codeAny (Mo B.w) A (.compLoop (.ListComp elt [⟨target,iter,ifs,0⟩] scope pos) 0 it acc env) R s:=by
 refine codeAny_loop rfl I (λ n s hI=>?_) n h;show wpAny _ A ((compTurn (.ListComp elt [⟨target,iter,ifs,0⟩] scope pos) 0 it acc env).onRaise (λ x=>do noteFrame x env; theTreesLotGoes x)) _ _ s;refine wpAny_noted (noE ?_);rw [compTurn_list];refine wpAny_bind (wpAny_standAt (wpAny_bind (wpAny_mono (turn n s hI) (λ r s₁ h₁=>?_) λ _ _ h'=>h')));cases r with
 | none=>exact wpAny_pure h₁| some v=>
   refine wpAny_bind (wpAny_mono h₁ (λ _ s₁' h₁'=>?_) λ _ _ h'=>h');refine wpAny_bind (wpAny_mono h₁' (λ _ s₂ h₂=>wpAny_bind (wpAny_mono h₂ (λ ok s₃ h₃=>?_) λ _ _ h'=>h')) λ _ _ h'=>h');cases ok with
   | false=>exact wpAny_pure ⟨rfl,h₃⟩| true=>exact wpAny_bind (wpAny_bind (wpAny_mono h₃ (λ x s₄ h₄=>wpAny_bind (wpAny_mono h₄ (λ _ s₅ h₅=>wpAny_pure (wpAny_pure ⟨rfl,h₅⟩)) λ _ _ h'=>h')) λ _ _ h'=>h'))
end
section
variable {B:Base}{n:Nat}{r:Rc}{ae:AEnv}{env:Env}{Pr T:Addr->Prop}{A:Around}{s:Shared}
theorem c0Q {Q:Bool->Shared->Prop}(h:Q false s):wpAny (Mo B.w) A (ifT env ifs false) Q E s:=by
 induction ifs with
 | nil=>exact wpAny_pure h| cons c ifs ih=>unfold ifT;rw [e1e];exact wpAny_bind (wpAny_pure ih)
theorem c7R (K:RcOK B n r) (ifs):∀ {c:Cf},At B n ae env Pr A c->Sm B Pr A c (c9I r ae ifs) (ifT env ifs true) c9u:=by
 induction ifs with
 | nil=>exact fun {c} X=>.ret λ Q k=>wpAny_pure (k _ _ _ (e2s X.r) rfl)| cons x ifs ih=>
   intro c X b st' e Q k;unfold ifT;rw [e1e];refine wpAny_bind (wpAny_bind ((K.t x X).then e λ a c1 y e1 W1 r1=>?_));obtain rfl:y=a:=r1;refine wpAny_pure ?_;cases y with
   | true=>exact (ih (X.went W1)).last e1 X.r W1 k| false=>exact c0Q (Ran.fin e1 k W1 rfl)
theorem a8S (R:Rl B Pr c)(hp:c.ρ[p]?=some a)(e:c.st.H[p]?=some (.list l))(rv:VR B Pr c v x)(hz:l.length + 1 <= sizeLine)
 {Q:Value->Shared->Prop} (h:∀ s',Went B Pr c.ρ c.st.H c.s c.ρ (c.st.H.set p (.list (l++[v]))) s'->Q .none s'):wpAny (Mo B.w) A (call (.builtin "list.append") [.ref a,x]) Q E c.s:=by
 refine a2i R hp e λ xs n g hzx rs=>wpAny_list_append_plain ⟨n,g⟩ (λ h' g' sb=>?_) (by simpa using hzx);have g2:h'.PlainList a (xs++[x]).toArray:=by simpa using g'
 refine h _ (Went.upd R c.s.toks hp e rfl (a2Z sb) (g2.elim λ n g2=>?_));exact .list _ _ _ (xs++[x]) g2 (.mk' (by rw [e0a,<- rs.length]; exact hz) _) ((rs.append (VRels.one rv)).mono (Carry.upd R hp e rfl (a2Z sb)))
end
section
variable {B:Base}{ae:AEnv}{env:Env}{ρ:List Addr}
noncomputable def a4D (env:Env):Str×NameKind->List (Str×Addr)->Sem (ForInStep (List (Str×Addr))):=λ x cs=>if (x.2==.free)=true then do let c <- cellOf env x.1; pure (.yield ((x.1,c)::cs)) else pure (.yield cs)
theorem c1R (V:EnvOK B ae env ρ):∀ {acc cl:List (Str×Nat)}{acc':List (Str×Addr)},b7N ae names acc=some cl->ClosRel ρ acc acc' ->
 ∃ cl',(forIn names acc' (a4D env):Sem _)=pure cl'/\ClosRel ρ cl cl':=by
 induction names with
 | nil=>exact fun {acc cl acc'} e C=>⟨acc',e2K,sj e▸C⟩
 | cons x names ih=>
   intro acc cl acc' e C;rw [e1e];have skip:a4D env x acc'=pure (.yield acc')->b7N ae names acc=some cl->∃ cl',(a4D env x acc' >>= λ r=>match r with | .done b=>pure b | .yield b=>forIn names b (a4D env):Sem _)=pure cl' /\ ClosRel ρ cl cl':=
    λ hk e=>(ih e C).imp λ cl' z=>⟨by rw [hk,pure_bind]; exact z.1,z.2⟩
   obtain ⟨x,k⟩:=x;cases k with
   | free=>
     refine oE e λ i hc e=>(V.cells x i hc).elim λ c h=>(ih e (C.cons (x:=x) h.2)).imp λ cl' z=>⟨?_,z.2⟩
     have h5:a4D env (x,.free) acc'=pure (.yield ((x,c)::acc')):=by show (do let c <- cellOf env x; pure (ForInStep.yield ((x,c)::acc')))=_;rw [show cellOf env x=pure c by unfold cellOf; rw [h.1],pure_bind]
     rw [h5,pure_bind];exact z.1
   | _=>exact skip rfl e
theorem a7i (V:EnvOK B ae env ρ){sc:Scope}(e:b7N ae sc.names []=some cl):∃ cl',closureFor sc env=pure cl'/\ClosRel ρ cl cl':=
 (c1R V (acc':=[]) e λ x i h=>nx0 h).imp λ cl' h=>⟨by have h1:=h.1;unfold closureFor;show (forIn sc.names ([]:List (Str×Addr)) (a4D env) >>= λ cs=>pure cs)=pure cl';rw [h1];rfl,h.2⟩
theorem b1N (V:EnvOK B ae env ρ)(sc:Scope):relabel sc env={ sc with names:=d3m ae sc.names }:=by
 unfold relabel d3m;congr 1;refine e2j λ x _=>?_;obtain ⟨n,k⟩:=x;dsimp only;rw [V.kindOf n,show (env.scope.kind==ScopeKind.function)=true by rw [V.hk]; rfl];cases k with
 | free=>
   cases a1H ae.sc.names n with
   | none=>rfl| some k=>cases k <;> rfl
 | _=>rfl
theorem a9u (h:a6X all l=true):∀ x∈l,x.2=.local->all.lookup x.1=some .local:=by
 induction l with
 | nil=>exact λ x m=>absurd m e0b| cons y l ih=>
   intro x hx hl;refine (e0d.mp hx).elim (λ z=>?_) λ hx=>ih (a0A h).2 x hx hl;have h:=(a0A h).1;rw [<- z,hl] at h;rw [<- a1k];cases hk:a1H all x.1 with
   | none=>rw [hk] at h; exact nx2 h| some k=>rw [hk] at h; cases k <;> first | rfl | exact nx2 h
theorem a5z (h:a9Z sc=true):sc.kind=.function/\a6X sc.names sc.names=true:=by unfold a9Z at h;cases hk:sc.kind <;> rw [hk] at h <;> first | exact ⟨rfl,h⟩ | exact nx2 h
end
section
variable {B:Base}{n:Nat}{r:Rc}{ae:AEnv}{env:Env}{Pr T:Addr->Prop}{A:Around}{c c1:Cf}{st':St}
def c1r (B:Base)(Pr:Addr->Prop)(A:Around)(ae:AEnv)(env:Env)(useE:PV->Ev Unit):Option (Value->Sem Unit)->Prop
 | none=>useE=c3E| some u=>∀ {c:Cf} {v:PV} {x:Value},EnvOK B ae env c.ρ->Rl B Pr c->VR B Pr c v x->Sm B Pr A c (useE v) (u x) b7X
theorem c1J (BO:BaseOK B)(K:RcOK B n r)(X:At B n ae env Pr A c)(hj:c.ρ[j]?=some aj)(rv:VR B Pr c v x)
 (e:Ran B (a6e r ae j t ifs elt v) c.st fl st') {Q:Shared->Prop} (hq:∀ ρ' s',Wt B Pr c ⟨ρ',st',s'⟩->fl=.next->Q s') :
    wpAny (Mo B.w) A (assign t env x) (λ _ s₂=>wpAny (Mo B.w) A (ifT env ifs true) (λ ok s₃=>
     if ok=true then wpAny (Mo B.w) A (eval elt env) (λ x s₄=>wpAny (Mo B.w) A (call (.builtin "list.append") [.ref aj,x]) (λ _ s₅=>Q s₅) E0 s₄) E0 s₃ else Q s₃) E0 s₂) E0 c.s:=by
  refine (b3K BO K t X rv:Sm B Pr A c _ _ b7X).then e λ u c1 y e1 W1 _=>(c7R K ifs (X.went W1)).then e1 λ b c2 ok e2 W2 r2=>?_;obtain rfl:ok=b:=r2;have W:=W1.tr X.r W2;cases ok with
  | false=>exact hq c2.ρ c2.s ((Ran.ret e2).2▸W) (Ran.ret e2).1| true=>refine (K.e elt (X.went W)).then e2 λ ev c3 y e3 W3 r3=>?_;obtain ⟨H',m,f,hm,rfl⟩:=e3.up;refine oE f λ l hl f=>oE hl λ o ho hl=>?_;have z:=a1C f;have W3:=W.tr X.r W3;exact a8S W3.rel (W3.loc hj) (ho.trans (congrArg some (a1x hl))) r3 (z.2.2▸hm) λ s' W4=>hq c3.ρ s' (z.2.1▸Went.trans X.r W3 W4) z.1.symm
theorem b6B (R:Rl B Pr c)(W:Wt B Pr c c1)(l2:c1.ρ[L]?=some la)(e:Ran B (Ev.up (b0U j L)) c1.st v st') :
 v=.loc j /\ ∃ m,c1.s.heap.Ns la m /\ ∀ h' m',h'.Ns la m'->Heap.SameBut la c1.s.heap h'->Went B Pr c.ρ c.st.H c.s c1.ρ st'.H { c1.s with heap:=h' }:=by
 obtain ⟨H',m,f,_,rfl⟩:=e.up;refine oE f λ p hp f=>?_;have z:=a1C f;have hp:=a1I hp;refine ⟨z.1.symm,(W.rel.loc l2 hp).elim λ l q=>⟨_,q.1,λ h' m' ns sb=>z.2.1▸Went.trans R W ?_⟩⟩;exact Went.upd W.rel c1.s.toks l2 hp rfl (a2Z sb) (ns.imp λ o q=>q.elim λ _ q=>q.elim λ _ q=>q.1)
theorem c4d (V:EnvOK B ae env c.ρ)(R:Rl B Pr c)(W:Wt B Pr c c1)(l1:c1.ρ[j]?=some aj)(l2:c1.ρ[L]?=some la){useE:PV->Ev Unit}(hU:c1r B Pr A ae env useE use)
 (e:Ran B (Ev.bind (useE (.loc j)) λ _=>Ev.up (b0U j L)) c1.st v st') (k:Fn B Pr c (λ mt ρ h v x=>use=none->VRel B mt ρ h v x) v st' Q) :
 b4U (Mo B.w) A E0 use Q (.ref aj) la (.ok f) c1.s:=by
 cases use with
 | none=>obtain rfl:useE=c3E:=hU;refine e.bind λ u st6 e1 e2=>?_;have z:=b6B R W l2 (e1.ret.2▸e2);exact z.2.imp λ m y=>⟨y.1,λ h' m' a b=>k _ _ _ (y.2 h' m' a b) λ _=>z.1▸.loc _ _ l1⟩
 | some u=>refine (hU (V.went W) W.rel (.loc _ _ l1):Sm B Pr A c1 _ _ b7X).then e λ u0 c2 y e2 W2 _=>?_;have z:=b6B R (W.tr R W2) (W2.loc l2) e2;exact z.2.imp λ m y=>⟨y.1,λ h' m' a b=>k _ _ _ (y.2 h' m' a b) λ h=>nomatch h⟩
theorem Went.keepT {s s1:Shared}(R:Rel B (PrT Pr T) ρ H s.heap)(W:Went B (PrT Pr T) ρ H s ρ1 H1 s1):KeepT T s.heap s1.heap:=
 λ a o t e c=>(W.keep a o (λ l=>(R.away a l.mem).1 (.inr t)) e).elim id λ x=>absurd x.2.1 c
theorem c1L (BO:BaseOK B)(K:RcOK B n r){useE:PV->Ev Unit}(hU:c1r B Pr A ae env useE use)(X:At B n ae env Pr A c)(Vc:EnvOK B ae' env' c1.ρ)
 (W1:Wt B (PrT Pr T) c c1) (fr:∀ a,T a->c.s.heap.get? a=none) {I:Value} (hs:∀ (i:Nat) (a:Addr),ρs[i]?=some a->c1.ρ[i]?=some a) (S:ItAt B Pr T t ρs I src (a0G (PrT Pr T) c1.ρ c1.st.H) c1.s.heap)
 (hj:c1.ρ[j]?=some aj) (e8:Ran B (b3e (a6e r ae' j t ifs elt) k0 src) c1.st f st1)
   (e9:Ran B (Ev.bind (useE (.loc j)) λ _=>Ev.up (b0U j ae'.L)) st1 v st') (k:Fn B Pr c (λ mt ρ h v x=>use=none->VRel B mt ρ h v x) v st' Q) :
   codeAny (Mo B.w) A (.compLoop (.ListComp elt [⟨t,it,ifs,0⟩] sc pos) 0 I (.ref aj) env') (b4U (Mo B.w) A E0 use Q (.ref aj) env'.locals) c1.s:=by
  refine c1K (λ m s'=>∃ ρ5 st5 k5 src5,m=b6q k5 src5 /\ Wt B (PrT Pr T) c ⟨ρ5,st5,s'⟩ /\ (∀ (i:Nat) (a:Addr),c1.ρ[i]?=some a->ρ5[i]?=some a) /\ EnvOK B ae' env' ρ5 /\ ItAt B Pr T t ρs I src5 (a0G (PrT Pr T) ρ5 st5.H) s'.heap /\ Ran B (b3e (a6e r ae' j t ifs elt) k5 src5) st5 f st1) ?_ _
   ⟨c1.ρ,c1.st,_,_,rfl,W1,λ _ _ e=>e,Vc,S,e8⟩
  clear e8 S W1 Vc;rintro m s' ⟨ρ5,st5,k5,src5,rfl,W,up5,Vc,S,e⟩;have dj:=X.r.dj fr;refine d0w X.ro.hd (λ i a h=>up5 i a (hs i a h)) W.rel S e (λ z1 z2 h' tk kp=>?_) λ x k6 src6 hm e v h' tk tn rv S=>?_
  · have W':Wt B Pr c ⟨ρ5,st1,{ s' with heap:=h',toks:=tk }⟩:=z2▸W.dropT tk dj fr kp;exact c4d X.v X.r W' (up5 _ _ hj) Vc.L hU e9 k
  · refine e.bind λ g sb e3 e4=>?_;have W2:Wt B (PrT Pr T) c ⟨ρ5,st5,{ s' with heap:=h',toks:=tk }⟩:=W.touchT tk fr tn.1 tn.2;have X2:At B n ae' env' (PrT Pr T) A ⟨ρ5,st5,{ s' with heap:=h',toks:=tk }⟩:=⟨X.ro,Vc,W2.rel⟩
    refine c1J BO K X2 (up5 _ _ hj) rv e3 λ ρ8 s8 W8 zf=>?_;rw [zf] at e4;exact ⟨_,hm,ρ8,sb,k6,src6,rfl,W2.trans' X.r.len W8,λ i a h=>W8.loc (up5 i a h),Vc.went W8,S.went X2.r W8,e4⟩
theorem b4r (BO:BaseOK B)(K:RcOK B n r)(X:At B n ae env Pr A c) (elt t it) (ifs) (sc) (pos pos')(hU:c1r B Pr A ae env useE use) :
 Sm B Pr A c (b5u r ae elt t it ifs sc useE) (comprehension (.ListComp elt [⟨t,it,ifs,0⟩] sc pos) sc env pos' (PySem.newList []) false (eval it env) use) (λ mt ρ h v x=>use=none->VRel B mt ρ h v x):=by
 refine .gE' λ hsc v st' e Q k=>e.bind λ src st1 e1 e=>e.bind λ a st2 e2 e=>e.optT λ cl hcl e=>?_;obtain ⟨H,m,f,_,rfl⟩:=e2.up;have z:=a1C f;rw [<- z.1,<- z.2.1] at e;clear z f e2;have hk:=a5z hsc;obtain ⟨cl',hclos,CR⟩:=a7i X.v hcl;have hsrc:=b8K BO K X t it e1;refine c1M (use:=use) rfl hsrc.2 hclos hk.1 (a9u hk.2) (wpAny_mono hsrc.1 (λ x s1 h1=>wpAny_mono h1 (λ I s2 h2=>?_) λ _ _ x=>x.elim) λ _ _ x=>x.elim);clear hsrc hclos;obtain ⟨ρ1,T,W1,fr,S,hI⟩:=h2;have W1:Wt B (PrT Pr T) c ⟨ρ1,st1,s2⟩:=W1;refine wpAny_newObj_type ?_ (by size_fits);have W3:Wt B (PrT Pr T) ⟨ρ1,st1,s2⟩ ⟨ρ1++[s2.heap.objs.size],⟨st1.H++[.list []],st1.hs⟩,{ s2 with heap:=s2.heap.push { cls:=.type "list",data:=.seq ([]:List Value).toArray 0 },toks:=s2.toks }⟩:=(e2s W1.rel).newList W1.rel s2.toks 0 .nil (e0q _);have C3:ClosRel (ρ1++[s2.heap.objs.size]) cl cl':=W1.ext.elim λ more hm=>by rw [show ρ1=c.ρ++more from hm.1]; exact CR.ext.ext
 refine (a6n W3.rel hk.1 C3 (l:=[]) (m:=[]) trivial X.v.g (by exact X.v.b) (top:=ae.top) (λ h=>by exact X.v.lam h):Sm B (PrT Pr T) A ⟨ρ1++[s2.heap.objs.size],⟨st1.H++[.list []],st1.hs⟩,_⟩ _ _ _).then e λ ce0 c4 cenv e7 W4 hV=>e7.bind λ f st5 e8 e9=>?_;have W24:=W3.tr W1.rel W4;rw [a6J] at e8;have V4:=hV.1;have key:=c1L (pos:=pos) (it:=it) (sc:=sc) BO K hU X (c1:=c4) (ae':={ ce0 with sc:={ sc with names:=d3m ae sc.names } }) (env':={ cenv with scope:=relabel sc env }) ⟨b1N X.v sc,hk.1,V4.L,V4.cells,V4.g,V4.b,V4.lam⟩
  (W1.trans' X.r.len W24) fr (λ i a h=>W24.loc h) (S.went W1.rel W24) (W4.loc (show (ρ1++[s2.heap.objs.size])[st1.H.length]?=some s2.heap.objs.size by rw [show st1.H.length=ρ1.length from W1.rel.len.symm]; simp)) e8 e9.gE'.2 k
 exact codeAny_compStart_list key (noE (hI (W24.keepT W1.rel) key))
end
theorem c9U (B)(BO:BaseOK B) (n) (r)(K:RcOK B n r):c1s B n r:=by intro ae env Pr A c elt t it ifs sc pos X1 v st' e Q k;rw [eval_ListComp];exact b4r BO K X1.dn elt t it ifs sc pos _ (use:=none) rfl v st' e Q λ ρ' s' x W h=>k ρ' s' x W (h rfl)
theorem c4w (h:c6j e=some q):∃ pos,e=.ListComp q.1 [⟨q.2.1.1,q.2.1.2.1,q.2.1.2.2,0⟩] q.2.2 pos:=by
 cases e with
 | ListComp elt gens sc pos=>exact oE h λ g hg h=>by rw [<- sj h,c6P hg]; exact ⟨pos,rfl⟩
 | _=>exact nx0 h
theorem d0J (B)(BO:BaseOK B) (n) (r)(K:RcOK B n r):c9q B n r:=by
 intro ae env Pr A c x p e pos X1 hsw f st' h Q k;refine h.optT λ q hq h2=>?_;clear h;obtain ⟨elt,⟨t,it,ifs⟩,sc⟩:=q;obtain ⟨cpos,rfl⟩:=c4w hq;have X:=X1.dn;have hs:swapsWith (.ListComp elt [⟨t,it,ifs,0⟩] sc cpos) (some (.Name x p)) pos.line env=pure true:=by rw [b4g X.v pos.line rfl,hsw]; rfl
 rw [exec_Assign_Name_used _ _ _ _ hs];refine wpAny_bind (wpAny_standAt (wpAny_bind ?_));show wpAny _ A (do let _ <- comprehension (.ListComp elt [⟨t,it,ifs,0⟩] sc cpos) sc env (firstIterPos [⟨t,it,ifs,0⟩] cpos) (PySem.newList []) false (eval it env) (some (assign (.Name x p) env))) _ _ c.s;exact wpAny_bind ((b4r BO K X elt t it ifs sc cpos _ (useE:=λ v=>a3a ae x v) (use:=some (assign (.Name x p) env)) λ V R rv u st3 e3 Q k=>wpAny_assign_Name (a2e V R x rv u st3 e3 Q k)).then h2 λ v c1 y e1 W1 _=>wpAny_pure (wpAny_pure (e1.fin k W1 rfl)))
section
variable {B:Base}{Pr:Addr->Prop}{A:Around}{ρ ρ1 as:List Addr}{H H1 Ps:List PO}{s s1:Shared}{h h':Heap}
theorem lv.appends (hl:ρ.length=H.length)(x:lv (ρ++as) (H++Ps) b):lv ρ H b\/b∈as:=x.elim λ i x=>x.elim λ p x=>
 (e1A i ρ.length).elim (λ hi=>.inl ⟨i,p,(List.getElem?_append_left hi).symm.trans x.1,(List.getElem?_append_left (hl▸hi)).symm.trans x.2.1,x.2.2⟩) λ hi=>.inr (e0s ((List.getElem?_append_right hi).symm.trans x.1))
theorem Carry.news (hl:ρ.length=H.length)(fr:∀ a∈as,h.get? a=none)(k:∀ b o,h.get? b=some o->h'.get? b=some o):Carry (a0G Pr ρ H) (a0G Pr (ρ++as) (H++Ps)) ρ (ρ++as) h h':=
 ⟨λ b o n e _=>⟨k b o e,λ q=>q.elim (λ q=>n (.inl q)) λ q=>(q.appends hl).elim (λ q=>n (.inr q)) λ q=>nx1 (e.symm.trans (fr b q))⟩,λ i x e=>(List.getElem?_append_left (a0Q e)).trans e⟩
theorem Rel.news (R:Rel B Pr ρ H h)(hl:as.length=Ps.length)(nd:as.Nodup)(fr:∀ a∈as,h.get? a=none)(k:∀ b o,h.get? b=some o->h'.get? b=some o)
 (hr:∀ (i:Nat) (P:PO) (a:Addr),Ps[i]?=some P->as[i]?=some a->Real B (a0G Pr (ρ++as) (H++Ps)) (ρ++as) h' P a):Rel B Pr (ρ++as) (H++Ps) h' where
 base:=R.base.ext λ b o _ e _=>k b o e
 len:=by rw [e0a,e0a,R.len,hl]
 nodup:=e1n.mpr ⟨R.nodup,nd,λ x hx y hy e=>(R.mem hx).elim λ o q=>nx1 (q.symm.trans (e▸fr y hy))⟩
 prl:=λ b p=>⟨(R.prl b p).1.imp λ o e=>k b o e,(R.prl b p).2⟩
 away:=λ b hb=>(e1E.mp hb).elim (R.away b) λ hb=>⟨λ p=>(R.prl b p).1.elim λ o e=>nx1 (e.symm.trans (fr b hb)),R.notBase (fr b hb)⟩
 tabs:=R.tabs.mono (.news R.len fr k) λ P o o' _ e=>k P o e
 real:=λ j o b e1 e2=>(e1A j ρ.length).elim
  (λ hj=>(R.real j o b ((List.getElem?_append_left (R.len▸hj)).symm.trans e1) ((List.getElem?_append_left hj).symm.trans e2)).mono (.news R.len fr k) λ _ e=>k _ _ e)
  λ hj=>hr _ o b ((List.getElem?_append_right (R.len▸hj)).symm.trans e1) (R.len▸(List.getElem?_append_right hj).symm.trans e2)
theorem Went.news (R:Rel B Pr ρ H s.heap)(W:Went B Pr ρ H s ρ1 H1 s1) (t)(hl:as.length=Ps.length)(nd:as.Nodup)(fr:∀ a∈as,s1.heap.get? a=none)(k:∀ b o,s1.heap.get? b=some o->h'.get? b=some o)
 (hr:∀ (i:Nat) (P:PO) (a:Addr),Ps[i]?=some P->as[i]?=some a->Real B (a0G Pr (ρ1++as) (H1++Ps)) (ρ1++as) h' P a):Went B Pr ρ H s (ρ1++as) (H1++Ps) { s1 with heap:=h',toks:=t } where
 same:=W.same.elim λ h e=>e.elim λ tk e=>⟨h',t,by rw [e]⟩
 ext:=W.ext.elim λ more e=>⟨more++as,by rw [e.1,e0h],λ a ha=>(e1E.mp ha).elim (e.2 a) λ ha=>W.fresh (fr a ha)⟩
 rel:=W.rel.news hl nd fr k hr
 keep:=W.keep.ext λ b o _ e _=>k b o e
 live:=λ i o hi e l=>W.live i o hi ((List.getElem?_append_left (e1j hi (W.len' R.len))).symm.trans e) l
end
section
variable {prog:Program}{w:World}{A:Around}{E:Value->Shared->Prop}{s:Shared}{env:Env}
theorem c1t {apos pos:Pos}(hbase:attributeBase o name env (eval o env)=eval o env)(hp:(backTo pos (starEach args env)).any (·.1)=false)(hn:args.length < 30)
 (hline:(apos.endLine==pos.line)=true)
 (h:wpAny (model prog w) A (eval o env) (λ ov s₁=>∀ pl,wpAny (model prog w) A (getMethod ov name pl) (λ p s₂=>wpAny (model prog w) A (callWith pos p.1 p.2 (backTo pos (starEach args env)) []) Q E s₂) E s₁) E s) :
 wpAny (model prog w) A (eval (.Call (.Attribute o name apos) args [] pos) env) Q E s:=by
 rw [arm_eval_Call,hbase];refine wpAny_bind (wpAny_mono h (λ ov s₁ h₁=>?_) λ _ _ e=>e);refine wpAny_bind (wpAny_standAt ?_);have hform:methodCallForm (args.length + ([]:List Keyword).length) (backTo pos (starEach args env)) (backToKw pos (keywordEach [] env))=true:=by
  unfold methodCallForm;rw [e1h,e1h];refine ⟨⟨?_,rfl⟩,?_⟩
  · rw [e0w];intro x hx;have:=List.any_eq_false.mp hp x hx;simpa using this
  · show decide (args.length+0+0<30)=true;rw [decide_eq_true_eq]; omega
 have hpos:methodCallPos true o env apos pos=pure pos:=by unfold methodCallPos; simp [hline]
 unfold methodCall;rw [hform];refine wpAny_bind (wpAny_holding ?_);exact wpAny_mono (h₁ _) (λ p s₂ h₂=>wpAny_bind (wpAny_of_eq hpos h₂)) λ _ _ e=>e
theorem b0X {args:List (Bool×Sem Value)}(hplain:args.any (·.1)=false)
 (h:wpAny (model prog w) A (evalArgs (.ref C) true args []) (λ x s₁=>ClsAt s₁.heap C N mN/\wpAny (model prog w) A (call (.ref C) x.pos x.kw) Q E s₁) E s) :
 wpAny (model prog w) A (callWith pos (.ref C) [] args []) Q E s:=by
 have hst:(args.any (λ x=>x.fst)||([]:List (Option Str×Sem Value)).any λ x=>x.fst.isNone)=false:=by rw [hplain]; rfl
 unfold callWith;refine wpAny_bind (wpAny_holding (wpAny_mono h (λ x s₁ h₁=>?_) λ _ _ x=>x));obtain ⟨hh,g,d,t,os⟩:=s₁;obtain ⟨X,h₁⟩:=h₁;refine ClsAt.objE X λ nm q bs sn sub col dd k0 k1 k2 k3 k5 hC=>?_;have f1:=tc_lookup;have hT:(⟨hh,g,d,t,os⟩:Shared).TypeIs (.ref C) "type" := ⟨_,hC,rfl⟩
 refine wpAny_bind (wpAny_standAt ?_);show wpAny _ _ (keeperOf (.ref C) >>= _) _ _ _;unfold keeperOf specialOf
 repeat (any_goals (first | assumption | with_reducible refine wpAny_loadPart_at hC ?_ | with_reducible refine wpAny_load' hC ?_ | wp_step))
 rw [if_pos (by rfl),hst];show wpAny _ _ (call (.ref C) x.pos x.kw >>= λ r=>do holding [r] point; pure r) _ _ _;exact wpAny_bind (wpAny_mono h₁ (λ r s' hr=>wpAny_bind (wpAny_holding (wpAny_point (wpAny_pure hr)))) λ _ _ x=>x)
end
theorem c2k:S c7Y=("__init__" : Str):=by decide +kernel
theorem a7B:(a2m.all λ k=>oc (ob (a7w k) a8z) (λ n=>(builtinLookup "object" n).isSome) false)=true:=by decide +kernel
theorem a3i:∀ {l:List Nat},a2E k l=true->k∈l
 | [],h=>nx2 h| x::l,h=>by
   unfold a2E at h;cases e:e0Y k x with
   | true=>exact c9i e▸e0X| false=>rw [e] at h; exact e0Z _ (a3i h)
theorem b3b (h:a8c k x=some j):∃ y,typeLookup (.type "object") x=pure y:=
 oE h λ b _ h=>oE h λ i _ h=>gE h λ c _=>ocE (a0A (a0A c).2).1 (λ n hn e=>by have h2:=e0w.mp a7B _ (a3i (a0A c).1);rw [hn] at h2;obtain ⟨r,hr⟩:=e2m.mp (show (builtinLookup "object" n).isSome=true from h2);rw [typeLookup_type,<- a0w.mp e,hr];exact ⟨r,rfl⟩) λ _ e=>nx2 e
section
variable {B:Base}{n:Nat}{r:Rc}{Pr:Addr->Prop}{A:Around}{c:Cf}
theorem Room.make (R:Room (n+1) A) (C) (rest):Room n (A.under (.builtin "type.__call__" ⟨.ref C::rest,[]⟩)):=
 ⟨R.hd,by rw [show (A.under (.builtin "type.__call__" ⟨.ref C::rest,[]⟩)).depth=A.depth+1 from depth_under_make A C rest]; have:=R.dp; lia,by show A.units+1+8 * n+100<cLine; have:=R.un; lia⟩
theorem c7Q (BO:BaseOK B)(K:RcOK B n r)(Ro:Room (n + 1) A)(hk:a2E k a2J=true)(R:Rl B Pr c)(rx:VRs B Pr c vs xs) :
 Sm B Pr A c (Ev.bind (b9X k) λ v=>Ev.bind (Ev.opt (a8c k (S c7Y))) λ j=>Ev.bind (r.call j (v::vs)) λ u=>gE' (isNone u) (Ev.ret v)) (call (.ref (B.adr k)) xs) (VRel B):=λ v st' e Q kq=>e.bind λ v0 st1 e1 e=>by
 obtain ⟨H',m,f,_,rfl⟩:=e1.up;have z:=a1C f;rw [<- z.1,<- z.2.1] at e;clear z f e1;refine e.optT λ j hm e=>?_;refine (BO.cls k hk).E λ N mN X _ _ _ _ hme=>(hme _ _ hm).2.elim λ oj ho=>ClsAt.objE (ClsAt.of R X) λ nm q bs sn sub col dd k0 k1 k2 k3 k5 hC=>?_;have hcj:=ho.2;have hoj':c.s.heap.get? (B.adr j)=some oj:=(R.carry0.obj _ oj (λ x=>x) ho.1 (.inr (by rw [hcj]; exact nofun))).1;refine wpAny_call_obj_init F.objNew (h:=c.s.heap) hC (ClsAt.of R X).ns (c2k▸(hme _ _ hm).1) hoj' hcj λ h' x dx mo=>?_;obtain ⟨keeps,newX,newD,⟨o,hx,hc,hnc,hd⟩,hdict,hgr⟩:=mo;have hod:=hdict o hx;have hne:dx ≠ x /\ h'.Ns1 dx (λ _=>none):=hd.elim (λ hd=>nx1 (hod.symm.trans hd.1)) λ hd=>hd.elim λ dx' hd=>sj (hod.symm.trans hd.1)▸hd.2;have W:Wt B Pr c ⟨c.ρ++[dx,x],⟨c.st.H++[.ns [] [],.inst k c.st.H.length],c.st.hs⟩,{ c.s with heap:=h' }⟩:=
  Went.news R (e2s R) c.s.toks rfl (e1D.mpr ⟨λ m=>hne.1 (e0u.mp m),e1D.mpr ⟨e0b,e1Q⟩⟩)
   (λ a ha=>(e0d.mp ha).elim (λ e=>e▸newD) λ ha=>e0u.mp ha▸newX) keeps λ i P a hP ha=>match i,hP,ha with
   | 0,hP,ha=>by rw [<- sj hP,<- sj ha]; exact ⟨[],hne.2,.nil⟩
   | 1,hP,ha=>by rw [<- sj hP,<- sj ha]; exact ⟨dx,o,hx,hc,by rw [<- R.len]; simp,hod,hnc⟩
   | _+2,hP,_=>nx0 hP
 have hloc:VR B Pr ⟨c.ρ++[dx,x],⟨c.st.H++[.ns [] [],.inst k c.st.H.length],c.st.hs⟩,{ c.s with heap:=h' }⟩ (.loc (c.st.H.length+1)) (.ref x):=.loc _ _ (by rw [<- R.len]; simp);refine (K.call j (Ro.make _ _) W.rel (VRels.cons _ _ _ _ hloc (rx.mono (W.ca R))):Sm B Pr _ ⟨c.ρ++[dx,x],⟨c.st.H++[.ns [] [],.inst k c.st.H.length],c.st.hs⟩,{ c.s with heap:=h' }⟩ _ _ (VRel B)).then e λ u c3 y e5 W3 r3=>?_;exact VRel.noneE y (a5B e5.gE'.1▸r3) ⟨rfl,e5.gE'.2.fin kq (W.tr R W3) (hloc.mono (W3.ca W.rel))⟩
end
section
variable {B:Base}{mt:Addr->Prop}{ρ:List Addr}{h:Heap}
theorem b2a:∀ {items:List Value}{b:List Nat},VRels B mt ρ h l items->a3O l=some b->∃ ns:List Int,IntsAre items ns/\(∀ n∈ns,0<=n/\n<256)/\(byteArr ns).toList.map UInt8.toNat=b:=by
 induction l with
 | nil=>exact fun {items b} r e=>r.nilE items (sE b e ⟨[],.nil,λ n m=>absurd m e0b,rfl⟩)| cons v l ih=>
   intro items b r e;refine oE (show ob (a0z v) _=some b from e) λ i hi e=>oE e λ n hn e=>gE e λ hb e=>oE e λ b' h e=>r.consE items λ y ys r rs=>(ih rs h).elim λ ns z=>?_;refine e2q y (a0c hi▸r) λ t=>sE b e ⟨i::ns,.cons _ _ z.1,?_,?_⟩
   · rw [a1Q hn];exact λ m hm=>(e0d.mp hm).elim (λ e=>e▸⟨e1N n,e1J.mpr (e1B.mp hb)⟩) (z.2.1 m)
   · rw [a1Q hn];have z3:=z.2.2;unfold byteArr at z3 ⊢;rw [<- z3];have:=e1B.mp hb;simp only [e0v,e1H];congr 1;simp;omega
@[elab_as_elim] theorem a7x {G:List Value->Prop}{vs:List PV}{w:PV}(xs:List Value)(e:b3A vs=some w)(r:VRels B mt ρ h vs xs)(k:∀ x,VRel B mt ρ h w x->G [x]):G xs:=by rw [b4o e] at r;exact r.consE xs λ x xs r rs=>rs.nilE xs (k x r)
@[elab_as_elim] theorem d4I {G:List Value->Prop}{vs:List PV}{w:PV×PV}(xs:List Value)(e:two vs=some w)(r:VRels B mt ρ h vs xs)(k:∀ x y,VRel B mt ρ h w.1 x->VRel B mt ρ h w.2 y->G [x,y]):G xs:=by rw [b7l e] at r;exact r.consE xs λ x xs r rs=>rs.consE xs λ y ys r2 rs=>rs.nilE ys (k x y r r2)
end
theorem a1W {c:Prop} [Decidable c]{α:Type}{a b:α}{o:Option α}{P:Prop}(e:(if c then some a else o)=some b)(h1:c->a=b->P)(h2:o=some b->P):P:=by
 by_cases h:c
 · rw [if_pos h] at e; exact h1 h (sj e)
 · rw [if_neg h] at e; exact h2 e
noncomputable def d6f:TK->String
 | .int => "int"| .tuple => "tuple"| .list => "list"| .bytes => "bytes"
theorem c6x {id:String}(h:c6y id=some k):id=d6f k:=
 a1W h (λ a b=>b▸eq_of_beq a) λ h=>a1W h (λ a b=>b▸eq_of_beq a) λ h=>a1W h (λ a b=>b▸eq_of_beq a) λ h=>a1W h (λ a b=>b▸eq_of_beq a) nx0
noncomputable def d1c:BK->String
 | .len => "len"| .min => "min"| .max => "max"| .sorted => "sorted"| .isinst => "isinstance"
theorem c9g {id:String}(h:c9h id=some k):id=d1c k:=
 a1W h (λ a b=>b▸eq_of_beq a) λ h=>a1W h (λ a b=>b▸eq_of_beq a) λ h=>a1W h (λ a b=>b▸eq_of_beq a) λ h=>a1W h (λ a b=>b▸eq_of_beq a) λ h=>a1W h (λ a b=>b▸eq_of_beq a) nx0
section
variable {B:Base}{Pr:Addr->Prop}{A:Around}{c:Cf}
theorem c9T (R:Rl B Pr c)(ra:VR B Pr c a x)(hl:a1v c.st.H a=some l):a9N B Pr A c.ρ c.st.H c.s (call (.type "list") [x]) (VRel B) (.loc c.st.H.length) (c.st.H++[.list l]):=λ Q k=>
 a0r R x ra hl λ ad items n g hz rs=>call_list_seq ad (.inl rfl) g rfl rfl (λ h' c' kp hn=>by
  have hf:∀ a∈[c.s.heap.objs.size],c.s.heap.get? a=none:=λ a ha=>by rw [e0u.mp ha]; exact a1X _
  refine k (c.ρ++[c.s.heap.objs.size]) _ _ (Went.news R (e2s R) c.s.toks (as:=[c.s.heap.objs.size]) (Ps:=[.list l]) rfl (e1D.mpr ⟨e0b,e1Q⟩) hf kp (λ i P a hP ha=>?_)) (.loc _ _ (by rw [<- R.len]; simp));cases i with
  | zero=>rw [<- sj hP,<- sj ha]; exact .list l _ _ items hn (.mk' hz _) (rs.mono (.news R.len hf kp))| succ i=>exact nx0 hP) (by simpa using hz)
theorem b8Q (hh:A.handled=none)(R:Rl B Pr c) (id)(rx:VRs B Pr c vs xs):Sm B Pr A c (c9d id vs) (call (.type id) xs) (VRel B):=by
 unfold c9d;cases ht:c6y id with
 | none=>exact .no| some k=>
   rw [c6x ht];show Sm B Pr A c (b6D k vs) _ _;cases k with
   | int=>exact .opt λ v e=>oE e λ w hw e=>oE e λ i hi e=>sE v e λ Q k=>a7x xs hw rx λ x r=>e2q x (a0c hi▸r) λ t=>call_int_int (k _ _ _ (e2s R) (.int _ _))| tuple=>
     unfold b6D;refine .rd λ v e=>?_;refine oE e λ w hw e=>a7x xs hw rx λ x r=>?_;refine ocE e (λ l hl e=>?_) λ _ e=>oE e λ l hl e=>sE v e λ Q k=>?_
     · rw [a1s hl] at r;exact r.tupE x λ ad o items nm g sq rs=>sE v e λ Q k=>call_tuple_tup (sq.tuple g) (k _ _ _ (e2s R) (.tup l _ _ _ nm g sq rs))
     · refine a0r R x r hl λ ad items n g hz rs=>call_tuple_list (items:=items.toArray) ⟨_,g,rfl,n,rfl⟩ (λ h' kp=>?_) (by simpa using hz);have W:Wt B Pr c ⟨c.ρ,c.st,{ c.s with heap:=h' }⟩:=(e2s R).more c.s.toks kp;exact k _ _ _ (W.more c.s.toks λ b o e=>Heap.get?_push_of_some _ e) (VRel.newTup W.rel 0 (rs.mono (W.ca R)) (rs.len▸hz))
   | list=>refine λ v st' e Q k=>e.rdT λ l hl e=>oE hl λ w hw hl=>a7x xs hw rx λ x r=>?_;obtain ⟨H',m,f,hm,rfl⟩:=e.up;have z:=a1C f;rw [<- z.1,<- z.2.1] at k;exact c9T R r hl Q k
   | bytes=>unfold b6D;refine .rd λ v e=>?_;refine oE e λ w hw e=>oE e λ l hl e=>oE e λ b hb e=>sE v e λ Q k=>a7x xs hw rx λ x r=>a0r R x r hl λ ad items n g hz rs=>(b2a rs hb).elim λ ns z=>?_;exact call_bytes_ints (vs:=items) ⟨_,g,rfl,n,rfl⟩ z.1 z.2.1 hz hh λ h' t kp kq=>k _ _ _ ((e2s R).more kp kq) (.bytes b _ _ (by rw [byteArr_size,<- z.1.length]; exact hz) z.2.2)
theorem b8I {α:Type}{xs:List α}(h:xs.length<=sizeLine):((xs.toArray.size:Nat):Int)<2^63:=by have h:xs.length<=16777216:=h;simp; lia
theorem c6h {p:Prop} [Decidable p]{b:Bool}(h:b=decide p)(i j:Int):bc b i j=if p then i else j:=by
 rw [h];by_cases hp:p
 · rw [if_pos hp,decide_eq_true hp]; rfl
 · rw [if_neg hp,decide_eq_false hp]; rfl
theorem d3t (i:Int)(t:Tok):intItems #[(i,t)]=#[.int i t]:=by simp [intItems]
theorem c5O {f:Int->Int->Int}{id:String}(R:Rl B Pr c)
 (h2:∀ {i j:Int} {t u:Tok} {Q:Value->Shared->Prop},(∀ h' tk t,(∀ b o,c.s.heap.get? b=some o->h'.get? b=some o)->Q (.int (f i j) t) { c.s with heap:=h',toks:=tk })->wpAny (Mo B.w) A (call (.builtin id) [.int i t,.int j u]) Q E0 c.s)
 (h1:∀ {a:Addr} {i:Int} {t:Tok} {Q:Value->Shared->Prop},c.s.heap.IsList a #[.int i t]->(∀ h' tk,(∀ b o,c.s.heap.get? b=some o->h'.get? b=some o)->Q (.int i t) { c.s with heap:=h',toks:=tk })->wpAny (Mo B.w) A (call (.builtin id) [.ref a]) Q E0 c.s)
 {vs:List PV} {xs:List Value} (rx:VRs B Pr c vs xs):Sm B Pr A c (mm f vs) (call (.builtin id) xs) (VRel B):=by
 refine .rd λ v e=>ocE e (λ q hq e=>?_) λ _ e=>oE e λ w hw e=>oE e λ l hl e=>oE e λ y hy e=>oE e λ i hi e=>sE v e λ Q k=>a7x xs hw rx λ x r=>a0r R x r hl λ ad items n g hz rs=>?_
 · refine oE e λ i hi e=>oE e λ j hj e=>sE v e λ Q k=>d4I xs hq rx λ x y r r2=>?_;rw [a0c hi] at r;rw [a0c hj] at r2;refine r.intE x λ t=>r2.intE y λ u=>h2 λ h' tk t kp=>k _ _ _ ((e2s R).more tk kp) (.int _ _)
 · revert g;refine a7x items hy rs λ z rz=>?_;rw [a0c hi] at rz;exact rz.intE z λ t g=>h1 ⟨_,g,rfl,n,rfl⟩ λ h' tk kp=>k _ _ _ ((e2s R).more tk kp) (.int i t)
theorem b6j (hh:A.handled=none)(R:Rl B Pr c) (b)(hb:b≠.sorted)(rx:VRs B Pr c vs xs):Sm B Pr A c (b2Z b vs) (call (.builtin (d1c b)) xs) (VRel B):=by
 cases b with
 | len=>
   unfold b2Z;refine .rd λ v e=>?_;refine oE e λ w hw e=>a7x xs hw rx λ x r=>?_;refine ocE e (λ l hl e=>?_) λ _ e=>oE e λ l hl e=>sE v e λ Q k=>?_
   · rw [a3P hl] at r;refine r.bytesE x λ b t hz hm=>sE v e λ Q k=>W.len_bytes (by have hz:b.size <= 16777216:=hz; lia) ?_;have hl:l.length=b.size:=by rw [<- hm]; simp
     exact k _ _ _ ((e2s R).tok _) (hl▸.int _ _)
   · have q:=a2B R r hl;cases hb:a1A c.st.H w with
     | true=>rw [hb] at q; obtain ⟨ad,o,items,g,sq,rs⟩:=q; exact call_len_list (sq.list g) (b8I sq.size) (k _ _ _ ((e2s R).tok _) (show VRel B _ _ _ (.int l.length) _ from rs.length▸.int _ _))
     | false=>rw [hb] at q; obtain ⟨ad,o,items,g,sq,rs⟩:=q; exact len_tuple (sq.tuple g) (b8I sq.size) (k _ _ _ ((e2s R).tok _) (show VRel B _ _ _ (.int l.length) _ from rs.length▸.int _ _))
 | min=>
   refine c5O R (fun {i j t u Q} h=>min_two_ints hh λ h' tk k=>?_) (fun {a i t Q} hl h=>min_intList (xs:=#[(i,t)]) hh (d3t i t▸hl) Nat.zero_lt_one λ v h' tk hv k=>by rw [d3t] at hv; exact (show Value.int i t=v from sj hv)▸h h' tk k) rx;rw [c6h (a0h j i)] at h;by_cases hc:j<i
   · rw [if_pos hc] at h ⊢; exact h h' tk _ k
   · rw [if_neg hc] at h ⊢; exact h h' tk _ k
 | max=>
   refine c5O R (fun {i j t u Q} h=>max_two_ints hh λ h' tk k=>?_) (fun {a i t Q} hl h=>max_intList (xs:=#[(i,t)]) hh (d3t i t▸hl) Nat.zero_lt_one λ v h' tk hv k=>by rw [d3t] at hv; exact (show Value.int i t=v from sj hv)▸h h' tk k) rx;rw [c6h (a0h i j)] at h;by_cases hc:i<j
   · rw [if_pos hc] at h ⊢; exact h h' tk _ k
   · rw [if_neg hc] at h ⊢; exact h h' tk _ k
 | sorted=>exact absurd rfl hb| isinst=>
   exact .opt λ v e=>oE e λ q hq e=>gE e λ hb e=>sE v e λ Q k=>d4I xs hq rx λ x y r r2=>by
    obtain ⟨w,t⟩:=q;have hb:=a0A hb;have k:=k _ _ _ ((e2s R).tok (c.s.toks+1)) (.bool false);cases t with
    | typ t=>
      have ht:t = "bool" := eq_of_beq hb.1;refine VRel.typE y r2 (ht▸?_);cases w with
      | none=>exact r.noneE x (IsiPair.NoneType_bool k)| str=>exact r.strE x λ t=>IsiPair.str_bool k| _=>exact nx2 hb.2
    | _=>exact nx2 hb.1
end
end
section
open PySem PySem.Calls PyProof.Rows
open Sem (wp)
open PySem.W (Looks KatLex kat_nil kat_cons kat_yes kat_no kat_go kat_lt kat_one KatTups kat_kind kat_run kat_snds kas_sort kas_ask)
section
variable {prog:Program}{w:World}{A:Around}{E:Value->Shared->Prop}{s:Shared}
theorem b3W {Q:Bool->Shared->Prop}(hl:s.heap.IsList l items)(hb:s.heap.IsList b items2)(hu:A.units < cLine)
 (he:b7Y A.in1 s items.toList items2.toList r) (h:Q r s):wpAny (model prog w) A (oneLt' true (.ref l) (.ref b)) Q E s:=by
 obtain ⟨⟨cls,dd,data,sl⟩,ho,hc,n,hd⟩:=id hl;obtain ⟨⟨cls2,dd2,data2,sl2⟩,ho2,hc2,n2,hd2⟩:=id hb;simp only at hc hd hc2 hd2;subst hc hd hc2 hd2;rw [oneLt'_eq];simp only [if_true];refine wpAny_bind (wpAny_cRoomFor hu ?_);refine wpAny_bind (wpAny_callSpecialIfBound?_slot ⟨_,ho,rfl⟩ PySem.F.slot_list_lt (call_meets PySem.F.slot_list_lt ⟨_,ho,rfl⟩ PySem.F.entry_list_lt (PySem.F.args_list_lt_2 _ _) (b1p l b items items2 n n2 dd dd2 sl sl2 r) ⟨ho,ho2,he,?_⟩));exact wpAny_truthy_bool h
end
section
variable {B:Base}{Pr:Addr->Prop}{A:Around}{ρ:List Addr}{H:List PO}{st:St}{s:Shared}
theorem a9i (e:c7l x=some p):x=.tup [p.1,.int p.2]:=oE e λ l hl e=>by
 rw [a1s hl];have:∀ l,(match l with
  | [a,b]=>ob (a0z b) λ i=>some (a,i)| _=>none)=some p->PV.tup l=.tup [p.1,.int p.2]:=λ l e=>match l,e with
  | [a,b],e=>oE e λ i hi e=>by rw [<- sj e,a0c hi]
 exact this l e
theorem a6U {mt:Addr->Prop}{i:Int}(r:VRel B mt ρ h (.tup [a,.int i]) x):∃ ad n y t,x=.ref ad/\h.get? ad=some { cls:=.type "tuple",data:=.seq #[y,.int i t] n }/\VRel B mt ρ h a y:=
 r.tupE x λ ad o items nm g sq rs=>by revert sq;refine rs.consE items λ y ys ry rs=>rs.consE ys λ z zs rz rs=>rs.nilE zs (rz.intE z λ t sq=>?_);exact sq.eq.elim λ n zo=>⟨ad,n,y,t,rfl,zo▸g,ry⟩
theorem d1k (R:Rel B Pr ρ H s.heap)(e:lt2 H x y=some r)(rx:VRel B (a0G Pr ρ H) ρ s.heap x vx)(ry:VRel B (a0G Pr ρ H) ρ s.heap y vy)(hu:A.units + 16 < cLine){Q:Bool->Shared->Prop}(h:Q r s) :
 wpAny (Mo B.w) A (keyLt' (tuples' true) vx vy) Q E s:=by
 refine oE e λ p hp e=>oE e λ q hq e=>oE e λ lm hl e=>oE e λ c he e=>?_;rw [a9i hp] at rx;rw [a9i hq] at ry;obtain ⟨ax,nx,va,ti,rfl,gx,ra⟩:=a6U rx;obtain ⟨ay,ny,vb,tj,rfl,gy,rb⟩:=a6U ry;refine kat_lt gx rfl gy rfl ?_;show KatLex prg B.w A true (decide (2<2)) Q [(va,vb),(.int p.2 ti,.int q.2 tj)] 0 s;refine kat_cons ((a6t R 5 p.1 q.1 c va vb A he ra rb (by lia)).eq _ _ _ _ ?_);cases c with
 | true=>
   refine sE r e (λ h=>kat_yes (kat_cons (wpAny_eqBool_int ?_))) h;by_cases hij:p.2=q.2
   · rw [show (p.2==q.2)=true from beq_iff_eq.mpr hij];refine kat_yes (kat_nil ?_);rw [a0h,hij,decide_eq_false (Int.lt_irrefl _)] at h;exact h
   · rw [show (p.2==q.2)=false from beq_eq_false_iff_ne.mpr hij];refine kat_no ?_;show wpAny _ A (oneLt' false (.int p.2 ti) (.int q.2 tj)) Q _ s;exact kat_one _ _ (b3P R 1 (.int p.2) (.int q.2) _ (.int p.2 ti) (.int q.2 tj) A rfl (.int _ _) (.int _ _) (by lia) _ _ _ _ h)
 | false=>
   refine oE hl λ l h1 hl=>oE hl λ m h2 hl=>?_;obtain rfl:=sj hl;refine a0r R va ra h1 (λ la ia na ga za rsa gx=>a0r R vb rb h2 (λ lb ib nb gb zb rsb gy=>?_) gy) gx;have hin:A.in1.units+4<cLine:=by show A.units+1+4<_; lia
   refine kat_no ?_;show wpAny _ A (oneLt' true (.ref la) (.ref lb)) Q _ s;exact b3W (items:=ia.toArray) (items2:=ib.toArray) ⟨_,ga,rfl,na,rfl⟩ ⟨_,gb,rfl,nb,rfl⟩ (by lia) (c5t (A:=A.in1) (s:=s) (λ a b r x y e ra rb=>(a6t R 4 a b r x y A.in1 e ra rb hin).eq) (λ a b r x y e ra rb=>b3P R 4 a b r x y A.in1 e ra rb hin) e rsa rsb) h
theorem c2W (a):∃ K:Nat->Unit×SortSt->Sem PySem.Fin,(Builtin.«list.sort» ⟨[.ref a],[]⟩=(do
 let items <- Builtin.List.listItems (.ref a)
 Builtin.List.listUpdate (.ref a) λ _=>#[]
 let before <- seqEpoch a
 let held <- newTuple items.toList
 let keyStore <- PySem.newList []
 holding [held,keyStore] do
  let kind <- if items.size<2 then pure general' else keyKind' items
  let p <- (if items.size<2 then pure () else sortRuns').run (SortSt.mk' kind (items.zip items) #[] 7 none)
  K before p)) /\
 ∀ (M:Model) (A:Around) (E:Value->Shared->Prop) (s:Shared) (Q:PySem.Fin->Shared->Prop) (st:SortSt) (n:Nat) (out:Array Value),failedOf st=none->(arrOf st).map (·.2)=out->out.size <= sizeLine->s.heap.get? a=some (PyProof.Rows.seqObj "list" #[] n) ->
   Q (.done (.ret .none)) { s with heap:=s.heap.update a (Obj.mapSeq λ _=>out) }->wpAny M A (K n ((),st)) Q E s:=by
 refine ⟨_,(list_sort_plain a).trans rfl,λ M A E s Q st n out hf ho hz g h=>?_⟩;dsimp only;rw [hf,ho];refine wpAny_bind (seqEpoch_at g rfl ?_);refine wpAny_bind (listUpdate_at g rfl ?_ (e0q _) (Nat.le_succ_of_le hz));simp only [bne_self_eq_false,e2U,if_false];exact wpAny_pure h
theorem b6b {xs:List Value}{F:Array Value->Nat->Sem PySem.Fin}(g:s.heap.get? a=some (PyProof.Rows.seqObj "list" xs.toArray n)) (hz:xs.length <= sizeLine)
 (h:∀ e1 h3,(∀ b o,(s.heap.update a (Obj.mapSeq λ _=>(#[]:Array Value))).get? b=some o->h3.get? b=some o)->h3.get? a=some (PyProof.Rows.seqObj "list" #[] e1)->wpAny M A (F xs.toArray e1) Q E { s with heap:=h3 }) :
 wpAny M A (do
  let items <- Builtin.List.listItems (.ref a)
  Builtin.List.listUpdate (.ref a) λ _=>#[]
  let before <- seqEpoch a
  let held <- newTuple items.toList
  let keyStore <- PySem.newList []
  holding [held,keyStore] (F items before)) Q E s:=by
 refine wpAny_bind (listItems_at g rfl ?_);refine wpAny_bind (listUpdate_at g rfl ?_ hz (e0q _));have ho1:=get?_update_seq g λ _=>#[];refine wpAny_bind (seqEpoch_at ho1 rfl ?_);refine wpAny_bind (wpAny_newTuple ?_ hz);refine wpAny_bind (wpAny_newList ?_ (e0q _));exact wpAny_holding (h _ _ (λ b o q=>Heap.get?_push_of_some _ (Heap.get?_push_of_some _ q)) (Heap.get?_push_of_some _ (Heap.get?_push_of_some _ ho1)))
theorem b8G (R:Rel B Pr ρ H s.heap)(hu:A.units + 16 < cLine)(e:lt2 H y x=some r)(rx:VRel B (a0G Pr ρ H) ρ s.heap x vx)(ry:VRel B (a0G Pr ρ H) ρ s.heap y vy){K:Unit×SortSt->Sem PySem.Fin}
 (h:∀ st,failedOf st=none->(arrOf st).map (·.2)=(if r then #[vy,vx] else #[vx,vy])->wpAny (Mo B.w) A (K ((),st)) Q E0 s) :
 wpAny (Mo B.w) A (do
  let kind <- if [vx,vy].toArray.size<2 then pure general' else keyKind' [vx,vy].toArray
  let p <- (if [vx,vy].toArray.size<2 then pure () else sortRuns').run (SortSt.mk' kind ([vx,vy].toArray.zip [vx,vy].toArray) #[] 7 none)
  K p) Q E0 s:=by
 have hn2:¬ [vx,vy].toArray.size<2:=show ¬ 2<2 by decide
 rw [if_neg hn2,if_neg hn2];have hk:wpAny (Mo B.w) A (keyKind' [vx,vy].toArray) (λ k s'=>k=tuples' true/\s'=s) E0 s:=oE e λ pb hpb e=>oE e λ pa hpa e=>oE e λ lm hl _=>oE hl λ l h1 hl=>oE hl λ m h2 _=>by rw [a9i hpa] at rx;rw [a9i hpb] at ry;obtain ⟨ax,nx,va,ti,rfl,gx,ra⟩:=a6U rx;obtain ⟨ay,ny,vb,tj,rfl,gy,rb⟩:=a6U ry;exact kat_kind (fs:=[va,vb]) (T:=.type "list") (KatTups.cons gx rfl rfl rfl (KatTups.cons gy rfl rfl rfl .nil)) Nat.two_pos (λ v hv=>(e0d.mp hv).elim (λ e=>e▸a0r R va ra h2 λ la ia na ga _ _=>(Looks.ld ga).andThen .now) λ hv=>e0u.mp hv▸a0r R vb rb h1 λ la ia na ga _ _=>(Looks.ld ga).andThen .now) (by decide) ⟨rfl,rfl⟩
 refine wpAny_bind (wpAny_mono hk (λ k s' q=>?_) λ _ _ e=>e);rw [q.1,q.2];clear q hk s';refine wpAny_bind (wpAny_mono (kat_run (ks:=[vx,vy]) (vs:=[vx,vy]) (Q:=λ st' s'=>s'=s /\ failedOf st'=none /\ (arrOf st').map (·.2)=if r then #[vy,vx] else #[vx,vy]) (G:=λ p s'=>s'=s /\ p=if r then #[1,0] else #[0,1]) rfl (e0i 2) (show 2 < 64 by decide) (λ p st' s' h1 h2 h3 h4=>⟨h4.1,h3,?_⟩) ?_)
  (λ p s' q=>?_) λ _ _ e=>e)
 · rw [kat_snds rfl h2,h4.2];cases r <;> rfl
 · show wpAny (Mo B.w) A (keyLt' (tuples' true) vy vx) _ (λ _ _=>False) _;refine d1k R e ry rx hu ?_;cases r with
   | true=>
     have e3:PySem.W.kas_rev ((e0f 2).toArray) 0 2=#[1,0]:=by decide +kernel
     refine ⟨rfl,?_⟩;rw [if_pos rfl,show [vx,vy].length=2 from rfl];dsimp only;exact e3
   | false=>exact ⟨rfl,rfl⟩
 · obtain ⟨⟨⟩,st⟩:=p;exact q.1▸h st q.2.1 q.2.2
theorem b8L (R:Rel B Pr ρ st.H s.heap)(hu:A.units + 20 < cLine)(hp:ρ[p]?=some a)(e:st.H[p]?=some (.list [x,y]))(e2:lt2 (st.H.set p (.list [])) y x=some r)
 {Q:Value->Shared->Prop} (h:∀ s',Went B Pr ρ st.H s ρ (st.H.set p (.list (if r then [y,x] else [x,y]))) s'->Q .none s'):wpAny (Mo B.w) A (call (.builtin "list.sort") [.ref a]) Q E0 s:=by
 refine a2i R hp e λ xs n g hz rs=>?_;obtain ⟨vx,vy,rfl⟩:∃ vx vy,xs=[vx,vy]:=rs.consE xs λ vx xs _ rs=>rs.consE xs λ vy ys _ rs=>rs.nilE ys ⟨vx,vy,rfl⟩;have W1:=Went.setList R s.toks hp e g (λ _=>#[]) (l':=[]) (xs':=[]) rfl .nil (e0q _);refine wpAny_call_entry slot_list_sort ⟨_,g,rfl⟩ entry_list_sort ?_ (args_list_sort _);obtain ⟨K,eK,hK⟩:=c2W a;rw [eK];refine b6b (xs:=[vx,vy]) g hz λ e1 h3 k3 na1=>?_;have W3:=W1.more (h:=h3) s.toks k3;generalize hH:st.H.set p (.list [])=H2 at e2 W3;have hp1:H2[p]?=some (.list []):=hH▸List.getElem?_set_self (a0Q e);have rs3:=rs.mono (W3.carry R);refine b8G W3.rel (show A.units + 1 + 16 < _ by lia) e2 rs3.1 rs3.2.1 λ st' hf ho=>hK _ _ _ _ _ _ _ _ hf ho (by cases r <;> (show 2 <= sizeLine; decide)) na1 ⟨_,rfl,h _ ?_⟩;have W4:=W3.trans R (Went.setList (l':=if r then [y,x] else [x,y]) (xs':=if r then [vy,vx] else [vx,vy]) W3.rel s.toks hp hp1 na1 (λ _=>if r then #[vy,vx] else #[vx,vy]) (by cases r <;> rfl)
  (by cases r <;> first | exact .cons _ _ _ _ rs3.2.1 (.cons _ _ _ _ rs3.1 .nil) | exact .cons _ _ _ _ rs3.1 (.cons _ _ _ _ rs3.2.1 .nil)) (by cases r <;> (show 2<=sizeLine; decide)))
 rw [<- hH,List.set_set] at W4;exact W4
end
end
section
open PySem PySem.Calls PyProof.Rows
open Sem (wp)
noncomputable def MK.id:MK->String
 | .dget => "dict.get"| .append => "list.append"| .extend => "list.extend"| .insert => "list.insert"| .pop => "list.pop"| .sort => "list.sort"
theorem c4I (p:Nat)(h:p<=16777217):Builtin.List.listFitsIndex (p:Int)=true:=by unfold Builtin.List.listFitsIndex;rw [e1h,decide_eq_true_eq,decide_eq_true_eq];lia
section
variable {B:Base}{Pr:Addr->Prop}{A:Around}{c:Cf}
theorem b4q {self:PV}{x:Value}(rx:VR B Pr c self x){f:List PO->List PV->Option (PV×List PV×Nat)}{t:Value->Sem Value}
 (k:∀ i a l v l' n,c.ρ[i]?=some a->c.st.H[i]?=some (.list l)->f c.st.H l=some (v,l',n)->n<=sizeLine->a9N B Pr A c.ρ c.st.H c.s (t (.ref a)) (VRel B) v (c.st.H.set i (.list l'))):Sm B Pr A c (b1W self f) (t x) (VRel B):=
 .up λ v H' n e hn=>oE e λ p hp e=>oE e λ r hr e=>oE hp λ i hi hp=>oE hp λ o ho hp=>oE hp λ l hl hp=>by have z:=a1C e;obtain rfl:=sj hp;rw [<- z.1,<- z.2.1];rw [a2c hi] at rx;exact rx.locE x λ a ha=>k i a l r.1 r.2.1 r.2.2 ha (ho.trans (congrArg some (a1x hl))) hr (z.2.2▸hn)
theorem a6V (R:Rl B Pr c){i:Nat}{a:Addr}{l l':List PV}{xs xs':List Value}{n:Nat}(hi:c.ρ[i]?=some a)(hl:c.st.H[i]?=some (.list l))(ga:IsL c.s.heap a xs.toArray n)(f:Array Value->Array Value)(hf:(f xs.toArray).toList=xs')(r:VRs B Pr c l' xs')(hz:l'.length <= sizeLine)
 {v:PV} {x:Value} (rv:VR B Pr c v x) {Q:Value->Shared->Prop} (k:Fin B Pr c.ρ c.st.H c.s (VRel B) v (c.st.H.set i (.list l')) Q):Q x { c.s with heap:=c.s.heap.update a (Obj.mapSeq f),toks:=c.s.toks }:=
 k _ _ _ (Went.setList R c.s.toks hi hl ga f (by rw [<- hf]) r hz) (rv.mono (Carry.upd R hi hl rfl (b7k _)))
theorem a8R (R:Rl B Pr c){i:Nat}{a b:Addr}{l r:List PV}{ys:List Value}{k:Nat}{T:String}(hT:T = "list" \/ T = "tuple") (hi:c.ρ[i]?=some a) (e:c.st.H[i]?=some (.list l))
 (g:c.s.heap.get? b=some { cls:=.type T,data:=.seq ys.toArray k }) (rs:VRs B Pr c r ys) (hz:(l++r).length<=sizeLine):a9N B Pr A c.ρ c.st.H c.s (call (.builtin "list.extend") [.ref a,.ref b]) (VRel B) .none (c.st.H.set i (.list (l++r))):=λ Q kq=>
 a2i R hi e λ xs n ga hzx rx=>by
  have hz':=hz;rw [e0a,rx.len,rs.len] at hz';have hsz:xs.toArray.size+ys.toArray.size<=sizeLine:=by simpa using hz'
  have fin:=a6V R hi e ga (λ x=>x++ys.toArray) (xs':=xs++ys) (by simp) (rx.append rs) hz (.none) kq;have door:=extend_door hsz;rcases hT with rfl | rfl
  · exact call_meets PySem.F.slot_list_extend ⟨_,ga,rfl⟩ PySem.F.entry_list_extend (PySem.F.args_list_extend_2 _ _) (PySem.AutoSeq1.list_extend_list_list_0 a _ n b _ k door (by simpa using hzx) (Nat.le_succ_of_le hsz)) ⟨ga,g,fin⟩
  · exact call_meets PySem.F.slot_list_extend ⟨_,ga,rfl⟩ PySem.F.entry_list_extend (PySem.F.args_list_extend_2 _ _) (PySem.AutoSeq1.list_extend_list_tuple_0 a _ n b _ k door (by simpa using hzx) (Nat.le_succ_of_le hsz)) ⟨ga,g,fin⟩
theorem b6i (R:Rl B Pr c){i:Nat}{a:Addr}{l:List PV}(hi:c.ρ[i]?=some a)(hl:c.st.H[i]?=some (.list l))(p:Nat)(k:Int)(u:Tok)(hk:k=(p:Int))(hp:p <= l.length){v2:PV}{x2:Value}
 (r2:VR B Pr c v2 x2) (hz0:l.length+1<=sizeLine):a9N B Pr A c.ρ c.st.H c.s (call (.builtin "list.insert") [.ref a,.int k u,x2]) (VRel B) .none (c.st.H.set i (.list (l.take p++v2::l.drop p))):=λ Q kq=>
 a2i R hi hl λ xs n ga hzx rx=>by
  have hlen:=rx.length;have hz:l.length+1<=16777216:=e0l hz0 (by decide);have hff:¬ (!Builtin.List.listFitsIndex k)=true:=by rw [hk,c4I p (by lia)];exact e2P
  refine call_meets PySem.F.slot_list_insert ⟨_,ga,rfl⟩ PySem.F.entry_list_insert (PySem.F.args_list_insert_3 _ _ _) (PySem.AutoSeq1.list_insert_list_int_val_1 a _ n k u x2 hff (by simpa using hzx)) ⟨ga,?_⟩;refine a6V R hi hl ga _ (xs':=xs.take p++x2::xs.drop p) ?_ ((rx.take p).append (VRels.cons _ _ _ _ r2 (rx.drop p))) (by rw [e0a,e0n,e1b,e1s]; lia) .none kq;rw [show (if k<0 then (k+(xs.toArray.size:Int)).toNat else min k.toNat xs.toArray.size)=p by rw [hk,if_neg (by lia)]; simp; lia];simp;exact e2Z (by simp)
theorem c9K {args:List PV}{q:PV×PV}{G:Prop}(e:d2v args=some q)(k1:args=[q.1]->q.2=.none->G)(k2:args=[q.1,q.2]->G):G:=match args,e with
 | [k],e=>k1 (sj e▸rfl) (sj e▸rfl)| [k,d],e=>k2 (sj e▸rfl)
theorem c2b (hu:A.units+24<cLine)(R:Rl B Pr c){self:PV}{x:Value}(rx:VR B Pr c self x){vs:List PV}{xs:List Value}(rs:VRs B Pr c vs xs):Sm B Pr A c (a5Q .dget self vs) (call (.builtin "dict.get") (x::xs)) (VRel B):=by
 unfold a5Q;refine .rd λ v e=>?_;refine oE e λ p hd e=>oE e λ q hq e=>oE e λ o hg e=>gE hg λ hf hg=>sE v e λ Q k=>a1j R x rx hd λ a es n g nd ns er=>?_;have hu1:A.units+1<cLine:=e1F (e1c (by decide) _) hu;rw [<- sj hg] at k;refine c9K hq (λ hv hn=>?_) λ hv=>?_
 · rw [hv] at rs;rw [hn] at k;refine rs.consE xs λ y ys ry rs=>rs.nilE ys (((b2U g nd er ry hf).get1 (A:=A) ns hu1 (R:=wants Q E0) λ x t r=>k _ _ _ ((e2s R).tok t) r).elim λ S m=>?_);exact call_meetsIn PySem.F.slot_dict_get ⟨_,g,rfl⟩ PySem.F.entry_dict_get (PySem.F.args_dict_get_2 _ _) m.1 m.2
 · rw [hv] at rs;refine rs.consE xs λ y ys ry rs=>rs.consE ys λ z zs rz rs=>rs.nilE zs (((b2U g nd er ry hf).get2 (A:=A) ns hu1 rz (R:=wants Q E0) λ x t r=>k _ _ _ ((e2s R).tok t) r).elim λ S m=>?_);exact call_meetsIn PySem.F.slot_dict_get ⟨_,g,rfl⟩ PySem.F.entry_dict_get (PySem.F.args_dict_get_3 _ _ _) m.1 m.2
theorem d1D {args l l':List PV}{v:PV}{n:Nat}{G:Prop}(e:d7g args l=some (v,l',n))(k1:args=[]->l.getLast?=some v->l'=l.dropLast->G)(k2:args=[.int (.ofNat 0)]->l=v::l'->G):G:=match args,e with
 | [],e=>oE e λ w hw e=>have z:=a1C e; k1 rfl (hw.trans (congrArg some z.1)) z.2.1.symm| [i],e=>gE e λ hi e=>by
   have hi:i=.int (.ofNat 0):=by
    cases i with
    | int j=>cases j with
      | ofNat m=>cases m with
        | zero=>rfl| succ=>exact nx2 hi
      | negSucc=>exact nx2 hi
    | _=>exact nx2 hi
   cases l with
   | nil=>exact nx0 e| cons w r=>have z:=a1C e; exact k2 (hi▸rfl) (by rw [z.1,z.2.1])
theorem a6K {xs:Array Value}{j:Nat}(h:j<xs.size):(xs.eraseIdxIfInBounds j).toList=xs.toList.eraseIdx j:=by unfold Array.eraseIdxIfInBounds;rw [dif_pos h,Array.toList_eraseIdx]
theorem c7P (R:Rl B Pr c){self:PV}{x:Value}(rx:VR B Pr c self x){vs:List PV}{xs:List Value}(rs:VRs B Pr c vs xs):Sm B Pr A c (a5Q .pop self vs) (call (.builtin "list.pop") (x::xs)) (VRel B):=
 b4q rx (t:=λ x=>call (.builtin "list.pop") (x::xs)) λ i a l v l' n hi hl e hn Q k=>a2i R hi hl λ ys m ga hzx ry=>d1D e
  (λ hv hg hl'=>by rw [hv] at rs;refine rs.nilE xs ?_;rw [List.getLast?_eq_getElem?,ry.len] at hg;refine (ry.get _ _ hg).elim λ y z=>?_;have hlt:=a0Q z.1;rw [hl'] at k;refine call_meets PySem.F.slot_list_pop ⟨_,ga,rfl⟩ PySem.F.entry_list_pop (PySem.F.args_list_pop_1 _) (PySem.MeetsSeq.list_pop_last a _ m y (by simpa using z.1) (by simpa using hzx)) ⟨ga,?_⟩;refine a6V R hi hl ga _ (xs':=ys.dropLast) ?_ (by rw [List.dropLast_eq_take,List.dropLast_eq_take,ry.len]; exact ry.take _) (by rw [List.length_dropLast,ry.len]; exact e0l (Nat.sub_le _ _) hzx) z.2 k;rw [a6K (by simpa using hlt)];simp)
  λ hv hl'=>by rw [hv] at rs;rw [hl'] at ry;refine rs.consE xs λ z zs rz rs=>rs.nilE zs (rz.intE z λ u=>?_);revert ga hzx;refine ry.consE ys λ y ys ry rys ga hzx=>?_;refine call_meets PySem.F.slot_list_pop ⟨_,ga,rfl⟩ PySem.F.entry_list_pop (PySem.F.args_list_pop_2 _ _) (PySem.MeetsSeq.list_pop_at a _ m (Int.ofNat 0) u 0 y (by decide) (by unfold seqIndex?; simp) (by simp) (by simpa using hzx)) ⟨ga,?_⟩;exact a6V R hi hl ga _ (xs':=ys) (by rw [a6K (by simp)]; rfl) rys (by rw [rys.len]; exact Nat.le_of_succ_le hzx) ry k
theorem b8R (hu:A.units + 24 < cLine)(R:Rl B Pr c)(mk:MK){self:PV}{x:Value}(rx:VR B Pr c self x){vs:List PV}{xs:List Value}(rs:VRs B Pr c vs xs) :
 Sm B Pr A c (a5Q mk self vs) (call (.builtin mk.id) (x::xs)) (VRel B):=by
 cases mk with
 | dget=>exact c2b hu R rx rs| append=>unfold a5Q;refine b4q rx (t:=λ x=>call (.builtin "list.append") (x::xs)) λ i a l v l' n hi hl e hn Q k=>?_;refine oE e λ w hw e=>a7x xs hw rs λ y ry=>?_;have z:=a1C e;rw [<- z.1,<- z.2.1] at k;exact a8S R hi hl ry (z.2.2▸hn) λ s' W=>k _ _ _ W .none| extend=>
   unfold a5Q;refine b4q rx (t:=λ x=>call (.builtin "list.extend") (x::xs)) λ i a l v l' n hi hl e hn=>?_;refine oE e λ w hw e=>oE e λ r hr e=>?_;have z:=a1C e;rw [<- z.1,<- z.2.1];have hz:=z.2.2.symm▸hn;refine a7x xs hw rs λ y ry=>ocE hr (λ m hm hr=>?_) λ _ hr=>?_
   · rw [a1s hm,sj hr] at ry;exact ry.tupE y λ b o ys nm g sq rs=>sq.eq.elim λ k zo=>a8R R (.inr rfl) hi hl (zo▸g) rs hz
   · exact a0r R y ry hr λ b ys k g _ rs=>a8R R (.inl rfl) hi hl g rs hz
 | insert=>unfold a5Q;refine b4q rx (t:=λ x=>call (.builtin "list.insert") (x::xs)) λ i a l v l' n hi hl e hn=>?_;refine oE e λ q hq e=>oE e λ k hk e=>oE e λ p hp e=>gE e λ hb e=>?_;have z:=a1C e;rw [<- z.1,<- z.2.1];have hz:=z.2.2.symm▸hn;refine d4I xs hq rs λ y1 y2 r1 r2=>?_;rw [a0c hk,a1Q hp] at r1;exact r1.intE y1 λ u=>b6i R hi hl p _ u rfl (e0t hb) r2 hz| pop=>exact c7P R rx rs| sort=>unfold a5Q;refine .up λ v H' n e hn=>?_;refine gE e λ hv e=>oE e λ p hp e=>oE e λ q hq e=>oE e λ b hb e=>oE hp λ i hi hp=>oE hp λ o ho hp=>oE hp λ l hl hp=>?_;have z:=a1C e;obtain rfl:=sj hp;rw [<- z.1,<- z.2.1];rw [b0A hv] at rs;rw [a2c hi] at rx;refine rs.nilE xs (rx.locE x λ a ha Q k=>?_);have h2:=b7l hq;refine b8L R (by lia) ha (ho.trans (congrArg some ((a1x hl).trans (congrArg PO.list h2)))) hb λ s' W=>k _ _ _ (by cases b <;> exact W) .none
end
theorem b2A:∀ {r:List (PV×PV)},b0D x l=some r->r.Perm (x::l):=by
 induction l with
 | nil=>exact fun {r} e=>sj e▸.refl _| cons y l ih=>intro r e;refine oE (show ob (d2A x.1 y.1) _=some r from e) λ b _ e=>bcE e (λ _ e=>sj e▸.refl _) λ _ e=>oE e λ z h2 e=>?_;rw [<- sj e];exact ((ih h2).cons y).trans (.swap x y l)
theorem b2z:∀ {acc r:List (PV×PV)},b8F acc l=some r->r.Perm (acc++l):=by
 induction l with
 | nil=>intro acc r e;rw [<- sj (show some acc=some r from e),e0k]| cons x l ih=>exact fun {acc r} e=>oE (show ob (b0D x acc) _=some r from e) λ a h e=>(ih e).trans (((b2A h).append_right l).trans List.perm_middle.symm)
theorem b3N (h:b8g z=true):∃ ks:List Int,z.map (·.1)=ks.map .int/\ks.Pairwise (· < ·):=by
 induction z with
 | nil=>exact ⟨[],rfl,.nil⟩| cons x r ih=>
   refine ocE (show oc (a0z x.1) _ false=true from h) (λ a ha h=>?_) λ _ h=>nx2 h;have h:=a0A h;refine (ih h.2).elim λ ks z=>⟨a::ks,by rw [e0v,e0v,a0c ha,z.1],List.pairwise_cons.mpr ⟨λ d hd=>?_,z.2⟩⟩
   cases ks with
   | nil=>exact absurd hd e0b| cons k ks=>cases r with
     | nil=>exact nomatch z.1| cons y r=>refine ocE h.1 (λ b hb hl=>?_) λ _ h=>nx2 h;have hk:k=b:=PV.int.inj ((List.cons.inj z.1).1.symm.trans (a0c hb));have hab:a<k:=hk▸of_decide_eq_true ((a0h a b).symm.trans hl);exact (e0d.mp hd).elim (λ e=>e▸hab) λ hd=>Int.lt_trans hab ((List.pairwise_cons.mp z.2).1 d hd)
theorem a2y (e:a4o l=some z):z.Perm l/\l.length<64 /\ ∃ ks:List Int,z.map (·.1)=ks.map .int/\ks.Pairwise (· < ·):=
 oE e λ z' h e=>gE e λ h2 e=>sj e▸⟨b2z h,e1B.mp (a0A h2).2,b3N (a0A h2).1⟩
theorem a2x {α:Type}:∀ {a b:List (Int×α)},a.Perm b->a.Pairwise (λ p q=>p.1 < q.1)->b.Pairwise (λ p q=>p.1 <= q.1)->b=a
 | [],b,p,_,_=>by rw [List.nil_perm.mp p]
 | x::a,b,p,ha,hb=>by
   cases b with
   | nil=>have:=p.length_eq; simp at this| cons y b=>
     rw [List.pairwise_cons] at ha hb;have hxy:y=x:=by
      have h1:y∈x::a:=p.mem_iff.mpr e0X;have h2:x∈y::b:=p.mem_iff.mp e0X;rcases e0d.mp h1 with h1 | h1
      · exact h1
      · rcases e0d.mp h2 with h2 | h2
        · exact h2.symm
        · have:=ha.1 y h1;have:=hb.1 x h2;lia
     subst hxy;rw [a2x (List.Perm.cons_inv p) ha.2 hb.2]
section
variable {B:Base}{mt:Addr->Prop}{ρ:List Addr}{h:Heap}
theorem b8u {l z:List (PV×PV)}(p:l.Perm z):∀ {vs:List Value}{ks:List Int},VRels B mt ρ h (l.map (·.2)) vs->l.map (·.1)=ks.map .int ->
 ∃ (vs':List Value) (ks':List Int),VRels B mt ρ h (z.map (·.2)) vs'/\z.map (·.1)=ks'.map .int/\(ks'.zip vs').Perm (ks.zip vs):=by
 induction p with
 | nil=>exact fun {vs ks} r e=>r.nilE vs ⟨[],ks,.nil,e,.refl _⟩| cons x p ih=>
   intro vs ks r e;cases ks with
   | nil=>exact nomatch e| cons k ks=>have e:=List.cons.inj e;exact r.consE vs λ y ys ry rs=>(ih rs e.2).elim λ vs' z=>z.elim λ ks' z=>⟨y::vs',k::ks',⟨ry,z.1⟩,congr (congrArg List.cons e.1) z.2.1,z.2.2.cons (k,y)⟩
 | swap x y l=>
   intro vs ks r e
   match ks,e with
   | [_],e=>exact nomatch (List.cons.inj e).2| k1::k2::ks,e=>have e1:=List.cons.inj e;have e2:=List.cons.inj e1.2;exact r.consE vs λ v1 vs r1 rs=>rs.consE vs λ v2 vs r2 rs=>⟨v2::v1::vs,k2::k1::ks,⟨r2,r1,rs⟩,congr (congrArg List.cons e2.1) (congr (congrArg List.cons e1.1) e2.2),List.Perm.swap (k1,v1) (k2,v2) (ks.zip vs)⟩
 | trans p q ih1 ih2=>exact fun {vs ks} r e=>(ih1 r e).elim λ vs' z=>z.elim λ ks' z=>(ih2 z.1 z.2.1).imp λ vs2 y=>y.imp λ ks2 y=>⟨y.1,y.2.1,y.2.2.trans z.2.2⟩
theorem b2y (e:a4o l=some z){kz:List Int}(r:VRels B mt ρ h (l.map (·.2)) vs)(hk:l.map (·.1)=kz.map .int)(ho:KskOut false kz vs out):VRels B mt ρ h (z.map (·.2)) out:=by
 obtain ⟨p,_,ks,h1,h2⟩:=a2y e;obtain ⟨vs',ks',g1,g2,g3⟩:=b8u p.symm r hk;obtain ⟨ps,q1,q2,q3⟩:=ho;have hks:ks'=ks:=by have:ks'.map PV.int=ks.map PV.int:=g2.symm.trans h1;exact List.map_inj_right (λ _ _ e=>PV.int.inj e) |>.mp this
 subst hks;have hlen:ks'.length=vs'.length:=by have e1:=congrArg e1k h1;have e2:=g1.length;simp at e1 e2;lia
 have hz:(ks'.zip vs').Pairwise (λ p q=>p.1 < q.1):=by
  have h3:((ks'.zip vs').map e1f).Pairwise (· < ·):=by rw [List.map_fst_zip (by lia)]; exact h2
  exact e1w.mp h3
 have hu:=a2x (g3.trans q1.symm) hz (by simpa using q3);rw [q2,hu,List.map_snd_zip (by lia)];exact g1
end
end
section
open PySem PySem.Calls PyProof.Rows
open Sem (wp)
open PySem.W (CodeHd tabObj kla_obj kla_codeExpr kla_callFunE kla_eval kla_makeFunctionHit)
theorem LamT.triples {mt:Addr->Prop}:∀ {l:List Value},LamT mt h q l->TriplesOk l
 | [],_=>trivial| _::_::_::rest,x=>by obtain ⟨⟨⟨i,t,rfl⟩,⟨j,u,rfl⟩,_⟩,x⟩:=x;exact LamT.triples (l:=rest) x
theorem LamT.among {mt:Addr->Prop}:∀ {l:List Value},LamT mt h q l->codeAmong pos l=some cv->IsCode mt h q cv
 | [],_,e=>nx0 e| _::_::y::rest,x,e=>by
   obtain ⟨⟨⟨i,t,rfl⟩,⟨j,u,rfl⟩,c⟩,x⟩:=x;unfold codeAmong at e;by_cases hc:(i==(pos.line:Int)&&j==(pos.col:Int))=true
   · rw [if_pos hc] at e; exact sj e▸c
   · rw [if_neg hc] at e; exact LamT.among (l:=rest) x e
theorem LamT.snoc {mt:Addr->Prop}{i j:Int}(hx:IsCode mt h q x):∀ {l:List Value},LamT mt h q l->LamT mt h q (l++[.int i t,.int j u,x])
 | [],_=>⟨⟨⟨i,t,rfl⟩,⟨j,u,rfl⟩,hx⟩,trivial⟩
 | _::_::_::rest,x=>⟨x.1,LamT.snoc (l:=rest) hx x.2⟩
theorem b3c (name qual) (p) (body) (scope) (env) (pos) (firstLine):makeFunction name qual ⟨[],[p],none,[],[],none,[]⟩ (.expr body) scope env [] [] [] pos firstLine=makeTail name qual ⟨[],[p],none,[],[],none,[]⟩ (.expr body) scope env .none .none none pos firstLine:=makeFunction_eq ..
theorem b7M (x:CodeHd h c P):∃ o vs,h.get? c=some o/\o.cls=.type "code" /\ o.data=.fields vs/\vs[11]?=some (.ref P):=
 x.elim λ o x=>x.elim λ vs x=>x.elim λ _ x=>x.elim λ _ x=>x.elim λ _ x=>x.elim λ _ x=>x.elim λ _ x=>x.elim λ _ x=>x.elim λ _ x=>⟨o,vs,x.1,x.2.1,x.2.2.1,x.2.2.2.1⟩
theorem c1O {h h':Heap}(e:h'.get? c=h.get? c)(x:CodeHd h c P):CodeHd h' c P:=by unfold CodeHd;rw [e];exact x
section
variable {M:Model}{A:Around}{E:Value->Shared->Prop}{s:Shared}{name qual:Str}{p:Arg}{body:Expr}{scope:Scope}{env:Env}{c P:Addr}{ps:Array Value}{pos:Pos}{firstLine:Nat}{mg:Str->Option Value}{Q:Value->Shared->Prop}
theorem c3W (hcl:closureFor scope env=pure [])(hge0:env.globals=mainGlobals)(hg:s.heap.Ns mainGlobals mg)(hcode:env.code=.ref c)(C:CodeHd s.heap c P)(hP:s.heap.get? P=some (tabObj ps))(ht:TriplesOk ps.toList)
 (hnf:codeAmong pos ps.toList=none) (hgP:mainGlobals≠P) (hb:s.heap.BuiltinsAt mg P)
 (h:∀ c' oc vs t pm h' tk,Heap.ExtBut P s.heap h'->s.heap.objs.size <= c'->h'.get? c'=some oc->oc.cls=.type "code" -> oc.data=.fields vs->vs[1]?=some (.str qual t)->h'.get? P=some (tabObj (ps++#[rawInt pos.line,rawInt pos.col,.ref c'])) ->
   s.heap.objs.size<=h'.objs.size->Q (.ref h'.objs.size) { s with heap:=h'.push (kla_obj name qual ⟨[],[p],none,[],[],none,[]⟩ body scope [] pm c' .none),toks:=tk }) :
 wpAny M A (makeFunction name qual ⟨[],[p],none,[],[],none,[]⟩ (.expr body) scope env [] [] [] pos firstLine) Q E s:=by
 obtain ⟨bm,ob,hbm,hne0,_,hneP,hbo,hcls,hdict,hdata⟩:=hb;rw [b3c];unfold makeTail;rw [hcl,hge0];refine wpAny_bind (wpAny_pure ?_);dsimp only;rw [if_pos (show ([]:List (Str×Addr)).isEmpty=true from rfl)];refine wpAny_bind (wpAny_pure ?_);refine wpAny_bind (wpAny_functionCodeX hcode (C.code hP ht) (C.tab hP) hnf λ c' h' tk hx hge hlt _ hrec htb hnew=>?_);have hg':=hg.extBut hx hgP;refine wpAny_bind (wpAny_builtinsFor hg' hbm hne0 (hx _ _ hneP hbo) hcls hdict hdata ?_);refine wpAny_bind (wpAny_nsGet hg' ?_);obtain ⟨c2,oc,vs,t,e2,hoc,hd,hv⟩:=hrec;obtain rfl:=Value.ref.inj e2;obtain ⟨P',_,_,⟨o3,vs3,g1,g2,g3,_⟩,_⟩:=hnew;obtain rfl:=sj (hoc.symm.trans g1);exact wpAny_bind (wpAny_pure (wpAny_newObj_type (h c' oc vs t _ h' tk hx hge hoc g2 hd hv htb.2 (by have:=e1d hlt; exact e0l hge this)) (by size_fits)))
end
inductive LamAt (B:Base)(mt:Addr->Prop)(h:Heap)(params:Arguments)(body:Expr)(sc:Scope)(f:Addr):Prop
 | mk (o:Obj) (fd:FuncData) (g:h.get? f=some o) (nm:¬ mt f) (hd:o.data=.func fd) (h1:fd.params=params) (h2:fd.body=.expr body) (h3:fd.scope=sc) (h4:fd.globals=B.gA) (h5:fd.builtins=B.bA) (h7:fd.defaults=.none) (hv:IsCode mt h fd.qualname fd.code)
theorem LamAt.mono {mt mt':Addr->Prop}(x:LamAt B mt h params body sc f)(C:Carry mt mt' ρ ρ' h h'):LamAt B mt' h' params body sc f:=by
 cases x with
 | mk o fd g nm hd h1 h2 h3 h4 h5 h7 hv=>have z:=C.obj f o nm g (.inl λ vs e=>nomatch hd.symm.trans e);exact ⟨o,fd,z.1,z.2,hd,h1,h2,h3,h4,h5,h7,hv.mono C⟩
section
variable {B:Base}{n:Nat}{r:Rc}{ae:AEnv}{env:Env}{Pr:Addr->Prop}{A:Around}{ρ:List Addr}{H:List PO}{st:St}{s:Shared}
theorem Went.table (R:Rel B Pr ρ H s.heap){i j:Int} (t)(hl:B.lam P=some q)(ct:isCodeTable B.hB P)(hP:s.heap.get? P=some (tabObj ps))(L:LamT (a0G Pr ρ H) s.heap q ps.toList)
 (x:Heap.ExtBut P s.heap h') (hP':h'.get? P=some (tabObj (ps++#[.int i u,.int j v,.ref c']))) (hc:s.heap.get? c'=none) {oc:Obj} (gc:h'.get? c'=some oc) (hcc:oc.cls=.type "code") (hcd:oc.data=.fields vs) (hv:vs[1]?=some (.str q tq)) :
 Went B Pr ρ H s ρ H { s with heap:=h',toks:=t }/\Carry (a0G Pr ρ H) (a0G Pr ρ H) ρ ρ s.heap h':=by
 obtain ⟨⟨oP,hoP⟩,_⟩:=R.tabs P q hl;have K2:b2n B (λ _=>False) s.heap h':=λ b o _ e=>by
  by_cases hb:b=P
  · subst hb;obtain rfl:=sj (hP.symm.trans e);exact .inr ⟨ct,rfl,ps,_,rfl,hP'⟩
  · exact .inl (x b o hb e)
 have C:Carry (a0G Pr ρ H) (a0G Pr ρ H) ρ ρ s.heap h':=⟨λ a o nm e f=>⟨x a o (λ z=>by subst z;obtain rfl:=sj (hP.symm.trans e);exact f.elim (λ f=>f _ rfl) λ f=>f rfl) e,nm⟩,λ _ _ e=>e⟩
 have notP:∀ b,B.hB.get? b=none->b ≠ P:=λ b hb z=>nx1 (hoP.symm.trans (z▸hb));refine ⟨⟨⟨_,_,rfl⟩,⟨[],by simp,by simp⟩,?_,K2.mono λ _ z=>z.elim,λ i o _ e l=>⟨o,e,l⟩⟩,C⟩;exact
  { base:=R.base.trans K2 λ _ _ _ z=>z
    len:=R.len
    nodup:=R.nodup
    prl:=λ a p=>⟨(R.prl a p).1.imp λ o e=>x a o (notP a (R.prl a p).2) e,(R.prl a p).2⟩
    away:=R.away
    tabs:=λ P2 q2 e2=>by
     by_cases hp:P2=P
     · subst hp;rw [hl] at e2;cases e2;refine ⟨⟨oP,hoP⟩,_,hP',?_⟩;have h1:(ps++#[Value.int i u,.int j v,.ref c']).toList=ps.toList++[.int i u,.int j v,.ref c']:=by simp
       rw [h1];exact LamT.snoc ⟨c',oc,vs,tq,rfl,R.fresh hc,gc,hcc,hcd,hv⟩ (L.mono C)
     · obtain ⟨o2,ps2,g2,l2⟩:=R.tabs P2 q2 e2;exact ⟨o2,ps2,x P2 _ hp g2,l2.mono C⟩
    real:=λ k o a e1 e2=>(R.real k o a e1 e2).mono C λ ob e=>x a ob (notP a (R.away a (e0s e2)).2) e }
theorem a8A (h:b9P l=true):∀ x∈l,x.2≠.free:=by
 induction l with
 | nil=>exact λ x m=>absurd m e0b| cons y l ih=>refine λ x m=>(e0d.mp m).elim (λ z e=>?_) (ih (a0A h).2 x);have h:=(a0A h).1;rw [<- z,e] at h;exact nx2 h
theorem a8m (h:b7B sc=true):sc.kind=.function/\(∀ x∈sc.names,x.2≠.free)/\sc.isGenerator=false/\sc.isCoroutine=false:=
 have h2:=a0A (a0A h).2;have h3:=a0A h2.2
 ⟨(a5z (a0A h).1).1,a8A h2.1,a3D h3.1,a3D h3.2⟩
theorem b6h (BO:BaseOK2 B)(V:EnvOK B ae env ρ)(ht:ae.top=true)(R:Rel B Pr ρ H s.heap)(hsc:b7B sc=true){Q:Value->Shared->Prop}
 (h:∀ f s',Went B Pr ρ H s ρ H s'->LamAt B (a0G Pr ρ H) s'.heap ⟨[],[p],none,[],[],none,[]⟩ body sc f->Q (.ref f) s'):wpAny (Mo B.w) A (eval (.Lambda ⟨[],[p],none,[],[],none,[]⟩ body sc pos) env) Q E0 s:=by
 obtain ⟨hk,hfree,hgen,hco⟩:=a8m hsc;obtain ⟨c,P,hcode,hch,hlam⟩:=V.lam ht;obtain ⟨hgA,hbA,mg,hg,bm,ob,b1,b2,b3,b4,b5,b6,b7⟩:=BO.main;obtain ⟨⟨oP,hoP⟩,ps,hP,L⟩:=R.tabs P _ hlam;have hg':s.heap.Ns mainGlobals mg:=R.oldNs hg;have hb':s.heap.get? bm=some ob:=R.old b4 λ vs e=>nomatch b7.symm.trans e;obtain ⟨oC,vsC,c1,c2,c3,c4⟩:=b7M hch;have hC:CodeHd s.heap c P:=c1O ((R.carry0.obj c oC (λ x=>x) c1 (.inr (by rw [c2]; exact nofun))).1.trans c1.symm) hch;have ct:isCodeTable B.hB P:=⟨c,oC,vsC,c1,c2,c3,c4⟩
 have hbP:bm≠P:=λ z=>by obtain rfl:=sj (hP.symm.trans (z▸hb'));exact nomatch b5
 have hgP:mainGlobals≠P:=λ z=>by obtain ⟨o,es,ep,e,hd,_⟩:=hg';obtain rfl:=sj (hP.symm.trans (z▸e));exact nomatch hd
 have hge:env.globals=mainGlobals:=V.g.trans hgA;have hBt:s.heap.BuiltinsAt mg P:=⟨bm,ob,b1,b2,b3,hbP,hb',b5,b6,b7⟩
 refine kla_eval rfl ?_;have hcl:closureFor sc env=pure []:=closureFor_none hfree;cases hf:codeAmong pos ps.toList with
 | none=>refine c3W hcl hge hg' hcode hC hP (LamT.triples L) hf hgP hBt λ c' oc vs t pm h' tk hx hge' hoc hcc hcd hv hP' hsz=>?_;have hfresh:s.heap.get? c'=none:=Heap.get?_none_of_le hge';have W:=(Went.table R s.toks hlam ct hP L hx hP' hfresh hoc hcc hcd hv).1;refine h _ _ (W.more tk λ b o e=>Heap.get?_push_of_some _ e) ?_;have hff:¬ a0G Pr ρ H h'.objs.size:=R.fresh (Heap.get?_none_of_le hsz);exact ⟨_,_,Heap.get?_push_size _ rfl,hff,rfl,rfl,rfl,rfl,hgA.symm,hbA.symm,rfl,c',oc,vs,t,rfl,R.fresh hfresh,Heap.get?_push_of_some _ hoc,hcc,hcd,hv⟩| some cv=>refine kla_makeFunctionHit hcl hge hg' hcode hC hP (LamT.triples L) hf hBt λ _ h' tk kk hsz=>?_;have W:=λ o=>(e2s R).more (h:=h'.push o) tk λ b _ e=>Heap.get?_push_of_some _ (kk b _ e);exact h _ _ (W _) ⟨_,_,Heap.get?_push_size _ rfl,R.fresh (Heap.get?_none_of_le hsz),rfl,rfl,rfl,rfl,hgA.symm,hbA.symm,rfl,(LamT.among L hf).mono ((W _).carry R)⟩
theorem b3F (BO:BaseOK2 B)(K:RcOK B n r)(Ro:∀ e,Room n (A.deeper e))(hd:A.depth < recursionLimit)(R:Rl B Pr c0)(hsc:b7B sc=true)(L:LamAt B (c0.mt Pr) c0.s.heap ⟨[],[p],none,[],[],none,[]⟩ body sc f)
 (rx:VR B Pr c0 x vx):Sm B Pr A c0 (Ev.bind (enter false sc [] [(p.arg,x)]) λ le=>r.e body le) (call (.ref f) [vx]) (VRel B):=λ v st' e Q k=>by
  obtain ⟨hk,hfree,hgen,hco⟩:=a8m hsc;obtain ⟨o,fd,g,nm,hd',h1,h2,h3,h4,h5,h7,hv⟩:=L;refine wpAny_call (kla_callFunE hd g hd' (by rw [h3]; exact hco) (by rw [h3]; exact hgen) h2 (hv.imp λ c q=>q.imp λ oc q=>q.imp λ vs q=>q.imp λ t q=>⟨q.1,q.2.2.1,q.2.2.2.2⟩) ?_);refine a1t h1 (ps:=[p.arg]) rfl (by simp) (dv:=[]) (λ Q' hq=>?_) (by simp) (by simp) (by simp) ?_
  · rw [h7];exact wpAny_bind (wpAny_pure (wpAny_pure (hq none rfl)))
  · refine (a6n (A:=A.in1) R (by rw [h3]; exact hk) (clos:=[]) (cl:=fd.closure) (λ x i e=>nx0 e) (l:=[(p.arg,x)]) (m:=[(p.arg,vx)]) ⟨⟨rfl,rx⟩,trivial⟩ h4 (by exact h5) (top:=false) (around:=none) (code:=fd.code) (λ h=>nx2 h)).then (by rw [h3]; exact e) λ ae c1 env e1 W1 V=>?_;obtain ⟨V1,hs1,L1,cs,henv⟩:=V;refine ⟨W1.rel.noLimit BO.nolimit,kla_codeExpr ?_⟩;exact wpAny_mono ((K.e body ⟨Ro _,V1,W1.rel⟩).last e1 R W1 k) (λ _ _ h=>h) λ _ _ h=>h.elim
end
end
section
open PySem PySem.Calls PyProof.Rows
open Sem (wp)
open PySem.W (kdl_dict kdu_collect)
theorem a8u:∀ {l:List Value}{is:List Int},l.length=is.length->(∀ (j:Nat)(v:Value),l[j]?=some v->∃ k t,is[j]?=some k /\ v=.int k t)->IntsAre l is
 | [],[],_,_=>.nil| v::l,i::is,h,H=>by obtain ⟨k,t,e1,rfl⟩:=H 0 v rfl;obtain rfl:=sj e1;exact .cons _ _ (a8u (Nat.succ.inj h) λ j w hj=>H (j+1) w hj)
theorem b3l {a b:List Int}(p:a.Perm b)(ha:a.Pairwise (· < ·))(hb:b.Pairwise (· <= ·)):b=a:=by have h1:(a.map λ i=>(i,())).Perm (b.map λ i=>(i,())):=p.map _;have h2:=a2x h1 (e1w.mpr ha) (e1w.mpr hb);have h3:=congrArg (List.map e1f) h2;simpa [e1H,Function.comp_def] using h3
section
variable {B:Base}{n:Nat}{r:Rc}{ae:AEnv}{env:Env}{Pr:Addr->Prop}{A:Around}{ρ:List Addr}{st:St}{s:Shared}
theorem b1x {mt:Addr->Prop}:∀ {vs:List Value}{ns:List Int},IntsAre vs ns->VRels B mt ρ h (ns.map .int) vs
 | _,_,.nil=>.nil| _,_,.cons n t x=>.cons _ _ _ _ (.int n t) (b1x x)
theorem b3C (hh:A.handled=none)(R:Rl B Pr c)(rx:VRs B Pr c vs xs):Sm B Pr A c (b2Z .sorted vs) (call (.builtin "sorted") xs) (VRel B):=λ u st' e Q kq=>e.rdT λ l f1 e=>by
 obtain ⟨H',m,f,hm,rfl⟩:=e.up;have zz:=a1C f;rw [<- zz.1,<- zz.2.1] at kq;clear zz f e hm;refine oE f1 λ v hv f1=>oE f1 λ p hd f1=>gE f1 λ hk f1=>oE f1 λ z hz f2=>a7x xs hv rx λ x rv=>a1j R x rv hd λ d es k g nd ns er=>?_;obtain ⟨ks,vs⟩:=p;obtain ⟨is,rfl⟩:=a6Z B.w ks hk;rw [<- sj f2] at kq;clear f2 hk hd rv;refine (a4h (b1z B) g nd er).elim λ kvs q=>?_;obtain ⟨D,q⟩:=q;have hkeys:kvs.map (·.1)=is:=q.keys;obtain ⟨ep,hat⟩:=D.dictAt;obtain ⟨zp,z64,zk,zk1,zk2⟩:=a2y hz;have hlen:kvs.length=is.length:=by rw [<- hkeys]; simp
 have h64:is.length<64:=by simpa using z64
 have lo:(d==sysModules)=false:=by simpa using ns
 refine call_function_entry kind_sorted plain_sorted entry_sorted (args_sorted1 _) ?_;unfold Builtin.«sorted»;refine wpAny_bind (m:=checkCount "sorted" 1 1 _) (wpAny_pure ?_);refine wpAny_bind (kdu_collect (A:=A.in1) (kdl_dict (knd:=intKind prg B.w) (kvs:=kvs) (ep:=ep) lo) hh hat (by rw [hlen,sizeLine_eq]; lia) λ h' tk acc hkp hacc=>?_);have hI:IntsAre acc.toList is:=by refine a8u (by rw [e2a,hacc.1,hlen]) λ j w hj=>?_;obtain ⟨k,xv,hx,hkk⟩:=hacc.2 j w (by rw [<- Array.getElem?_toList]; exact hj);exact ((c6H (B:=B) Mt0 [] c.s.heap k w).mpr hkk).intE w λ t=>⟨k,t,by rw [<- hkeys,List.getElem?_map,hx]; rfl,rfl⟩
 refine wpAny_bind (wpAny_newList ?_ (by rw [hI.length,sizeLine_eq]; lia));have hoL:(h'.push { cls:=.type "list",data:=.seq acc.toList.toArray }).get? h'.objs.size=some (PyProof.Rows.seqObj "list" acc.toList.toArray 0):=Heap.get?_push_size _ rfl;refine wpAny_bind (wpAny_holding (wpAny_call_entry slot_list_sort ⟨_,hoL,rfl⟩ entry_list_sort (list_sort_tree hoL hI (by rw [hI.length]; exact h64) λ out ns' a1 a2 a3=>⟨_,rfl,?_⟩) (args_list_sort _)));refine wpAny_pure ⟨_,rfl,?_⟩;have hzk:z.map (·.2)=zk.map .int:=by rw [<- zk1];refine e2j λ p hp=>?_;exact (e0e.mp (zp.mem_iff.mp hp)).elim λ k q=>q.2▸rfl
 have hperm:zk.Perm ns':=by
  have h1:(z.map (·.1)).Perm ((List.map (λ k=>(k,k)) (is.map (a3I B.w).conv)).map (·.1)):=zp.map _;rw [zk1,e1H] at h1;have h2:(List.map ((λ x:PV×PV=>x.fst)∘λ k=>(k,k)) (is.map (a3I B.w).conv))=is.map PV.int:=by rw [e1H]; rfl
  rw [h2] at h1;have h3:zk.Perm is:=by have:=h1.map λ v=>(a0z v).getD 0;rw [e1H,e1H,show (λ v=>(a0z v).getD 0)∘PV.int=id from rfl,List.map_id,List.map_id] at this;exact this
  exact h3.trans a2.symm
 have hns:ns'=zk:=b3l hperm zk2 a3;subst hns;have kept:∀ b o,c.s.heap.get? b=some o->(sortedHeap (h'.push { cls:=.type "list",data:=.seq acc.toList.toArray }) h'.objs.size acc.toList out).get? b=some o:=λ b o q=>by have h1:=hkp b o q;rw [sortedHeap_old (e1q (Heap.lt_size h1)) (by rw [size_push']; exact Nat.lt_succ_of_lt (Heap.lt_size h1))];exact Heap.get?_push_of_some _ h1
 obtain ⟨cc,hout⟩:=sortedHeap_at (out:=out) hoL;have fr:c.s.heap.get? h'.objs.size=none:=by
  cases q:c.s.heap.get? h'.objs.size with
  | none=>rfl| some o=>exact absurd (Heap.lt_size (hkp _ _ q)) (Nat.lt_irrefl _)
 have hol:out.toList.length<=sizeLine:=by rw [a1.length,hperm.symm.length_eq,a2.symm.length_eq.symm,sizeLine_eq] <;> lia
 rw [hzk] at kq;refine kq (c.ρ++[h'.objs.size]) _ _ (Went.news R (e2s R) tk (as:=[h'.objs.size]) (Ps:=[.list (ns'.map .int)]) rfl (e1D.mpr ⟨e0b,e1Q⟩) (λ a ha=>e0u.mp ha▸fr) kept (λ i P a hP ha=>?_)) (.loc _ _ (by rw [<- R.len]; simp));cases i with
 | zero=>rw [<- sj hP,<- sj ha]; exact .list _ _ _ out.toList hout (.mk' hol _) (b1x a1)| succ i=>exact nx0 hP
end
end
section
set_option maxHeartbeats 4000000
open PySem PySem.Calls PyProof.Rows
open Sem (wp)
section
variable {prog:Program}{w:World}{A:Around}{E:Value->Shared->Prop}{s:Shared}{a kS:Addr}{vs:List Value}{kz:List Int}{keys:Array Value}{e e1:Nat}{P:PySem.Fin->Shared->Prop}
theorem b5X {st:SortSt}(hkS:s.heap.get? kS=some (PyProof.Rows.seqObj "list" keys e)) (ha:s.heap.get? a=some (PyProof.Rows.seqObj "list" #[] e1)) (hka:kS ≠ a) (hk:IntsAre keys.toList kz) (hlen:kz.length=vs.length) (h64:vs.length < 64)
 (hp:(arrOf st).Perm (keys.zip vs.toArray)) (hs:SortedTo (arrOf st) (arrOf st).size) (hfl:failedOf st=none)
 (h:∀ h' out c,(∀ b o,b≠kS->b≠a->s.heap.get? b=some o->h'.get? b=some o)->h'.get? a=some (PyProof.Rows.seqObj "list" out c)->KskOut b kz vs out.toList->P (.done (.ret .none)) { s with heap:=h' }) :
 wpAny (model prog w) A (ksk_tail a b e1 (.ref kS) st) P E s:=by
 have hsz:keys.size=vs.length:=by have h1:=hk.length;rw [e2a] at h1;lia
 have hsz2:(arrOf st).size=vs.length:=by rw [hp.size_eq,Array.size_zip,hsz,e1l,e2E]
 have hout:(if b then ((arrOf st).map (·.2)).reverse else (arrOf st).map (·.2)).size=vs.length:=by
  cases b with
  | false=>simp only [e2U,if_false,Array.size_map]; exact hsz2| true=>simp only [if_true,Array.size_reverse,Array.size_map]; exact hsz2
 have s1:=Heap.SameBut.update s.heap kS (Obj.mapSeq λ _=>(#[]:Array Value));have na1:(s.heap.update kS (Obj.mapSeq λ _=>(#[]:Array Value))).get? a=some (PyProof.Rows.seqObj "list" #[] e1):=(s1.2 a hka.symm).trans ha;have s2:=Heap.SameBut.update (s.heap.update kS (Obj.mapSeq λ _=>(#[]:Array Value))) a (Obj.mapSeq λ _=>if b then ((arrOf st).map (·.2)).reverse else (arrOf st).map (·.2));have hc2:=get?_update_seq na1 (λ _=>if b then ((arrOf st).map (·.2)).reverse else (arrOf st).map (·.2));unfold ksk_tail
 try dsimp only
 refine wpAny_bind (listUpdate_at hkS rfl ?_ (by rw [hsz,sizeLine_eq]; lia) (e0q _));refine wpAny_bind (wpAny_letGo ?_);refine wpAny_bind (seqEpoch_at na1 rfl ?_);refine wpAny_bind (listUpdate_at na1 rfl ?_ (e0q _) (e0l (e1L hout) (by rw [sizeLine_eq]; lia)));rw [hfl];simp only [bne_self_eq_false,e2U,if_false];exact wpAny_pure (h _ _ _ (λ b o h1 h2 q=>(s2.2 b h2).trans ((s1.2 b h1).trans q)) hc2 (ksk_out hk hp hs))
theorem c8X (hkS:s.heap.get? kS=some (PyProof.Rows.seqObj "list" keys e)) (ha:s.heap.get? a=some (PyProof.Rows.seqObj "list" #[] e1)) (hka:kS ≠ a) (hk:IntsAre keys.toList kz) (hlen:kz.length=vs.length) (h64:vs.length < 64)
 (h:∀ h' out c,(∀ b o,b≠kS->b≠a->s.heap.get? b=some o->h'.get? b=some o)->h'.get? a=some (PyProof.Rows.seqObj "list" out c)->KskOut b kz vs out.toList->P (.done (.ret .none)) { s with heap:=h' }) :
 wpAny (model prog w) A (ksk_end a b vs.toArray e1 (.ref kS) keys) P E s:=by
 have hsz:keys.size=vs.length:=by have h1:=hk.length;rw [e2a] at h1;lia
 have hzs:(keys.zip vs.toArray).size=vs.length:=by rw [Array.size_zip,hsz,e1l,e2E]
 have step:∀ t:Sem PySem.Fin,wpAny (model prog w) A t P E s->wpAny (model prog w) A (if b=true then (do let _ <- rule "list.sort.reverse"; t) else t) P E s:=by
  intro t ht;split
  · exact wpAny_bind (wpAny_rule ht)
  · exact ht
 have hstart:(if b=true then (keys.zip vs.toArray).reverse else keys.zip vs.toArray).Perm (keys.zip vs.toArray):=by
  cases b with
  | false=>exact Array.Perm.refl _| true=>exact Array.perm_iff_toList_perm.mpr (by rw [if_pos rfl,Array.toList_reverse]; exact List.reverse_perm _)
 unfold ksk_end
 try dsimp only
 refine step _ ?_;by_cases h2:vs.toArray.size<2
 · rw [if_pos h2,if_pos h2];refine wpAny_bind (wpAny_pure ?_);rw [StateT.run_pure];refine wpAny_bind (wpAny_pure ?_)
   try dsimp only
   refine b5X (st:=SortSt.mk' general' (if b=true then (keys.zip vs.toArray).reverse else keys.zip vs.toArray) #[] 7 none) hkS ha hka hk hlen h64 hstart ?_ rfl h;intro i j hij hj;have hj2:j<(if b=true then (keys.zip vs.toArray).reverse else keys.zip vs.toArray).size:=hj;rw [hstart.size_eq,hzs] at hj2;rw [e1l] at h2;have:i=j:=by lia
   subst this;exact Int.le_refl _
 · rw [if_neg h2,if_neg h2];rw [e1l] at h2;rw [ksk_kind hk (by rw [hsz]; lia)];refine wpAny_bind (wpAny_pure ?_);refine wpAny_bind (wpAny_mono (wpS_sortRuns (a₀:=keys.zip vs.toArray) (st:=SortSt.mk' oneType' (if b=true then (keys.zip vs.toArray).reverse else keys.zip vs.toArray) #[] 7 none)
    (Q:=λ _ st'=>(arrOf st').Perm (keys.zip vs.toArray)/\failedOf st'=none/\SortedTo (arrOf st') (keys.zip vs.toArray).size)
    (ksk_intKeys hk) ⟨hstart,rfl,rfl,rfl⟩ (by rw [hzs]; lia) (by rw [hzs]; exact h64) λ st' a1 a2 a3=>⟨a1,a2,a3⟩) ?_ λ _ _ e=>e)
   rintro ⟨⟨⟩,st'⟩ s' ⟨rfl,hp,hf,hs⟩
   try dsimp only
   exact b5X hkS ha hka hk hlen h64 hp (by rw [hp.size_eq]; exact hs) hf h
end
section
variable {B:Base}{n:Nat}{r:Rc}{ae:AEnv}{env:Env}{Pr T:Addr->Prop}{A:Around}{ρ ρ1:List Addr}{H H1:List PO}{st:St}{s s1:Shared}{h h':Heap}
theorem Carry.adoptT (R1:Rel B (PrT Pr T) ρ1 H1 h)(ta:T a)(k:∀ b o,¬ T b->h.get? b=some o->h'.get? b=some o):Carry (a0G (PrT Pr T) ρ1 H1) (a0G Pr (ρ1++[a]) (H1++[P])) ρ1 (ρ1++[a]) h h':=
 ⟨λ c q nn e _=>
  have hc:¬ T c:=λ z=>nn (.inl (.inr z))
  ⟨k c q hc e,λ m=>m.elim (λ m=>nn (.inl (.inl m))) λ m=>(m.append R1.len).elim (λ m=>nn (.inr m)) λ m=>hc (m▸ta)⟩,λ i x e=>(List.getElem?_append_left (a0Q e)).trans e⟩
theorem Went.adoptT (W:Went B (PrT Pr T) ρ H s ρ1 H1 s1)(hl:ρ.length=H.length) (t)(dj:∀ a,T a->¬ Pr a)(fr:∀ a,T a->s.heap.get? a=none)(ta:T a)(k:∀ b o,¬ T b->s1.heap.get? b=some o->h'.get? b=some o)
 (hr:Real B (a0G Pr (ρ1++[a]) (H1++[P])) (ρ1++[a]) h' P a):Went B Pr ρ H s (ρ1++[a]) (H1++[P]) { s1 with heap:=h',toks:=t }:=
 have R1:=W.rel;have C:=Carry.adoptT (P:=P) R1 ta k;have nT:∀ b o,B.hB.get? b=some o->¬ T b:=λ b o q tb=>nx1 (q.symm.trans (R1.prl b (.inr tb)).2)
 { same:=W.same.elim λ h e=>e.elim λ tk e=>⟨h',t,by rw [e]⟩
   ext:=W.ext.elim λ more e=>⟨more++[a],by rw [e.1,e0h],λ b hb=>(e1E.mp hb).elim (e.2 b) λ hb=>e0u.mp hb▸fr a ta⟩
   rel:=
    { base:=R1.base.ext λ b o _ e q=>(e2m.mp q).elim λ o' q=>k b o (nT b o' q) e
      len:=by rw [e0a,e0a,R1.len]; rfl
      nodup:=e1n.mpr ⟨R1.nodup,e1D.mpr ⟨e0b,e1Q⟩,λ x hx y hy e=>(R1.away a ((e.trans (e0u.mp hy))▸hx)).1 (.inr ta)⟩
      prl:=λ b p=>⟨(R1.prl b (.inl p)).1.imp λ o e=>k b o (λ tb=>dj b tb p) e,(R1.prl b (.inl p)).2⟩
      away:=λ b hb=>(e1E.mp hb).elim (λ hb=>⟨λ p=>(R1.away b hb).1 (.inl p),(R1.away b hb).2⟩) λ hb=>e0u.mp hb▸⟨dj a ta,(R1.prl a (.inr ta)).2⟩
      tabs:=R1.tabs.mono C λ P o o' hP e=>k P o (nT P o' hP) e
      real:=λ j o b e1 e2=>(e1A j ρ1.length).elim
       (λ hj=>
         have e2:=(List.getElem?_append_left hj).symm.trans e2
         (R1.real j o b ((List.getElem?_append_left (R1.len▸hj)).symm.trans e1) e2).mono C λ ob e=>k b ob (λ tb=>(R1.away b (e0s e2)).1 (.inr tb)) e)
       λ hj=>by
        have e2:=(List.getElem?_append_right hj).symm.trans e2;have e1:=(List.getElem?_append_right (R1.len▸hj)).symm.trans e1;rw [R1.len] at e2;generalize j-H1.length=m at e1 e2;cases m with
        | zero=>rw [<- sj e1,<- sj e2]; exact hr| succ=>exact nx0 e1 }
   keep:=W.keep.ext λ b o _ e z=>k b o (λ tb=>nx2 ((congrArg e2L (fr b tb)).symm.trans z)) e
   live:=λ i o hi e l=>W.live i o hi ((List.getElem?_append_left (e1j hi (W.len' hl))).symm.trans e) l }
end
end
section
open PySem PySem.Calls PyProof.Rows
open Sem (wp)
section
variable {B:Base}{n:Nat}{r:Rc}{ae:AEnv}{Pr T:Addr->Prop}{A:Around}{c0:Cf}{a kS:Addr}
theorem Ran.mk {α β:Type}{m:Ev α}{f:α->Ev β}{st st1 st2:St}{a:α}{b:β}(h1:Ran B m st a st1)(h2:Ran B (f a) st1 b st2):Ran B (Ev.bind m f) st b st2:=
 h1.elim λ o1 x=>h2.elim λ o2 y=>⟨o1.add o2,a2b.trans (by rw [x.1]; show ob (f a st1) _=_; rw [y.1]; rfl),λ z hz=>(d7Q hz).elim (x.2.1 z) (y.2.1 z),c5o x.2.2 y.2.2⟩
theorem c3Z (BO:BaseOK2 B)(K:RcOK B n r)(Ro:∀ e,Room n (A.deeper e))(hd:A.depth < recursionLimit)(hsc:b7B sc=true)(hl0:c0.ρ.length=c0.st.H.length)(fr:∀ b,T b->c0.s.heap.get? b=none)
 (tS:T kS) (ta:T a) (hka:kS≠a) (e1) {bd:Value->PUnit->Sem (ForInStep PUnit)}
 (hbd:∀ (x:Value) (s:Shared) (Q:ForInStep PUnit->Shared->Prop),wpAny (Mo B.w) A (call (.ref f) [x]) (λ k s'=>wpAny (Mo B.w) A (Builtin.List.listUpdate (.ref kS) (·.push k)) (λ _ s''=>Q (.yield ⟨⟩) s'') E0 s') E0 s->wpAny (Mo B.w) A (bd x ⟨⟩) Q E0 s) :
 ∀ {vs:List Value} {c:Cf} {kA:Array Value} {e:Nat} {ks:List (PV×PV)} {kz:List Int},Wt B (PrT Pr T) c0 c->VRs B (PrT Pr T) c l vs->LamAt B (c.mt (PrT Pr T)) c.s.heap ⟨[],[p],none,[],[],none,[]⟩ body sc f ->
   c.s.heap.get? kS=some (PyProof.Rows.seqObj "list" kA e)->c.s.heap.get? a=some (PyProof.Rows.seqObj "list" #[] e1)->IntsAre kA.toList kz->Ran B (a6C r ae p.arg sc body l) c.st ks st'->(∀ x∈ks,∃ i,x.1=.int i)->kz.length+l.length<64 ->
   ∀ {Q:PUnit->Shared->Prop},(∀ ρ' s' kA' e' is,Wt B (PrT Pr T) c0 ⟨ρ',st',s'⟩->Carry (c.mt (PrT Pr T)) (a0G (PrT Pr T) ρ' st'.H) c.ρ ρ' c.s.heap s'.heap->s'.heap.get? kS=some (PyProof.Rows.seqObj "list" kA' e')->s'.heap.get? a=some (PyProof.Rows.seqObj "list" #[] e1) ->
     ks.map (·.1)=is.map .int->ks.map (·.2)=l->IntsAre kA'.toList (kz++is)->Q ⟨⟩ s')->wpAny (Mo B.w) A (forIn vs PUnit.unit bd) Q E0 c.s:=by
 induction l with
 | nil=>intro vs c kA e ks kz W rv L gS ga hI ek hki h64 Q k;refine rv.nilE vs ?_;have z:=Ran.ret (show Ran B (Ev.ret []) c.st ks st' from ek);obtain ⟨ρ,st,s⟩:=c;obtain rfl:st'=st:=z.2;rw [e2K];exact wpAny_pure (k ρ s kA e [] W ⟨λ _ _ n e _=>⟨e,n⟩,λ _ _ e=>e⟩ gS ga (by rw [z.1]; rfl) (by rw [z.1]; rfl) (by rw [e0k]; exact hI))
 | cons x l ih=>
   intro vs c kA e ks kz W rv L gS ga hI ek hki h64 Q k;refine rv.consE vs λ vx vs rx rs=>?_;refine Ran.bind (show Ran B (Ev.bind (enter false sc [] [(p.arg,x)]) λ le=>Ev.bind (r.e body le) λ k=>Ev.bind (a6C r ae p.arg sc body l) λ ks=>Ev.ret ((k,x)::ks)) c.st ks st' from ek) λ le st1 g1 g2=>g2.bind λ kv st2 g3 g4=>g4.bind λ ks' st3 g5 g6=>?_;have z:=g6.ret;have g5:Ran B (a6C r ae p.arg sc body l) st2 ks' st':=z.2▸g5;rw [z.1] at hki k;obtain ⟨i,hi⟩:=hki (kv,x) e0X;rw [e1e];refine wpAny_bind (hbd vx c.s _ ((b3F BO K Ro hd W.rel hsc L rx:Sm B (PrT Pr T) A c _ _ (VRel B)) kv st2 (g1.mk g3) _ λ ρ1 s1 y W1 r1=>?_));have W1:Wt B (PrT Pr T) c ⟨ρ1,st2,s1⟩:=W1;rw [show kv=.int i from hi] at r1;refine e2q y r1 λ t=>?_;have kt:=W1.keepT W.rel;have gS1:=kt _ _ tS gS nofun;have ga1:=kt _ _ ta ga nofun;have WW:=W.trans' hl0 W1;have hsz:kA.size=kz.length:=by rw [<- e2a]; exact hI.length
   have sb:=Heap.SameBut.update s1.heap kS (Obj.mapSeq λ x=>x.push (.int i t));have gS2:=get?_update_seq gS1 (λ x=>x.push (.int i t));have tn:=d7a WW.rel tS sb ⟨_,gS2⟩;have W2:Wt B (PrT Pr T) c0 ⟨ρ1,st2,{ s1 with heap:=s1.heap.update kS (Obj.mapSeq λ x=>x.push (.int i t)),toks:=s1.toks }⟩:=WW.touchT s1.toks fr tn.1 tn.2;have C1:=W1.ca W.rel;have C2:Carry (a0G (PrT Pr T) ρ1 st2.H) (a0G (PrT Pr T) ρ1 st2.H) ρ1 ρ1 s1.heap (s1.heap.update kS (Obj.mapSeq λ x=>x.push (.int i t))):=.touchT tn.1;refine listUpdate_at gS1 rfl ?_ (by rw [hsz,sizeLine_eq]; lia) (by rw [Array.size_push,hsz,sizeLine_eq]; lia);have hI2:IntsAre (kA.push (.int i t)).toList (kz++[i]):=by rw [Array.toList_push];exact ksk_snoc hI
   refine ih W2 ((rs.mono C1).mono C2) ((L.mono C1).mono C2) gS2 ((sb.2 a (Ne.symm hka)).trans ga1) hI2 g5 (λ z hz=>hki z (e0Z _ hz)) (by rw [e0a]; simp only [e0n,e1K] at h64 ⊢; lia) λ ρ3 s3 kA3 e3 is W3 C3 gS3 ga3 q1 q2 q3=>?_;refine k ρ3 s3 kA3 e3 (i::is) W3 ⟨λ b o n q f=>?_,λ j b q=>C3.loc _ _ (C1.loc _ _ q)⟩ gS3 ga3 (by rw [e0v,e0v,q1,show kv=.int i from hi]) (by rw [e0v,q2]) (by rw [e0h] at q3; exact q3);have z1:=C1.obj b o n q f;have z2:=C2.obj b o z1.2 z1.1 f;exact C3.obj b o z2.2 z2.1 f
end
section
variable {B:Base}{n:Nat}{r:Rc}{ae:AEnv}{Pr:Addr->Prop}{A:Around}{c:Cf}{st':St}
theorem b7C:∀ {st st':St}{ks:List (PV×PV)},Ran B (a6C r ae p sc body l) st ks st'->ks.length=l.length:=by
 induction l with
 | nil=>intro st st' ks e;rw [(Ran.ret (show Ran B (Ev.ret []) st ks st' from e)).1];rfl| cons x l ih=>intro st st' ks e;refine Ran.bind (show Ran B (Ev.bind (enter false sc [] [(p,x)]) λ le=>Ev.bind (r.e body le) λ k=>Ev.bind (a6C r ae p sc body l) λ ks=>Ev.ret ((k,x)::ks)) st ks st' from e) λ _ _ _ e=>e.bind λ _ _ _ e=>e.bind λ ks' _ g e=>?_;rw [e.ret.1,e0n,ih g];rfl
theorem b3B (BO:BaseOK2 B)(K:RcOK B n r)(Ro:Room (n + 1) A)(R:Rl B Pr c)(rv:VR B Pr c v x)(hl:a1v c.st.H v=some l)(hsc:b7B sc=true)
 (L:LamAt B (c.mt Pr) c.s.heap ⟨[],[p],none,[],[],none,[]⟩ body sc f) (ek:Ran B (a6C r ae p.arg sc body l) c.st ks st') (hz:a4o ks=some z)
 (k:Fin B Pr c.ρ c.st.H c.s (VRel B) (.loc st'.H.length) (st'.H++[.list (z.map (·.2))]) Q) :
    wpAny (Mo B.w) A (call (.builtin "sorted") [x] [(Str.ofString "key",.ref f)]) Q E0 c.s:=by
  refine a0r R x rv hl λ ad vs n0 g hzs rs=>?_;obtain ⟨zp,z64,zk,zk1,zk2⟩:=a2y hz;have hki:∀ x∈ks,∃ i,x.1=PV.int i:=λ x hx=>by have h1:x.1∈z.map (·.1):=List.mem_map_of_mem (zp.mem_iff.mpr hx);rw [zk1] at h1;exact (e0e.mp h1).imp λ i e=>e.2.symm
  have hlen:l.length<64:=by rw [<- b7C ek]; exact z64
  have hvl:vs.length<64:=by rw [<- rs.len]; exact hlen
  refine call_function_entry_kw kind_sorted plain_sorted entry_sorted (ksk_s1 _ _) ?_;unfold Builtin.«sorted»;refine wpAny_bind (m:=checkCount "sorted" 1 1 _) (wpAny_pure ?_);refine wpAny_bind (collect_list (vs:=vs) ⟨_,g,rfl,n0,rfl⟩ ?_ hzs);refine wpAny_bind (wpAny_newList ?_ hzs);generalize hh1:(c.s.heap.push (PyProof.Rows.seqObj "list" #[] 0)).update c.s.heap.objs.size (Obj.mapSeq (·++vs.toArray))=h1;have hsz:h1.objs.size=c.s.heap.objs.size+1:=by rw [<- hh1,Heap.size_update,size_push']
  have k1:∀ b o,c.s.heap.get? b=some o->h1.get? b=some o:=λ b o q=>by rw [<- hh1,Heap.get?_update_ne _ _ _ _ (e1q (Heap.lt_size q)),Heap.get?_push_ne _ _ _ (e1q (Heap.lt_size q))];exact q
  have hoL:(h1.push { cls:=.type "list",data:=.seq vs.toArray }).get? h1.objs.size=some (PyProof.Rows.seqObj "list" vs.toArray 0):=Heap.get?_push_size _ rfl;have k2:∀ b o,c.s.heap.get? b=some o->(h1.push { cls:=.type "list",data:=.seq vs.toArray }).get? b=some o:=λ b o q=>Heap.get?_push_of_some _ (k1 b o q);have hsz2:(h1.push { cls:=.type "list",data:=.seq vs.toArray }).objs.size=c.s.heap.objs.size+2:=by rw [Heap.size_push,hsz]
  rw [hsz] at hoL;rw [hsz];generalize hh2:h1.push { cls:=.type "list",data:=.seq vs.toArray }=h2 at hoL k2 hsz2;generalize ha:c.s.heap.objs.size+1=a at hoL;have hasz:c.s.heap.objs.size<=a:=by rw [<- ha]; exact e1r _
  have halt:a<h2.objs.size:=by rw [hsz2,<- ha]; exact e2J _
  refine wpAny_bind (wpAny_holding (wpAny_call_entry_kw (s:={ c.s with heap:=h2 }) slot_list_sort ⟨_,hoL,rfl⟩ entry_list_sort ?_ (ksk_l1 _ _)));rw [ksk_t1];obtain ⟨e1,ho1⟩:∃ e1,(h2.update a (Obj.mapSeq λ _=>(#[]:Array Value))).get? a=some (PyProof.Rows.seqObj "list" #[] e1):=⟨_,get?_update_seq hoL λ _=>#[]⟩
  unfold ksk_tree;refine wpAny_bind (listItems_at hoL rfl ?_);refine wpAny_bind (listUpdate_at hoL rfl ?_ (by rw [e1l]; exact hzs) (e0q _));refine wpAny_bind (seqEpoch_at ho1 rfl ?_);refine wpAny_bind (wpAny_newTuple ?_ (by simpa using hzs));refine wpAny_bind (wpAny_newList ?_ (e0q _));refine wpAny_holding ?_;dsimp only;generalize hh3:(h2.update a (Obj.mapSeq λ _=>(#[]:Array Value))).push { cls:=.type "tuple",data:=.seq (vs.toArray).toList.toArray }=h3;have hsz3:h3.objs.size=c.s.heap.objs.size+3:=by rw [<- hh3,Heap.size_push,Heap.size_update,hsz2]
  generalize hkS:h3.objs.size=kS;have gS:(h3.push { cls:=.type "list",data:=.seq ([]:List Value).toArray }).get? kS=some (PyProof.Rows.seqObj "list" #[] 0):=by rw [<- hkS]; exact Heap.get?_push_size _ rfl
  have ga3:h3.get? a=some (PyProof.Rows.seqObj "list" #[] e1):=by rw [<- hh3]; exact Heap.get?_push_of_some _ ho1
  have ga:(h3.push { cls:=.type "list",data:=.seq ([]:List Value).toArray }).get? a=some (PyProof.Rows.seqObj "list" #[] e1):=Heap.get?_push_of_some _ ga3;have hka:kS≠a:=by rw [<- hkS]; exact Nat.ne_of_gt (Heap.lt_size ga3)
  have k4:∀ b o,c.s.heap.get? b=some o->(h3.push { cls:=.type "list",data:=.seq ([]:List Value).toArray }).get? b=some o:=λ b o q=>by have hb:b≠a:=e1q (e1j (Heap.lt_size q) hasz);refine Heap.get?_push_of_some _ ?_;rw [<- hh3];exact Heap.get?_push_of_some _ ((Heap.get?_update_other _ _ (Ne.symm hb)).trans (k2 b o q))
  generalize h3.push { cls:=.type "list",data:=.seq ([]:List Value).toArray }=h4 at gS ga k4;have fr:∀ b,(b=kS\/b=a)->c.s.heap.get? b=none:=λ b e=>e.elim (λ e=>e▸PySem.Heap.get?_none_of_le (by rw [<- hkS,hsz3]; exact e1M _ _)) λ e=>e▸PySem.Heap.get?_none_of_le hasz;have W0:Wt B (PrT Pr (λ b=>b=kS\/b=a)) c ⟨c.ρ,c.st,{ c.s with heap:=h4,toks:=c.s.toks }⟩:=Went.protectT (e2s R) c.s.toks fr (λ b e=>e.elim (λ e=>e▸⟨_,gS⟩) λ e=>e▸⟨_,ga⟩) k4;have C0:Carry (c.mt Pr) (a0G (PrT Pr (λ b=>b=kS\/b=a)) c.ρ c.st.H) c.ρ c.ρ c.s.heap h4:=.protectT fr k4;unfold ksk_rest;refine wpAny_bind (wpAny_rule ?_)
  first
   | rw [List.forIn_toArray]
   | (rw [<- Array.forIn_toList]; simp only [List.toList_toArray])
   | rw [<- Array.forIn_toList]
  have Ro2:∀ e,Room n ((A.in1.in1).deeper e):=λ e=>⟨Ro.hd,by have:=Ro.dp; show A.depth+1+_+8<_; lia,by have:=Ro.un; show A.units+1+1+3+_+100<_; lia⟩
  refine wpAny_bind (c3Z (A:=A.in1.in1) BO K Ro2 (by have:=Ro.dp; show A.depth<_; lia) hsc R.len fr (.inl rfl) (.inr rfl) hka e1 (λ x s Q h=>?_) W0 (rs.mono C0) (L.mono C0) gS ga .nil ek hki (by simpa using hlen) λ ρ5 s5 kA e5 is W5 C5 gS5 ga5 q1 q2 q3=>?_)
  · refine wpAny_bind (wpAny_attempt (wpAny_mono h (λ k s' hk=>?_) λ _ _ h=>h.elim));dsimp only;exact wpAny_bind (wpAny_mono hk (λ _ s'' hq=>wpAny_pure hq) λ _ _ h=>h)
  · (try dsimp only)
    refine wpAny_bind (listItems_at gS5 rfl ?_);have hisl:is.length=vs.length:=by have e1:=congrArg e1k q1;have e2:=congrArg e1k q2;have e3:=rs.length;simp only [e0c] at e1 e2;lia
    refine c8X gS5 ga5 hka (by simpa using q3) hisl hvl λ h' out cc kk ga' ko=>⟨_,rfl,?_⟩
    refine wpAny_pure ⟨_,rfl,?_⟩;have rz:=b2y hz (q2▸(rs.mono C0).mono C5) q1 ko;have kT:∀ b o,¬ (b=kS\/b=a)->s5.heap.get? b=some o->h'.get? b=some o:=λ b o nb q=>kk b o (λ z=>nb (.inl z)) (λ z=>nb (.inr z)) q;have hol:out.toList.length<=sizeLine:=by rw [<- rz.length,e0c,zp.length_eq,sizeLine_eq];lia
    refine k (ρ5++[a]) _ _ (Went.adoptT (P:=.list (z.map (·.2))) W5 R.len s5.toks (R.dj fr) fr (.inr rfl) kT ?_) (.loc _ _ (by rw [<- W5.rel.len]; simp));exact .list _ _ _ out.toList ga' (.mk' hol _) (rz.mono (Carry.adoptT W5.rel (.inr rfl) kT))
end
theorem c8H:S d7n=("get" : Str):=by decide +kernel
theorem b6t:S b9i=("append" : Str):=by decide +kernel
theorem b6s:S b9h=("extend" : Str):=by decide +kernel
theorem b6r:S b9g=("insert" : Str):=by decide +kernel
theorem c8G:S d7m=("pop" : Str):=by decide +kernel
theorem c3M:S d1j=("sort" : Str):=by decide +kernel
theorem c7X:S d7c=("key" : Str):=by decide +kernel
theorem a4X {x:Str}(h:a0q x.cps.toList l=true):x=S l:=by rw [a2D,decide_eq_true_eq] at h;rw [<- h];exact (d3X x).symm
theorem a7u:typeOf (.builtin "list.sort")=pure (.type "method_descriptor"):=by show builtinType _=_; rw [builtinType_eq_fast]; kernel_rfl
theorem a6M:typeOf (.builtin "list.append")=pure (.type "method_descriptor"):=by show builtinType _=_; rw [builtinType_eq_fast]; kernel_rfl
section
variable {B:Base}{Pr:Addr->Prop}{A:Around}{ρ:List Addr}{H:List PO}{s:Shared}
theorem c3k (h:a8s H v=true):∃ p,a3r H v=some p:=by
 unfold a8s at h;cases e:a3r H v with
 | none=>rw [e] at h; exact nx2 h| some p=>exact ⟨p,rfl⟩
theorem b6e (R:Rel B Pr ρ H s.heap)(rx:VRel B (a0G Pr ρ H) ρ s.heap ov x){name:Str}(e:b8a H ov name.cps.toList=some mk){Q:Value×List Value->Shared->Prop}(h:Q (.builtin mk.id,[x]) s) :
 wpAny (Mo B.w) A (getMethod x name pl) Q E0 s:=by
 refine bcE e (λ hd e=>gE e λ hn e=>?_) λ _ e=>oE e λ p hp e=>oE hp λ i hi hp=>oE hp λ po hpo hp=>oE hp λ l hl hp=>?_
 · obtain rfl:=sj e;refine (c3k hd).elim λ p hd=>a1j R x rx hd (λ d es k g _ _ _ h=>?_) h;rw [(a4X hn).trans c8H];exact getMethod_builtin ⟨_,g,rfl⟩ PySem.F.plainAttrs_dict PySem.F.slot_dict_get PySem.F.type_dict_get (λ a e=>Value.ref.inj e▸⟨_,g,rfl⟩) h
 · revert h;rw [a2c hi] at rx;refine rx.locE x λ a ha h=>?_;obtain ⟨o,items,g,sq,rs⟩:=R.loc ha (hpo.trans (congrArg some (a1x hl)));have hT:s.TypeIs (.ref a) "list" := ⟨_,g,sq.1⟩
   have hdn:∀ a',Value.ref a=.ref a'->∃ ob,s.heap.get? a'=some ob/\ob.dict=none:=λ a' e=>Value.ref.inj e▸⟨_,g,sq.2.1⟩;refine a1W e (λ hn e=>?_) λ e=>a1W e (λ hn e=>?_) λ e=>a1W e (λ hn e=>?_) λ e=>a1W e (λ hn e=>?_) λ e=>a1W e (λ hn e=>?_) nx0
   · rw [(a4X hn).trans b6t] ; rw [<- e] at h; exact getMethod_builtin hT PySem.F.plainAttrs_list slot_list_append a6M hdn h
   · rw [(a4X hn).trans b6s] ; rw [<- e] at h; exact getMethod_builtin hT PySem.F.plainAttrs_list PySem.F.slot_list_extend PySem.F.type_list_extend hdn h
   · rw [(a4X hn).trans b6r] ; rw [<- e] at h; exact getMethod_builtin hT PySem.F.plainAttrs_list PySem.F.slot_list_insert PySem.F.type_list_insert hdn h
   · rw [(a4X hn).trans c8G] ; rw [<- e] at h; exact getMethod_builtin hT PySem.F.plainAttrs_list PySem.F.slot_list_pop PySem.F.type_list_pop hdn h
   · rw [(a4X hn).trans c3M] ; rw [<- e] at h; exact getMethod_builtin hT PySem.F.plainAttrs_list slot_list_sort a7u hdn h
theorem c0O (e:c3o H a=some q):c4e H a=some q.1:=by
 cases a with
 | ins c fs vs=>exact congrArg (λ q=>some q.1) (sj e)| loc i=>refine oE e λ p hp e=>?_;unfold c4e;dsimp only;rw [a1d,(a4b hp).1,<- sj e]| _=>exact nx0 e
theorem b6g (BO:BaseOK2 B)(R:Rel B Pr ρ H s.heap)(rx:VRel B (a0G Pr ρ H) ρ s.heap ov x)(hc:c4e H ov=some c)(ha:c5l H ov name=some ())(hm:c5s c name=some k){Q:Value×List Value->Shared->Prop}
 (h:Q (.ref (B.adr k),[x]) s):wpAny (Mo B.w) A (getMethod x name pl) Q E0 s:=by
 refine oE ha λ q hq ha=>gE hm λ hkc hmo=>?_;obtain rfl:=sj (hc.symm.trans (c0O hq));have hl:a9s q.2.1 q.2.2 name=none:=by
  cases hl:a9s q.2.1 q.2.2 name with
  | none=>rfl| some v=>rw [hl] at ha; exact nx0 ha
 revert h;exact (b2B R rx hq).E x λ a l Ia nr h=>(BO.cls q.1 hkc).E λ N mN X hng hnh hns hfl hme=>(b3b hmo).elim λ y hB=>(hme _ _ hmo).2.elim λ oj ho=>ClsAt.objE (ClsAt.of R X) λ nm qq bs sn sub col dd k0 k1 k2 k3 k5 hC=>
  method_of (h:=s.heap) hC (ClsAt.of R X).ns hng hnh (hme _ _ hmo).1 (R.carry0.obj _ oj (λ x=>x) ho.1 (.inr (by rw [ho.2]; exact nofun))).1 ho.2 hB Ia (b6v nr hl) h
end
section
variable {B:Base}{n:Nat}{r:Rc}{ae:AEnv}{env:Env}{Pr:Addr->Prop}{A:Around}{c:Cf}{st':St}
theorem c9H {st:St}(h:Ran B (evs r ae es) st [v] st'):∃ e,es=[e]/\(!a2k e)=true:=by
 cases es with
 | nil=>exact nomatch (Ran.ret (show Ran B (Ev.ret []) st [v] st' from h)).1| cons e es=>
   have h:Ran B (gE' (!a2k e) (Ev.bind (r.e e ae) λ v=>Ev.bind (evs r ae es) λ vs=>Ev.ret (v::vs))) st [v] st':=h;refine h.gE'.2.bind λ a s1 _ h2=>h2.bind λ as s2 h3 h4=>?_;have z:=(List.cons.inj h4.ret.1).2;cases es with
   | nil=>exact ⟨e,rfl,h.gE'.1⟩| cons e2 es=>have h3:Ran B (gE' (!a2k e2) (Ev.bind (r.e e2 ae) λ v=>Ev.bind (evs r ae es) λ vs=>Ev.ret (v::vs))) s1 as s2:=h3;exact h3.gE'.2.bind λ _ _ _ h5=>h5.bind λ _ _ _ h6=>nomatch z.trans h6.ret.1
theorem b8P (BO:BaseOK2 B)(K:RcOK B n r)(X1:At B (n + 1) ae env Pr A c)(rf:VR B Pr c fv fx) (args) (pos) :
 Sm B Pr A c (Ev.bind (evs r ae args) λ vs=>c4k r fv vs) (callWith pos fx [] (backTo pos (starEach args env)) []) (VRel B):=λ v st' e Q k=>e.bind λ vs st1 e1 e2=>by
 have X:=X1.dn;have hpl:=a2o (env:=env) pos e1;cases fv with
 | gl k0=>
   refine rf.glE fx (e2.bc (λ hk e2=>?_) λ _ e2=>?_)
   · obtain ⟨N,mN,Y,_⟩:=(BO.cls k0 hk).ok;exact b0X (N:=N) (mN:=mN) hpl (a2z K pos X e1 λ ρ1 s1 xs W1 r1=>⟨ClsAt.of W1.rel Y,(c7Q BO.toBaseOK K X1.ro hk W1.rel r1:Sm B Pr A ⟨ρ1,st1,s1⟩ _ _ (VRel B)).last e2 X.r W1 k⟩)
   · obtain ⟨o,fd,ho,hd⟩:=BO.obj e2.gE'.1;exact callWith_function (o:=o) (fd:=fd) (a2z K pos X e1 λ ρ1 s1 xs W1 r1=>⟨⟨W1.rel.old ho (λ vs x=>nomatch hd.symm.trans x),hd⟩,(K.call k0 X.ro W1.rel r1:Sm B Pr A ⟨ρ1,st1,s1⟩ _ _ (VRel B)).last e2.gE'.2 X.r W1 k⟩)
 | blt id=>
   refine rf.bltE fx (callWith_builtin hpl (a2z K pos X e1 λ ρ1 s1 xs W1 r1=>?_));show wpAny (Mo B.w) A (call (.builtin id) xs) _ E0 s1;have e3:Ran B (c9e id vs) st1 v st':=e2;unfold c9e at e3;cases hb:c9h id with
   | none=>rw [hb] at e3; exact e3.no| some b=>
     rw [hb] at e3;rw [c9g hb];have e3:Ran B (b2Z b vs) st1 v st':=e3;by_cases hs:b=.sorted
     · subst hs;exact (b3C X.ro.hd W1.rel r1:Sm B Pr A ⟨ρ1,st1,s1⟩ _ _ (VRel B)).last e3 X.r W1 k
     · exact (b6j X.ro.hd W1.rel b hs r1:Sm B Pr A ⟨ρ1,st1,s1⟩ _ _ (VRel B)).last e3 X.r W1 k
 | typ t=>exact rf.typE fx (PySem.callWith_type hpl (a2z K pos X e1 λ ρ1 s1 xs W1 r1=>(b8Q X.ro.hd W1.rel t r1:Sm B Pr A ⟨ρ1,st1,s1⟩ _ _ (VRel B)).last e2 X.r W1 k))| _=>exact Ran.no e2
theorem a0s {α:Type}{l:List α}(h:a1D l=true):l=[]:=by
 cases l with
 | nil=>rfl| cons=>exact nx2 h
theorem c2z (h:c5h as=some p):as=⟨[],[p],none,[],[],none,[]⟩:=gE h λ hc h=>oE h λ q hq h=>gE h λ hn he=>by obtain ⟨po,ar,va,ko,kd,kw,df⟩:=as;exact a6E hc λ c1 c2 c3 c4 c5 c6=>by rw [show po=[] from a0s c1,show va=none from a2l c2,show ko=[] from a0s c3,show kd=[] from a0s c4,show kw=none from a2l c5,show df=[] from a0s c6,show ar=q.1::q.2 from b2u hq,a0s hn,sj he]
theorem c9k (h:d3O e=some q):∃ pos,e=.Lambda q.1 q.2.1 q.2.2 pos:=by
 cases e with
 | Lambda as body sc pos=>exact sj h▸⟨pos,rfl⟩| _=>exact nx0 h
theorem c3X (h:c0C kws=some q):∃ lpos kpos,kws=[⟨some q.1,.Lambda ⟨[],[q.2.1],none,[],[],none,[]⟩ q.2.2.2 q.2.2.1 lpos,kpos⟩]:=match kws,h with
 | [⟨arg,value,kpos⟩],h=>oE h λ kn hk h=>oE h λ w hw h=>oE h λ p hp h=>(c9k hw).elim λ lpos z=>⟨lpos,kpos,by rw [show arg=some kn from hk,show value=_ from z,c2z hp,<- sj h]⟩
theorem b0z (BO:BaseOK2 B)(K:RcOK B n r)(X1:At B (n + 1) ae env Pr A c){apos pos:Pos}{args:List Expr}(hb:(!a3Y o)=true)(hline:(apos.endLine == pos.line)=true)(hn:args.length < 30) :
 Sm B Pr A c (a6W r ae o name args) (eval (.Call (.Attribute o name apos) args [] pos) env) (VRel B):=λ v st' e Q k=>by
 have X:=X1.dn;have hp:(backTo pos (starEach args env)).any (·.1)=false:=e.bind λ _ _ _ e=>e.bind λ _ _ _ e=>e.oc (λ _ _ e=>e.bind λ _ _ _ e=>e.bind λ _ _ e _=>a2o pos e) λ _ e=>e.bind λ _ _ _ e=>e.bind λ _ _ e _=>a2o pos e;refine c1t (a3V hb) hp hn hline ((K.e o X).then e λ ov c1 x e1 W1 r1 pl=>e1.rdT λ cl hcl e2=>?_);have Y:=X.went W1;refine e2.oc (λ cc hcc e2=>e2.rdT λ k0 hk e3=>oE hk λ u hu hk=>oE hk λ k1 hm hk=>gE hk λ hf hk=>?_) λ _ e2=>e2.rdT λ mk hmk e3=>?_
 · obtain rfl:=sj hk;refine b6g BO W1.rel r1 ((sj hcl).trans hcc) hu hm (e3.bind λ vs st2 g1 g2=>?_);obtain ⟨ob,fd,ho,hd⟩:=BO.obj hf;refine callWith_function (o:=ob) (fd:=fd) (a2z K pos Y g1 λ ρ2 s2 xs W2 r2=>⟨⟨W2.rel.old ho (λ vs x=>nomatch hd.symm.trans x),hd⟩,?_⟩);exact (K.call k1 X.ro W2.rel (VRels.cons _ _ _ _ (r1.mono (W2.ca W1.rel)) r2):Sm B Pr A ⟨ρ2,st2,s2⟩ _ _ (VRel B)).last g2 X.r (W1.tr X.r W2) k
 · refine b6e W1.rel r1 hmk (e3.bind λ vs st2 g1 g2=>callWith_builtin hp (a2z K pos Y g1 λ ρ2 s2 xs W2 r2=>?_));obtain ⟨hs,st3,g3,h3⟩:=g2.callH;have hu:A.units + 24 < cLine:=by have:=X.ro.un; lia
   have W2':Wt B Pr c ⟨ρ2,⟨st2.H,hs⟩,s2⟩:=W1.tr X.r W2;rw [<- h3] at k;exact (b8R hu W2'.rel mk (r1.mono (W2.ca W1.rel)) r2:Sm B Pr A ⟨ρ2,⟨st2.H,hs⟩,s2⟩ _ _ (VRel B)).last g3 X.r W2' k
theorem b0y (BO:BaseOK2 B)(K:RcOK B n r)(X1:At B (n + 1) ae env Pr A c)(rf:VR B Pr c fv fx)(hq:c0C kws=some q) :
 Sm B Pr A c (b4n r ae fv args q) (callWith pos fx [] (backTo pos (starEach args env)) (backToKw pos (keywordEach kws env))) (VRel B):=.gE' λ hg v st' e Q k=>by
 obtain ⟨lpos,kpos,rfl⟩:=c3X hq;have g1:=a0A hg;have g2:=a0A g1.2;have g3:=a0A g2.2;have X:=X1.dn;rw [(a4X g1.1).trans c7X];have hb:fv=.blt "sorted" := by
  have h:=g3.1;cases fv with
  | blt id=>exact congrArg PV.blt (eq_of_beq h)| _=>exact nx2 h
 rw [hb] at rf;refine rf.bltE fx (e.bind λ vs st2 e3 e4=>e4.rdT λ l hl e5=>oE hl λ w hw hl=>e5.bind λ ks st4 e7 e8=>e8.optT λ z hz e9=>?_);obtain rfl:=b4o hw;obtain ⟨e0,rfl,hst⟩:=c9H e3;have he:backTo pos (starEach [e0] env)=(false,eval e0 env)::backTo pos (starEach [] env):=by rw [a2w hst]; rfl
 refine callWith_kw (a9X K pos [e0] X [w] st2 e3 _ λ ρ2 s2 xs W2 r2=>?_) he (a2o (env:=env) pos e3);have W2:Wt B Pr c ⟨ρ2,st2,s2⟩:=W2;refine r2.consE xs λ xv xs ra rs=>rs.nilE xs ?_;show wpAny (Mo B.w) A (evalAll [do let v <- eval (.Lambda ⟨[],[q.2.1],none,[],[],none,[]⟩ q.2.2.2 q.2.2.1 lpos) env; standAt pos; pure v]) _ E0 s2;refine wpAny_evalAll_cons (wpAny_bind (b6h BO (X.v.went W2) g3.2 W2.rel g2.1 λ f s3 W3 L=>wpAny_bind (wpAny_standAt (wpAny_pure (wpAny_evalAll_nil ?_)))));show wpAny (Mo B.w) A (call (.builtin "sorted") [xv] [(Str.ofString "key",.ref f)]) _ E0 s3;have W3:Wt B Pr ⟨ρ2,st2,s2⟩ ⟨ρ2,st2,s3⟩:=W3;obtain ⟨H',m,ff,_,rfl⟩:=e9.up;have zz:=a1C ff;rw [<- zz.1,<- zz.2.1] at k;exact b3B (c:=⟨ρ2,st2,s3⟩) BO K X1.ro W3.rel (ra.mono (W3.ca W2.rel)) hl g2.1 L e7 hz λ ρ' s' b W p=>k ρ' s' b ((W2.tr X.r W3).trans X.r W) p
theorem c4j (B)(BO:BaseOK2 B) (n) (r)(K:RcOK B n r):c1u B n r:=by
 intro ae env Pr A c f args kws pos X1;cases f with
 | Attribute o name apos=>refine .gE' λ hg=>?_;have g1:=a0A hg;have g2:=a0A g1.2;have g3:=a0A g2.2;rw [b5d g1.1];exact b0z BO K X1 g2.1 (beq_iff_eq.mpr (c9i g3.1)) (e1B.mp g3.2)| Name x xp=>
   intro v st' e Q k;have X:=X1.dn;cases kws with
   | nil=>exact Call_Name rfl ((K.e (.Name x xp) X).then e λ fv c1 fx e1 W1 r1=>(b8P BO K (X1.went W1) r1 args pos).last e1 X.r W1 k)| cons kw kws=>exact wpAny_Call_Name_kw ((K.e (.Name x xp) X).then e λ fv c1 fx e1 W1 r1=>Ran.optT e1 λ q hq e2=>(b0y BO K (X1.went W1) r1 hq).last e2 X.r W1 k)
 | _=>exact .no
end
section
variable {B:Base}{Pr:Addr->Prop}{ρ:List Addr}{H:List PO}{h:Heap}
theorem Carry.done {Q:Addr->Prop}(q1:∀ a,Q a->a0G Pr ρ H a):Carry (a0G Pr ρ H) Q ρ ρ h h:=⟨λ a o n e _=>⟨e,λ p=>n (q1 a p)⟩,λ _ _ e=>e⟩
noncomputable def PO.isOpq:PO->Bool
 | .opq=>true| _=>false
theorem b0j {f:PV->Option PV}(hf:∀ {v t:PV}{x:Value},f v=some t->VRel B (a0G Pr ρ H) ρ h v x->VRel B Q [] h t x) :
 ∀ {l':List PV} {m:List Value},a1F f l=some l'->VRels B (a0G Pr ρ H) ρ h l m->VRels B Q [] h l' m:=by
 induction l with
 | nil=>exact fun {l' m} e r=>r.nilE m (sE l' e .nil)| cons v l ih=>exact fun {l' m} e r=>oE (show ob (f v) _=some l' from e) λ t h1 e=>oE e λ l2 h2 e=>r.consE m λ x xs r rs=>sE l' e ⟨hf h1 r,ih h2 rs⟩
theorem b7r (R:Rel B Pr ρ H h){Q:Addr->Prop}(q1:∀ a,Q a->a0G Pr ρ H a)(q2:∀ (i:Nat)(a:Addr)(o:PO),ρ[i]?=some a->H[i]?=some o->o.isOpq=false->¬ Q a){g:List PV->Option (List PV)}
 (hg:∀ {l l':List PV} {m:List Value},g l=some l'->VRels B (a0G Pr ρ H) ρ h l m->VRels B Q [] h l' m) {i:Nat} (hi:ρ[i]?=some a) (ho:H[i]?=some o) (e:b6Y g H o=some t):VRel B Q [] h t (.ref a):=by
 have r:=R.loc hi ho;cases o with
 | list l=>exact oE e λ l' h1 e=>r.elim λ o r=>r.elim λ items r=>sE t e (.lst _ a o items (q2 i a _ hi ho rfl) r.1 r.2.1 (hg h1 r.2.2))| froz l=>exact oE e λ l' h1 e=>r.elim λ o r=>r.elim λ items r=>sE t e (.lst _ a o items (q2 i a _ hi ho rfl) r.1 r.2.1 (hg h1 r.2.2))| dict ks vs=>exact gE e λ hn e=>oE e λ l' h1 e=>r.elim λ o r=>r.elim λ es r=>r.elim λ k r=>sE t e (.dct _ _ a o es k (q2 i a _ hi ho rfl) r.1 r.2.1 r.2.2.1 r.2.2.2.1 ⟨a3F (r.2.2.2.2.1.mono (.done q1)) hn,hg h1 r.2.2.2.2.2.1,r.2.2.2.2.2.2⟩)| inst c d=>
   refine oE e λ p hp e=>oE e λ w hw e=>oE e λ l' h1 e=>?_;have h2:=hp.trans (congrArg some (b6K hw));have hia:a4S H i=some (c,d,w.1,w.2):=by unfold a4S; rw [a1d,ho]; show ob (b3Y H d) _=_; rw [a1d,h2]; rfl
   obtain ⟨o2,da2,l,g2,hc2,hn2,hdd2,hd2,hne,ns,nr⟩:=a5C R hi hia;exact sE t e (.ins c w.1 l' a da2 o2 l (q2 i a _ hi ho rfl) (q2 d da2 _ hd2 h2 rfl) g2 hc2 hdd2 hn2 hne ns ⟨hg h1 nr.1,nr.2⟩)
 | _=>exact nx0 e
theorem a6i (R:Rel B Pr ρ H h){Q:Addr->Prop}(q1:∀ a,Q a->a0G Pr ρ H a)(q2:∀ (i:Nat)(a:Addr)(o:PO),ρ[i]?=some a->H[i]?=some o->o.isOpq=false->¬ Q a) (n) :
 ∀ {v t:PV} {x:Value},a0b n H v=some t->VRel B (a0G Pr ρ H) ρ h v x->VRel B Q [] h t x:=by
 induction n with
 | zero=>exact λ e=>nx0 e| succ n ih=>
   intro v t x e r;refine ocE e (λ i hi e=>oE e λ o ho e=>?_) λ _ e=>ocE e (λ l hl e=>oE e λ l' h1 e=>?_) λ _ e=>gE e λ hn e=>sj e▸a3y (r.mono (.done q1)) hn
   · rw [a2c hi] at r;exact r.locE x λ a ha=>b7r R q1 q2 (b0j ih) ha ho e
   · rw [a1s hl] at r;exact r.tupE x λ a o items nm g sq rs=>sE t e (.tup _ a o items (λ p=>nm (q1 a p)) g sq (b0j ih h1 rs))
end
theorem b6X (R:Rel B Pr ρ H h) (n)(e:a0b n H v=some t)(r:VRel B (a0G Pr ρ H) ρ h v x):VRel B Pr [] h t x:=
 a6i R (λ _ p=>.inl p) (λ i a o e1 _ _=>(R.away a (e0s e1)).1) n e r
abbrev Kt:=Nat->Option (List PV->Option (Nat×PV))
noncomputable def c1o (H:List PO):List PV->Bool
 | []=>false| v::l=>oc (a5S v) (λ i=>oc H[i]? (λ o=>a5j (b6M o)) false) false||c1o H l
def d1C (r:Rc)(k:Nat)(p:List PV×List PO)(l hs:List Hint):Option (PV×St×Obs):=ob (a5P r k p.1 l) λ z=>some (z.1,⟨p.2,hs⟩,z.2)
def c5f (r:Rc)(k:Nat)(args:List PV):Ev PV:=λ st=>bc (c8g k || (e0m 1000 k && c1o st.H args)) (a1T r k args st)
 (oc (a2W (c1w 8) st.H args) (λ p=>bc (a0E p.1) (d1C r k p [] st.hs) (a1T r k args st)) (a1T r k args st))
noncomputable def hsC {α:Type}(l:List Hint)(y:α)(f:Hint->List Hint->α):α:=match l with
 | []=>y| h::t=>f h t
theorem hsE {α:Type}{y b:α}{f:Hint->List Hint->α}{G:Prop}(e:hsC l y f=b)(k0:y=b->G)(k1:∀ h t,f h t=b->G):G:=by
 cases l with
 | nil=>exact k0 e| cons h t=>exact k1 h t e
def d2V (n:Nat)(r:Rc)(k:Nat)(args:List PV)(st:St)(h:Hint)(hs:List Hint):Option (PV×St×Obs):=match h with
 | .inl=>a1T r k args ⟨st.H,hs⟩| .val v=>ob (a2W (c1w 8) st.H args) λ p=>some (v,⟨p.2,hs⟩,⟨[.fn n k p.1 v],0⟩)| .pur l=>ob (a2W (c1w 8) st.H args) λ p=>gd (a0E p.1) (d1C r k p l hs)| .dk v l' m'=>c4m n k args v l' m' ⟨st.H,hs⟩| _=>none
def c0V (n:Nat)(r:Rc)(k:Nat)(args:List PV):Ev PV:=λ st=>hsC st.hs (c5f r k args st) (d2V n r k args st)
def d0i (K:Kt)(n:Nat)(r:Rc)(k:Nat)(args:List PV):Ev PV:=λ st=>oc (K k) (λ f=>oc (a2W (c1w 8) st.H args) (λ p=>oc (f p.1) (λ q=>gd (e0m q.1 n) (some (q.2,⟨p.2,st.hs⟩,Obs.nil))) (c0V n r k args st)) (c0V n r k args st)) (c0V n r k args st)
def rk (K:Kt)(n:Nat):Rc:=Nat.rec d1A (λ n r=>⟨d2s r,d0P r,d0r r,λ l ae=>a0a r ae l,d0i K n r⟩) n
section
variable {B:Base}{n:Nat}{r:Rc}{Pr:Addr->Prop}{A:Around}{ρ:List Addr}{H:List PO}{c:Cf}{k:Nat}{args args':List PV}{xs:List Value}
theorem FnOK.le (x:FnOK B m k args v)(h:m<=n):FnOK B n k args v:=⟨x.1,λ Pr A s xs Ro R rx=>x.2 Pr A s xs (Ro.le h) R rx⟩
theorem d1I:Carry Pr (a0G Pr [] []) ([]:List Addr) [] h h:=⟨λ a o n e _=>⟨e,λ m=>n (m.elim id λ m=>absurd m.mem e0b)⟩,λ _ _ e=>e⟩
theorem Rel.tabs0 (R:Rel B Pr ρ H h):TabsOK B Pr h:=R.tabs.mono (ρ:=[]) (ρ':=[]) ⟨λ a o n e _=>⟨e,λ p=>n (.inl p)⟩,λ _ _ e=>e⟩ λ _ _ _ _ e=>e
theorem b3Q (K:RcOK B n r)(BO:BaseOK2 B)(nl:a0E args=true)(e:a5P r k args hs=some (t,o))(O:Obl B o):FnOK B (n+1) k args t:=
 oE e λ y h1 e=>oE e λ t' h2 e=>by have z:=sj e;obtain rfl:t'=t:=congrArg (·.1) z;obtain rfl:y.2.2=o:=congrArg (·.2) z;exact ⟨nl,λ Pr A s xs Ro R rx=>(a3u K BO Ro R (rx.mono d1I):Sm B Pr A ⟨[],⟨[],hs⟩,s⟩ _ _ (VRel B)) y.1 y.2.1 ⟨y.2.2,h1,O⟩ _ λ ρ' s' x W r=>⟨W.same,W.keep.mono λ a l=>absurd l.mem e0b,W.rel.tabs0,b6X W.rel 8 h2 r⟩⟩
theorem a2O {p:List PV×List PO}(Ro:Room n A)(C:FnOK B n k p.1 u)(h1:a2W (c1w 8) c.st.H args=some p)(R:Rl B Pr c)(rx:VRs B Pr c args xs)(kq:Fin B Pr c.ρ c.st.H c.s (VRel B) u p.2 Q) :
 wpAny (Mo B.w) A (call (.ref (B.adr k)) xs) Q E0 c.s:=
 have z:=a4m (b4f 8) h1 R rx
 wpAny_mono (C.2 (a0G Pr c.ρ p.2) A c.s xs Ro z.1.2.outer (a3x C.1 z.2)) (λ x s' h=>kq c.ρ s' x (Went.call R z.1 h.1 h.2.1 h.2.2.1) (h.2.2.2.mono ⟨λ _ _ n e _=>⟨e,n⟩,λ _ _ e=>nx0 e⟩)) λ _ _ h=>h
theorem All2.two {R R':PV->Value->Prop}(r:All2 R [w,m] ys)(h1:∀ y,R w y->R' w' y)(h2:∀ y,R m y->R' m y):All2 R' [w',m] ys:=r.consE ys λ y ys a r=>r.consE ys λ z zs b r=>r.nilE zs ⟨h1 y a,h2 z b,trivial⟩
theorem c4Z {mt mt':Addr->Prop}(hm:a0E [kl,km,m]=true)(C:Carry mt mt' ρ ρ h h)(r:Real B mt ρ h (.dict [kl,km] [w,m]) d)
 (hw:∀ y,VRel B mt ρ h w y->VRel B mt' ρ' h w' y):Real B mt' ρ' h (.dict [kl,km] [w',m]) d:=
 have n1:=a0A hm;have n2:=a0A n1.2
 r.imp λ o r=>r.imp λ es r=>r.imp λ k r=>⟨r.1,r.2.1,r.2.2.1,r.2.2.2.1,a3F (r.2.2.2.2.1.mono C) (show a0E [kl,km]=true from e1I.mpr ⟨n1.1,e1I.mpr ⟨n2.1,rfl⟩⟩),r.2.2.2.2.2.1.two hw λ y q=>a3y (q.mono C) (a0A n2.2).1,r.2.2.2.2.2.2⟩
theorem b0i (x:lv [d,e] [P,Q] a):a=d\/a=e:=x.elim λ i x=>x.elim λ p x=>match i,x with
 | 0,x=>.inl (sj x.1).symm| 1,x=>.inr (sj x.1).symm| _+2,x=>nx0 x.1
def Oth (Pr:Addr->Prop)(ρ:List Addr)(H:List PO)(d e:Addr):Addr->Prop:=λ a=>a0G Pr ρ H a/\a≠d/\a≠e
structure Pair (Pr:Addr->Prop)(ρ:List Addr)(H:List PO)(d e:Addr):Prop where
 ld:lv ρ H d
 le:lv ρ H e
 ne:d≠e
section
variable {H1 H2:List PO}{i j:Nat}{d e:Addr}{q0 q1 p0 p1:PO}{h:Heap}{ρ':List Addr}
theorem Pair.sub (D:Pair Pr ρ H1 d e)(z:a0G (Oth Pr ρ H1 d e) [d,e] [q0,q1] a):a0G Pr ρ H1 a:=z.elim (·.1) λ z=>(b0i z).elim (λ z=>z▸.inr D.ld) λ z=>z▸.inr D.le
theorem Pair.carry (D:Pair Pr ρ H1 d e):Carry (a0G Pr ρ H1) (a0G (Oth Pr ρ H1 d e) [d,e] [q0,q1]) ρ' ρ' h h:=⟨λ a o n e _=>⟨e,λ z=>n (D.sub z)⟩,λ _ _ e=>e⟩
theorem b4b {P:Nat->PO->Addr->Prop}(r0:P 0 q0 d)(r1:P 1 q1 e) (q) (o) (a)(e1:[q0,q1][q]?=some o)(e2:[d,e][q]?=some a):P q o a:=match q,e1,e2 with
 | 0,e1,e2=>sj e1▸sj e2▸r0| 1,e1,e2=>sj e1▸sj e2▸r1| _+2,e1,_=>nx0 e1
theorem Rel.sub2 (R:Rel B Pr ρ H1 h)(D:Pair Pr ρ H1 d e)(r0:Real B (a0G (Oth Pr ρ H1 d e) [d,e] [q0,q1]) [d,e] h q0 d)(r1:Real B (a0G (Oth Pr ρ H1 d e) [d,e] [q0,q1]) [d,e] h q1 e):Rel B (Oth Pr ρ H1 d e) [d,e] [q0,q1] h where
 base:=R.base
 len:=rfl
 nodup:=e1D.mpr ⟨λ m=>D.ne (e0u.mp m),e1D.mpr ⟨e0b,e1Q⟩⟩
 prl:=λ a p=>p.1.elim (R.prl a) λ p=>⟨R.mem p.mem,(R.away a p.mem).2⟩
 away:=λ a ma=>a9o ma (λ z=>⟨λ p=>p.2.1 z,(R.away a (z▸D.ld.mem)).2⟩) λ ma=>a9o ma (λ z=>⟨λ p=>p.2.2 z,(R.away a (z▸D.le.mem)).2⟩) d1g
 tabs:=R.tabs.mono (ρ:=ρ) (ρ':=ρ) D.carry λ _ _ _ _ e=>e
 real:=b4b (P:=λ _ o a=>Real B (a0G (Oth Pr ρ H1 d e) [d,e] [q0,q1]) [d,e] h o a) r0 r1
structure Turned (ρ:List Addr)(H1 H2:List PO)(i j:Nat)(d e:Addr)(p0 p1:PO):Prop where
 hd:ρ[i]?=some d
 he:ρ[j]?=some e
 len:H2.length=H1.length
 l0:p0.live=true
 l1:p1.live=true
 g0:H2[i]?=some p0
 g1:H2[j]?=some p1
 g:∀ q,q≠i->q≠j->H2[q]?=H1[q]?
theorem Turned.lv (T:Turned ρ H1 H2 i j d e p0 p1)(D:Pair Pr ρ H1 d e)(z:lv ρ H2 a):lv ρ H1 a:=z.elim λ q z=>z.elim λ o z=>by
 by_cases q1:q=i
 · exact sj (T.hd.symm.trans (q1▸z.1))▸D.ld
 · by_cases q2:q=j
   · exact sj (T.he.symm.trans (q2▸z.1))▸D.le
   · exact ⟨q,o,z.1,(T.g q q1 q2).symm.trans z.2.1,z.2.2⟩
theorem Turned.back (T:Turned ρ H1 H2 i j d e p0 p1)(D:Pair Pr ρ H1 d e)(l0:q0.live=true)(l1:q1.live=true)(z:a0G Pr ρ H2 a):a0G (Oth Pr ρ H1 d e) [d,e] [q0,q1] a:=by
 by_cases z1:a=d
 · exact .inr ⟨0,q0,z1▸rfl,rfl,l0⟩
 · by_cases z2:a=e
   · exact .inr ⟨1,q1,z2▸rfl,rfl,l1⟩
   · exact .inl ⟨z.imp id (T.lv D),z1,z2⟩
theorem Turned.rel {s s':Shared}(T:Turned ρ H1 H2 i j d e p0 p1)(D:Pair Pr ρ H1 d e)(R1:Rel B Pr ρ H1 s.heap)(kp:b2n B (λ a=>a=d \/ a=e) s.heap s'.heap)(l0:q0.live=true)(l1:q1.live=true)(R3:Rel B (Oth Pr ρ H1 d e) [d,e] [q0,q1] s'.heap)
 (c0:∀ C:Carry (a0G (Oth Pr ρ H1 d e) [d,e] [q0,q1]) (a0G Pr ρ H2) [d,e] [d,e] s'.heap s'.heap,Real B (a0G Pr ρ H2) ρ s'.heap p0 d) (c1:∀ C:Carry (a0G (Oth Pr ρ H1 d e) [d,e] [q0,q1]) (a0G Pr ρ H2) [d,e] [d,e] s'.heap s'.heap,Real B (a0G Pr ρ H2) ρ s'.heap p1 e):Rel B Pr ρ H2 s'.heap:=
 have C:∀ {ρ':List Addr},Carry (a0G (Oth Pr ρ H1 d e) [d,e] [q0,q1]) (a0G Pr ρ H2) ρ' ρ' s'.heap s'.heap:=⟨λ a o n ea _=>⟨ea,λ z=>n (T.back D l0 l1 z)⟩,λ _ _ e=>e⟩
 have X:∀ a o,¬ (a=d\/a=e)->s.heap.get? a=some o->s'.heap.get? a=some o\/(o.cls=.none/\(∃ vs,o.data=.fields vs) /\ ∃ ob',s'.heap.get? a=some ob'):=λ a o nx ea=>(kp a o nx ea).imp id λ z=>⟨z.2.1,z.2.2.elim λ vs z=>⟨vs,z.elim λ _ z=>z.1⟩,z.2.2.elim λ _ z=>z.elim λ _ z=>⟨_,z.2⟩⟩
 { base:=R3.base
   len:=R1.len.trans T.len.symm
   nodup:=R1.nodup
   prl:=λ a p=>⟨(R1.prl a p).1.elim λ o ea=>(X a o (λ z=>z.elim (λ z=>(R1.away a (z▸D.ld.mem)).1 p) λ z=>(R1.away a (z▸D.le.mem)).1 p) ea).elim (λ z=>⟨_,z⟩) λ z=>z.2.2,(R1.prl a p).2⟩
   away:=R1.away
   tabs:=R3.tabs.mono (ρ:=[]) (ρ':=[]) C λ _ _ _ _ e=>e
   real:=λ q o a e1 e2=>by
    by_cases q1:q=i
    · exact sj (T.g0.symm.trans (q1▸e1))▸sj (T.hd.symm.trans (q1▸e2))▸c0 C
    · by_cases q2:q=j
      · exact sj (T.g1.symm.trans (q2▸e1))▸sj (T.he.symm.trans (q2▸e2))▸c1 C
      · have na:¬ (a=d\/a=e):=λ z=>z.elim (λ z=>q1 (R1.inj e2 (z▸T.hd))) λ z=>q2 (R1.inj e2 (z▸T.he));exact (R1.real q o a ((T.g q q1 q2).symm.trans e1) e2).mono2 ⟨λ b o n eb f=>⟨(kp b o (λ z=>n (.inr (z.elim (λ z=>z▸D.ld) λ z=>z▸D.le))) eb).elim id λ z=>z.2.2.elim λ vs z'=>z'.elim λ _ z'=>f.elim (λ f=>absurd z'.1 (f vs)) λ f=>absurd z.2.1 f,λ z=>n (z.imp id (T.lv D))⟩,λ _ _ e=>e⟩ λ ob ea=>X a ob na ea }
end
theorem b0S {mt mt':Addr->Prop}{i:Nat}(hm:a0E [kl,km,m]=true)(C:Carry mt mt' ρ ρ h h)(he:ρ[i]?=some e)(he':ρ'[j]?=some e)(r:Real B mt ρ h (.dict [kl,km] [.loc i,m]) d):Real B mt' ρ' h (.dict [kl,km] [.loc j,m]) d:=
 c4Z hm C r λ y ry=>ry.locE y λ a ha=>.loc j a ((sj (he.symm.trans ha))▸he')
theorem a9v {mt mt':Addr->Prop}(nl:a0E l=true)(C:Carry mt mt' ρ ρ h h)(r:Real B mt ρ h (.list l) e):Real B mt' ρ' h (.list l) e:=
 r.elim λ o r=>r.elim λ items r=>⟨o,items,r.1,r.2.1,a3x nl (r.2.2.mono C)⟩
theorem d0M {i j:Nat}{p0 p1 q0 q1:PO}(hd:ρ[i]?=some d)(he:ρ[j]?=some e)(hi:H1[i]?=some q0)(hj:H1[j]?=some q1)(n:i≠j)(l0:p0.live=true)(l1:p1.live=true):Turned ρ H1 ((H1.set i p0).set j p1) i j d e p0 p1:=
 ⟨hd,he,by rw [e1W,e1W],l0,l1,by rw [List.getElem?_set_ne (Ne.symm n),List.getElem?_set_self (a0Q hi)],List.getElem?_set_self (by rw [e1W]; exact a0Q hj),λ q h1 h2=>by rw [List.getElem?_set_ne (Ne.symm h2),List.getElem?_set_ne (Ne.symm h1)]⟩
theorem Thw.turn {i j:Nat}{s s':Shared}(F:Froze H H1)(T:Turned ρ H1 H2 i j d e p0 p1)(D:Pair Pr ρ H1 d e)(hi:H1[i]?=some q0)(hj:H1[j]?=some q1)(l0:q0.live=true)(l1:q1.live=true)(same:∃ h tk,s'={ s with heap:=h,toks:=tk })(kp:b2n B (λ a=>a=d\/a=e) s.heap s'.heap)(R:Rel B Pr ρ H2 s'.heap):Went B Pr ρ H s ρ H2 s':=
 ⟨same,⟨[],(e0k _).symm,λ _ m=>absurd m e0b⟩,R,kp.mono λ a z=>z.elim (λ z=>z▸F.lv D.ld) λ z=>z▸F.lv D.le,λ q o _ e2 e3=>by
  by_cases q1:q=i
  · exact ⟨_,F.live _ _ (q1▸hi) l0,l0⟩
  · by_cases q2:q=j
    · exact ⟨_,F.live _ _ (q2▸hj) l1,l1⟩
    · exact ⟨o,F.live _ _ ((T.g q q1 q2).symm.trans e2) e3,e3⟩⟩
theorem c2H {i j:Nat}(Ro:Room n A)(C:FnD B n k kl km l m args' u l' m')
 (h1:a2W (c1w 8) c.st.H args=some (args',H1)) (hi:H1[i]?=some (.dict [kl,km] [.loc j,m])) (hj:H1[j]?=some (.list l)) (R:Rl B Pr c) (r0:VR B Pr c (.loc i) x) (rx:VRs B Pr c args xs) (kq:Fin B Pr c.ρ c.st.H c.s (VRel B) u ((H1.set i (.dict [kl,km] [.loc j,m'])).set j (.list l')) Q) :
   wpAny (Mo B.w) A (call (.ref (B.adr k)) (x::xs)) Q E0 c.s:=r0.locE x λ d hd=>by
  obtain ⟨⟨F1,R1⟩,r1⟩:=a4m (b4f 8) h1 R rx;obtain ⟨e,he,rj⟩:=R1.at hj;have hij:i≠j:=λ z=>nomatch (sj (hi.symm.trans ((congrArg (λ q=>H1[q]?) z).trans hj)):PO.dict [kl,km] [.loc j,m]=.list l);have D:Pair Pr c.ρ H1 d e:=⟨⟨i,_,hd,hi,rfl⟩,⟨j,_,he,hj,rfl⟩,λ z=>hij (R1.inj hd (z▸he))⟩
  have T:=d0M hd he hi hj hij (p0:=.dict [kl,km] [.loc j,m']) (p1:=.list l') rfl rfl;have nm:=a0A C.2.2.2.1;have n3:=a0A C.2.2.1;refine wpAny_mono (C.2.2.2.2 _ A c.s d e xs Ro (R1.sub2 D (b0S C.2.2.1 D.carry he rfl (R1.real i _ d hi hd)) (a9v C.2.1 D.carry rj)) ((a3x (ρ':=[]) C.1 r1).mono ⟨(D.carry (ρ':=[])).obj,λ _ _ e=>e⟩)) (λ y s' h=>?_) λ _ _ h=>h;have R3:=h.2.2.1;have R4:=T.rel D R1 h.2.1 rfl rfl R3 (λ C3=>b0S (e1I.mpr ⟨n3.1,e1I.mpr ⟨(a0A n3.2).1,e1I.mpr ⟨nm.1,rfl⟩⟩⟩) C3 rfl he (R3.real 0 _ d rfl rfl)) λ C3=>a9v nm.2 C3 (R3.real 1 _ e rfl rfl);exact kq c.ρ _ _ (Thw.turn F1 T D hi hj rfl rfl h.1 h.2.1 R4) (h.2.2.2.mono ⟨λ a o n ea _=>⟨ea,λ z=>n (T.back D rfl rfl z)⟩,λ _ _ e=>nx0 e⟩)
theorem c4v (e:c6i o=some d):o=.dict [d.1,d.2.1] [.loc d.2.2.1,d.2.2.2]:=by
 cases o with
 | dict ks vs=>exact oE e λ k hk e=>oE e λ v hv e=>oE e λ j hj e=>by rw [b7l hk,b7l hv,a2c hj,<- sj e]
 | _=>exact nx0 e
def KOK (B:Base)(K:Kt):Prop:=∀ k f a m v,K k=some f->f a=some (m,v)->FnOK B m k a v
theorem c2s (K:RcOK B n r)(BO:BaseOK2 B)(Ro:Room (n+1) A)(R:Rl B Pr c)(rx:VRs B Pr c args xs):Sm B Pr A c (c5f r k args) (call (.ref (B.adr k)) xs) (VRel B):=λ v st' e Q kq=>e.elim λ o e=>
 have inl:a1T r k args c.st=some (v,st',o)->wpAny (Mo B.w) A (call (.ref (B.adr k)) xs) Q E0 c.s:=λ h=>(a3u K BO Ro R rx:Sm B Pr A c _ _ (VRel B)) v st' ⟨o,h,e.2⟩ Q kq
 bcE e.1 (λ _ h=>inl h) λ _ h=>ocE h (λ p hp h=>bcE h (λ hn h=>oE h λ z hz h=>by have y:=a1C h;rw [<- y.1,<- y.2.1] at kq;exact a2O Ro (b3Q K BO hn hz (y.2.2.symm▸e.2)) hp R rx kq) λ _ h=>inl h) λ _ h=>inl h
theorem c3r (K:RcOK B n r)(BO:BaseOK2 B)(Ro:Room (n + 1) A)(R:Rl B Pr c)(rx:VRs B Pr c args xs)(h:d2V n r k args c.st q hs=some (v,st',o))(O:Obl B o)(kq:Fin B Pr c.ρ c.st.H c.s (VRel B) v st'.H Q) :
 wpAny (Mo B.w) A (call (.ref (B.adr k)) xs) Q E0 c.s:=by
 cases q with
 | inl=>exact (a3u K BO Ro (c:=⟨c.ρ,⟨c.st.H,hs⟩,c.s⟩) R rx) v st' ⟨o,h,O⟩ Q kq| val u=>refine oE h λ p hp h=>?_;have y:=a1C h;rw [<- y.1,<- y.2.1] at kq;exact a2O Ro (FnOK.le (show FnOK B n k p.1 u from ob1 O y.2.2) (e1r n)) hp R rx kq| pur l=>refine oE h λ p hp h=>gE h λ hn h=>oE h λ z hz h=>?_;have y:=a1C h;rw [<- y.1,<- y.2.1] at kq;exact a2O Ro (b3Q K BO hn hz (y.2.2.symm▸O)) hp R rx kq| dk u l' m'=>
   cases args with
   | nil=>exact nx0 h| cons a rest=>refine oE h λ i hi h=>oE h λ p hp h=>oE h λ o1 ho h=>oE h λ d hd h=>oE h λ o2 hj h=>oE h λ l hl h=>rx.consE xs λ x xs r0 rx=>?_;have y:=a1C h;rw [<- y.1,<- y.2.1] at kq;rw [a2c hi] at r0;exact c2H (Ro.le (e1r n)) (ob1 O y.2.2) hp (ho.trans (congrArg some (c4v hd))) (hj.trans (congrArg some (a1x hl))) R r0 rx kq
 | _=>exact nx0 h
theorem c8i (K:RcOK B n r)(BO:BaseOK2 B)(Ro:Room (n+1) A)(R:Rl B Pr c)(rx:VRs B Pr c args xs):Sm B Pr A c (c0V n r k args) (call (.ref (B.adr k)) xs) (VRel B):=λ v st' e Q kq=>e.elim λ o e=>
 hsE e.1 (λ h=>c2s K BO Ro R rx v st' ⟨o,h,e.2⟩ Q kq) λ q hs h=>c3r K BO Ro R rx h e.2 kq
theorem c9b (KO:KOK B Kk)(K:RcOK B n r)(BO:BaseOK2 B)(Ro:Room (n+1) A)(R:Rl B Pr c)(rx:VRs B Pr c args xs):Sm B Pr A c (d0i Kk n r k args) (call (.ref (B.adr k)) xs) (VRel B):=λ v st' e Q kq=>e.elim λ o e=>
 have plain:c0V n r k args c.st=some (v,st',o)->wpAny (Mo B.w) A (call (.ref (B.adr k)) xs) Q E0 c.s:=λ h=>(c8i K BO Ro R rx:Sm B Pr A c _ _ (VRel B)) v st' ⟨o,h,e.2⟩ Q kq
 ocE e.1 (λ f hf h=>ocE h (λ p hp h=>ocE h (λ q hq h=>gE h λ hm h=>by have y:=a1C h;rw [<- y.1,<- y.2.1] at kq;exact a2O Ro ((KO k f p.1 q.1 _ hf hq).le (e0l (e0t hm) (e1r n))) hp R rx kq) λ _ h=>plain h) λ _ h=>plain h) λ _ h=>plain h
end
theorem d0z (B)(BO:BaseOK2 B)(KO:KOK B Kk) (n):RcOK B n (rk Kk n):=by
 induction n with
 | zero=>exact ⟨λ e X=>.no,λ e X=>.no,λ e X=>.no,λ e X=>.no,fun {_ _ _} k {_ _} Ro R rx=>.no⟩| succ n K=>have hc:c1u B n (rk Kk n):=c4j B BO n (rk Kk n) K;have hl:c1s B n (rk Kk n):=c9U B BO.toBaseOK n (rk Kk n) K;have hw:b4S B n (rk Kk n):=c2E B n (rk Kk n) K;have hf:c9t B n (rk Kk n):=d2h B BO.toBaseOK n (rk Kk n) K;have hu:c9q B n (rk Kk n):=d0J B BO.toBaseOK n (rk Kk n) K;exact ⟨λ e X=>c4U BO.toBaseOK K hc hl e X,λ e X=>c2P K e X,λ e X=>c2j BO.toBaseOK K hw hf hu e X,λ e X=>c2V K e X.dn,fun {_ _ _} k {_ _} Ro R rx=>c9b KO K BO Ro R rx⟩
theorem c0k (BO:BaseOK2 B)(KO:KOK B Kk)(nl:a0E args=true)(e:a5P (rk Kk n) k args hs=some (t,o))(O:Obl B o):FnOK B (n+1) k args t:=
 b3Q (d0z B BO KO n) BO nl e O
section
variable {B:Base}{Pr:Addr->Prop}{ρ more:List Addr}{d e:Addr}{q0 q1:PO}{G:List PO}{h:Heap}
theorem d3E (l0:q0.live=true)(l1:q1.live=true)(z:a0G Pr [d,e] [q0,q1] a):a0G Pr ([d,e]++more) (q0::q1::G) a:=z.imp id λ z=>(b0i z).elim (λ z=>⟨0,q0,congrArg some z.symm,rfl,l0⟩) λ z=>⟨1,q1,congrArg some z.symm,rfl,l1⟩
theorem c9O (R:Rel B Pr ([d,e]++more) (q0::q1::G) h)(l0:q0.live=true)(l1:q1.live=true)
 (k:∀ C:Carry (a0G Pr ([d,e]++more) (q0::q1::G)) (a0G Pr [d,e] [q0,q1]) ([d,e]++more) ([d,e]++more) h h,Real B (a0G Pr [d,e] [q0,q1]) [d,e] h q0 d/\Real B (a0G Pr [d,e] [q0,q1]) [d,e] h q1 e):Rel B Pr [d,e] [q0,q1] h:=
 have C:∀ {ρ':List Addr},Carry (a0G Pr ([d,e]++more) (q0::q1::G)) (a0G Pr [d,e] [q0,q1]) ρ' ρ' h h:=⟨λ a o n e _=>⟨e,λ z=>n (d3E l0 l1 z)⟩,λ _ _ e=>e⟩
 { base:=R.base
   len:=rfl
   nodup:=(e1n.mp R.nodup).1
   prl:=R.prl
   away:=λ a ma=>R.away a (e1R _ ma)
   tabs:=R.tabs.mono (ρ:=[]) (ρ':=[]) C λ _ _ _ _ e=>e
   real:=b4b (P:=λ _ o a=>Real B (a0G Pr [d,e] [q0,q1]) [d,e] h o a) (k C).1 (k C).2 }
theorem d1K (l0:q0.live=true)(l1:q1.live=true)(z:a0G Pr ρ (.opq::.opq::G) a):a0G Pr ρ (q0::q1::G) a:=z.imp id λ z=>z.elim λ q z=>z.elim λ p z=>match q,z with
 | 0,z=>⟨0,q0,z.1,rfl,l0⟩
 | 1,z=>⟨1,q1,z.1,rfl,l1⟩
 | q+2,z=>⟨q+2,p,z⟩
theorem a6v (l0:q0.live=true)(l1:q1.live=true):Carry (a0G Pr ρ (q0::q1::G)) (a0G Pr ρ (.opq::.opq::G)) ρ ρ h h:=⟨λ a o n e _=>⟨e,λ z=>n (d1K l0 l1 z)⟩,λ _ _ e=>e⟩
theorem c7p (R:Rel B Pr ρ (q0::q1::G) h)(l0:q0.live=true)(l1:q1.live=true):Rel B Pr ρ (.opq::.opq::G) h:=
 { base:=R.base
   len:=R.len
   nodup:=R.nodup
   prl:=R.prl
   away:=R.away
   tabs:=R.tabs.mono (a6v l0 l1) λ _ _ _ _ e=>e
   real:=λ q o a e1 e2=>match q,e1,e2 with
    | 0,e1,e2=>sj e1▸(R.real 0 q0 a rfl e2).has| 1,e1,e2=>sj e1▸(R.real 1 q1 a rfl e2).has| q+2,e1,e2=>(R.real (q+2) o a e1 e2).mono (a6v l0 l1) λ _ e=>e }
theorem c4b (R:Rel B Pr ([d,e]++more) (.opq::.opq::G) h){i:Nat}(e1:([d,e]++more)[i]?=some a)(e2:(PO.opq::.opq::G)[i]?=some o)(e3:o.isOpq=false)(z:a0G Pr [d,e] [q0,q1] a):False:=match i,e1,e2 with
 | 0,_,e2=>nx3 ((congrArg PO.isOpq (sj e2)).trans e3)| 1,_,e2=>nx3 ((congrArg PO.isOpq (sj e2)).trans e3)| i+2,e1,_=>z.elim (λ z=>(R.away a (e0s e1)).1 z) λ z=>(b0i z).elim (λ z=>nomatch R.inj e1 (j:=0) (congrArg some z.symm)) λ z=>nomatch Nat.succ.inj (R.inj e1 (j:=1) (congrArg some z.symm))
end
theorem d2k (BO:BaseOK2 B)(KO:KOK B Kk){ob:Obs}(nl:a0E args=true /\ a0E l=true /\ a0E [kl,km,m]=true /\ a0E (m'::l')=true)
 (e:a1T (rk Kk n) k (.loc 0::args) ⟨[.dict [kl,km] [.loc 1,m],.list l],hs⟩=some (v,⟨.dict [kl,km] [.loc 1,m']::.list l'::G,hs'⟩,ob)) (O:Obl B ob) (ht:a0b 8 (.opq::.opq::G) v=some t) :
 FnD B (n+1) k kl km l m args t l' m':=by
 refine ⟨nl.1,nl.2.1,nl.2.2.1,nl.2.2.2,λ Pr A s d e' xs Ro R rx=>?_⟩;have hr:VRels B (a0G Pr [d,e'] [.dict [kl,km] [.loc 1,m],.list l]) [d,e'] s.heap (.loc 0::args) (.ref d::xs):=⟨VRel.loc 0 d rfl,a3x nl.1 rx⟩
 refine (a3u (d0z B BO KO n) BO Ro R hr:Sm B Pr A ⟨[d,e'],⟨[.dict [kl,km] [.loc 1,m],.list l],hs⟩,s⟩ _ _ (VRel B)) v _ ⟨ob,e,O⟩ _ λ ρ' s' x W r=>?_;have W':Went B Pr [d,e'] [.dict [kl,km] [.loc 1,m],.list l] s ρ' (.dict [kl,km] [.loc 1,m']::.list l'::G) s':=W;obtain ⟨more,rfl,_⟩:=W'.ext;have nm:=a0A nl.2.2.2;have n3:=a0A nl.2.2.1;have R2:=c7p W'.rel rfl rfl;refine ⟨W'.same,W'.keep.mono λ a z=>b0i z,c9O W'.rel rfl rfl λ C=>⟨b0S (e1I.mpr ⟨n3.1,e1I.mpr ⟨(a0A n3.2).1,e1I.mpr ⟨nm.1,rfl⟩⟩⟩) C rfl rfl (W'.rel.real 0 _ d rfl rfl),a9v nm.2 C (W'.rel.real 1 _ e' rfl rfl)⟩,?_⟩;exact a6i R2 (Q:=a0G Pr [d,e'] [.dict [kl,km] [.loc 1,m'],.list l']) (λ a z=>z.imp id λ z=>(b0i z).elim (λ z=>⟨0,.opq,congrArg some z.symm,rfl,rfl⟩) λ z=>⟨1,.opq,congrArg some z.symm,rfl,rfl⟩) (λ i a o e1 e2 e3 z=>c4b R2 e1 e2 e3 z) 8 ht ((r:VRel B (a0G Pr ([d,e']++more) (.dict [kl,km] [.loc 1,m']::.list l'::G)) ([d,e']++more) s'.heap v x).mono (a6v rfl rfl))
end
section
open PySem PySem.W PySem.Calls PyProof.Rows
theorem a7c (x:Str):∀ l:List DictEntry,a0n l x=(l.find? λ e=>e.key.isStr x).map (·.val)
 | []=>rfl| e::l=>by
   have hc:oc (b7f e.key) (λ s=>sEq s x) false=e.key.isStr x:=by
    cases e.key with
    | str s t=>exact a6q s x| _=>rfl
   dsimp only [a0n];rw [List.find?_cons,a7c x l,hc];cases e.key.isStr x <;> rfl
theorem a4C {x:Str}{v:Value}:∀ {l:List DictEntry},a0n l x=some v->∃ e∈l,b7f e.key=some x /\ e.val=v
 | [],h=>nx0 h| e::l,h=>bcE h (λ c h=>anE c λ s hs c=>⟨e,e0X,hs.trans (congrArg some (a0w.mp c)),sj h⟩) λ _ h=>(a4C h).imp λ _ m=>⟨e0Z _ m.1,m.2⟩
theorem a7M {f:Str->Bool}{l:List DictEntry}{x:Str}{v:Value}(h:a6Y f l=true)(q:a0n l x=some v):f x=true:=
 (a4C q).elim λ e m=>anE (e0w.mp h e m.1) λ s hs c=>sj (hs.symm.trans m.2.1)▸c
theorem a7N:∀ {l:List DictEntry}{ns:List Str},a8n l ns=true->∀ e∈l,∃ s,b7f e.key=some s /\ s∈ns
 | [],_,_,_,m=>absurd m e0b| _::_,[],h,_,_=>nx2 h| e::l,n::ns,h,x,m=>bcE h (λ c h=>(e0d.mp m).elim (λ z=>anE c λ s hs c=>⟨s,z▸hs,a0w.mp c▸e0X⟩) λ m=>(a7N h x m).imp λ _ q=>⟨q.1,e0Z _ q.2⟩) λ _ h=>(a7N h x m).imp λ _ q=>⟨q.1,e0Z _ q.2⟩
def a1u (w:World)(h:Heap):Base:=⟨w,a2L,h,mainGlobals,builtinsNs,λ P=>d1z.lookup P⟩
section
variable {w:World}{g:GH}{h:Heap}
theorem a8r {a:Nat}(x:a1i g a=true):∃ o es n,g a=some o/\o.data=.dict es n/\(∀ e∈es,∃ n t,e.key=.str n t)/\a0j g a=es.toList:=
 anE x λ es he k=>oE he λ o ho hd=>(c1H hd).elim λ n hn=>⟨o,es,n,ho,hn,λ e m=>anE (e0w.mp k e (e2i.mpr m)) λ s hs _=>⟨s,b4Y hs⟩,by unfold a0j; rw [he]; rfl⟩
variable (K:∀ a o,g a=some o->h.get? a=some o)
include K
theorem b9L {a:Nat}(x:a1i g a=true):h.Ns a (a0n (a0j g a)):=by obtain ⟨o,es,n,ho,hd,hs,he⟩:=a8r x;refine ⟨o,es,n,K _ _ ho,hd,hs,λ name=>?_⟩;rw [he,a7c];obtain ⟨l⟩:=es;simp [nsFind,findBy]
omit K
theorem b1S {t:String}{o:Obj}(h:b8s t o=true):o.cls=.type t/\o.dict=none/\o.slots=#[]:=
 aE h λ h h'=>anE h λ n hn e=>aE h' λ h1 h2=>⟨(a6h hn).trans (congrArg Value.type (eq_of_beq e)),a2l h1,e2n.mp (a0s h2)⟩
include K
theorem b1E {f:PV->Value->Bool}(hf:∀ p v,f p v=true->VRel (a1u w h) Mt0 [] h p v){l:List PV}{a:Nat}(x:b8Z f g l a=true):∃ o items,h.get? a=some o/\seqObj "tuple" o items/\VRels (a1u w h) Mt0 [] h l items:=
 anE x λ o ho x=>anE x λ items hi x=>a3E x λ x1 x2 x3=>(d3A hi).elim λ k hk=>
  have p:=b1S x1
  ⟨o,items.toList,K _ _ ho,⟨p.1,p.2.1,p.2.2,e0l (e0t x2) (by decide),k,hk⟩,a5W hf x3⟩
theorem b2t (n:Nat):∀ {p:PV}{v:Value},c5F g n p v=true->VRel (a1u w h) Mt0 [] h p v:=by
 induction n with
 | zero=>exact fun {p v} x=>nx2 x| succ n ih=>
   intro p v x;cases p with
   | none=>rw [a3m x]; exact .none| bool a=>exact anE x λ b hb e=>by rw [b7h hb,eq_of_beq e]; exact .bool _
   | int i=>exact anE x λ b hb e=>(b7g hb).elim λ t ht=>by rw [ht,of_decide_eq_true ((a1L _ _).symm.trans e)]; exact .int _ _
   | str i=>exact anE x λ b hb e=>(b4Y hb).elim λ t ht=>by rw [ht,a0w.mp e]; exact .str _ _
   | tup l=>refine anE x λ a ha x=>?_;rw [a4M ha];exact (b1E (w:=w) K (λ p v=>ih) x).elim λ o q=>q.elim λ items q=>.tup l a o items (λ z=>z) q.1 q.2.1 q.2.2| dct ks vs=>
     refine anE x λ a ha x=>anE x λ o ho x=>anE x λ es he x=>a7E x λ x1 x2 x3 x4 x5 x6 x7=>?_;rw [a4M ha];obtain ⟨n,hn⟩:=c1H he;obtain ⟨is,rfl⟩:=a6Z w ks x3;exact .dct _ vs a o es n (λ z=>z) (K _ _ ho) (b1S x1) hn ⟨List.Pairwise.map _ (λ _ _ n e=>n (PV.int.inj e)) (a2G (a3I w) x4),λ z=>nx3 ((e1X _).symm.trans (z▸a3D x2))⟩
      ⟨a5W (λ p v=>ih) x5,a5W (λ p v=>ih) x6,a5W (λ k e h=>anE h λ i hi h=>by rw [a0c hi]; exact congrArg some (of_decide_eq_true ((a1L _ _).symm.trans h))) x7⟩
   | gl k=>exact anE x λ a ha e=>by rw [a4M ha,e0r e]; exact VRel.gl (B:=a1u w h) k
   | _=>exact nx2 x
omit K
theorem b8C {P:Nat}(x:a9R g P=true):g P=some { cls:=.none,data:=.fields #[] }:=
 anE x λ o ho x=>a4E x λ x1 x2 x3 x=>anE x λ vs hv x4=>by rw [ho];obtain ⟨c,d,dt,sl⟩:=o;rw [show c=.none from a3m x1,show d=none from a2l x2,show sl=#[] from e2n.mp (a0s x3),show dt=.fields vs from a7f hv,e2n.mp (a0s x4)]
theorem a7b {a:Nat}{fd:FuncData}(x:c1y g a=some fd):∃ o,g a=some o/\o.cls=.type "function" /\ o.data=.func fd:=
 oE x λ o ho x=>gE x λ c x=>anE c λ n hn e=>⟨o,ho,(a6h hn).trans (congrArg Value.type (eq_of_beq e)),c9M x⟩
include K
theorem a9H {c P:Nat}{q:Str}(x:c1N g c q=some P):a9R g P=true/\CodeHd h c P /\ ∃ o vs t,h.get? c=some o/\o.cls≠.none/\o.data=.fields vs/\vs[1]?=some (.str q t):=
 oE x λ o ho x=>oE x λ vs hv x=>oE x λ q' hq x=>oE x λ P' hP x=>gE x λ y x=>oE hq λ v1 h1 hq=>oE hP λ v2 h2 hP=>a8E y λ y1 y2 y3 y4 y5 y6 y7 y8=>
  anE y1 λ n hn e=>anE y2 λ file hf _=>anE y3 λ fl hfl _=>anE y4 λ b hb _=>anE y5 λ te hte _=>by
   obtain rfl:=sj x;obtain ⟨t,ht⟩:=b4Y hq;obtain ⟨tf,htf⟩:=b4Y hf;obtain ⟨tg,htg⟩:=b7g hfl;obtain ⟨tt,htt⟩:=b7g hte;have hc:o.cls=.type "code" := (a6h hn).trans (congrArg Value.type (eq_of_beq e));have hr:vs[11]?=some (.ref P'):=h2.trans (congrArg some (a4M hP));exact ⟨y8,⟨o,vs,file,tf,fl,tg,b,te,tt,K _ _ ho,hc,a7f hv,hr,by rw [Array.getD_eq_getD_getElem?,hr]; rfl,htf,htg,b7h hb,htt,λ z=>nx3 ((e1X _).symm.trans (z▸a3D y7))⟩,
    o,vs,t,K _ _ ho,(λ z=>nomatch hc.symm.trans z),a7f hv,h1.trans (congrArg some (ht.trans (congrArg (Value.str · t) (a0w.mp y6))))⟩
omit K
theorem a8i {x:Nat×Str}:∀ {l:List (Nat×Str)},c1m l=true->x∈l->l.lookup x.1=some x.2
 | [],_,m=>absurd m e0b| y::l,h,m=>by
   rw [show (y::l).lookup x.1=(match x.1==y.1 with | true=>some y.2 | false=>l.lookup x.1) from by cases y; rfl];refine (e0d.mp m).elim (λ e=>?_) λ m=>?_
   · rw [e,beq_self_eq_true]
   · rw [beq_eq_false_iff_ne.mpr λ z=>nx3 ((e1X _).symm.trans (z▸a3D (e0w.mp (a0A h).1 x m)))];exact a8i (a0A h).2 m
theorem c0A {P:Nat}{q:Str}:∀ {l:List (Nat×Str)},l.lookup P=some q->(P,q)∈l
 | [],e=>nx0 e| (y1,y2)::l,e=>by
   rw [e0x] at e;by_cases z:P=y1
   · subst z;rw [beq_self_eq_true] at e;exact sj e▸e0X
   · rw [beq_eq_false_iff_ne.mpr z] at e;exact e0Z _ (c0A e)
theorem b1h:∀ {l:List Str},b9O l=true->l.Nodup
 | [],_=>e1Q| x::l,h=>e1D.mpr ⟨λ m=>nx3 ((a0w.mpr rfl).symm.trans (a3D (e0w.mp (a0A h).1 x m))),b1h (a0A h).2⟩
end
theorem c0B:c1m d1z=true:=by decide +kernel
section
variable {w:World}{g:GH}{h:Heap}(K:∀ a o,g a=some o->h.get? a=some o)
theorem a7U {f:Str->PV->Bool}{x:List Nat}{v:PV}:∀ {T:GT},a3M f T=true->T.at x=some v->f (S x) v=true
 | .leaf,_,e=>nx0 e| .node k u l r,c,e=>by
   dsimp only [GT.at] at e;cases hc:a6y x k with
   | zero=>rw [hc] at e; exact a7U (a0A (a0A c).2).1 e| succ n=>
     rw [hc] at e;cases n with
     | zero=>rw [a5h hc,<- sj e]; exact (a0A c).1| succ n=>exact a7U (a0A (a0A c).2).2 e
theorem c1b {p:PV}{v:Value}(c:c6g p v=true):VRel (a1u w h) Mt0 [] h p v:=by
 cases p with
 | blt id=>exact anE c λ b hb e=>by rw [c5H hb,eq_of_beq e]; exact .blt id
 | typ id=>exact anE c λ b hb e=>by rw [a6h hb,eq_of_beq e]; exact .typ id
 | _=>exact nx2 c
theorem a6o (a b c x:Nat):d3j a b c x<4:=by unfold d3j;cases e0g x a <;> cases e0g x b <;> cases e0g x c <;> decide
def c6m (es:List DictEntry)(h:Heap)(j:Nat):Prop:=∃ g:GH,(∀ a o,g a=some o->h.get? a=some o)/\(fnS j).map (c4s g)=(fnS j).map b7U/\c5S es g j=true
theorem c8r {es bs:List DictEntry}(n0:h.Ns mainGlobals (a0n es))(n1:h.Ns builtinsNs (a0n bs))(c:a3M (a7V es bs) a5m=true)(F:∀ j<4,c6m es h j):b6Q (a1u w h):=by refine ⟨_,_,n0,n1,λ x v e=>?_⟩;have hc:a7V es bs x v=true:=a7U c e;refine ocE hc (λ y hy hc=>.inl ⟨y,hy,?_⟩) λ hn hc=>.inr ⟨hn,anE hc λ y hy c=>⟨y,hy,c1b c⟩⟩;refine (e1m.mp hc).elim (λ hr=>(b5Z hr).elim λ a ha=>?_) (b2t (g:=λ _=>none) (λ _ _ e=>nx0 e) 1);obtain ⟨e',m,hk,hv⟩:=a4C hy;obtain ⟨g,K,_,c⟩:=F (adS a) (a6o _ _ _ _);have d:=e0w.mp (a0A c).1 e' m;rw [hv,ha,hk] at d;have d:(!e0Y (adS a) (adS a)||oc (a5m.at x.cps.toList) (λ p=>c5F g 4 p y) true)=true:=d;rw [e1X,e] at d;exact b2t K 4 d
theorem a9p {α β:Type}{f g:α->β}:∀ {l:List α},l.map f=l.map g->∀ a∈l,f a=g a
 | a::l,e,b,m=>(e0d.mp m).elim (λ z=>z▸(List.cons.inj e).1) (a9p (List.cons.inj e).2 b)
theorem a7C {k:Nat}(hm:k∈a2m):k∈fnS (stS k):=e2Y.mpr ⟨hm,e1X _⟩
include K
theorem c9L {ds:List PV}{v:Value}(c:c1E g ds v=true):(ds=[]/\v=.none) \/ ∃ T oT items,v=.ref T/\h.get? T=some oT/\seqObj "tuple" oT items/\VRels (a1u w h) Mt0 [] h ds items:=
 (e1m.mp c).imp (λ c=>⟨a0s (a0A c).1,a3m (a0A c).2⟩) λ c=>anE c λ T hT c=>(b1E K (λ p v=>b2t K 3) c).elim λ o q=>q.elim λ items q=>⟨T,o,items,a4M hT,q⟩
omit K in
theorem b6J {k:Nat}{st:Stmt}{q:Str×Arguments×List Stmt×Scope}(hst:a7w k=some st)(hq:fnD st=some q):b7U k=some (q.2.1,.stmts q.2.2.1,q.2.2.2):=by unfold b7U;rw [hst];show ob (fnD st) _=_;rw [hq];rfl
omit K in
theorem c4r {k:Nat}{fd:FuncData}(hfd:c1y g (a2L k)=some fd):c4s g k=some (fd.params,fd.body,fd.scope):=by unfold c4s;rw [hfd];rfl
omit K in
theorem c8e {k:ScopeKind}(h:d2J k=true):k=.function:=by cases k <;> first | rfl | exact nx2 h
omit K in
theorem b1U {a:Arguments}(h:b1V a=true):a=⟨[],a.args,none,[],[],none,a.defaults⟩:=by obtain ⟨x1,x2,x3,x4,x5,x6,x7⟩:=a;exact a5E h λ y1 y2 y3 y4 y5=>by rw [show x1=[] from a0s y1,show x3=none from a2l y2,show x4=[] from a0s y3,show x5=[] from a0s y4,show x6=none from a2l y5]
omit K in
theorem d1y {k P:Nat}{PQ:Nat×Str}{q:Str}(hm:k∈a2m)(hl:(e0Y PQ.1 (c1x k).1&&sEq PQ.2 (c1x k).2)=true)(e:(P,q)=PQ):d1z.lookup P=some q:=by subst e;have h1:P=(c1x k).1:=e0r (a0A hl).1;have h2:q=(c1x k).2:=a0w.mp (a0A hl).2;rw [h1,h2];exact a8i c0B (by rw [b5U]; exact e0e.mpr ⟨k,hm,rfl⟩)
theorem c0l {k:Nat}{f:FnI}{fd:FuncData}{PQ:Nat×Str}{as:Arguments}(hm:k∈a2m)(hl:(e0Y PQ.1 (c1x k).1&&sEq PQ.2 (c1x k).2)=true)(hfd:c1y g (a2L k)=some fd)(hT:d2j g k=some PQ)(p1:fd.params=as)(p2:fd.body=.stmts f.body)(p3:fd.scope=f.sc)(p4:as.args.map (·.arg)=f.params)(c:fnC g f fd as=true):FnAt (a1u w h) k f:=
 a8E c λ c1 c4 c5 c6 c7 c8 c9 c10=>a3E c1 λ c1 c2 c3=>(a7b hfd).elim λ o ho=>oE hT λ fd' hfd' hT'=>oE hT' λ cc hc' hT'=>oE hT' λ P hP hT'=>by
  cases sj (hfd.symm.trans hfd');obtain ⟨w1,w2,oc',vs,t,w3⟩:=a9H K hP;exact ⟨⟨a3D c1,a3D c2,c8e c3⟩,b1h c4,e0t c5,⟨o,fd,as.args,as.defaults,K _ _ ho.1,ho.2.2,p3,p2,e0r c6,e0r c7,p1.trans (b1U c9),p4,c9L K c10,
   cc,oc',vs,t,a4M hc',w3.1,w3.2.1,w3.2.2.1,w3.2.2.2,P,w2,d1y hm hl (sj hT')⟩⟩
omit K
theorem c9C {es:List DictEntry}(F:∀ j<4,c6m es h j){k:Nat}{f:FnI}(e:a2U k=some f):FnAt (a1u w h) k f:=
 gE (show gd (a2E k a2m) (ob (a7w k) b5p)=some f from e) λ hm e'=>oE e' λ st hst e'=>oE e' λ q hq e'=>oE e' λ ds _ e'=>(F _ (a6o _ _ _ _)).elim λ g G=>aE G.2.2 λ _ c=>aE c λ hc _=>anE (e0w.mp hc k (a7C (a3i hm))) λ f' hf' c=>anE c λ fd hfd c=>anE c λ PQ hT c=>aE c λ hl c=>anE c λ q' hq' c=>
  have ho:=b6J hst hq;have p:=Prod.mk.inj (sj ((c4r hfd).symm.trans ((a9p G.2.1 k (a7C (a3i hm))).trans ho)));have p2:=Prod.mk.inj p.2;have e3:=sj e'
  c0l G.1 (a3i hm) hl hfd hT p.1 (p2.1.trans (congrArg (λ f=>FuncBody.stmts f.body) e3)) (p2.2.trans (congrArg FnI.sc e3)) (congrArg FnI.params e3) (by rw [sj (e.symm.trans hf'),show q.2.1=q'.1 from congrArg e1f (sj (ho.symm.trans hq'))]; exact c)
theorem c7C {es:List DictEntry}(F:∀ j<4,c6m es h j)(mt:Addr->Prop):TabsOK (a1u w h) mt h:=λ P q e=>
 (e0e.mp (b5U▸c0A e)).elim λ k m=>(F _ (a6o _ _ _ _)).elim λ g G=>aE G.2.2 λ _ c=>aE c λ hc _=>anE (e0w.mp hc k (a7C m.1)) λ f' hf' c=>anE c λ fd hfd c=>anE c λ PQ hT c=>aE c λ hl c=>oE hT λ fd _ x=>oE x λ c _ x=>oE x λ P' hP x=>by have hP:=G.1 _ _ (b8C (a9H G.1 hP).1);obtain rfl:P=P':=((congrArg e1f m.2).symm.trans (e0r (a0A hl).1).symm).trans (congrArg e1f (sj x)).symm;exact ⟨⟨_,hP⟩,#[],hP,trivial⟩
theorem c2Y {l:List (Option Value)}{n:String}(x:d0p l=some n):∃ k0 k1 k2 k3 k5,l=[k0,k1,k2,k3,some (.builtin n),k5]:=
 oE x λ a ha x=>oE x λ b hb x=>oE x λ c hc x=>oE x λ d hd x=>oE x λ e he x=>oE x λ f hf x=>gE x λ hn x=>oE x λ v hv x=>⟨a.1,b.1,c.1,d.1,f.1,by rw [b2u ha,b2u hb,b2u hc,b2u hd,b2u he,b2u hf,a0s hn,hv,c5H x]⟩
include K
theorem c4g {a N:Nat}(x:c9Y g a=some N)(d:a1i g N=true):ClsAt h a N (a0n (a0j g N)):=
 oE x λ o ho x=>oE x λ cd hcd x=>oE x λ nid hn x=>gE x λ c hx=>a6E c λ c1 c2 c3 c4 c5 c6=>⟨anE c1 λ n hc e=>by
  have ho:=K _ _ ho;obtain ⟨cl,dd,dt,⟨sl⟩⟩:=o;rw [show dt=.cls cd from d3D hcd,show cl=.type "type" from (a6h hc).trans (congrArg Value.type (eq_of_beq e))] at ho;obtain ⟨nm,bs,mro,ns,q,hd,sn,sub,ab,col,del⟩:=cd;rw [show ns=N from sj hx,show hd=true from c2,show ab=false from a3D c3,show del=false from a3D c4] at ho;have hm:mro=[.ref a,.type "object"]:=anE (show d1e a mro=true from c6) λ p hp c=>aE c λ c6 c7=>anE c6 λ b hb e6=>anE c7 λ ob hob e7=>by rw [b7l hp,a4M hb,a6h hob,e0r e6,eq_of_beq e7]
  obtain ⟨k0,k1,k2,k3,k5,hs⟩:=c2Y hn;rw [hm,show sl=_ from hs,eq_of_beq c5] at ho;exact ⟨nm,q,bs,sn,sub,col,dd,k0,k1,k2,k3,k5,ho⟩,b9L K d⟩
omit K
theorem c4f {es:List DictEntry}(F:∀ j<4,c6m es h j):b6R (a1u w h):=λ k hk=>(F _ (a6o _ _ _ _)).elim λ g G=>a4E G.2.2 λ _ hf hc hm=>
 anE (e0w.mp hc k (e2Y.mpr ⟨a3i hk,e1X _⟩)) λ N hN x=>a5E x λ x1 x2 x3 x4 x5=>⟨N,_,c4g G.1 hN x1,a2l x3,a2l x4,a2l x5,λ y hy=>by
  cases e:a0n (a0j g N) y with
  | none=>rfl| some v=>exact nx3 (hy.symm.trans (a3D (a7M x2 e))),
  λ y j hj=>oE hj λ b _ hj=>oE hj λ i _ hj=>gE hj λ c hj=>a4E c λ c1 c2 c3 c4=>by
   rw [sj hj] at c1 c2 c3 c4;have mj:j∈fnS (stS k):=by rw [show stS k=stS j from by rw [<- e0r c3]; unfold stS; rw [Nat.mod_mod]]; exact a7C (a3i c1)
   have m:=e0w.mp hm j mj;unfold b9b at m;rw [a3D c4,e0r c3,hk] at m;refine anE m λ n hn m=>anE m λ a ha m2=>oE ha λ N' hN' ha1=>oE ha1 λ v hv ha2=>anE c2 λ n' hn' c2=>anE (e0w.mp hf j mj) λ f hf c=>anE c λ fd hfd c=>?_;obtain rfl:=sj (hn.symm.trans hn');obtain rfl:=sj (hN.symm.trans hN');obtain ⟨o,w1,w2,_⟩:=a7b hfd;rw [<- a0w.mp c2,hv,a4M ha2,e0r m2];exact ⟨rfl,o,G.1 _ _ w1,w2⟩⟩
end
section
variable {w:World}{g:GH}{h:Heap}(K:∀ a o,g a=some o->h.get? a=some o)
theorem b0O {a:Nat}(x:a1i g a=true):∃ o es n,g a=some o/\o.data=.dict es n/\(∀ e∈es,∃ n t,e.key=.str n t) /\ ∀ k,(es.find? (·.key.isStr k)).map (·.val)=a0n (a0j g a) k:=by obtain ⟨o,es,n,ho,hd,hs,he⟩:=a8r x;refine ⟨o,es,n,ho,hd,hs,λ k=>?_⟩;rw [he,a7c];obtain ⟨l⟩:=es;simp
include K
theorem b0p (x:a1i g cStatics=true)(k:Str):staticOf h k=a0n (a0j g cStatics) k:=by obtain ⟨o,es,n,ho,hd,_,hf⟩:=b0O x;unfold staticOf;rw [K _ _ ho];dsimp only;rw [hd];exact hf k
theorem a5G (x:a1i g mainGlobals=true)(k:Str):globalOf h k=a0n (a0j g mainGlobals) k:=by obtain ⟨o,es,n,ho,hd,_,hf⟩:=b0O x;unfold globalOf;rw [show h.get? mainNs=some o from K _ _ ho];dsimp only;rw [hd];exact hf k
end
structure TopFacts (w:World)(h:Heap):Prop where
 base:BaseOK2 (a1u w h)
 tabs:∀ mt,TabsOK (a1u w h) mt h
 stat:∀ key v,staticOf h key=some v->key.opensWith "type.__subclasses__." = true
 keys:keysAreStrs h mainNs
 blt:builtinsGlobalAsBooted h
 bound:∀ x v,globalOf h x=some v->x∈startupNames\/x∈prg.boundNames
 law:isTheDefsW prg h "law" /\ globalOf h "law" = some (.ref (a2L 144))
theorem c8S:prg.theDef "law" = ob (a7w 144) λ s=>ob (fnD s) λ q=>some (q.2.1,q.2.2.1,q.2.2.2):=by kernel_rfl
def c4z (a:Option (Arguments×FuncBody×Scope)):Bool:=oc a (λ q=>a1D q.1.defaults&&(a1D q.1.kwonlyargs&&a1D q.1.kw_defaults)) false
theorem c3S:(c4z (b7U 144)&&a2E 144 a2m)=true:=by decide +kernel
section
variable {w:World}{g:GH}{h:Heap}(K:∀ a o,g a=some o->h.get? a=some o)
include K
theorem c5q (c:c5r g=true):∃ bm ob,a0n (a0j g mainGlobals) "__builtins__" = some (.ref bm)/\bm≠builtinsNs/\bm≠mainGlobals/\h.get? bm=some ob/\ob.cls=.type "module" /\ ob.dict=some builtinsNs/\ob.data=.plain:=
 anE c λ a ha c=>oE ha λ y hy ha=>anE c λ o ho c=>a5E c λ c1 c2 c3 c4 c5=>anE c1 λ n hn e=>anE c2 λ d hd e2=>
  ⟨a,o,hy.trans (congrArg some (a4M ha)),λ z=>nx3 ((e1X _).symm.trans (z▸a3D c4)),λ z=>nx3 ((e1X _).symm.trans (z▸a3D c5)),K _ _ ho,(a6h hn).trans (congrArg Value.type (eq_of_beq e)),hd.trans (congrArg some (e0r e2)),b7E c3⟩
omit K in
theorem c8B {as:Arguments}(h:(a1D as.defaults&&(a1D as.kwonlyargs&&a1D as.kw_defaults))=true):∃ a b c d,as=⟨a,b,c,[],[],d,[]⟩:=by obtain ⟨x1,x2,x3,x4,x5,x6,x7⟩:=as;exact a3E h λ y1 y2 y3=>⟨x1,x2,x3,x6,by rw [show x7=[] from a0s y1,show x4=[] from a0s y2,show x5=[] from a0s y3]⟩
theorem b3i {fd:FuncData}{r:Str×Arguments×List Stmt×Scope}(hg:globalOf h "law" = some (.ref (a2L 144))) (hfd:c1y g (a2L 144)=some fd) (hl:prg.theDef "law" = some (r.2.1,r.2.2.1,r.2.2.2)) (p1:fd.params=r.2.1) (p2:fd.body=.stmts r.2.2.1) (p3:fd.scope=r.2.2.2)
 (hn:(a1D r.2.1.defaults&&(a1D r.2.1.kwonlyargs&&a1D r.2.1.kw_defaults))=true) (c:d7p fd=true):isTheDefsW prg h "law" :=
 a7E c λ b2 b3 b4 b5 b6 b7 b8=>(a7b hfd).elim λ o ho=>⟨_,o,fd,_,_,_,hg,K _ _ ho.1,ho.2.2,hl,a0w.mp b2,a0w.mp b3,p1,p2,p3,e0r b7,a0s b6,e0r b8,by obtain ⟨a,b,c,d,e⟩:=c8B hn;rw [e];exact ⟨.inl ⟨rfl,a3m b4⟩,[],rfl,.inl ⟨rfl,a3m b5⟩⟩⟩
omit K in
theorem c9E {g':GH}(K:∀ a o,g a=some o->h.get? a=some o)(K':∀ a o,g' a=some o->h.get? a=some o){a:Nat}{fd fd':FuncData}(e:c1y g a=some fd)(e':c1y g' a=some fd'):fd'=fd:=
 (a7b e).elim λ o x=>(a7b e').elim λ o' x'=>Data.func.inj (x'.2.2.symm.trans ((congrArg Obj.data (sj ((K' _ _ x'.1).symm.trans (K _ _ x.1)))).trans x.2.2))
theorem b9z {es:List DictEntry}(F:∀ j<4,c6m es h j)(c1:a1i g mainGlobals=true)(c:c6D g=true):isTheDefsW prg h "law" /\ globalOf h "law" = some (.ref (a2L 144)):=
 anE c λ fd hfd c=>anE c λ a ha c=>oE ha λ y hy ha=>aE c λ b1 c=>aE c3S λ la lb=>anE la λ q hq la=>oE hq λ st hst hq=>oE hq λ r hr hq=>(F _ (a6o _ _ _ _)).elim λ g' G=>oE ((a9p G.2.1 144 (a7C (a3i lb))).trans (b6J hst hr)) λ fd' hfd' hz=>by
  have hg:globalOf h "law" = some (.ref (a2L 144)):=by rw [a5G K c1,hy,a4M ha,e0r b1]
  rw [c9E K G.1 hfd hfd'] at hz;have p:=Prod.mk.inj (sj hz);have p2:=Prod.mk.inj p.2;exact ⟨b3i K hg hfd (by rw [c8S,hst]; show ob (fnD st) _=_; rw [hr]; rfl) p.1 p2.1 p2.2 (by rw [show r.2.1=q.1 from congrArg e1f (sj hq)]; exact la) c,hg⟩
theorem b7u {es bs:List DictEntry}(F:∀ j<4,c6m es h j)(c:b7w g=true)(des:a0j g mainGlobals=es)(n1:h.Ns builtinsNs (a0n bs))(gc:a3M (a7V es bs) a5m=true)(kn:a8n es (startupNames++prg.boundNames)=true):TopFacts w h:=
 a7E c λ c0 c1 c2 c3 c4 c5 c6=>
  have hst:∀ key v,staticOf h key=some v->key.opensWith "type.__subclasses__." = true:=λ key v e=>a7M (f:=λ k=>k.opensWith "type.__subclasses__.") c6 ((b0p K c3 key).symm.trans e)
  { base:=⟨⟨⟨_,b9L K c3,by
     cases hf:a0n (a0j g cStatics) "sys.recursionlimit" with
     | none=>rfl| some v=>exact absurd (hst _ v ((b0p K c3 _).trans hf)) (by decide +kernel)⟩,c4f F,c8r (des▸b9L K c1) n1 gc F,anE c4 λ o ho _=>⟨o,K _ _ ho⟩⟩,λ k f e=>c9C F e,rfl,rfl,_,b9L K c1,c5q K c5⟩
    tabs:=c7C F
    stat:=hst
    keys:=(b0O c1).elim λ o q=>q.elim λ es q=>q.elim λ n q=>⟨o,es,n,K _ _ q.1,q.2.1,q.2.2.1⟩
    blt:=(c5q K c5).elim λ bm q=>q.elim λ ob q=>⟨bm,ob,(a5G K c1 _).trans q.1,q.2.2.2.1,q.2.2.2.2.1,q.2.2.2.2.2.1⟩
    bound:=λ x v e=>(a4C ((a5G K c1 x).symm.trans e)).elim λ e' m=>(a7N kn e' (des▸m.1)).elim λ s q=>e1E.mp (sj (q.1.symm.trans m.2.1)▸q.2)
    law:=b9z K F c1 c0 }
end
theorem c8R (l:List Obj):∀ (n:Nat)(t:HT)(a:Nat)(o:Obj),(d6m n l t).look a=some o->(∃ i,l[i]?=some o/\a=n+i)\/t.look a=some o:=by
 induction l with
 | nil=>exact λ n t a o h=>.inr h| cons x l ih=>
   exact λ n t a o h=>(ih (n + 1) _ a o h).elim (λ q=>.inl (q.elim λ i q=>⟨i + 1,q.1,q.2.trans (Nat.add_right_comm n 1 i)⟩)) λ h=>
    (HT.put_at _ _ _ _ _ h).imp (λ q=>⟨0,congrArg some q.2.symm,q.1⟩) λ q=>q.2
theorem b2c (P:Params):(boot_heap P).objs.size=11:=by kernel_rfl
theorem b7O (P:Params):(boot_heap P).objs.toList.all a2Q=true:=by kernel_rfl
theorem c1V (P:Params):((boot_heap P).isNs cStatics,(boot_heap P).nsKeys cStatics)=(true,[]):=by kernel_rfl
theorem c1W (P:Params):((boot_heap P).isNs mainGlobals,(boot_heap P).isNs builtinsNs,laidNames.map ((boot_heap P).nsMap mainGlobals))=(true,true,laidNames.map (a0n (a0j (gOf (b2d P)) mainGlobals))):=by kernel_rfl
theorem c4o (P:Params):(boot_heap P).bltView=bltViewBooted:=by kernel_rfl
structure Booted (w:World)(s:Shared):Prop where
 heap:s.heap=boot_heap w.params
 gens:s.gens=#[]
 drawn:s.drawn=boot_drawn
 toks:s.toks=boot_toks
theorem c9f {w:World}{s:Shared}(b:Booted w s):XOK s (b2d w.params) s where
 size:=by rw [b.heap,b2c]; rfl
 tok:=b.toks
 at':=λ a o h=>by
  rcases c8R _ _ _ _ _ h with ⟨i,h1,h2⟩ | h1
  · rw [e1S] at h2;subst h2;have hn:=e0w.mp (b7O w.params) o (e0s h1);refine a6x hn ?_;rw [b.heap];simpa using h1
  · exact absurd h1 (by simp [HT.look])
 olds:=⟨λ _ _ _ e=>e,rfl,rfl,rfl,rfl⟩
theorem c2L:behindTheImports prg=a2A:=by kernel_rfl
theorem b0l:hasAnns a2A=false/\docOf a2A=none:=by constructor <;> kernel_rfl
theorem c1F (w:World):(model prg w).den=denote treeTable:=by show denote table=_; rw [table_eq_tree]
abbrev Has (g:GH)(s:Shared):Prop:=∀ a o,g a=some o->s.heap.get? a=some o
theorem a8e {m n a:Nat}(h:m<=n)(e:a2F m a=false):a2F n a=false:=by
 unfold a2F at e ⊢;have e:=e2R.mp e;rw [e.2,Bool.or_false];cases hb:e0m n a with
 | false=>rfl| true=>exact nx3 ((e2b (e0l h (e0t hb))).symm.trans e.1)
theorem a5n {x:XS}{a:Nat}{o:Obj}(e:a3N x a=some o):a2F x.next a=false/\x.t.look a=some o:=bcE e (λ _ e=>nx0 e) λ h e=>⟨h,e⟩
section
variable {w:World}{s₀ s s':Shared}{x:XS}
theorem Olds.trans {m n:Nat}(A:Olds m s₀ s)(le:m<=n)(B:Olds n s s'):Olds m s₀ s':=
 ⟨λ a o h e=>B.old a o (a8e le h) (A.old a o h e),B.rest.1.trans A.rest.1,B.rest.2.1.trans A.rest.2.1,B.rest.2.2.1.trans A.rest.2.2.1,B.rest.2.2.2.trans A.rest.2.2.2⟩
theorem Has.stay {n:Nat}(K:Has (a3N x) s)(le:x.next<=n)(B:Olds n s s'):Has (a3N x) s':=λ a o e=>B.old a o (a8e le (a5n e).1) (K a o e)
structure Sg (w:World)(x:XS)(j:Nat)(z:XS)(s s':Shared):Prop where
 st:XOK s' (yX w.params x (j+1)) s'
 top:Has (a3N x) s'
 here:Has (gOf z) s'
 olds:Olds (a2M j).2.2.1 s s'
 view:a3d w j (x,z)=a5y w j x
theorem c2U {P:Params}{j:Nat}(lt:∀ a o,x.t.look a=some o->a < x.next)(H:Has (a3N x) s)(h1:s.heap.objs.size=(a2M (j + 1)).2.2.1)(h2:s.toks=(a2M (j + 1)).2.2.2.1)
 (b1:s.heap.get? cStatics=some (c7N P)) (b2:s.heap.get? mainNs=some (glO P (j+1) (a0j (gOf x) mainNs))) (b3:s.heap.get? 12=some (d4L (j+1))):XOK s (yX P x (j+1)) s where
 size:=h1
 tok:=h2
 olds:=⟨λ _ _ _ e=>e,rfl,rfl,rfl,rfl⟩
 at':=λ a o e=>(HT.put_at _ _ _ _ _ e).elim (λ q=>by rw [q.1,q.2]; exact b3) λ q3=>(HT.put_at _ _ _ _ _ q3.2).elim (λ q=>by rw [q.1,q.2]; exact b2) λ q2=>(HT.put_at _ _ _ _ _ q2.2).elim (λ q=>by rw [q.1,q.2]; exact b1) λ q1=>H a o (by
  have nb:∀ {m n:Nat},m ≠ n->e0Y m n=false:=fun {m n} h=>by
   cases hb:e0Y m n with
   | false=>rfl| true=>exact absurd (e0r hb) h
  unfold a3N a2F;rw [nb q1.1,nb q2.1,nb q3.1,show e0m x.next a=false from by
   cases hb:e0m x.next a with
   | false=>rfl| true=>exact absurd (e0t hb) (Nat.not_le.mpr (lt a o q1.2))]
  exact q1.2)
theorem c7W (w:World){j:Nat}(hj:j<4)(p:Pos):(b3w w w.params j p).map (a3d w j)=(a8I w).map λ y=>a5y w j y.2.2.2:=
 match j,hj with
 | 0,_=>c2i w p| 1,_=>c2h w p| 2,_=>c2g w p| 3,_=>by
   have e:=World.withFollow_self w d3h;cases hb:w.params.followText d3h with
   | true=>rw [hb] at e; have:=b8b w p; rwa [e] at this| false=>rw [hb] at e; have:=b8c w p; rwa [e] at this
 | n+4,h=>absurd h (e1U.mpr (e2D 4 n))
theorem a6T {Γ:Ctx}{env:Env}{p0:Pos}(hp:a8I w=some (Γ,env,p0,x))(lt:∀ a o,x.t.look a=some o->a < x.next)(le:∀ j,x.next <= (a2M j).2.2.1){j:Nat}(hj:j < 4){p:Pos}(Y:XOK s (yX w.params x j) s)(H:Has (a3N x) s){l rest:List Stmt}(hl:part j=l){Q:Flow->Pos->Shared->Prop}{E:Value->Pos->Shared->Prop}
 (k:∀ (z:Pos×XS) s',Sg w x j z.2 s s'->Sem.wp (model prg w) Γ (execs rest env) Q E z.1 s'):Sem.wp (model prg w) Γ (execs (l++rest) env) Q E p s:=by
 subst hl;have h:=c7W w hj p;unfold b3w at h;rw [hp] at h;obtain ⟨q,hq,hv⟩:=e1C.mp h;refine o2E (show ob2 (d2m (denote treeTable) ⟨prg,w.params⟩ 100 Γ env (part j) p (yX w.params x j)) (λ _ z=>some (x,z))=some q from hq) λ z hz e=>?_;rw [<- sj e] at hv;rw [<- c1F w] at hz;refine c9G (M:=model prg w) (S:=⟨prg,w.params⟩) rfl (s₀:=s) (λ s' K=>k z s' ?_) _ _ _ hz _ Y;have hv:a3d w j (x,z.2)=a5y w j x:=hv;have v:=Prod.mk.inj hv;have v2:=Prod.mk.inj v.2;have v3:=Prod.mk.inj v2.2;have v4:=Prod.mk.inj v3.2;have v5:=Prod.mk.inj v4.2;have O:Olds (a2M j).2.2.1 s s':=v3.1▸K.olds;have T:=Has.stay H (le j) O;exact ⟨c2U lt T (K.size.trans v.1) (K.tok.trans v2.1) (K.at' _ _ v4.1) (K.at' _ _ v5.1) (K.at' _ _ (Prod.mk.inj v5.2).1),T,K.at',O,hv⟩
theorem Sg.part {j:Nat}{z:XS}(G:Sg w x j z s s'){t:Shared}(K:Has (a3N z) t):c6m (c8s w.params 4 (a0j (gOf x) mainNs)) t.heap j:=
 have v:=(Prod.mk.inj (Prod.mk.inj (Prod.mk.inj (Prod.mk.inj (Prod.mk.inj (Prod.mk.inj G.view).2).2).2).2).2).2
 ⟨a3N z,K,(Prod.mk.inj v).1,(a0A (Prod.mk.inj v).2).1⟩
theorem Sg.has {j:Nat}{z:XS}(G:Sg w x j z s s'):Has (a3N z) s':=λ a o e=>G.here a o (a5n e).2
inductive TopEnd (w:World)(s₀ s:Shared):Prop
 | mk (x z:XS) (es:List DictEntry) (parts:∀ j < 4,c6m es s.heap j) (olds:Olds 11 s₀ s) (top:Has (a3N x) s) (here:Has (gOf z) s) (chk:b7w (gOf z)=true) (des:a0j (gOf z) mainNs=es)
   (laid:laidNames.map (a0n es)=laidNames.map (a0n (a0j (gOf (b2d w.params)) mainNs))) (keys:a8n es (startupNames++prg.boundNames)=true) (a5m:a3M (a7V es (a0j (a3N x) builtinsNs)) a5m=true) (blt:a1i (a3N x) builtinsNs=true):TopEnd w s₀ s
theorem Sg.next {j i:Nat}{z:XS}(G:Sg w x j z s s')(e:j+1=i):XOK s' (yX w.params x i) s':=e▸G.st
theorem Sg.nx {j:Nat}{z:XS}(G:Sg w x j z s s'):z.next=(a2M (j+1)).2.2.1:=(Prod.mk.inj G.view).1
theorem c7A {x z0 z1 z2 z3:XS}{s1 s2 s3:Shared}(O:Olds 11 s₀ s)(G0:Sg w x 0 z0 s s1)(G1:Sg w x 1 z1 s1 s2)(G2:Sg w x 2 z2 s2 s3)(G3:Sg w x 3 z3 s3 s')
 (hv:b0K w x=(11,15,laidNames.map (a0n (a0j (gOf (b2d w.params)) mainNs)),true)):TopEnd w s₀ s':=by
 have v:=Prod.mk.inj (Prod.mk.inj (Prod.mk.inj hv).2).2;have c:=Prod.mk.inj (Prod.mk.inj (Prod.mk.inj (Prod.mk.inj (Prod.mk.inj (Prod.mk.inj (Prod.mk.inj G3.view).2).2).2).2).2).2;have g:=(Prod.mk.inj (Prod.mk.inj (Prod.mk.inj (Prod.mk.inj (Prod.mk.inj G3.view).2).2).2).2).1;refine .mk x z3 (c8s w.params 4 (a0j (gOf x) mainNs)) (λ j hj=>match j,hj with
  | 0,_=>G0.part (Has.stay (Has.stay (Has.stay G0.has (e1L G0.nx) G1.olds) (e0l (e1L G0.nx) (by decide)) G2.olds) (e0l (e1L G0.nx) (by decide)) G3.olds)| 1,_=>G1.part (Has.stay (Has.stay G1.has (e1L G1.nx) G2.olds) (e0l (e1L G1.nx) (by decide)) G3.olds)| 2,_=>G2.part (Has.stay G2.has (e1L G2.nx) G3.olds)| 3,_=>G3.part G3.has| n+4,h=>absurd h (e1U.mpr (e2D 4 n))) (O.trans (by decide) (G0.olds.trans (by decide) (G1.olds.trans (by decide) (G2.olds.trans (by decide) G3.olds)))) G3.top G3.here (a0A c.2).2 ?_ v.1 (a0A v.2).1 (a0A (a0A v.2).2).1 (a0A (a0A v.2).2).2
 unfold a0j d7F gOf;rw [g];rfl
theorem d1L {α:Type}{r:Except Value α}{a:α}(h:okR r=some a):r=.ok a:=by
 cases r with
 | error e=>exact nx0 h| ok b=>exact congrArg _ (sj h)
theorem b8D {α β:Type}{n:Nat}{S:Setting}(hS:S=⟨prg,w.params⟩){t:Sem α}{f:α->Sem β}{p:Pos}{x:XS}{y:Except Value α×Pos×XS}{a:α}{Q:β->Pos->Shared->Prop}{E:Value->Pos->Shared->Prop}{s:Shared}(h:exT (exC (denote treeTable) S n) S c2A t p x=some y)(ha:okR y.1=some a)(K:XOK s₀ x s)
 (k:∀ s',XOK s₀ y.2.2 s'->Sem.wp (model prg w) c2A (f a) Q E y.2.1 s'):Sem.wp (model prg w) c2A (t >>= f) Q E p s:=by
 rw [Sem.wp_bind'];exact Sem.wp_mono _ _ _ (λ b q s' hq=>by obtain rfl:=Except.ok.inj (hq.1.symm.trans (d1L ha));exact hq.2.1▸k s' hq.2.2) (λ e q s' hq=>nomatch hq.1.symm.trans (d1L ha)) _ _ (c0o (M:=model prg w) hS (c1F w▸c6V hS n) t p x y h s K)
theorem c1X {Γ:Ctx}{env:Env}{l:List Stmt}{p:Pos}{R:Shared->Prop}(hΓ:Γ.code=.body l env)(hann:hasAnns l=false)(hdoc:docOf l=none)
 (k:∀ Q E,(∀ q s',R s'->Q .next q s')->Sem.wp (model prg w) Γ (execs l env) Q E p s):wpCode (model prg w) Γ (λ r s'=>r=.ok .next/\R s') p s:=by
 rw [wpCode_iff_wp,hΓ,c1F];have hb:blockStart l env=pure ():=by unfold blockStart;rw [hann,hdoc];cases interactive env <;> rfl
 show Sem.wp _ _ (do blockStart l env; return PySem.Fin.done (<- (execs l env).onRaise (leaving env))) _ _ _ _;rw [hb,pure_bind,Sem.wp_bind',Sem.wp_onRaise];refine k _ _ λ q s' r=>?_;rw [Sem.wp_pure'];exact ⟨rfl,r⟩
theorem b7t:a2A=part 0++(part 1++(part 2++(part 3++[]))):=by kernel_rfl
theorem c2w {Γ:Ctx}{env:Env}{p:Pos}{Q:Flow->Pos->Shared->Prop}{E:Value->Pos->Shared->Prop}(h:Sem.wp (model prg w) Γ (execs (part 0++(part 1++(part 2++(part 3++[])))) env) Q E p s):Sem.wp (model prg w) Γ (execs a2A env) Q E p s:=by rw [b7t];exact h
theorem c6z {Γ:Ctx}{env:Env}{p p0:Pos}{l0 l1 l2 l3:List Stmt}(e0:part 0=l0)(e1:part 1=l1)(e2:part 2=l2)(e3:part 3=l3){Q:Flow->Pos->Shared->Prop}{E:Value->Pos->Shared->Prop}(hp:a8I w=some (Γ,env,p0,x))(lt:∀ a o,x.t.look a=some o->a < x.next)(le:∀ j,x.next <= (a2M j).2.2.1)(Y:XOK s (yX w.params x 0) s)(H:Has (a3N x) s)(O:Olds 11 s₀ s)
 (hv:b0K w x=(11,15,laidNames.map (a0n (a0j (gOf (b2d w.params)) mainNs)),true)) (k:∀ q s',TopEnd w s₀ s'->Q .next q s'):Sem.wp (model prg w) Γ (execs (l0++(l1++(l2++(l3++[])))) env) Q E p s:=by
 have h:0<4/\1<4/\2<4/\3<4:=by decide
 refine a6T hp lt le h.1 Y H e0 λ z0 s1 G0=>?_;refine a6T hp lt le h.2.1 (G0.next rfl) G0.top e1 λ z1 s2 G1=>?_;refine a6T hp lt le h.2.2.1 (G1.next rfl) G1.top e2 λ z2 s3 G2=>?_;refine a6T hp lt le h.2.2.2 (G2.next rfl) G2.top e3 λ z3 s4 G3=>?_;rw [execs_nil,Sem.wp_pure'];exact k _ _ (c7A O G0 G1 G2 G3 hv)
theorem c4P (b:Booted w s₀):Sem.wp (model prg w) c2A (topStub prg).cur (λ fin _ s'=>fin=.done (.ret .none)/\TopEnd w s₀ s') (λ _ _ _=>False) default s₀:=
 (e1C.mp (c3z w)).elim λ y hy=>o3E hy.1 λ y1 k1 h1=>oE h1 λ code hc h1=>o3E h1 λ y2 k2 h1=>oE h1 λ F hF h1=>by
   have hp:=hy.1;have hv:=hy.2;rw [<- sj h1] at hp hv;have v:=Prod.mk.inj hv;have v2:=Prod.mk.inj v.2;have le:∀ j,y2.2.2.next <= (a2M j).2.2.1:=λ j=>(show y2.2.2.next=15 from v2.1)▸match j with
    | 0 | 1 | 2 | 3=>by decide
    | n+4=>(by decide:15<=1033)
   show Sem.wp _ _ (moduleCode prg.main >>= λ code=>newBodyFrame code mainNs mainNs >>= λ frame=>run (.body (behindTheImports prg) (b7v code frame)) >>= λ _=>ret .none) _ _ _ _;rw [c2L];refine b8D rfl k1 hc (c9f b) λ s' K1=>b8D rfl k2 hF K1 λ s K2=>?_;rw [Sem.wp_bind',Sem.wp_run];have lt:∀ a o,y2.2.2.t.look a=some o->a<y2.2.2.next:=λ a o e=>K2.size▸Heap.lt_size (K2.at' a o e)
   have H:Has (a3N y2.2.2) s:=λ a o e=>K2.at' a o (a5n e).2;have O:Olds 11 s₀ s:=(show y2.2.2.lo=11 from v.1)▸K2.olds;refine wpCode_mono (λ r s4 hq=>hq.1▸⟨rfl,hq.2⟩) (c1X (R:=TopEnd w s₀) rfl b0l.1 b0l.2 λ Q E k=>?_);exact c2w (c6z rfl rfl rfl rfl hp lt le ⟨K2.size,K2.tok,K2.at',λ _ _ _ e=>e,rfl,rfl,rfl,rfl⟩ H O hv k)
end
noncomputable abbrev a0D:=PySem.Challenge.rw_nt0086_01
theorem a3W {a b:Bool}(x:a=true)(y:b=true):(a&&b)=true:=by rw [x,y]; rfl
noncomputable def cdS (s:Str):Nat:=List.rec 0 (λ c _ h=>Nat.add (Nat.mul h 256) c) s.cps.toList
def eqF (a b:Str):Bool:=bc (e0Y (cdS a) (cdS b)) (sEq a b) false
theorem a9C (a b:Str):(a==b)=eqF a b:=by
 unfold eqF;cases h:e0Y (cdS a) (cdS b) with
 | true=>exact Bool.eq_iff_iff.mpr (beq_iff_eq.trans a0w.symm)| false=>exact beq_eq_false_iff_ne.mpr λ e=>by rw [e,e1X] at h; exact nx2 h.symm
def d2Y (l:List Str)(n:Str):Bool:=List.rec false (λ x _ r=>bc (eqF n x) true r) l
theorem b3q (l:List Str)(n:Str):l.contains n=d2Y l n:=by
 induction l with
 | nil=>rfl| cons x l ih=>rw [List.contains_cons,ih,a9C];show _=bc (eqF n x) true (d2Y l n);cases eqF n x <;> rfl
def d1n (l:List (Str×NameKind))(n:Str):Option NameKind:=List.rec none (λ x _ r=>bc (eqF n x.1) (some x.2) r) l
theorem c3O (l:List (Str×NameKind))(n:Str):l.lookup n=d1n l n:=by
 induction l with
 | nil=>rfl| cons x l ih=>rw [List.lookup,ih,a9C];show _=bc (eqF n x.1) (some x.2) (d1n l n);cases eqF n x.1 <;> rfl
noncomputable def d7M:List Str:=Manifest.builtinsNames.map λ y=>Str.ofString y.1
theorem b6H {α:Type}{f:α->Str}{n:Str}:∀ l:List α,(l.any λ y=>f y == n)=d2Y (l.map f) n
 | []=>rfl| y::l=>by rw [e2F,b6H l,a9C];show _=bc (eqF n (f y)) true (d2Y (l.map f) n);rw [<- a9C,<- a9C,Bool.beq_comm];cases n==f y <;> rfl
theorem c1a (n:Str):builtinNamed n=d2Y d7M n:=b6H _
theorem d6L:(decide (a0D.foot<=(behindTheImports a0D.prog).length)=true/\a0D.footing.all footLine=true):=by decide +kernel
theorem d6K:noClassBlock a0D.prog a0D.footing=true:=by decide +kernel
theorem d6J:noRoadLSs { strict:=true,foot:=some a0D.bound',writes:=a0D.writes,may:=a0D.may } a0D.footing=true:=by decide +kernel
theorem d6I:(defStands a0D.about a0D.above=true/\a0D.namesIt=true):=by decide +kernel
theorem d6H:(a0D.bound'.all (λ n=>!builtinNamed n||a0D.about==[n] || !a0D.reads n))=true:=by simp only [c1a]; decide +kernel
theorem d6G:namesMeet a0D.prog a0D.footing (λ sc n=>(!(["type", "isinstance", "issubclass", "getattr", "hasattr"]:List Str).contains n || sc.names.lookup n == some .globalImplicit) &&
 (a0D.may != some n||sc.kind==.module||sc.names.lookup n==some .globalImplicit))=true:=by decide +kernel
theorem d6F:(a0D.own.contains a0D.name=true/\(a0D.own.eraseDups.length==a0D.own.length)=true/\a0D.own.all (λ n=>!builtinNamed n)=true):=by decide +kernel
theorem d6E:(namesMeet a0D.prog a0D.above (λ _ n=>!a0D.own.contains n))=true:=by simp only [b3q]; decide +kernel
theorem d6D:(namesMeet a0D.prog a0D.footing λ sc n=>sc.kind==.module||sc.names.lookup n != some .globalExplicit)=true:=by decide +kernel
theorem d6C:(["type", "isinstance", "issubclass", "getattr", "hasattr"]:List Str).all (λ n=>a0D.about != [n])=true/\(!a0D.writes||(a0D.prog.main.body.flatMap importedNames).all λ n=>!a0D.reads n)=true/\((a0D.prog.main.body.flatMap importedNames).all λ n=>!a0D.reads n||(drawsOf n a0D.prog.main.body).all λ mn=>mn.2 != ("attrgetter" : Str)&&mn.2 != ("methodcaller" : Str))=true/\a0D.most.all (λ n=>decide (63<=n))=true/\a0D.bound.all (λ n=>decide (2^63<=n))=true:=by decide +kernel
theorem a6r (lk:Look):∀ a b:List Stmt,noRoadLSs lk (a++b)=(noRoadLSs lk a && noRoadLSs lk b)
 | [],b=>rfl| s::a,b=>by
   show (noRoadLS lk s&&noRoadLSs lk (a++b))=((noRoadLS lk s&&noRoadLSs lk a)&&noRoadLSs lk b)
   rw [a6r lk a b,Bool.and_assoc]
def d1p:Look:={ strict:=!(importedModules a0D.prog.main.body).all cThrough.contains,foot:=none,bare:=(["vars", "dir", "locals"]:List Str).filter (readsOut a0D.prog a0D.prog.main.body) }
theorem b9t:(!(importedModules a0D.prog.main.body).all cThrough.contains)=false/\((["vars", "dir", "locals"]:List Str).filter (readsOut a0D.prog a0D.prog.main.body)).isEmpty=true:=by decide +kernel
noncomputable def c3P:Look:={ strict:=false,foot:=none }
theorem c8L {b:Bool}{bs:List Str}(h1:b=false)(h2:bs.isEmpty=true):({ strict:=b,foot:=none,bare:=bs }:Look)=c3P:=by subst h1; rw [List.isEmpty_iff.mp h2]; rfl
theorem c8M:d1p=c3P:=c8L b9t.1 b9t.2
theorem d9z:(sreFenced a0D.prog.main&&((moduleNames a0D.prog.main.body).isEmpty||lookedIntoSs (moduleNames a0D.prog.main.body) a0D.prog.main.body))=true:=by decide +kernel
theorem d9y:namesResolve a0D.prog=true:=by unfold namesResolve; simp only [c1a,b3q,c3O,a9C]; decide +kernel
theorem d9x:a0D.prog.boundNames.all (λ n=>!worldNames.contains n)=true:=by decide +kernel
theorem d9w:noRoadLSs c3P (a0D.prog.main.body.take 60)=true:=by decide +kernel
theorem d9v:noRoadLSs c3P (a0D.prog.main.body.drop 60)=true:=by decide +kernel
theorem d9u:(namesMeet a0D.prog a0D.prog.main.body λ _ n=>attrL n)=true:=by unfold attrL; simp only [b3q]; decide +kernel
theorem opn:looksOpen a0D.prog=true:=by
 have h:noRoadLSs d1p a0D.prog.main.body=true:=by rw [c8M,<- e1Y 60 a0D.prog.main.body,a6r,d9w,d9v]; rfl
 exact a3W (a3W (a3W (a3W d9z d9y) d9x) h) d9u
theorem d6S:(a0D.row.loose.isEmpty=true /\ a0D.row.makers.isEmpty=true /\
 (a0D.row.records.isEmpty||a0D.row.raises.all λ ct=>ct.1 != .builtin "AttributeError" && ct.1 != .builtin "TypeError")=true /\
 (a0D.row.raises.all λ ct=>match ct.1 with | .builtin n=>!a0D.row.prog.boundNames.contains (Str.ofString n) && !ofTheWorld.contains n | .own _=>true)=true /\
 decide (a0D.row.records.map (·.1)).Nodup=true/\(a0D.row.records.all λ x=>!x.1.opensWith "__" && !builtinNamed x.1&&a0D.row.prog.boundNames.contains x.1&&x.2.all λ f=>!f.1.opensWith "__")=true /\
 a0D.row.toRowW.solid=true/\a0D.row.pre.litsOk=true/\a0D.row.post.litsOk=true/\a0D.row.raises.all (·.2.litsOk)=true /\
 a0D.row.mutates.all (λ i=>match a0D.row.args[i]? with
  | some sh=>!sh.arms.any WShape.isObj| none=>false)=true /\
 a0D.row.within.all (λ i=>decide (i<a0D.row.args.length))=true/\a0D.row.same.all (λ i=>decide (i<a0D.row.args.length))=true):=by decide +kernel
theorem d1H:a0D.row.prog.boundNames.contains a0D.row.name=true/\(!startupNames.contains a0D.row.name)=true:=by decide +kernel
theorem c5W:a0D.row.wellSaid=true:=
 have p:a0D.row.partSaid=true:=let ⟨a,b,c,d,e,f,g,h,i,j,k,l,m⟩:=d6S; a3W (a3W (a3W (a3W (a3W (a3W (a3W (a3W (a3W (a3W (a3W (a3W (a3W opn a) b) c) d) e) f) g) h) i) j) k) l) m
 a3W (a3W p d1H.1) d1H.2
theorem d1w:a0D.wellSaid=true:=
 let ⟨a1,a2⟩:=d6L
 let ⟨b1,b2⟩:=d6I
 let ⟨c1,c2,c3⟩:=d6F
 let ⟨d1,d2,d3,d4,d5⟩:=d6C
 a3W (a3W (a3W (a3W (a3W (a3W (a3W (a3W (a3W (a3W (a3W (a3W (a3W (a3W (a3W (a3W (a3W (a3W c5W a1) a2) d6K) d4) d5) d6J) b1) b2) d1) d6H) d2) d3) d6G) c1) c2) c3) d6E) d6D
theorem d7f:a0D.row.toRowW.promised:=⟨[.list []],by decide +kernel,by decide +kernel⟩
theorem d6U:opensWell a0D.row.prog=true:=by decide +kernel
theorem c8x:(frees a0D.row.toRowW&&a0D.row.within.isEmpty)=true:=by decide +kernel
theorem c2y:opening a0D.prog=plainProg a0D.prog.main.scope.names:=by kernel_rfl
theorem c3D (s:Shared):fenceModules? a0D.prog s=some s:=by kernel_rfl
theorem bare:a0D.row.prog.bare:=⟨rfl,rfl,rfl,rfl,rfl,by decide +kernel⟩
section
variable {den:Code->Sem PySem.Fin}{p:Program}{w:World}
theorem a5d (n:Nat)(s:Shared)(t:Thread):PySem.runN den p w (n+1) s t=match step den p w s t with | .go s' t'=>PySem.runN den p w n s' t' | .halt o s'=>.halted o s':=rfl
theorem c7b (k:Nat):∀ (n:Nat)(s:Shared)(t:Thread)(s₁ s':Shared)(t₁ t':Thread),k < n->PySem.runN den p w n s t=.running s₁ t₁->PySem.runN den p w k s t=.running s' t' ->
 ∃ s₂ t₂,step den p w s' t'=.go s₂ t₂:=by
 induction k with
 | zero=>
   intro n s t s₁ s' t₁ t' hk h h';obtain ⟨m,rfl⟩:=Nat.exists_eq_succ_of_ne_zero (Nat.ne_of_gt hk);have h':Run.running s t=.running s' t':=h';injection h' with e1 e2
   subst e1 e2;rw [Nat.succ_eq_add_one,a5d] at h;cases hs:step den p w s t with
   | go s₂ t₂=>exact ⟨_,_,rfl⟩| halt o s₂=>rw [hs] at h; injection h
 | succ k ih=>
   intro n s t s₁ s' t₁ t' hk h h';obtain ⟨m,rfl⟩:=Nat.exists_eq_succ_of_ne_zero (Nat.ne_of_gt (e1F (e0q _) hk));rw [Nat.succ_eq_add_one,a5d] at h;rw [a5d] at h';cases hs:step den p w s t with
   | go s₂ t₂=>rw [hs] at h h'; exact ih m s₂ t₂ s₁ s' t₁ t' (Nat.lt_of_succ_lt_succ hk) h h'| halt o s₂=>rw [hs] at h; injection h
end
theorem c2K {w:World}{s₀:Shared}{R:Shared->Prop}(hR:∀ s,R s->Olds 11 s₀ s)(hz:s₀.asleep)(hg:s₀.gens=#[])
 (h:Sem.wp (model prg w) c2A (topStub prg).cur (λ fin _ s'=>fin=.done (.ret .none)/\R s') (λ _ _ _=>False) default s₀) :
 ∃ s₁,R s₁ /\ ∃ n t,schedN (denote table) prg w n (.single s₀ (topStub prg))=.running (.single s₁ t)/\through t=true:=by
 have hh:Sem.wp (model prg w) c2A (topStub prg).cur (Sem.finPost (model prg w) c2A λ r s'=>True/\leftWithCleanup s'.gens=false) (λ e _ s'=>True/\leftWithCleanup s'.gens=false) default s₀:=by refine Sem.wp_mono _ _ _ (λ fin q s' hq=>?_) (λ _ _ _ hq=>hq.elim) _ _ h;obtain ⟨rfl,K⟩:=hq;refine ⟨trivial,?_⟩;rw [(hR _ K).rest.1,hg]; exact (λ f=>by simp:∀ f:GenState->Bool,(#[]:Array GenState).any f=false) _
 obtain ⟨n0,r0,s0',hn0,_⟩:=(wp_iff_halts (M:=model prg w) (c:=.builtin "claim.caller" {}) (topStub prg).cur (λ _ _=>True) default s₀).mp hh;obtain ⟨_,_,_,hcalm⟩:=runNI_real (model prg w).den (model prg w).prog (model prg w).w hn0 (outcomeOf_ends r0);obtain ⟨n,s',σ,p',leaf,hr,hf,hl⟩:=wp_reaches (M:=model prg w) (c:=.builtin "claim.caller" {}) (t:=(topStub prg).cur) h;rcases hl with ⟨a,rfl,rfl,K⟩ | ⟨_,_,hE⟩
 · have e:σ=s':=Shared.eq_of_forget_eq hf (by rw [(hR _ K).rest.1,hg]);subst e;refine ⟨σ,K,n,⟨.pure (.done (.ret .none)),.builtin "claim.caller" {},p',[]⟩,?_,rfl⟩;have hp:=schedN_prefix (den:=denote table) (prog:=prg) (w:=w) n s₀ (topStub prg) hz (λ k s1 t1 hk hrun=>⟨hcalm k s1 t1 hrun,λ hx=>by obtain ⟨s2,t2,hgo⟩:=c7b k n _ _ _ _ _ _ hk hr hrun;rw [show step (denote table) prg w s1 t1=.go s2 t2 from hgo] at hx;cases hx⟩);rw [hp,show PySem.runN (denote table) prg w n s₀ (topStub prg)=.running σ _ from hr];rfl
 · exact hE.elim
inductive IntsV:List Int->List Value->Prop
 | nil:IntsV [] []
 | cons (i:Int) (t:Tok) {l:List Int} {m:List Value}:IntsV l m->IntsV (i::l) (.int i t::m)
def b4T (w:World):Prop:=∀ (h0:Heap),TopFacts w h0->∀ (s₁:Shared)(a:Addr)(items:List Value)(script:List Int),script.length <= 63 ->
 (∀ b o,h0.get? b=some o->s₁.heap.get? b=some o)->h0.get? a=none->s₁.heap.get? a=some { cls:=.type "list",data:=.seq items.toArray }->IntsV script items ->
 wpAny (model prg w) callerA (call (.ref (a2L 144)) [.ref a]) (λ x s'=>x=.bool true/\(∃ h tk,s'={ s₁ with heap:=h,toks:=tk })/\OldK s₁.heap s'.heap) (λ _ _=>False) s₁
theorem c2J {w:World}{s₀:Shared}(b:Booted w s₀)(hz:s₀.asleep):∃ s₁,TopRan prg w s₀ s₁/\TopFacts w s₁.heap/\s₁.gens=#[]/\s₁.asleep:=by
 obtain ⟨s₁,⟨x,z,es,parts,K,top,here,chk,des,v2,kn,gc,hb⟩,hn⟩:=c2K (R:=TopEnd w s₀) (λ _ q=>q.casesOn λ _ _ _ _ o _ _ _ _ _ _ _ _=>o) hz b.gens (c4P b);have F:TopFacts w s₁.heap:=b7u here parts chk des (b9L top hb) gc kn;have hlife:s₁.heap.life=s₀.heap.life:=K.rest.2.2.2;have bs:=c1V w.params;have bg:=c1W w.params;have b1:s₀.heap.isNs cStatics=true/\s₀.heap.nsKeys cStatics=[]:=by rw [b.heap]; exact ⟨congrArg e1f bs,congrArg Prod.snd bs⟩
 have b2:s₀.heap.isNs mainGlobals=true/\s₀.heap.isNs builtinsNs=true:=by rw [b.heap]; exact ⟨congrArg e1f bg,congrArg (λ y=>y.2.1) bg⟩
 have b3:laidNames.map (s₀.heap.nsMap mainGlobals)=laidNames.map (a0n (a0j (gOf (b2d w.params)) mainGlobals)):=by rw [b.heap]; exact congrArg (λ y=>y.2.2) bg
 have b4:s₀.heap.bltView=bltViewBooted:=by rw [b.heap]; exact c4o _
 have hst0:∀ key,staticOf s₀.heap key=none:=λ key=>by rw [Pin.staticOf_eq b1.1];exact Heap.nsMap_none (by rw [b1.2]; exact e0b)
 have hlow:∀ a:Nat,a < 11->a ≠ mainNs->a ≠ cStatics->∀ o,s₀.heap.get? a=some o->s₁.heap.get? a=some o:=λ a h1 h2 h3 o e=>K.old a o (by
  unfold a2F;rw [show e0Y a 12=false from (by cases hz:e0Y a 12 with | false=>rfl | true=>have:=e0r hz; lia),show e0m 11 a=false from (by cases hz:e0m 11 a with | false=>rfl | true=>have:=e0t hz; lia),
   show e0Y a mainNs=false from (by cases hz:e0Y a mainNs with | false=>rfl | true=>exact absurd (e0r hz) h2),
   show e0Y a cStatics=false from (by cases hz:e0Y a cStatics with | false=>rfl | true=>exact absurd (e0r hz) h3)]
  rfl) e
 have size0:s₀.heap.objs.size=11:=by rw [b.heap]; exact b2c _
 have hglob:∀ k,globalOf s₁.heap k=a0n es k:=λ k=>des▸a5G here (a0A (a0A chk).2).1 k;refine ⟨s₁,⟨hn,hlife,Shared.rest_eq K.rest.2.2.1,λ a o e ho=>?_,?_,?_,F.keys,?_,F.blt,?_,F.bound,?_⟩,F,by rw [K.rest.1,b.gens],Shared.asleep_of_life hlife hz⟩
 · exact hlow a (size0▸Heap.lt_size e) (λ z=>ho (.inl z)) (λ z=>ho (.inr (.inl z))) o e
 · intro key v e;refine .inr (.inl ?_);unfold runKey;rw [F.stat key v e]; rfl
 · intro key;cases e:staticOf s₁.heap key with
   | none=>exact .inl (hst0 key).symm| some v=>exact .inr (.inr (.inl (F.stat key v e)))
 · intro x hx;have h0:=Heap.of_bltView b2.2 b4 x hx;rw [<- Pin.builtinOf_eq b2.2] at h0;unfold builtinOf at h0 ⊢;cases ho:s₀.heap.get? builtinsNs with
   | none=>unfold Heap.isNs at b2;rw [ho] at b2; exact absurd b2.2 (by simp)| some o=>rw [hlow builtinsNs (by decide) (by decide) (by decide) o ho]; rw [ho] at h0; exact h0
 · rw [K.rest.1,b.gens]; exact λ g hg=>by simp at hg
 · intro n hn';rw [hglob,Pin.globalOf_eq b2.1];have:=a9p (v2.trans b3.symm) n hn';exact this
theorem b7G {R:WRecords}{x:WData}(h:WShape.has R x .int=true):∃ i,x=.int i:=by cases x <;> first | exact ⟨_,rfl⟩ | exact nx2 h
theorem b3g {R:WRecords}{x:WData}(h:WShape.has R x (.list .int)=true):∃ l,x=.list l/\WShape.hasItems R l .int=true:=by cases x <;> first | exact ⟨_,rfl,(e1m.mp h).elim id λ z=>nx2 z⟩ | exact nx2 h
theorem b3m {R:WRecords}{xs:List WData}(h:WShape.hasItems R xs .int=true):∃ l:List Int,xs=l.map WData.int:=by
 induction xs with
 | nil=>exact ⟨[],rfl⟩| cons x xs ih=>have h:=e1I.mp (show (WShape.has R x .int&&WShape.hasItems R xs .int)=true from h);exact (ih h.2).elim λ l hl=>(b7G h.1).elim λ i hi=>⟨i::l,hl▸hi▸rfl⟩
theorem b5T {R:WRecords}{cl:Str->Option Addr}{P:Params}{ord:List DictEntry->List DictEntry}(l:List Int):∀ (s:Shared)(r:List Value×Shared),layAllW R cl P ord (l.map WData.int) s=some r->r.2.heap=s.heap/\IntsV l r.1:=by
 induction l with
 | nil=>exact λ s r h=>(sj (show some (([]:List Value),s)=some r from h))▸⟨rfl,.nil⟩| cons i l ih=>
   intro s r h;have h:(match layAllW R cl P ord (l.map WData.int) { s with toks:=s.toks+1 } with | some r=>some (Value.int i s.toks::r.1,r.2) | none=>none)=some r:=h;cases hl:layAllW R cl P ord (l.map WData.int) { s with toks:=s.toks+1 } with
   | none=>rw [hl] at h; exact nx0 h| some q=>rw [hl] at h; exact (sj h)▸⟨(ih _ q hl).1,.cons i s.toks (ih _ q hl).2⟩
theorem c8Q {cl:Str->Option Addr}{P:Params}{ord:List DictEntry->List DictEntry}{l:List Int}{s s₂:Shared}{vs:List Value}(h:layAllW [] cl P ord [.list (l.map WData.int)] s=some (vs,s₂)) :
 ∃ (m:List Value) (s3:Shared),s3.heap=s.heap/\IntsV l m/\vs=[.ref s3.heap.objs.size]/\s₂={ s3 with heap:=s3.heap.push { cls:=.type "list",data:=.seq m.toArray } }:=by
 have h:(match (match layAllW [] cl P ord (l.map WData.int) s with
  | some r=>some (Value.ref r.2.heap.objs.size,{ r.2 with heap:=r.2.heap.push { cls:=.type "list",data:=.seq r.1.toArray } })| none=>none) with
  | some a=>some ([a.1],a.2)| none=>none)=some (vs,s₂):=h
 cases hl:layAllW [] cl P ord (l.map WData.int) s with
 | none=>rw [hl] at h; exact nx0 h| some q=>rw [hl] at h; exact ⟨q.1,q.2,(b5T l s q hl).1,(b5T l s q hl).2,(Prod.mk.inj (sj h)).1.symm,(Prod.mk.inj (sj h)).2.symm⟩
theorem IntsV.length {l:List Int}{m:List Value}(h:IntsV l m):m.length=l.length:=by
 induction h with
 | nil=>rfl| cons i t _ ih=>simp [ih]
theorem c4x {args:List WData}(h:a0D.row.toRowW.claim.pre args=true):∃ l:List Int,args=[.list (l.map WData.int)]/\l.length<=63:=by
 obtain ⟨h1,h2⟩:=pre_splitW (r:=a0D.row.toRowW) h;have h1:WShape.hasAll [] args [.list .int]=true:=h1;cases args with
 | nil=>exact nx2 h1| cons x r=>
   have h1:=e1I.mp (show (WShape.has [] x (.list .int)&&WShape.hasAll [] r [])=true from h1);cases r with
   | cons=>exact nx2 h1.2| nil=>
     obtain ⟨xs,rfl,hx⟩:=b3g h1.1;obtain ⟨l,rfl⟩:=b3m hx;refine ⟨l,rfl,Classical.byContradiction λ hn=>?_⟩;have h2:(WTm.and (.not (.lt (.lit (.int 63)) (.len (.arg 0)))) (.lit (.bool true))).holds [] { args:=[.list (l.map WData.int)] }=true:=h2;have lt:(63:Int)<(l.length:Int):=e1J.mpr (Nat.not_le.mp hn);have e:less? (.int 63) (.int l.length)=some true:=by simp [less?,Num.less?,lt]
     simp [WTm.holds,WTm.value,e] at h2
theorem c7g (l:List Int):a0D.row.toRowW.claim.post [.list (l.map WData.int)] (.bool true) [.list (l.map WData.int)]=true:=by show (WShape.has [] (.bool true) .bool&&WTm.holds [] (.eq .res (.lit (.bool true))) { args:=[.list (l.map WData.int)],res:=some (.bool true),after:=[.list (l.map WData.int)] })=true;exact a3W (by kernel_rfl) (by simp [WTm.holds,WTm.value,same])
theorem c8W {h:Heap}(k:keysAreStrs h mainNs):h.isNs mainGlobals=true:=by obtain ⟨o,es,n,ho,hd,hs⟩:=k;unfold Heap.isNs;rw [show h.get? mainGlobals=some o from ho];dsimp only;rw [hd];exact (Array.all_eq_true_iff_forall_mem).mpr λ e he=>(hs e he).elim λ x q=>q.elim λ t hx=>by rw [hx]
theorem c9c {w:World}(H:b4T w){s₁ s₂:Shared}{vs:List Value}{l:List Int}{cl:Str->Option Addr}{P:Params}{ord:List DictEntry->List DictEntry}(F:TopFacts w s₁.heap)(hlen:l.length <= 63)(hlaid:layAllW [] cl P ord [.list (l.map WData.int)] s₁=some (vs,s₂))(keeps:∀ b o,s₁.heap.get? b=some o->s₂.heap.get? b=some o) :
 wpAny (model prg w) callerA (do match <- nsGet mainNs "law" with
  | some f=>do ret (<- call f vs)
  | none=>unsupported "claim.caller:no-such-global") (λ (r:PySem.Fin) s'=>r=.done (.ret (.bool true))/\(∃ h tk,s'={ s₂ with heap:=h,toks:=tk })/\OldK s₂.heap s'.heap) (λ _ _=>False) s₂:=by
 obtain ⟨m,s3,k1,k2,e2,e3⟩:=c8Q hlaid;have hA:s₁.heap.get? s3.heap.objs.size=none:=Heap.get?_none_of_le (k1▸e0i _);have hB:s₂.heap.get? s3.heap.objs.size=some { cls:=.type "list",data:=.seq m.toArray }:=e3▸Heap.get?_push_size _ rfl;have hns:=c8W F.keys;refine wpAny_bind (wpAny_nsGet ((Heap.Ns.of_isNs hns).keeps keeps) ?_);rw [show s₁.heap.nsMap mainGlobals "law" = some (.ref (a2L 144)) from (Pin.globalOf_eq hns _).symm.trans F.law.2,e2];exact wpAny_bind (wpAny_mono (H s₁.heap F s₂ _ m l hlen keeps hA hB k2) (λ v s' hq=>wpAny_pure ⟨congrArg (λ v=>PySem.Fin.done (.ret v)) hq.1,hq.2⟩) λ _ _ x=>x.elim)
theorem c4i (H:∀ w,b4T w):a0D.Holds:=by
 refine ⟨d1w,c5W,d7f,⟨bare,d6U,rfl⟩,d7f.witness,λ w=>?_⟩;obtain ⟨s₀,h1,h2⟩:=e1C.mp (boot_open (p:=prg) (N:=600) c2y (by decide) c3D w);obtain ⟨s,h4,h5⟩:=Option.bind_eq_some_iff.mp h1;rw [<- table_eq_tree] at h4;have A:=AfterImport.of_importEnds h4;refine ⟨⟨s,A⟩,λ s' hs'=>?_⟩;rw [show s'=s from AfterImport.unique hs' A];obtain ⟨s₁,hT,F,hg,hz₁⟩:=c2J (⟨congrArg e1f h2,congrArg (λ y=>y.2.1) h2,congrArg (λ y=>y.2.2.1) h2,congrArg (λ y=>y.2.2.2) h2⟩:Booted w s₀) (Shared.asleep_of_life (fence_lifeW h5) A.life);refine ⟨s₀,h5,congrArg (λ y=>y.2.1) h2,s₁,hT,λ n hn=>?_,λ x hx=>(nomatch hx),λ x hx=>(nomatch hx),?_⟩
 · rw [e0u.mp (show n∈[Str.ofString "law"] from hn)];exact F.law.1
 · refine ClaimW.callFrom_of_specG (c:=a0D.row.toRowW.claim) (tree:=λ vs=>do match <- nsGet mainNs "law" with
    | some f=>do ret (<- call f vs)
    | none=>unsupported "claim.caller:no-such-global") hz₁ hg λ args hpre hlay ord hord=>?_
   obtain ⟨l,rfl,hlen⟩:=c4x hpre;obtain ⟨⟨vs,s₂⟩,hlaid⟩:=e2m.mp (layAllW_isSome (R:=[]) (cl:=classAt s₁.heap) (P:=w.params) (ord:=ord) (λ c hc=>nomatch hc) _ a0D.row.args s₁ (pre_splitW (r:=a0D.row.toRowW) hpre).1);have keeps:=layAllW_keeps _ _ _ hlaid;have hal:=layAllW_rest _ _ _ hlaid;obtain ⟨as,hrd,hin,hold⟩:=reads_layAllW hord _ _ _ hlaid hlay s₂.heap (λ _ _ e=>e);have L:Laid [] w s₁ s₂ [.list (l.map WData.int)] vs as:=⟨⟨ord,hord,hlaid⟩,hrd,hin,hold,keeps,hal.1.trans hg,hal.2.2.1⟩
   have hfree:=frees_parts (e1I.mp c8x).1;have hi:=ident_freeW (r:=a0D.row.toRowW) hfree.2.1 hfree.2.2.1 hfree.2.2.2.1;refine ⟨vs,s₂,hlaid,wpAny_mono (c9c (H w) F hlen hlaid keeps) (λ r s' hq=>?_) λ _ _ x=>x.elim⟩;obtain ⟨rfl,⟨hh,tk,rfl⟩,hold'⟩:=hq;have gg:GoodWG a0D.row.toRowW.claim (classAt s₁.heap) (ExcName.means s₁.heap) [.list (l.map WData.int)] s₂ (.ok (.ret (.bool true))) { s₂ with heap:=hh,toks:=tk }:=
    ⟨.inl ⟨.bool true,.bool true,[],rfl,λ _=>rfl,.bool true,c7g l,λ _=>⟨e1Q,λ a ha=>by cases ha⟩⟩,hold',rfl,.of_eq L.gens⟩
   have z:=gg.laid (c:=a0D.row.toRowW.claim) hfree.1 rfl hi L;exact ⟨_,rfl,z.1,z.2.1,z.2.2,λ q=>nomatch q⟩
theorem IntsV.rels {B:Base}{mt:Addr->Prop}{ρ:List Addr}{h:Heap}{l:List Int}{m:List Value}(x:IntsV l m):VRels B mt ρ h (l.map .int) m:=by
 induction x with
 | nil=>exact .nil| cons i t _ ih=>exact .cons _ _ _ _ (.int i t) ih
theorem b7A {n:Nat}(hn:n<=300)(H:∀ B:Base,BaseOK2 B->∀ script:List Int,script.length<=63->FnOK B n 144 [.lst (script.map .int)] (.bool true))(w:World):b4T w:=by
 intro h0 F s₁ a items script hlen keeps hA hB hI;have R:Rel (a1u w h0) Mt0 [] [] s₁.heap:=
  { base:=Keep.of_ext keeps
    len:=rfl
    nodup:=e1Q
    prl:=λ a p=>p.elim
    away:=λ a m=>by cases m
    tabs:=(F.tabs (a0G Mt0 [] [])).mono (ρ:=[]) (ρ':=[]) ⟨λ a o n e _=>⟨keeps a o e,n⟩,λ _ _ e=>e⟩ λ P o o' _ e=>keeps P o e
    real:=λ i o a e=>by cases e }
 have hz:items.length<=sizeLine:=by rw [hI.length]; exact e0l hlen (by decide)
 have hr:VRels (a1u w h0) Mt0 [] s₁.heap [.lst (script.map .int)] [.ref a]:=.cons _ _ _ _ (.lst _ a _ items (λ z=>z) hB ⟨rfl,rfl,rfl,hz,_,rfl⟩ hI.rels) .nil;have ro:Room n callerA:=⟨rfl,by show 1+claimMargin+2 * n+8<recursionLimit; have:recursionLimit=1000:=rfl; have:claimMargin=300:=rfl; lia,by show 4+8 * n+100<cLine; have:cLine=9900:=rfl; lia⟩
 refine wpAny_mono ((H _ F.base script hlen).2 Mt0 callerA s₁ [.ref a] ro R hr) (λ x s' hq=>?_) λ _ _ x=>x;obtain ⟨h1,h2,_,h4⟩:=hq;have hv:x=.bool true:=h4.inv;have ct:∀ b,isCodeTable (a1u w h0).hB b->isCodeTable s₁.heap b:=λ b ⟨c,o,vs,e,r⟩=>⟨c,o,vs,keeps _ _ e,r⟩
 refine ⟨hv,h1,λ b o e=>?_,λ b o e=>?_⟩
 · rcases h2 b o (λ z=>z) e with k | ⟨t,c,vs,more,d,k⟩
   · exact .inl k
   · exact .inr (.inl ⟨ct _ t,c,vs,more,d,k⟩)
 · rcases h2 b o (λ z=>z) e with k | ⟨t,c,vs,more,d,k⟩
   · exact ⟨_,k⟩
   · exact ⟨_,k⟩
theorem c3p {n:Nat}(hn:n<=300)(H:∀ B:Base,BaseOK2 B->∀ script:List Int,script.length<=63->FnOK B n 144 [.lst (script.map .int)] (.bool true)):a0D.Holds:=c4i (b7A hn H)
end
section
open PySem
noncomputable abbrev i (n:Int):PV:=.int n
def a0B:PV:=(.ins 94 ["defaults","maps","properties","words"] [(.dct [(.str "gc"),(.str "ccc"),(.str "bc"),(.str "lb"),(.str "ea"),(.str "sc"),(.str "jt"),(.str "incb"),(.str "gcb"),(.str "wb"),(.str "sb"),(.str "ex"),(.str "sd"),(.str "cased"),(.str "ci"),(.str "ep"),(.str "di"),(.str "ids"),(.str "idc"),(.str "xids"),(.str "xidc"),(.str "pat_syn"),(.str "pat_ws"),(.str "idst"),(.str "dm"),(.str "uc"),(.str "lc"),(.str "tc"),(.str "cf"),(.str "bm"),(.str "bpb"),(.str "scx"),(.str "nt"),(.str "nv"),(.str "name"),(.str "conf"),(.str "nfkc_cf"),(.str "suc"),(.str "slc"),(.str "stc"),(.str "alias"),(.str "idna")] [(.str "Cn"),(i 0),(.str "L"),(.str "XX"),(.str "N"),(.str "Zzzz"),(.str "U"),(.str "None"),(.str "Other"),(.str "Other"),(.str "Other"),(.bool false),(.bool false),(.bool false),(.bool false),(.bool false),(.bool false),(.bool false),(.bool false),(.bool false),(.bool false),(.bool false),(.bool false),(.bool false),.none,.none,.none,.none,.none,.none,.none,.none,.none,.none,.none,.none,.none,(.tup []),(.tup []),(.tup []),(.tup []),(.tup [(.str "disallowed"),(.tup [])])]),(.dct [(.str "dm"),(.str "ccc"),(.str "wb"),(.str "cf")] [(.ins 90 ["default","starts","values"] [.none,(.lst [(i 0),(i 201),(i 202),(i 233),(i 234),(i 7864),(i 7865),(i 7866)]),(.lst [.none,(.tup [(.str ""),(.tup [(i 69),(i 769)])]),.none,(.tup [(.str ""),(.tup [(i 101),(i 769)])]),.none,(.tup [(.str ""),(.tup [(i 69),(i 803)])]),(.tup [(.str ""),(.tup [(i 101),(i 803)])]),.none])]),(.ins 90 ["default","starts","values"] [(i 0),(.lst [(i 0),(i 769),(i 770),(i 803),(i 804)]),(.lst [(i 0),(i 230),(i 0),(i 220),(i 0)])]),(.ins 90 ["default","starts","values"] [(.str "Other"),(.lst [(i 0),(i 32),(i 33),(i 65),(i 66),(i 69),(i 70),(i 97),(i 98),(i 101),(i 102),(i 201),(i 202),(i 233),(i 234),(i 769),(i 770),(i 803),(i 804),(i 7864),(i 7866)]),(.lst [(.str "Other"),(.str "WSegSpace"),(.str "Other"),(.str "ALetter"),(.str "Other"),(.str "ALetter"),(.str "Other"),(.str "ALetter"),(.str "Other"),(.str "ALetter"),(.str "Other"),(.str "ALetter"),(.str "Other"),(.str "ALetter"),(.str "Other"),(.str "Extend"),(.str "Other"),(.str "Extend"),(.str "Other"),(.str "ALetter"),(.str "Other")])]),(.ins 90 ["default","starts","values"] [.none,(.lst [(i 0),(i 65),(i 66),(i 69),(i 70),(i 201),(i 202),(i 7864),(i 7865)]),(.lst [.none,(.dct [(.str "C")] [(.tup [(i 97)])]),.none,(.dct [(.str "C")] [(.tup [(i 101)])]),.none,(.dct [(.str "C")] [(.tup [(i 233)])]),.none,(.dct [(.str "C")] [(.tup [(i 7865)])]),.none])])]),(.dct [] []),(.dct [] [])])
def a0Z:PV:=(.ins 58 ["table","longest","factors","bases"] [(.dct [(.tup [(i 32)]),(.tup [(i 65)]),(.tup [(i 69)]),(.tup [(i 97)]),(.tup [(i 101)]),(.tup [(i 769)]),(.tup [(i 803)])] [(.lst [(.tup [(i 5),(i 32),(i 2),(.bool false)])]),(.lst [(.tup [(i 10),(i 32),(i 8),(.bool false)])]),(.lst [(.tup [(i 11),(i 32),(i 8),(.bool false)])]),(.lst [(.tup [(i 10),(i 32),(i 2),(.bool false)])]),(.lst [(.tup [(i 11),(i 32),(i 2),(.bool false)])]),(.lst [(.tup [(i 0),(i 36),(i 2),(.bool false)])]),(.lst [(.tup [(i 0),(i 37),(i 2),(.bool false)])])]),(.dct [(i 32),(i 65),(i 69),(i 97),(i 101),(i 769),(i 803)] [(i 1),(i 1),(i 1),(i 1),(i 1),(i 1),(i 1)]),(.tup [(i 1),(i 1),(i 1)]),(.lst [(.ins 55 ["first","last","base","origin"] [(i 0),(i 1114111),(i 64448),.none]),(.ins 55 ["first","last","base","origin"] [(i 19968),(i 40959),(i 64320),.none]),(.ins 55 ["first","last","base","origin"] [(i 64014),(i 64015),(i 64320),.none]),(.ins 55 ["first","last","base","origin"] [(i 64017),(i 64017),(i 64320),.none]),(.ins 55 ["first","last","base","origin"] [(i 64019),(i 64020),(i 64320),.none]),(.ins 55 ["first","last","base","origin"] [(i 64031),(i 64031),(i 64320),.none]),(.ins 55 ["first","last","base","origin"] [(i 64033),(i 64033),(i 64320),.none]),(.ins 55 ["first","last","base","origin"] [(i 64035),(i 64036),(i 64320),.none]),(.ins 55 ["first","last","base","origin"] [(i 64039),(i 64041),(i 64320),.none]),(.ins 55 ["first","last","base","origin"] [(i 13312),(i 19903),(i 64384),.none]),(.ins 55 ["first","last","base","origin"] [(i 131072),(i 173791),(i 64384),.none]),(.ins 55 ["first","last","base","origin"] [(i 173824),(i 177977),(i 64384),.none]),(.ins 55 ["first","last","base","origin"] [(i 177984),(i 178205),(i 64384),.none]),(.ins 55 ["first","last","base","origin"] [(i 178208),(i 183969),(i 64384),.none]),(.ins 55 ["first","last","base","origin"] [(i 183984),(i 191456),(i 64384),.none]),(.ins 55 ["first","last","base","origin"] [(i 191472),(i 192093),(i 64384),.none]),(.ins 55 ["first","last","base","origin"] [(i 196608),(i 201546),(i 64384),.none]),(.ins 55 ["first","last","base","origin"] [(i 201552),(i 205743),(i 64384),.none])])])
def a0U:PV:=(.ins 35 ["pairs","seconds"] [(.dct [(.tup [(i 69),(i 769)]),(.tup [(i 101),(i 769)]),(.tup [(i 69),(i 803)]),(.tup [(i 101),(i 803)])] [(i 201),(i 233),(i 7864),(i 7865)]),(.dct [(i 769),(i 803)] [(.bool true),(.bool true)])])
noncomputable def d7O:PV->Option (List PV×List PV)
 | .dct k l=>some (k,l)| _=>none
noncomputable def d7N:PV->Option (Nat×List Str×List PV)
 | .ins c f l=>some (c,f,l)| _=>none
noncomputable def a4r:Nat->PV->PV->Bool
 | 0,_,_=>false| n + 1,a,b=>match a with
   | .none=>isNone b| .bool x=>oc (b2i b) (x == ·) false| .int x=>oc (a0z b) (a3J x) false| .str x=>oc (c1i b) (sEq x) false| .bytes x=>oc (a8L b) (a0q x) false| .tup l=>oc (a5R b) (a4k (a4r n) l) false| .lst l=>oc (c4u b) (a4k (a4r n) l) false| .dct k l=>oc (d7O b) (λ q=>a4k (a4r n) k q.1&&a4k (a4r n) l q.2) false| .ins k f l=>oc (d7N b) (λ q=>e0Y k q.1&&(a4k sEq f q.2.1&&a4k (a4r n) l q.2.2)) false| _=>false
theorem b1O (n):∀ (a b:PV),a4r n a b=true->a=b:=by
 induction n with
 | zero=>exact λ a b h=>nx2 h| succ n ih=>
   intro a b h;cases a with
   | none=>exact (a5B h).symm| bool x=>exact anE h λ y e h=>(congrArg PV.bool (eq_of_beq h)).trans (a5U e).symm| int x=>exact anE h λ y e h=>(congrArg PV.int (of_decide_eq_true ((a1L x y).symm.trans h))).trans (a0c e).symm| str x=>exact anE h λ y e h=>(congrArg PV.str (a0w.mp h)).trans (a7q e).symm| bytes x=>exact anE h λ y e h=>(congrArg PV.bytes (of_decide_eq_true ((a2D x y).symm.trans h))).trans (a3P e).symm| tup l=>exact anE h λ y e h=>(congrArg PV.tup (a3Q ih h)).trans (a1s e).symm| lst l=>exact anE h λ y e h=>(congrArg PV.lst (a3Q ih h)).trans (b4Q e).symm| dct k l=>refine anE h λ y e h=>aE h λ h1 h2=>?_;rw [a3Q ih h1,a3Q ih h2];cases b <;> first | exact nx0 e | rw [<- sj e]
   | ins k f l=>refine anE h λ y e h=>a3E h λ h1 h2 h3=>?_;rw [e0r h1,a3Q (λ _ _=>a0w.mp) h2,a3Q ih h3];cases b <;> first | exact nx0 e | rw [<- sj e]
   | _=>exact nx2 h
theorem b6o (h:a4k (a4r 12) a b=true):a=b:=a3Q (b1O 12) h
noncomputable def d7k:Ob->Bool
 | .nl v=>a0e v| _=>false
def c2m (K:Kt)(n k:Nat)(args:List PV)(v:PV):Bool:=a0E args&&oc (a5P (rk K n) k args []) (λ y=>y.2.ps.all d7k&&(a4r 12 y.1 v&&e0m y.2.sz 100000)) false
theorem a2Y:(100000:Nat)<=sizeLine:=by decide
theorem c7s {x:Ob}(h:d7k x=true):x.ok B:=by cases x <;> first | exact h | exact nx2 h
theorem a9a (BO:BaseOK2 B){K:Kt}(KO:KOK B K)(h:c2m K n k args v=true):FnOK B (n+1) k args v:=
 aE h λ h1 h=>anE h λ y e h=>a3E h λ h2 h3 h4=>b1O 12 _ _ h3▸c0k BO KO h1 e ⟨λ x m=>c7s (e0w.mp h2 x m),e0l (e0t h4) a2Y⟩
abbrev Ent:=List PV×PV
def c4y (a b:List PV):Bool:=a4k (a4r 12) a.reverse b.reverse
noncomputable def c3Q:List Ent->List PV->Option PV
 | [],_=>none| x::l,b=>bc (c4y x.1 b) (some x.2) (c3Q l b)
noncomputable def c9D:List (Nat×List Ent)->Nat->Option (List Ent)
 | [],_=>none| x::l,j=>bc (e0Y x.1 j) (some x.2) (c9D l j)
def Kof (m:Nat)(T:List (Nat×List Ent)):Kt:=λ k=>ob (c9D T k) λ es=>some λ a=>ob (c3Q es a) λ v=>some (m,v)
noncomputable def K0:Kt:=λ _=>none
theorem a0o (B):KOK B K0:=λ k f a m v e=>nx0 e
def TabOK (B:Base)(m:Nat)(T:List (Nat×List Ent)):Prop:=∀ x∈T,∀ y∈x.2,FnOK B m x.1 y.1 y.2
theorem b9u (e:c3Q l b=some v):(b,v)∈l:=by
 induction l with
 | nil=>exact nx0 e| cons x l ih=>exact bcE e (λ h e=>by rw [<- List.reverse_reverse b,<- b6o h,List.reverse_reverse,<- sj e];exact e0X)   λ _ e=>e0Z _ (ih e)
theorem c0n (e:c9D T k=some es):(k,es)∈T:=by
 induction T with
 | nil=>exact nx0 e| cons x l ih=>exact bcE e (λ h e=>by rw [<- e0r h,<- sj e];exact e0X)   λ _ e=>e0Z _ (ih e)
theorem b2m (h:TabOK B m T):KOK B (Kof m T):=λ k f a j v e1 e2=>
 oE e1 λ es hf e1=>oE (show ob (c3Q es a) (λ v=>some (m,v))=some (j,v) from (congrFun (sj e1) a).trans e2) λ u hl e2=>(Prod.mk.inj (sj e2)).1▸(Prod.mk.inj (sj e2)).2▸h _ (c0n hf) _ (b9u hl)
def a1o (K:Kt)(n:Nat)(T:List (Nat×List Ent)):Bool:=T.all λ x=>x.2.all λ y=>c2m K n x.1 y.1 y.2
theorem a0v (BO:BaseOK2 B){K:Kt}(KO:KOK B K)(h:a1o K n T=true):TabOK B (n+1) T:=λ x mx y my=>
 a9a BO KO (e0w.mp (e0w.mp h x mx) y my)
theorem TabOK.app {S T:List (Nat×List Ent)}(s:TabOK B m S)(t:TabOK B m T):TabOK B m (S++T):=λ x mx=>(e1E.mp mx).elim (s x) (t x)
theorem TabOK.le (t:TabOK B m T)(h:m<=n):TabOK B n T:=λ x mx y my=>(t x mx y my).le h
noncomputable def a0J:List Int:=[32,65,69,97,101,769,803,201,233,7864,7865]
noncomputable def b5H (c:Int):Option (Int×Int):=match c with
 | 201=>some (69,769)| 233=>some (101,769)| 7864=>some (69,803)| 7865=>some (101,803)| _=>none
noncomputable def a5Y (c:Int):Int:=match c with
 | 769=>230| 803=>220| _=>0
noncomputable def wbF (c:Int):PV:=match c with
 | 32=>.str "WSegSpace"| 769=>.str "Extend"| 803=>.str "Extend"| _=>.str "ALetter"
noncomputable def a0T (c:Int):Int:=match c with
 | 65=>97| 69=>101| 201=>233| 7864=>7865| c=>c
def dmV (c:Int):PV:=match b5H c with
 | some (a,b)=>.tup [.str "",.tup [i a,i b]]| none=>.none
def cfV (c:Int):PV:=match a3J (a0T c) c with
 | true=>.none| false=>.dct [.str "C"] [.tup [i (a0T c)]]
def getE (nm:Str)(f:Int->PV):List Ent:=a0J.map λ c=>([a0B,.str nm,i c],f c)
def a4e (c:Int):List Int:=match b5H c with
 | some (a,b)=>[a,b]
 | none=>[c]
def T1:List (Nat×List Ent):=[(3094,getE "ccc" (λ c=>i (a5Y c))++getE "dm" dmV++getE "cf" cfV++getE "wb" wbF)]
theorem c7M:a1o K0 36 T1=true:=by decide +kernel
def K1:Kt:=Kof 37 T1
def T2:List (Nat×List Ent):=[(29,a0J.map λ c=>([i c,a0B,.bool false],.lst ((a4e c).map .int)))]
theorem c7L:a1o K1 60 T2=true:=by decide +kernel
def K2:Kt:=Kof 61 (T1++T2)
noncomputable def a4y:List Int:=[97,101,69,65]
noncomputable def d1i:List (List Int):=[[],[769],[769,803],[803],[803,769]]
def a2V (l:Int)(m:List Int):Option (Int×List Int):=match m with
 | []=>none| x::r=>match a0J.filter λ c=>b5H c == some (l,x) with
   | [c]=>some (c,r)| _=>none
def a4n:List (List Int):=[32]::a4y.flatMap λ l=>d1i.flatMap λ m=>(l::m)::(match a2V l m with | some (c,r)=>[c::r] | none=>[])
noncomputable def ins (c:Int):List Int->List Int
 | []=>[c]
 | d::r=>if a5Y c<a5Y d then c::d::r else d::ins c r
def a0Y (m:List Int):List Int:=m.foldl (λ a c=>ins c a) []
def d3Q (p:List Int):List Int:=match p.flatMap a4e with
 | l::m=>l::a0Y m| []=>[]
def a0l (p:List Int):List Int:=match d3Q p with
 | l::m=>match a2V l m with
   | some (c,r)=>c::r| none=>l::m
 | []=>[]
noncomputable def a0P (l:List Int):PV:=.lst (l.map .int)
def T3a:List (Nat×List Ent):=[(37,a4n.map λ p=>([a0P p,a0B,.str "nfc",a0U],a0P (a0l p)))]
theorem c7K:a1o K2 100 T3a=true:=by decide +kernel
def T4:List (Nat×List Ent):=[(43,a0J.map λ c=>([i c,a0B,.str "nfc",a0U],.bool (a5Y c==0))),(42,[([a0B,.str "nfc",.none],a0U)])]
theorem c7J:a1o K2 100 T4=true:=by decide +kernel
def Yld {α:Type}(m:Ev α)(st:St)(a:α)(st':St)(ps:List Ob):Prop:=∃ sz,m st=some (a,st',⟨ps,sz⟩)/\sz<=1000
noncomputable def a0S {α:Type}(y:α×St×Obs):α×St×List Ob×Bool:=(y.1,y.2.1,y.2.2.ps,e0m y.2.2.sz 1000)
theorem Yld.of {α:Type}{m:Ev α}{st:St}{a:α}(h:(m st).map a0S=some (a,st',ps,true)):Yld m st a st' ps:=by obtain ⟨⟨a',s',p,z⟩,e,hh⟩:=e1C.mp h;unfold a0S at hh;simp only [Prod.mk.injEq] at hh;obtain ⟨rfl,rfl,rfl,hz⟩:=hh;exact ⟨z,e,e0t hz⟩
section
variable {α β:Type}{st st1 st2:St}{p q:List Ob}
theorem Yld.bind {m:Ev α}{f:α->Ev β}{a:α}{b:β}(x:Yld m st a st1 p)(y:Yld (f a) st1 b st2 q):Yld (Ev.bind m f) st b st2 (p++q):=by obtain ⟨z,e,h⟩:=x;obtain ⟨w,e',h'⟩:=y;refine ⟨mxN z w,?_,c5o h h'⟩;rw [a2b,e];show ob (f a st1) _=_;rw [e'];exact congrArg (λ l=>some (b,st2,Obs.mk l (mxN z w))) (a6L p q)
theorem Yld.ret (a:α) (st):Yld (Ev.ret a) st a st []:=⟨0,rfl,e0q _⟩
end
def OblL (B:Base)(ps:List Ob):Prop:=∀ x∈ps,x.ok B
theorem c4H (BO:BaseOK2 B){K:Kt}(KO:KOK B K)(nl:a0E args=true)(h:Yld (a1T (rk K n) k args) ⟨[],hs⟩ v st' ps)(ht:a0b 8 st'.H v=some t)(O:OblL B ps):FnOK B (n+1) k args t:=by obtain ⟨z,e,hz⟩:=h;refine c0k BO KO (hs:=hs) (o:=⟨ps,z⟩) nl ?_ ⟨O,e0l hz (by decide)⟩;unfold a5P;rw [e];show ob (a0b 8 st'.H v) _=_;rw [ht];rfl
noncomputable def e0W (P:Nat->Prop):Nat->Prop
 | 0=>True| n+1=>e0W P n/\P n
noncomputable def a3R (f:Nat->PV):Nat->List PV
 | 0=>[]
 | n+1=>f 0::a3R (λ i=>f (i+1)) n
theorem b4k:∀ L:List PV,∃ f,L=a3R f L.length
 | []=>⟨λ _=>.none,rfl⟩
 | x::L=>by obtain ⟨f,h⟩:=b4k L;refine ⟨λ i=>match i with | 0=>x | i+1=>f i,?_⟩;show x::L=x::a3R f L.length;rw [<- h]
def Run {α:Type}(B:Base)(m:Ev α)(st:St)(Q:α->St->Prop):Prop:=∃ a st' ps,Yld m st a st' ps/\OblL B ps/\Q a st'
section
variable {α β:Type}{B:Base}{st st1:St}{p:List Ob}{Q:α->St->Prop}{R:β->St->Prop}
theorem a0V:OblL B []:=λ x h=>by cases h
theorem OblL.app {q:List Ob}(x:OblL B p)(y:OblL B q):OblL B (p++q):=λ o h=>(e1E.mp h).elim (x o) (y o)
theorem OblL.one {o:Ob}(h:o.ok B):OblL B [o]:=λ x m=>by rw [e0u.mp m]; exact h
theorem OblL.cons {o:Ob}(h:o.ok B)(y:OblL B p):OblL B (o::p):=λ x m=>(e0d.mp m).elim (λ e=>by rw [e]; exact h) (y x)
theorem Run.of {m:Ev α}{a:α}(h:(m st).map a0S=some (a,st1,p,true))(O:OblL B p)(q:Q a st1):Run B m st Q:=⟨a,st1,p,Yld.of h,O,q⟩
theorem Run.mono {m:Ev α}{Q':α->St->Prop}(x:Run B m st Q)(h:∀ a s,Q a s->Q' a s):Run B m st Q':=by obtain ⟨a,s,p,y,o,q⟩:=x;exact ⟨a,s,p,y,o,h a s q⟩
theorem Run.bind {m:Ev α}{f:α->Ev β}(x:Run B m st Q)(y:∀ a s,Q a s->Run B (f a) s R):Run B (Ev.bind m f) st R:=by obtain ⟨a,s,p,h,o,q⟩:=x;obtain ⟨b,s',p',h',o',q'⟩:=y a s q;exact ⟨b,s',p++p',h.bind h',o.app o',q'⟩
theorem Run.ret {a:α}(q:Q a st):Run B (Ev.ret a) st Q:=⟨a,st,[],Yld.ret a st,a0V,q⟩
theorem Yld.bindE {m:Ev α}{f:α->Ev β}{b:β}{st2:St}{G:Prop}(y:Yld (Ev.bind m f) st b st2 p)(k:∀ a s1 p1 p2,Yld m st a s1 p1->Yld (f a) s1 b st2 p2->p1++p2=p->G):G:=
 y.elim λ z e=>oE (a2b.symm.trans e.1) λ y1 h1 e1=>oE e1 λ y2 h2 e2=>
  have q:=a1C e2;have hz:mxN y1.2.2.sz y2.2.2.sz<=1000:=e0l (e1L (congrArg Obs.sz q.2.2)) e.2
  k y1.1 y1.2.1 y1.2.2.ps y2.2.2.ps ⟨y1.2.2.sz,h1,e0l c8F hz⟩ ⟨y2.2.2.sz,h2.trans (by rw [<- q.1,<- q.2.1]),e0l c8E hz⟩ ((a6L _ _).symm.trans (congrArg Obs.ps q.2.2))
theorem Run.app {r:Rc}{ae:AEnv}{b:List Stmt}{Q:Fl->St->Prop}{a:List Stmt}:∀ {st:St},Run B (a0a r ae a) st (λ f s=>f=.next/\Run B (a0a r ae b) s Q)->Run B (a0a r ae (a++b)) st Q:=by
 induction a with
 | nil=>rintro st ⟨f,s,p,y,o,rfl,q⟩;obtain ⟨z,e,hz⟩:=y;exact (a1C e).2.1▸q
 | cons x a ih=>
   rintro st ⟨f,s,p,y,o,rfl,q⟩;refine Yld.bindE (show Yld (Ev.bind (r.s x ae) λ f=>bc (a6G f) (a0a r ae a) (Ev.ret f)) st _ s p from y) λ f1 s1 p1 p2 y1 y2 zp=>?_;rw [<- zp] at o;have hf:a6G f1=true:=by
    cases hn:a6G f1 with
    | true=>rfl| false=>rw [hn] at y2;obtain ⟨z,e,_⟩:=y2;rw [(a1C e).1] at hn;exact nomatch hn
   rw [hf] at y2;obtain rfl:=b5f hf;refine Run.bind (f:=λ f=>bc (a6G f) (a0a r ae (a++b)) (Ev.ret f)) (Q:=λ g s'=>g=.next/\s'=s1) ⟨.next,s1,p1,y1,λ x m=>o x (e1R _ m),rfl,rfl⟩ ?_;rintro g s' ⟨rfl,rfl⟩;exact ih ⟨.next,s,p2,y2,λ x m=>o x (e1i _ m),rfl,q⟩
theorem Run.cons {r:Rc}{ae:AEnv}{x:Stmt}{l:List Stmt}{Q:Fl->St->Prop}(h:Run B (r.s x ae) st (λ f s=>f=.next/\Run B (a0a r ae l) s Q)):Run B (a0a r ae (x::l)) st Q:=by unfold a0a;refine Run.bind h ?_;rintro f s ⟨rfl,h⟩;exact h
end
noncomputable def c9A:Stmt->Option (Expr×Expr×List Stmt×List Stmt×Pos)
 | .For t it b els p=>some (t,it,b,els,p)| _=>none
theorem d2i {s:Stmt}{q:Expr×Expr×List Stmt×List Stmt×Pos}(e:c9A s=some q):s=.For q.1 q.2.1 q.2.2.1 q.2.2.2.1 q.2.2.2.2:=by cases s <;> first | exact nx0 e | rw [<- sj e]
noncomputable def d8I:Expr:=.Tuple [] 0 default
def a7Y (s:Stmt):Expr:=oc (c9A s) (·.1) d8I
def b0M (s:Stmt):Expr:=oc (c9A s) (·.2.1) d8I
def c6S (s:Stmt):List Stmt:=oc (c9A s) (·.2.2.1) []
def d6s (s:Stmt):Bool:=oc (c9A s) (λ q=>a8q q.2.2.2.1 && !b2E q.2.2.2.2) false
def c0J (s:Stmt):Bool:=oc (c9A s) (λ q=>a8q q.2.2.2.1&&b2E q.2.2.2.2) false
theorem c4D {α:Type}(m:Ev α):gE' true m=m:=by unfold gE'; rfl
def a4j (r:Rc)(ae:AEnv)(s:Stmt)(len:Nat)(x:PV):Ev Fl:=Ev.bind (a5q r ae (a7Y s) (c6S s) x) λ f=>c6Q len f
def b0Z (r:Rc)(ae:AEnv)(s:Stmt)(x:PV):Ev Fl:=Ev.bind (asg r ae (a7Y s) x) λ _=>r.ss (c6S s) ae
section
variable {B:Base}{st st1:St}{p:List Ob}
theorem b5m {K:Kt}{n:Nat}{ae:AEnv}{s:Stmt}{q:Expr×Expr×List Stmt×List Stmt×Pos}(hq:c9A s=some q)(hn:a8q q.2.2.2.1=true) :
 (rk K (n+1)).s s ae=Ev.bind (a1w (rk K n) ae (a7Y s) (b0M s)) λ src=>bc (b2E q.2.2.2.2) (Ev.bind (Ev.rd λ H=>some H.length) λ i=>a3o (a4j (rk K n) ae s i) src) (a3o (b0Z (rk K n) ae s) src):=by
 rw [d2i hq];show gE' (a8q q.2.2.2.1) _=_;rw [hn,c4D];rfl
theorem Run.for {K:Kt}{n:Nat}{ae:AEnv}{s:Stmt}{l:List PV}{Q:Fl->St->Prop}(hs:d6s s=true)(e:(a1w (rk K n) ae (a7Y s) (b0M s) st).map a0S=some (.stat l,st1,p,true))(O:OblL B p)
 (h:Run B (a0R (b0Z (rk K n) ae s) l) st1 Q):Run B ((rk K (n+1)).s s ae) st Q:=anE hs λ q hq hs=>aE hs λ hn hs=>by
 rw [b5m hq hn,a3D hs];exact Run.bind (Q:=λ a s=>a=.stat l/\s=st1) (Run.of e O ⟨rfl,rfl⟩) λ a s e=>e.1▸e.2▸h
theorem Run.forG {K:Kt}{n:Nat}{ae:AEnv}{s:Stmt}{src:Src}{Q:Fl->St->Prop}(hs:c0J s=true)(e:(a1w (rk K n) ae (a7Y s) (b0M s) st).map a0S=some (src,st1,p,true))(O:OblL B p)
 (h:Run B (a3o (a4j (rk K n) ae s st1.H.length) src) st1 Q):Run B ((rk K (n+1)).s s ae) st Q:=anE hs λ q hq hs=>aE hs λ hn hs=>by
 rw [b5m hq hn,hs];exact Run.bind (Q:=λ a s=>a=src/\s=st1) (Run.of e O ⟨rfl,rfl⟩) λ a s e=>e.1▸e.2▸Run.bind (Q:=λ a s'=>a=st1.H.length/\s'=st1) ⟨st1.H.length,st1,[],⟨0,rfl,by decide⟩,a0V,rfl,rfl⟩ λ a s e=>e.1▸e.2▸h
theorem c9Z (L:Nat)(s:St):d3I L s=some ((),⟨b0e L s.H,s.hs⟩,⟨[],0⟩):=by unfold d3I Ev.up;exact a4B (b0e L s.H) λ H'=>some ((),(⟨H',s.hs⟩:St),(⟨[],0⟩:Obs))
theorem a7z {α β:Type}{o:Option α}{f:α->Option β}{a:α}{b:Option β}(h:o=some a)(e:f a=b):Internal.ob o f=b:=by rw [h]; exact e
theorem b0k {f g:PV->Option PV}(h:∀ v t,f v=some t->g v=some t){l:List PV}:∀ {t:List PV},a1F f l=some t->a1F g l=some t:=by
 induction l with
 | nil=>exact fun {t} e=>e| cons x l ih=>exact fun {t} e=>oE (show Internal.ob (f x) _=some t from e) λ y h1 e=>oE e λ z h2 e=>a7z (h _ _ h1) (a7z (ih h2) e)
theorem b8W {H:List PO}{L i:Nat}{fs:List Str}{vs:List PV}{o:PO}(hL:H[L]?=some (.fr fs vs))(hi:H[i]?=some o)(ho:∀ fs vs,o≠.fr fs vs):(H.set L .opq)[i]?=some o:=by
 have:L≠i:=λ e=>by subst e;rw [hL] at hi;exact ho _ _ (Option.some.inj hi).symm
 rw [List.getElem?_set_ne this];exact hi
theorem b7s {H:List PO}{L:Nat}{fs:List Str}{vs:List PV}(hL:H[L]?=some (.fr fs vs)){g g':List PV->Option (List PV)}(hg:∀ {l t:List PV},g l=some t->g' l=some t){o:PO}{t:PV}(e:b6Y g H o=some t):b6Y g' (H.set L .opq) o=some t:=by
 cases o with
 | list l=>exact oE e λ l' h e=>a7z (hg h) e| froz l=>exact oE e λ l' h e=>a7z (hg h) e| dict ks vs=>refine gE e λ hn e=>oE e λ l' h e=>?_;show gd (a0E ks) _=_;rw [hn];exact a7z (hg h) e| inst c d=>exact oE e λ o2 hd e=>oE e λ w hw e=>oE e λ l' h e=>a7z (b8W hL hd (λ fs' vs' z=>by rw [z] at hw; exact nx0 hw)) (a7z hw (a7z (hg h) e))| _=>exact nx0 e
theorem b7p {H:List PO}{L:Nat}{fs:List Str}{vs:List PV}(hL:H[L]?=some (.fr fs vs))(n:Nat):∀ (v t:PV),a0b n H v=some t->a0b n (H.set L .opq) v=some t:=by
 induction n with
 | zero=>exact λ _ _ e=>nx0 e| succ n ih=>
   intro v t e;refine ocE e (λ i hi e=>oE e λ o ho e=>?_) λ hn e=>ocE e (λ l hl e=>oE e λ l' h1 e=>?_) λ hn2 e=>?_
   · show oc (a5S v) _ _=_;rw [hi];exact a7z (b8W hL ho (λ fs' vs' z=>by rw [z] at e; exact nx0 e)) (b7s hL (b0k ih) e)
   · show oc (a5S v) _ (oc (a5R v) _ _)=_;rw [hn,hl];exact a7z (b0k ih h1) e
   · show oc (a5S v) _ (oc (a5R v) _ _)=_;rw [hn,hn2];exact e
theorem b4d {L n:Nat}{H:List PO}{v t:PV}(e:a0b n H v=some t):a0b n (b0e L H) v=some t:=by
 unfold b0e;cases h:c0i H L with
 | none=>exact e| some p=>exact b7p (a1I h) n v t e
theorem Run.call {K:Kt}{n k:Nat}{args:List PV}{f:FnI}{xs:List (Str×PV)}{ae:AEnv}{Q:PV->St->Prop}(hf:a2U k=some f)(hb:a2N f.params f.dflts args=some xs)
 (he:(enter true f.sc [] xs st).map a0S=some (ae,st1,p,true)) (O:OblL B p) (hs:Run B (a0a (rk K n) ae f.body) st1 (λ fl s=>∃ v,fl=.ret v/\Q v ⟨b0e ae.L s.H,s.hs⟩)):Run B (a1T (rk K (n+1)) k args) st Q:=by
 unfold a1T;rw [hf];refine Run.bind (Q:=λ a s=>a=f/\s=st) (Run.ret (a:=f) ⟨rfl,rfl⟩) ?_;rintro a s ⟨rfl,rfl⟩;rw [hb];refine Run.bind (Q:=λ a s'=>a=xs/\s'=s) (Run.ret (a:=xs) ⟨rfl,rfl⟩) ?_;rintro a s' ⟨rfl,rfl⟩;refine Run.bind (Q:=λ a s=>a=ae/\s=st1) (Run.of he O ⟨rfl,rfl⟩) ?_;rintro a s ⟨rfl,rfl⟩;refine Run.bind (f:=λ fl=>Ev.bind (d3I a.L) λ _=>Ev.opt (d7z fl)) hs ?_;rintro fl s ⟨v,rfl,q⟩;refine Run.bind (Q:=λ _ s'=>s'=⟨b0e a.L s.H,s.hs⟩) ⟨(),⟨b0e a.L s.H,s.hs⟩,[],⟨0,c9Z _ _,by decide⟩,a0V,rfl⟩ ?_;rintro _ s' rfl;exact Run.ret q
theorem a5H (BO:BaseOK2 B){K:Kt}(KO:KOK B K){n k:Nat}{args:List PV}{hs:List Hint}{t:PV}(nl:a0E args=true)(h:Run B (a1T (rk K n) k args) ⟨[],hs⟩ λ v s=>a0b 8 s.H v=some t):FnOK B (n+1) k args t:=by obtain ⟨v,s,p,y,o,q⟩:=h;exact c4H BO KO nl y q o
end
def fnB (k:Nat):List Stmt:=match a2U k with
 | some f=>f.body| none=>[]
def scK (k:Nat):Scope:=match a2U k with
 | some f=>f.sc| none=>default
def stm (k j:Nat):Stmt:=match (fnB k)[j]? with
 | some s=>s| none=>.Pass default
def aeK (k:Nat)(cells:List (Str×Nat):=[]):AEnv:=⟨scK k,0,cells,true⟩
theorem a0I {α β:Type}{f g:α->β}{l:List α}(h:l.map f=l.map g){x:α}(m:x∈l):f x=g x:=by
 induction l with
 | nil=>exact d1g m| cons y l ih=>exact a9o m (λ e=>e▸(List.cons.inj h).1) (ih (List.cons.inj h).2)
def spI (f:Nat->Int)(n:Nat):List PV:=a3R (λ k=>.int (f k)) n
theorem a0u (L:List Int):∃ f,L.map PV.int=spI f L.length:=by
 induction L with
 | nil=>exact ⟨λ _=>0,rfl⟩| cons x L ih=>exact ih.elim λ f h=>⟨λ i=>match i with | 0=>x | i+1=>f i,congrArg (PV.int x::·) h⟩
noncomputable def a3A:List (List Int):=[[],[769],[803],[769,803],[803,769]]
noncomputable def a3Z:List Int:=[32,97,101,69,65]
def d0v (c:Int):PV:=.tup [i (a5Y c),i c]
@[irreducible] def c8n (t:PV)(G:List PO)(L:List PV)(run:List Int):List PO:=.fr ["text", "data", "found", "run"] [t,a0B,.loc 1,.loc (2+G.length)]::.list L::(G++[.list (run.map d0v)])
@[irreducible] def h30 (t c w:PV)(G:List PO)(L:List PV)(run:List Int):List PO:=.fr ["text", "data", "found", "run", "code", "weight"] [t,a0B,.loc 1,.loc (2+G.length),c,w]::.list L::(G++[.list (run.map d0v)])
noncomputable def g30:Nat->(Nat->PO)->List PO
 | 0,_=>[]
 | n+1,g=>g 0::g30 n (λ k=>g (k+1))
theorem a8x (G):∃ o,G=g30 G.length o:=by
 induction G with
 | nil=>exact ⟨λ _=>.opq,rfl⟩| cons x G ih=>exact ih.elim λ o h=>⟨λ i=>match i with | 0=>x | i+1=>o i,congrArg (x::·) h⟩
abbrev X30:=Nat×Nat×List Int×Int
def B30 (x:PV):Ev Fl:=b0Z (rk K2 100) (aeK 30) (stm 30 1) x
@[irreducible] def b2f (c:Int)(H:List PO):Option (Fl×St×List Ob×Bool):=(B30 (i c) ⟨H,[]⟩).map a0S
theorem a5u (c) (H):(B30 (i c) ⟨H,[]⟩).map a0S=b2f c H:=by rw [b2f]
noncomputable def d3v (k:Nat):List (Nat×Nat):=(List.range' 1 k).flatMap λ j=>(e0f (3 * j-1)).map λ n=>(j,n)
def e0E (t cv wv:PV)(g:Nat->PO)(f:Nat->Int)(x:X30):=b2f x.2.2.2 (h30 t cv wv (g30 x.1 g) (spI f x.2.1) x.2.2.1)
def d7e (t:PV)(g:Nat->PO)(f:Nat->Int)(x:X30):Option (Fl×St×List Ob×Bool):=
 some (.next,⟨h30 t (i x.2.2.2) (i 0) (g30 x.1 g++[.froz (x.2.2.1.map d0v)]) (spI f x.2.1++(a0Y x.2.2.1++[x.2.2.2]).map .int) [],[]⟩,[],true)
def d8L:List X30:=(d3v 2).flatMap λ n=>a3A.flatMap λ r=>a3Z.map λ c=>(n.1,n.2,r,c)
theorem d9g (t) (f):a3Z.map (λ c=>b2f c (c8n t [] (spI f 0) []))=a3Z.map (λ c=>d7e t (λ _=>.opq) f (0,0,[],c)):=by kernel_rfl
theorem d9Y (t cv wv) (g) (f):d8L.map (e0E t cv wv g f)=d8L.map (d7e t g f):=by kernel_rfl
noncomputable def d6i:List (List Int×Int):=[([],769),([],803),([769],803),([803],769)]
def d8M:List X30:=(d3v 3).flatMap λ n=>d6i.map λ y=>(n.1,n.2,y.1,y.2)
def e0F (t cv wv:PV)(g:Nat->PO)(f:Nat->Int)(x:X30):=b2f x.2.2.2 (h30 t cv wv (g30 x.1 g) (spI f x.2.1) x.2.2.1)
def d9q (t:PV)(g:Nat->PO)(f:Nat->Int)(x:X30):Option (Fl×St×List Ob×Bool):=
 some (.next,⟨h30 t (i x.2.2.2) (i (a5Y x.2.2.2)) (g30 x.1 g) (spI f x.2.1) (x.2.2.1++[x.2.2.2]),[]⟩,[],true)
theorem d9b (t cv wv) (g) (f):d8M.map (e0F t cv wv g f)=d8M.map (d9q t g f):=by kernel_rfl
theorem a1b (h:n<m):n∈e0f m:=e1a.mpr h
def GL (k:Nat)(G:List PO)(L:List Int):Prop:=G.length∈List.range' 1 k/\L.length∈e0f (3 * G.length-1)
theorem c0d (h:GL k G L):(G.length,L.length)∈d3v k:=e0j.mpr ⟨_,h.1,e0e.mpr ⟨_,h.2,rfl⟩⟩
section
variable {B:Base}{t cv wv:PV}{G:List PO}{L run:List Int}{c:Int}
theorem d9n (h:GL 2 G L)(hr:run∈a3A)(hc:c∈a3Z) :
 (B30 (i c) ⟨h30 t cv wv G (L.map .int) run,[]⟩).map a0S=some (.next,⟨h30 t (i c) (i 0) (G++[.froz (run.map d0v)]) ((L++(a0Y run++[c])).map .int) [],[]⟩,[],true):=by
 obtain ⟨f,hf⟩:=a0u L;obtain ⟨o,ho⟩:=a8x G;have e:=a0I (d9Y t cv wv o f) (e0j.mpr ⟨_,c0d h,e0j.mpr ⟨_,hr,e0e.mpr ⟨_,hc,rfl⟩⟩⟩);rw [e0o,hf,a5u,ho];exact e
theorem d9p (hc:c∈a3Z):(B30 (i c) ⟨c8n t [] [] [],[]⟩).map a0S=some (.next,⟨h30 t (i c) (i 0) [.froz []] ([c].map .int) [],[]⟩,[],true)  := (a5u _ _).trans (a0I (d9g t (λ _=>0)) hc)
theorem d9o (h:GL 3 G L)(hr:(run,c)∈d6i) :
 (B30 (i c) ⟨h30 t cv wv G (L.map .int) run,[]⟩).map a0S=some (.next,⟨h30 t (i c) (i (a5Y c)) G (L.map .int) (run++[c]),[]⟩,[],true):=by
 obtain ⟨f,hf⟩:=a0u L;obtain ⟨o,ho⟩:=a8x G;have e:=a0I (d9b t cv wv o f) (e0j.mpr ⟨_,c0d h,e0e.mpr ⟨_,hr,rfl⟩⟩);rw [hf,a5u,ho];exact e
theorem c9x (h:GL 3 G L)(m:(r,c)∈d6i)(hq:Run B (a0R B30 rest) ⟨h30 t (i c) (i (a5Y c)) G (L.map .int) (r++[c]),[]⟩ Q):Run B (a0R B30 (i c::rest)) ⟨h30 t cv wv G (L.map .int) r,[]⟩ Q:=
 Run.bind (Q:=λ f s=>f=.next/\s=_) (Run.of (d9o h m) a0V ⟨rfl,rfl⟩) λ f s e=>e.1▸e.2▸hq
theorem d6O {P:List Int->Prop}(h:r∈a3A)(a:P [])(b:P [769])(c:P [803])(d:P [769,803])(e:P [803,769]):P r:=
 a9o h (·▸a) λ h=>a9o h (·▸b) λ h=>a9o h (·▸c) λ h=>a9o h (·▸d) λ h=>a9o h (·▸e) d1g
theorem m30 (h:GL 3 G L)(hr:run∈a3A)(k:∀ cv wv,Run B (a0R B30 rest) ⟨h30 t cv wv G (L.map .int) run,[]⟩ Q):Run B (a0R B30 (run.map .int++rest)) ⟨h30 t cv wv G (L.map .int) [],[]⟩ Q:=by
 revert k;exact d6O (P:=λ run=>(∀ cv wv,Run B (a0R B30 rest) ⟨h30 t cv wv G (L.map .int) run,[]⟩ Q)->Run B (a0R B30 (run.map .int++rest)) ⟨h30 t cv wv G (L.map .int) [],[]⟩ Q) hr (λ k=>k _ _) (λ k=>c9x h (by decide) (k _ _)) (λ k=>c9x h (by decide) (k _ _))
  (λ k=>c9x h (by decide) (c9x h (by decide) (k _ _))) λ k=>c9x h (by decide) (c9x h (by decide) (k _ _))
abbrev Grp:=Int×List Int
def a8G (g:Grp):Prop:=g.1∈a3Z/\g.2∈a3A
noncomputable def a1E (gs:List Grp):List Int:=gs.flatMap λ g=>g.1::g.2
def a0F (gs:List Grp):List Int:=gs.flatMap λ g=>g.1::a0Y g.2
theorem b4l:∀ {r:List Int},r∈a3A->(a0Y r).length<=2:=fun {r}=>(by decide:∀ r∈a3A,(a0Y r).length<=2) r
theorem GL.more (h:GL k G L)(hr:run∈a3A) (o):GL (k+1) (G++[o]) (L++(a0Y run++[c])):=by
 have a:=List.mem_range'_1.mp h.1;have b:=e1a.mp h.2;have s:=b4l hr;refine ⟨List.mem_range'_1.mpr ?_,e1a.mpr ?_⟩
 · rw [e0a];exact ⟨e2D 1 _,e1Z a.2⟩
 · rw [e0a,e0a,e0a];show L.length+((a0Y run).length+1)<3 * (G.length+1)-1;lia
def d7X (t:PV)(T:List Int)(f:Fl)(s:St):Prop:=f=.next /\ ∃ G L run cv wv,s=⟨h30 t cv wv G (L.map .int) run,[]⟩/\GL 3 G L/\run∈a3A/\L++a0Y run=T
theorem d1m (gs):∀ {cv wv:PV}{G:List PO}{L run:List Int}{k:Nat},(∀ g∈gs,a8G g)->k + gs.length=3->GL k G L->run∈a3A ->
 Run B (a0R B30 ((a1E gs).map .int)) ⟨h30 t cv wv G (L.map .int) run,[]⟩ (d7X t (L++a0Y run++a0F gs)):=by
 induction gs with
 | nil=>intro cv wv G L run k _ hk h hr;obtain rfl:k=3:=hk;exact Run.ret ⟨rfl,G,L,run,cv,wv,rfl,h,hr,(e0k _).symm⟩
 | cons x gs ih=>
   intro cv wv G L run k hg hk h hr;have g:=hg x e0X;have hk:k+(gs.length+1)=3:=hk;have h2:GL 2 G L:=⟨(List.mem_range'_1.mp h.1).elim λ a b=>List.mem_range'_1.mpr ⟨a,e1j b (by lia)⟩,h.2⟩
   rw [show (a1E (x::gs)).map PV.int=PV.int x.1::(x.2.map PV.int++(a1E gs).map PV.int) from e0o (l₁:=x.1::x.2)];refine Run.bind (Q:=λ f s=>f=.next/\s=_) (Run.of (d9n h2 hr g.1) a0V ⟨rfl,rfl⟩) λ f s e=>e.1▸e.2▸m30 (h2.more hr _) g.2 λ cv wv=>?_;have q:=ih (cv:=cv) (wv:=wv) (k:=k+1) (λ g h=>hg g (e0Z _ h)) (by lia) (h.more (c:=x.1) hr (.froz (run.map d0v))) g.2;rw [show L++(a0Y run++[x.1])++a0Y x.2++a0F gs=L++a0Y run++a0F (x::gs) by rw [show a0F (x::gs)=x.1::a0Y x.2++a0F gs from rfl]; simp only [e0h,e1t,e1V]] at q;exact q
end
def b1o (y:Fl×St×Obs):Option PV×List Ob×Bool:=(match y.1 with | .ret v=>a0b 8 y.2.1.H v | _=>none,y.2.2.ps,e0m y.2.2.sz 1000)
def a9O (t:PV)(f:Fl)(s:St):Prop:=∃ v,f=.ret v/\a0b 8 s.H v=some t
theorem Run.ofV {st:St}(h:(m st).map b1o=some (some t,p,true))(O:OblL B p):Run B m st (a9O t):=by
 obtain ⟨⟨f,s,ob⟩,e,hh⟩:=e1C.mp h;unfold b1o at hh;simp only [Prod.mk.injEq] at hh;obtain ⟨h1,rfl,h3⟩:=hh;cases f with
 | ret v=>exact ⟨.ret v,s,ob.ps,⟨ob.sz,e,e0t h3⟩,O,v,rfl,h1⟩| _=>cases h1
def pmK (k:Nat):List Str:=match a2U k with
 | some f=>f.params| none=>[]
def dfK (k:Nat):List PV:=match a2U k with
 | some f=>f.dflts| none=>[]
def okK (k:Nat):Bool:=match a2U k with
 | some _=>true| none=>false
theorem a0t (BO:BaseOK2 B){K:Kt}(KO:KOK B K)(nl:a0E args=true)(hk:okK k=true)(hb:a2N (pmK k) (dfK k) args=some xs)
 (he:(enter true (scK k) [] xs ⟨[],hs⟩).map a0S=some (ae,st1,p,true)) (O:OblL B p) (h:Run B (a0a (rk K n) ae (fnB k)) st1 (a9O t)):FnOK B (n+2) k args t:=by
 unfold okK at hk;unfold pmK dfK at hb;unfold scK at he;unfold fnB at h;cases hf:a2U k with
 | none=>rw [hf] at hk; cases hk| some f=>rw [hf] at hb he h;exact a5H BO KO nl (Run.call hf hb he O (h.mono λ _ _ q=>by obtain ⟨v,h1,h2⟩:=q; exact ⟨v,h1,b4d h2⟩))
theorem Run.one {r:Rc}{st st1:St}(h:(r.s x ae st).map a0S=some (.next,st1,p,true))(O:OblL B p)(q:Run B (a0a r ae l) st1 Q):Run B (a0a r ae (x::l)) st Q:=
 Run.cons (Run.of h O ⟨rfl,q⟩)
theorem a0O:∀ L:List Int,a0E (L.map .int)=true
 | []=>rfl| _::L=>by show (true&&a0E (L.map .int))=true;rw [a0O L];rfl
@[irreducible] def c4M (H:List PO):Option (Option PV×List Ob×Bool):=(a0a (rk K2 101) (aeK 30) ((fnB 30).drop 2) ⟨H,[]⟩).map b1o
def d8N:List (Nat×Nat×List Int):=(d3v 3).flatMap λ n=>a3A.map λ r=>(n.1,n.2,r)
def e0G (t cv wv:PV)(g:Nat->PO)(f:Nat->Int)(x:Nat×Nat×List Int):=c4M (h30 t cv wv (g30 x.1 g) (spI f x.2.1) x.2.2)
def d9r (f:Nat->Int)(x:Nat×Nat×List Int):Option (Option PV×List Ob×Bool):=some (some (.lst (spI f x.2.1++(a0Y x.2.2).map .int)),[],true)
theorem d4S (t):c4M (c8n t [] [] [])=some (some (.lst []),[],true):=by kernel_rfl
theorem d9d (t cv wv) (g) (f):d8N.map (e0G t cv wv g f)=d8N.map (d9r f):=by kernel_rfl
def d7y (t:PV):List PO:=[.fr ["text", "data"] [t,a0B]]
theorem d9e (t):(enter true (scK 30) [] [("text",t),("data",a0B)] ⟨[],[]⟩).map a0S=some (aeK 30,⟨d7y t,[]⟩,[],true):=by kernel_rfl
theorem d9a (t):((rk K2 101).s (stm 30 0) (aeK 30) ⟨d7y t,[]⟩).map a0S=some (.next,⟨c8n t [] [] [],[]⟩,[],true):=by kernel_rfl
theorem d9c (f):(e0f 10).map (λ n=>(a1w (rk K2 100) (aeK 30) (a7Y (stm 30 1)) (b0M (stm 30 1)) ⟨c8n (.lst (spI f n)) [] [] [],[]⟩).map a0S) =
 (e0f 10).map λ n=>some (.stat (spI f n),⟨c8n (.lst (spI f n)) [] [] [],[]⟩,[],true):=by kernel_rfl
theorem d9f:fnB 30=[stm 30 0]++([stm 30 1]++(fnB 30).drop 2):=by kernel_rfl
theorem d9Z (t):a2N (pmK 30) (dfK 30) [t,a0B]=(some [("text",t),("data",a0B)]:Option (List (Str×PV))):=by kernel_rfl
section
variable {B:Base}{t cv wv:PV}{G:List PO}{L run:List Int}
theorem b2K (H):(a0a (rk K2 101) (aeK 30) ((fnB 30).drop 2) ⟨H,[]⟩).map b1o=c4M H:=by unfold c4M;rfl
theorem f30 (h:GL 3 G L)(hr:run∈a3A):Run B (a0a (rk K2 101) (aeK 30) ((fnB 30).drop 2)) ⟨h30 t cv wv G (L.map .int) run,[]⟩ (a9O (a0P (L++a0Y run))):=by obtain ⟨f,hf⟩:=a0u L;obtain ⟨o,ho⟩:=a8x G;have e:=a0I (d9d t cv wv o f) (e0j.mpr ⟨_,c0d h,e0e.mpr ⟨_,hr,rfl⟩⟩);refine Run.ofV (p:=[]) ?_ a0V;unfold a0P;rw [e0o,hf,b2K,ho];exact e
theorem c7a:∀ {r:List Int},r∈a3A->r.length<=2:=fun {r}=>(by decide:∀ r∈a3A,r.length<=2) r
theorem a7g (h:∀ g∈gs,a8G g):(a1E gs).length<=3 * gs.length:=by
 induction gs with
 | nil=>exact e0i _| cons g gs ih=>have a:=ih λ x m=>h x (e0Z _ m);have b:=c7a (h g e0X).2;rw [show a1E (g::gs)=g.1::g.2++a1E gs from rfl,e0a];show g.2.length+1+_<=3 * (gs.length+1);lia
theorem d1J (BO:BaseOK2 B)(KO:KOK B K2)(hg:∀ g∈gs,a8G g)(hl:gs.length<=3):FnOK B 103 30 [a0P (a1E gs),a0B] (a0P (a0F gs)):=by
 have nl:a0E [a0P (a1E gs),a0B]=true:=by show (a0E ((a1E gs).map .int)&&a0E [a0B])=true;rw [a0O];rfl
 refine a0t BO KO (n:=101) nl rfl (d9Z _) (d9e _) a0V ?_;rw [d9f];refine Run.one (d9a _) a0V (Run.cons ?_);obtain ⟨f,hf⟩:=a0u (a1E gs);have lc:=a7g hg;have e:=a0I (d9c f) (a1b (n:=(a1E gs).length) (m:=10) (by lia));rw [<- hf] at e;refine Run.for rfl e a0V ?_;show Run B (a0R B30 ((a1E gs).map .int)) ⟨c8n (a0P (a1E gs)) [] [] [],[]⟩ _;cases gs with
 | nil=>exact Run.ret ⟨rfl,Run.ofV (p:=[]) ((b2K _).trans (d4S _)) a0V⟩| cons x gs=>
   have g:=hg x e0X;generalize a0P (a1E (x::gs))=t;rw [show (a1E (x::gs)).map PV.int=PV.int x.1::(x.2.map PV.int++(a1E gs).map PV.int) from e0o (l₁:=x.1::x.2)];have h1:GL 1 [PO.froz []] [x.1]:=⟨e0X,e1a.mpr (show 1<2 by decide)⟩
   have h3:GL (3-gs.length) [PO.froz []] [x.1]:=⟨List.mem_range'_1.mpr ⟨e0i _,by have:gs.length+1<=3:=hl; show 1<1+(3-gs.length); lia⟩,h1.2⟩
   refine Run.bind (Q:=λ f s=>f=.next/\s=_) (Run.of (d9p g.1) a0V ⟨rfl,rfl⟩) ?_;rintro f s ⟨rfl,rfl⟩;refine m30 ⟨List.mem_range'_1.mpr ⟨e0i _,(by decide:1<1+3)⟩,h1.2⟩ g.2 λ cv wv=>(d1m gs (λ g h=>hg g (e0Z _ h)) (Nat.sub_add_cancel (Nat.le_of_succ_le hl)) h3 g.2).mono λ f s q=>?_;obtain ⟨rfl,G,L,run,cv,wv,rfl,h,hr,e⟩:=q;refine ⟨rfl,?_⟩;rw [show a0F (x::gs)=L++a0Y run from e.symm];exact f30 h hr
end
theorem a1U (H) (L):a0b 8 H (a0P L)=some (a0P L):=by show gd (a0E (L.map .int)) (some (PV.lst (L.map .int)))=_;rw [a0O];rfl
noncomputable def b6w (y:Fl×St×Obs):Fl×List Ob×Bool:=(y.1,y.2.2.ps,e0m y.2.2.sz 1000)
theorem Run.ofR {st:St}(h:(m st).map b6w=some (.ret w,p,true))(hw:∀ H,a0b 8 H w=some t)(O:OblL B p):Run B m st (a9O t):=by obtain ⟨⟨f,s,ob⟩,e,hh⟩:=e1C.mp h;unfold b6w at hh;simp only [Prod.mk.injEq] at hh;obtain ⟨rfl,rfl,h3⟩:=hh;exact ⟨.ret w,s,ob.ps,⟨ob.sz,e,e0t h3⟩,O,w,rfl,hw _⟩
def d7x (l:PV):List PO:=[.fr ["text", "data", "is_compat"] [l,a0B,.bool false]]
@[irreducible] def c3v (l:PV)(L:List PV):List PO:=[.fr ["text", "data", "is_compat", "found"] [l,a0B,.bool false,.loc 1],.list L]
@[irreducible] def h32 (l c:PV)(L:List PV):List PO:=[.fr ["text", "data", "is_compat", "found", "code"] [l,a0B,.bool false,.loc 1,c],.list L]
def B32 (x:PV):Ev Fl:=b0Z (rk K2 140) (aeK 32) (stm 32 1) x
@[irreducible] def b6G (w:PV)(c:Int)(H:List PO):Option (Fl×St×List Ob×Bool):=(B32 (i c) ⟨H,[.val w]⟩).map a0S
theorem a9L (w) (c) (H):(B32 (i c) ⟨H,[.val w]⟩).map a0S=b6G w c H:=by rw [b6G]
def d32:List (Nat×Int):=(e0f 9).flatMap λ n=>a0J.map λ c=>(n,c)
def r32 (l w:PV)(f:Nat->Int)(x:Nat×Int):Option (Fl×St×List Ob×Bool):=some (.next,⟨h32 l (i x.2) (spI f x.1++(a4e x.2).map .int),[.val w]⟩,[],true)
theorem d9X (l w) (f):a0J.map (λ c=>b6G w c (c3v l (spI f 0)))=a0J.map (λ c=>r32 l w f (0,c)):=by kernel_rfl
theorem t32 (l w cv) (f):d32.map (λ x=>b6G w x.2 (h32 l cv (spI f x.1)))=d32.map (r32 l w f):=by kernel_rfl
@[irreducible] def c4L (w:PV)(H:List PO):Option (Fl×List Ob×Bool):=(a0a (rk K2 141) (aeK 32) ((fnB 32).drop 2) ⟨H,[.val w]⟩).map b6w
theorem d4R (l w):c4L w (c3v l [])=some (.ret w,[.fn 138 30 [.lst [],a0B] w],true):=by kernel_rfl
theorem d9U (l w cv) (f):(e0f 10).map (λ n=>c4L w (h32 l cv (spI f n)))=(e0f 10).map λ n=>some (.ret w,[.fn 138 30 [.lst (spI f n),a0B] w],true):=by kernel_rfl
theorem d9V (t w):(enter true (scK 32) [] [("text",t),("data",a0B),("is_compat",.bool false)] ⟨[],[.val w]⟩).map a0S=some (aeK 32,⟨d7x t,[.val w]⟩,[],true):=by kernel_rfl
theorem d9S (t w):((rk K2 141).s (stm 32 0) (aeK 32) ⟨d7x t,[.val w]⟩).map a0S=some (.next,⟨c3v t [],[.val w]⟩,[],true):=by kernel_rfl
theorem d9T (w) (f):(e0f 10).map (λ n=>(a1w (rk K2 140) (aeK 32) (a7Y (stm 32 1)) (b0M (stm 32 1)) ⟨c3v (.lst (spI f n)) [],[.val w]⟩).map a0S) =
 (e0f 10).map λ n=>some (.stat (spI f n),⟨c3v (.lst (spI f n)) [],[.val w]⟩,[],true):=by kernel_rfl
theorem d9W:fnB 32=[stm 32 0]++([stm 32 1]++(fnB 32).drop 2):=by kernel_rfl
theorem d9R (t):a2N (pmK 32) (dfK 32) [t,a0B,.bool false]=(some [("text",t),("data",a0B),("is_compat",.bool false)]:Option (List (Str×PV))):=by kernel_rfl
theorem b2J (w) (H):(a0a (rk K2 141) (aeK 32) ((fnB 32).drop 2) ⟨H,[.val w]⟩).map b6w=c4L w H:=by rw [c4L]
section
variable {B:Base}{l w cv:PV}{L:List Int}
theorem s32 (hL:L.length<=8)(hc:c∈a0J):(B32 (i c) ⟨h32 l cv (L.map .int),[.val w]⟩).map a0S=some (.next,⟨h32 l (i c) ((L++a4e c).map .int),[.val w]⟩,[],true):=by obtain ⟨f,hf⟩:=a0u L;rw [e0o,hf,a9L];have:=a0I (t32 l w cv f) (x:=(L.length,c)) (e0j.mpr ⟨_,a1b (by lia),e0e.mpr ⟨_,hc,rfl⟩⟩);unfold r32 at this;exact this
theorem d9m (hc:c∈a0J):(B32 (i c) ⟨c3v l [],[.val w]⟩).map a0S=some (.next,⟨h32 l (i c) ((a4e c).map .int),[.val w]⟩,[],true):=by rw [a9L];have:=a0I (d9X l w (λ _=>0)) hc;unfold r32 at this;exact this
theorem b3v (c):1<=(a4e c).length:=by
 unfold a4e;cases b5H c with
 | none=>exact e0i 1| some p=>exact e1r 1
theorem c5z:∀ {cs:List Int}{cv:PV}{L:List Int},(∀ c∈cs,c∈a0J)->(L++cs.flatMap a4e).length <= 9->Run B (a0R B32 (cs.map .int)) ⟨h32 l cv (L.map .int),[.val w]⟩ (λ f s=>f=.next /\ ∃ cv,s=⟨h32 l cv ((L++cs.flatMap a4e).map .int),[.val w]⟩)
 | [],cv,L,_,_=>Run.ret ⟨rfl,cv,by rw [e2B,e0k]⟩| c::cs,cv,L,hc,hL=>by
   have h1:=b3v c;rw [e1O,<- e0h] at hL ⊢;have h2:L.length<=8:=by simp only [e0a] at hL;lia
   show Run B (Ev.bind (B32 (PV.int c)) _) _ _;refine Run.bind (Q:=λ f s=>f=.next/\s=_) (Run.of (s32 h2 (hc c (e0X ..))) a0V ⟨rfl,rfl⟩) ?_;rintro f s ⟨rfl,rfl⟩;exact c5z (λ c h=>hc c (e0Z _ h)) hL
theorem d0Q (t w):(a0a (rk K2 141) (aeK 32) ((fnB 32).drop 2) ⟨c3v t [],[.val w]⟩).map b6w=some (.ret w,[.fn 138 30 [.lst [],a0B] w],true):=(b2J _ _).trans (d4R t w)
theorem d4Q (t w)(hL:L.length<=9):(a0a (rk K2 141) (aeK 32) ((fnB 32).drop 2) ⟨h32 t cv (L.map .int),[.val w]⟩).map b6w=some (.ret w,[.fn 138 30 [a0P L,a0B] w],true):=by obtain ⟨f,hf⟩:=a0u L;unfold a0P;rw [hf,b2J];exact a0I (d9U t w cv f) (a1b (n:=L.length) (m:=10) (by lia))
theorem d2x (BO:BaseOK2 B)(KO:KOK B K2)(hc:∀ c∈cs,c∈a0J)(he:cs.flatMap a4e=a1E gs)(hg:∀ g∈gs,a8G g)(hl:gs.length <= 3) :
 FnOK B 143 32 [a0P cs,a0B,.bool false] (a0P (a0F gs)):=by
 have nl:a0E [a0P cs,a0B,.bool false]=true:=by show (a0E (cs.map .int)&&a0E [a0B,.bool false])=true;rw [a0O];rfl
 have lg:=a7g hg;have l9:(cs.flatMap a4e).length<=9:=by rw [he]; lia
 have lc:∀ l:List Int,l.length <= (l.flatMap a4e).length:=by
  intro l;induction l with
  | nil=>exact e0i 0| cons c l ih=>have:=b3v c;rw [e1O,e0a,e0n];lia
 have lc:=lc cs;have hw:=λ H=>a1U H (a0F gs);have hord:=(d1J BO KO hg hl).le (show 103<=138 by decide);refine a0t BO KO (n:=141) (hs:=[.val (a0P (a0F gs))]) nl rfl (d9R _) (d9V _ _) a0V ?_;generalize a0P (a0F gs)=w at hw hord;rw [d9W];refine Run.one (d9S _ _) a0V (Run.cons ?_);obtain ⟨f,hf⟩:=a0u cs;have e:=a0I (d9T w f) (a1b (n:=cs.length) (m:=10) (by lia));rw [<- hf] at e;refine Run.for rfl e a0V ?_;show Run B (a0R B32 (cs.map .int)) ⟨c3v (a0P cs) [],[.val w]⟩ _;generalize a0P cs=t
 match cs,hc,he,l9 with
 | [],_,he,_=>refine Run.ret ⟨rfl,?_⟩;show Run B (a0a (rk K2 141) (aeK 32) ((fnB 32).drop 2)) ⟨c3v t [],[.val w]⟩ _;refine Run.ofR (w:=w) (d0Q t w) hw (OblL.one ?_);rw [<- he] at hord;exact hord| c::cs,hc,he,l9=>show Run B (Ev.bind (B32 (PV.int c)) _) _ _;refine Run.bind (Q:=λ f s=>f=.next/\s=_) (Run.of (d9m (hc c (e0X ..))) a0V ⟨rfl,rfl⟩) ?_;rintro f s ⟨rfl,rfl⟩;refine (c5z (λ c h=>hc c (e0Z _ h)) l9).mono ?_;rintro f s ⟨rfl,cv,rfl⟩;refine ⟨rfl,?_⟩;show Run B (a0a (rk K2 141) (aeK 32) ((fnB 32).drop 2)) ⟨h32 t cv (((c::cs).flatMap a4e).map .int),[.val w]⟩ _;refine Run.ofR (w:=w) (d4Q t w l9) hw (OblL.one ?_);rw [<- he] at hord;exact hord
end
noncomputable def d1q (y:PV×St×Obs):PV×List Ob×Bool:=(y.1,y.2.2.ps,e0m y.2.2.sz 1000)
def b0Y (K:Kt)(n k:Nat)(args:List PV)(hs:List Hint):Option (PV×List Ob×Bool):=(a1T (rk K n) k args ⟨[],hs⟩).map d1q
theorem a5I (BO:BaseOK2 B){K:Kt}(KO:KOK B K)(nl:a0E args=true)(h:b0Y K n k args hs=some (w,p,true))(hw:∀ H,a0b 8 H w=some t)(O:OblL B p):FnOK B (n+1) k args t:=by unfold b0Y at h;obtain ⟨⟨v,s,ob⟩,e,hh⟩:=e1C.mp h;unfold d1q at hh;simp only [Prod.mk.injEq] at hh;obtain ⟨rfl,rfl,h3⟩:=hh;exact a5H BO KO nl ⟨v,s,ob.ps,⟨ob.sz,e,e0t h3⟩,O,hw _⟩
theorem a0N (L) (l):a0E (a0P L::l)=a0E l:=by show (a0E (L.map .int)&&a0E l)=_;rw [a0O];rfl
theorem t37 (f) (w):(e0f 10).map (λ n=>b0Y K2 150 37 [.lst (spI f n),a0B,.str "nfd"] [.val w])=(e0f 10).map λ n=>some (w,[.fn 146 32 [.lst (spI f n),a0B,.bool false] w],true):=by kernel_rfl
theorem t38 (f) (w):(e0f 10).map (λ n=>b0Y K2 160 38 [.lst (spI f n),a0B] [.val w])=(e0f 10).map λ n=>some (w,[.fn 156 37 [.lst (spI f n),a0B,.str "nfd"] w],true):=by kernel_rfl
theorem c1g {α:Type}{F G:PV->α}(h:∀ f:Nat->Int,(e0f N).map (λ n=>F (.lst (spI f n)))=(e0f N).map λ n=>G (.lst (spI f n)))(L:List Int)(hl:L.length<N):F (a0P L)=G (a0P L):=by obtain ⟨f,hf⟩:=a0u L;unfold a0P;rw [hf];exact a0I (h f) (a1b hl)
section
variable {B:Base}
def Apart (cs:List Int)(gs:List Grp):Prop:=(∀ c∈cs,c∈a0J)/\cs.flatMap a4e=a1E gs/\(∀ g∈gs,a8G g)/\gs.length<=3
theorem b5t:∀ l:List Int,l.length <= (l.flatMap a4e).length
 | []=>e0i 0| c::l=>by have:=b3v c;have:=b5t l;rw [e1O,e0a,e0n];lia
theorem Apart.len (h:Apart cs gs):cs.length<10:=by have h1:=a7g h.2.2.1;have h2:=b5t cs;rw [h.2.1] at h2;have:=h.2.2.2;lia
theorem c8z (BO:BaseOK2 B)(KO:KOK B K2)(h:Apart cs gs):FnOK B 151 37 [a0P cs,a0B,.str "nfd"] (a0P (a0F gs)):=
 a5I BO KO (by rw [a0N]; rfl) (c1g (F:=λ t=>b0Y K2 150 37 [t,a0B,.str "nfd"] [.val (a0P (a0F gs))]) (G:=λ t=>some (a0P (a0F gs),[.fn 146 32 [t,a0B,.bool false] (a0P (a0F gs))],true)) (λ f=>t37 f _) cs h.len) (λ H=>a1U H _) (OblL.one ((d2x BO KO h.1 h.2.1 h.2.2.1 h.2.2.2).le (show 143<=146 by decide)))
theorem b5N (BO:BaseOK2 B)(KO:KOK B K2)(h:Apart cs gs):FnOK B 161 38 [a0P cs,a0B] (a0P (a0F gs)):=
 a5I BO KO (by rw [a0N]; rfl) (c1g (F:=λ t=>b0Y K2 160 38 [t,a0B] [.val (a0P (a0F gs))]) (G:=λ t=>some (a0P (a0F gs),[.fn 156 37 [t,a0B,.str "nfd"] (a0P (a0F gs))],true)) (λ f=>t38 f _) cs h.len) (λ H=>a1U H _) (OblL.one ((c8z BO KO h).le (show 151<=156 by decide)))
end
noncomputable def stF:PV:=.tup [.str "F",.str "C"]
def T5:List (Nat×List Ent):=[(96,a0J.map λ c=>([i c,a0B,stF],.tup [i (a0T c)]))]
theorem c7I:a1o K2 100 T5=true:=by decide +kernel
def KF:Kt:=Kof 101 (T1++T2++T5)
@[irreducible] def c6L (l:PV)(L:List PV):List PO:=[.fr ["text", "data", "statuses", "found"] [l,a0B,stF,.loc 1],.list L]
@[irreducible] def h98 (l c:PV)(L:List PV):List PO:=[.fr ["text", "data", "statuses", "found", "code"] [l,a0B,stF,.loc 1,c],.list L]
def B98 (x:PV):Ev Fl:=b0Z (rk KF 140) (aeK 98) (stm 98 1) x
@[irreducible] def b6F (c:Int)(H:List PO):Option (Fl×St×List Ob×Bool):=(B98 (i c) ⟨H,[]⟩).map a0S
theorem a9K (c) (H):(B98 (i c) ⟨H,[]⟩).map a0S=b6F c H:=by rw [b6F]
def r98 (l:PV)(f:Nat->Int)(x:Nat×Int):Option (Fl×St×List Ob×Bool):=some (.next,⟨h98 l (i x.2) (spI f x.1++[i (a0T x.2)]),[]⟩,[],true)
theorem d8h (l) (f):a0J.map (λ c=>b6F c (c6L l (spI f 0)))=a0J.map (λ c=>r98 l f (0,c)):=by kernel_rfl
theorem t98 (l cv) (f):d32.map (λ x=>b6F x.2 (h98 l cv (spI f x.1)))=d32.map (r98 l f):=by kernel_rfl
@[irreducible] def c4K (H:List PO):Option (Option PV×List Ob×Bool):=(a0a (rk KF 141) (aeK 98) ((fnB 98).drop 2) ⟨H,[]⟩).map b1o
theorem b2G (H):(a0a (rk KF 141) (aeK 98) ((fnB 98).drop 2) ⟨H,[]⟩).map b1o=c4K H:=by rw [c4K]
theorem d4O (l):c4K (c6L l [])=some (some (.lst []),[],true):=by kernel_rfl
theorem d8e (l cv) (f):(e0f 10).map (λ n=>c4K (h98 l cv (spI f n)))=(e0f 10).map λ n=>some (some (.lst (spI f n)),[],true):=by kernel_rfl
def d7v (l:PV):List PO:=[.fr ["text", "data", "statuses"] [l,a0B,stF]]
theorem d8f (t):(enter true (scK 98) [] [("text",t),("data",a0B),("statuses",stF)] ⟨[],[]⟩).map a0S=some (aeK 98,⟨d7v t,[]⟩,[],true):=by kernel_rfl
theorem d8c (t):((rk KF 141).s (stm 98 0) (aeK 98) ⟨d7v t,[]⟩).map a0S=some (.next,⟨c6L t [],[]⟩,[],true):=by kernel_rfl
theorem d8d (f):(e0f 10).map (λ n=>(a1w (rk KF 140) (aeK 98) (a7Y (stm 98 1)) (b0M (stm 98 1)) ⟨c6L (.lst (spI f n)) [],[]⟩).map a0S) =
 (e0f 10).map λ n=>some (.stat (spI f n),⟨c6L (.lst (spI f n)) [],[]⟩,[],true):=by kernel_rfl
theorem d8g:fnB 98=[stm 98 0]++([stm 98 1]++(fnB 98).drop 2):=by kernel_rfl
theorem d8b (t):a2N (pmK 98) (dfK 98) [t,a0B,stF]=(some [("text",t),("data",a0B),("statuses",stF)]:Option (List (Str×PV))):=by kernel_rfl
section
variable {B:Base}{l cv:PV}{L:List Int}
theorem s98 (hL:L.length<=8)(hc:c∈a0J):(B98 (i c) ⟨h98 l cv (L.map .int),[]⟩).map a0S=some (.next,⟨h98 l (i c) ((L++[a0T c]).map .int),[]⟩,[],true):=by obtain ⟨f,hf⟩:=a0u L;rw [e0o,hf,a9K];have:=a0I (t98 l cv f) (x:=(L.length,c)) (e0j.mpr ⟨_,a1b (by lia),e0e.mpr ⟨_,hc,rfl⟩⟩);unfold r98 at this;exact this
theorem d9l (hc:c∈a0J):(B98 (i c) ⟨c6L l [],[]⟩).map a0S=some (.next,⟨h98 l (i c) ([a0T c].map .int),[]⟩,[],true):=by rw [a9K];have:=a0I (d8h l (λ _=>0)) hc;unfold r98 at this;exact this
theorem c5w:∀ {cs:List Int}{cv:PV}{L:List Int},(∀ c∈cs,c∈a0J)->L.length + cs.length <= 9->Run B (a0R B98 (cs.map .int)) ⟨h98 l cv (L.map .int),[]⟩ (λ f s=>f=.next /\ ∃ cv,s=⟨h98 l cv ((L++cs.map a0T).map .int),[]⟩)
 | [],cv,L,_,_=>Run.ret ⟨rfl,cv,by rw [e2C,e0k]⟩| c::cs,cv,L,hc,hL=>by rw [e0v (f:=a0T)];have h2:L.length+(cs.length+1)<=9:=hL;show Run B (Ev.bind (B98 (PV.int c)) _) _ _;refine Run.bind (Q:=λ f s=>f=.next/\s=_) (Run.of (s98 (by lia) (hc c (e0X ..))) a0V ⟨rfl,rfl⟩) ?_;rintro f s ⟨rfl,rfl⟩;have:=c5w (cv:=i c) (L:=L++[a0T c]) (cs:=cs) (λ c h=>hc c (e0Z _ h)) (by rw [e0a]; show L.length+1+cs.length<=9; lia);rw [e0h] at this;exact this
theorem c9B (BO:BaseOK2 B)(KO:KOK B KF)(hc:∀ c∈cs,c∈a0J)(hl:cs.length<=9):FnOK B 143 98 [a0P cs,a0B,stF] (a0P (cs.map a0T)):=by
 refine a0t BO KO (n:=141) (hs:=[]) (by rw [a0N]; rfl) rfl (d8b _) (d8f _) a0V ?_;rw [d8g];refine Run.one (d8c _) a0V (Run.cons ?_);obtain ⟨f,hf⟩:=a0u cs;have e:=a0I (d8d f) (a1b (n:=cs.length) (m:=10) (by lia));rw [<- hf] at e;refine Run.for rfl e a0V ?_;show Run B (a0R B98 (cs.map .int)) ⟨c6L (a0P cs) [],[]⟩ _;generalize a0P cs=t
 match cs,hc,hl with
 | [],_,_=>refine Run.ret ⟨rfl,?_⟩;show Run B (a0a (rk KF 141) (aeK 98) ((fnB 98).drop 2)) ⟨c6L t [],[]⟩ (a9O (.lst []));exact Run.ofV (p:=[]) ((b2G _).trans (d4O t)) a0V| c::cs,hc,hl=>
   show Run B (Ev.bind (B98 (PV.int c)) _) _ _;refine Run.bind (Q:=λ f s=>f=.next/\s=_) (Run.of (d9l (hc c (e0X ..))) a0V ⟨rfl,rfl⟩) ?_;rintro f s ⟨rfl,rfl⟩;have hl':cs.length+1<=9:=hl;have hq:[a0T c].length+cs.length<=9:=by show 1+cs.length<=9;lia
   refine (c5w (λ c h=>hc c (e0Z _ h)) hq).mono ?_;rintro f s ⟨rfl,cv,rfl⟩;refine ⟨rfl,?_⟩;show Run B (a0a (rk KF 141) (aeK 98) ((fnB 98).drop 2)) ⟨h98 t cv (((c::cs).map a0T).map .int),[]⟩ (a9O (a0P ((c::cs).map a0T)));refine Run.ofV (p:=[]) ?_ a0V;obtain ⟨f,hf⟩:=a0u ((c::cs).map a0T);unfold a0P;rw [hf,b2G];exact a0I (d8e t cv f) (a1b (m:=10) (by rw [e0c]; show cs.length+1<10; lia))
end
def T6:List (Nat×List Ent):=[(97,[([.bool true,.bool false],stF)])]
theorem c7H:a1o K0 100 T6=true:=by decide +kernel
def KG:Kt:=Kof 101 T6
theorem t99 (f) (w):(e0f 10).map (λ n=>b0Y KG 150 99 [.lst (spI f n),a0B,.bool false] [.val w])=(e0f 10).map λ n=>some (w,[.fn 146 98 [.lst (spI f n),a0B,stF] w],true):=by kernel_rfl
noncomputable def a4u:List (Nat×Nat):=(e0f 10).flatMap λ n=>(e0f 10).map λ m=>(n,m)
theorem d9k (f g h) (w):a4u.map (λ x=>b0Y KG 180 100 [.lst (spI f x.1),a0B,.bool false] [.val (.lst (spI g x.2)),.val (.lst (spI h x.2)),.val w]) =
 a4u.map λ x=>some (w,[.fn 174 38 [.lst (spI f x.1),a0B] (.lst (spI g x.2)),.fn 175 99 [.lst (spI g x.2),a0B,.bool false] (.lst (spI h x.2)),.fn 176 38 [.lst (spI h x.2),a0B] w],true):=by kernel_rfl
def b9m (gs:List Grp):List Grp:=gs.map λ g=>(a0T g.1,a0Y g.2)
theorem d6j:∀ s∈a3Z,∀ r∈a3A,((s::a0Y r).map a0T).flatMap a4e=a0T s::a0Y r/\(a0T s∈a3Z/\a0Y r∈a3A)/\(∀ c∈s::a0Y r,c∈a0J/\a0T c∈a0J)/\a0Y (a0Y r)=a0Y r:=by decide
theorem b1n:∀ {gs:List Grp},(∀ g∈gs,a8G g)->(∀ c∈a0F gs,c∈a0J) /\ (∀ c∈(a0F gs).map a0T,c∈a0J) /\ ((a0F gs).map a0T).flatMap a4e=a1E (b9m gs) /\ (∀ g∈b9m gs,a8G g)
 | [],_=>⟨λ _ h=>absurd h e0b,λ _ h=>absurd h e0b,rfl,λ _ h=>absurd h e0b⟩
 | g::gs,h=>by
   have o:=h g (e0X ..);obtain ⟨a,b,c,_⟩:=d6j g.1 o.1 g.2 o.2;obtain ⟨a',b',c',d'⟩:=b1n (gs:=gs) λ x m=>h x (e0Z _ m);have e:a0F (g::gs)=(g.1::a0Y g.2)++a0F gs:=e1O;have e2:a1E (b9m (g::gs))=(a0T g.1::a0Y g.2)++a1E (b9m gs):=e1O;rw [e,e2,e0o,e1g,a,c'];refine ⟨?_,?_,rfl,?_⟩
   · intro x m;exact (e1E.mp m).elim (λ m=>(c x m).1) (a' x)
   · intro x m;refine (e1E.mp m).elim (λ m=>?_) (b' x);obtain ⟨y,my,rfl⟩:=e0e.mp m;exact (c y my).2
   · intro x m;rcases e0d.mp m with rfl | m
     · exact b
     · exact d' x m
section
variable {B:Base}
theorem c8v (BO:BaseOK2 B)(KO:KOK B KG)(KF:KOK B KF)(hc:∀ c∈cs,c∈a0J)(hl:cs.length<=9):FnOK B 151 99 [a0P cs,a0B,.bool false] (a0P (cs.map a0T)):=
 a5I BO KO (by rw [a0N]; rfl) (c1g (F:=λ t=>b0Y KG 150 99 [t,a0B,.bool false] [.val (a0P (cs.map a0T))]) (G:=λ t=>some (a0P (cs.map a0T),[.fn 146 98 [t,a0B,stF] (a0P (cs.map a0T))],true)) (λ f=>t99 f _) cs (by lia)) (λ H=>a1U H _) (OblL.one ((c9B BO KF hc hl).le (show 143<=146 by decide)))
theorem b0t:∀ {gs:List Grp},(∀ g∈gs,a8G g)->(a0F gs).length <= 3 * gs.length
 | [],_=>e0i _| g::gs,h=>by have:=b0t (gs:=gs) λ x m=>h x (e0Z _ m);have e:a0F (g::gs)=g.1::a0Y g.2++a0F gs:=e1O;have:=b4l (h g (e0X ..)).2;rw [e];simp only [e0a,e0n];lia
theorem b9x (BO:BaseOK2 B)(K2':KOK B K2)(KO:KOK B KG)(KF:KOK B KF)(h:Apart cs gs):FnOK B 181 100 [a0P cs,a0B,.bool false] (a0P (a0F (b9m gs))):=by
 obtain ⟨a,b,c,d⟩:=b1n h.2.2.1;have l9:=b0t h.2.2.1;have l3:=h.2.2.2;have n1:=(b5N BO K2' h).le (show 161<=174 by decide);have n2:=(c8v BO KO KF a (by lia)).le (show 151<=175 by decide);have h2:Apart ((a0F gs).map a0T) (b9m gs):=⟨b,c,d,by unfold b9m; rw [e0c]; exact l3⟩
 have n3:=(b5N BO K2' h2).le (show 161<=176 by decide);obtain ⟨f,hf⟩:=a0u cs;obtain ⟨g,hg⟩:=a0u (a0F gs);obtain ⟨k,hk⟩:=a0u ((a0F gs).map a0T);rw [e0c] at hk;have e:=a0I (d9k f g k (a0P (a0F (b9m gs)))) (x:=(cs.length,(a0F gs).length)) (e0j.mpr ⟨_,a1b h.len,e0e.mpr ⟨_,a1b (by lia),rfl⟩⟩);dsimp only at e;rw [<- hf,<- hg,<- hk] at e;exact a5I BO KO (by rw [a0N]; rfl) e (λ H=>a1U H _) (OblL.cons n1 (OblL.cons n2 (OblL.one n3)))
end
theorem a6p {α:Type}(f g:α->PV):∀ a b:List α,a1V (a.map f) (b.map g)=decide (a.length=b.length)
 | [],[]=>rfl| [],_::_=>rfl| _::_,[]=>rfl| x::a,y::b=>by show a1V (a.map f) (b.map g)=_;rw [a6p f g a b];simp only [e0n,Nat.add_right_cancel_iff]
theorem b2M {α:Type} [DecidableEq α]{f:α->PV}{e:PV->PV->Option Bool}(h:∀ x y,e (f x) (f y)=some (decide (x=y))):∀ a b:List α,a.length=b.length->a5L e (a.map f) (b.map f)=some (decide (a=b))
 | [],[],_=>rfl| x::a,y::b,l=>by show d0B (e (f x) (f y)) (a5L e (a.map f) (b.map f))=_;rw [h,b2M h a b (Nat.succ.inj l)];show some (decide (x=y)&&decide (a=b))=_;simp only [List.cons.injEq,e2N]
theorem c0p {α:Type} [DecidableEq α]{f:α->PV}{e:PV->PV->Option Bool}(h:∀ x y,e (f x) (f y)=some (decide (x=y)))(a b:List α) :
 bc (a1V (a.map f) (b.map f)) (a5L e (a.map f) (b.map f)) (some false)=some (decide (a=b)):=by
 rw [a6p];by_cases l:a.length=b.length
 · rw [decide_eq_true l]; exact b2M h a b l
 · rw [decide_eq_false l,decide_eq_false λ e=>l (by rw [e])]; rfl
theorem a4s (H) (n) (x y):a5X H (n+1) (.int x) (.int y)=some (decide (x=y)):=by show some (a3J x y)=_;rw [a1L]
theorem a3e (H) (n) (a b):a5X H (n+2) (a0P a) (a0P b)=some (decide (a=b)):=c0p (f:=.int) (λ x y=>a4s H n x y) a b
theorem b8o (H) (n)(a b:List (List Int)):a5X H (n+3) (.lst (a.map a0P)) (.lst (b.map a0P))=some (decide (a=b)):=c0p (f:=a0P) (λ x y=>a3e H n x y) a b
theorem b0V (H) (a b):a3U H .Eq (a0P a) (a0P b)=some (decide (a=b)):=a3e H 4 a b
theorem a7h (H) (a b):a3U H .NotEq (a0P a) (a0P b)=some (!decide (a=b)):=by show ob (a5X H 6 (a0P a) (a0P b)) _=_;rw [a3e]; rfl
theorem c1P (H)(a b:List (List Int)):a3U H .Eq (.lst (a.map a0P)) (.lst (b.map a0P))=some (decide (a=b)):=b8o H 3 a b
noncomputable def ltL {α:Type} [DecidableEq α](lt:α->α->Bool):List α->List α->Bool
 | [],[]=>false| [],_::_=>true| _::_,[]=>false| x::a,y::b=>match decide (x=y) with
   | true=>ltL lt a b| false=>lt x y
theorem a9q {α:Type} [DecidableEq α]{f:α->PV}{lt:α->α->Bool}{e g:PV->PV->Option Bool}(h:∀ x y,e (f x) (f y)=some (decide (x=y)))(k:∀ x y,g (f x) (f y)=some (lt x y)) :
 ∀ a b:List α,b1m e g (a.map f) (b.map f)=some (ltL lt a b)
 | [],[]=>rfl| [],_::_=>rfl| _::_,[]=>rfl| x::a,y::b=>by
   have ih:=a9q h k a b;rw [e0v,e0v];dsimp only [b1m,ltL];rw [h];cases decide (x=y) with
   | true=>exact ih| false=>exact k x y
def ltI:List Int->List Int->Bool:=ltL a0X
def d3r:List (List Int)->List (List Int)->Bool:=ltL ltI
theorem b1P (H) (n) (a b):c5d H (n+2) (a0P a) (a0P b)=some (ltI a b):=a9q (f:=.int) (λ x y=>a4s H n x y) (λ _ _=>rfl) a b
theorem b8n (H) (n)(a b:List (List Int)):c5d H (n+3) (.lst (a.map a0P)) (.lst (b.map a0P))=some (d3r a b):=a9q (f:=a0P) (λ x y=>a3e H n x y) (λ x y=>b1P H n x y) a b
theorem c9X (H) (a b):a3U H .Lt (a0P a) (a0P b)=some (ltI a b):=b1P H 4 a b
theorem c9W (H)(a b:List (List Int)):a3U H .Lt (.lst (a.map a0P)) (.lst (b.map a0P))=some (d3r a b):=b8n H 3 a b
noncomputable def obE:Ob->Ob
 | .cmp _ op a b r=>.cmp [] op a b r| .itm _ a j v=>.itm [] a j v| .dg _ s a v=>.dg [] s a v| o=>o
def okE (B:Base):Ob->Prop
 | .cmp _ op a b r=>∀ H,a3U H op a b=some r| .itm _ a j v=>∀ H,a2T H a j=some v| .fn n k a v=>FnOK B n k a v| .dg _ s a v=>∀ H,∃ z,a5Q .dget s a ⟨H,[]⟩=some (v,⟨H,[]⟩,⟨[],z⟩)/\z<=sizeLine| o=>o.ok B
theorem c5i (h:okE B (obE o)):o.ok B:=by
 cases o with
 | cmp H op a b r=>exact h H| itm H a j v=>exact h H| dg H a j v=>exact h H| _=>exact h
def OblE (B:Base)(p:List Ob):Prop:=∀ o∈p,okE B o
theorem a0m:OblE B []:=λ _ m=>absurd m e0b
theorem a0H (h:okE B o)(t:OblE B p):OblE B (o::p):=λ x m=>(e0d.mp m).elim (λ e=>e▸h) (t x)
theorem a1O (h:OblE B p)(t:OblE B q):OblE B (p++q):=λ x m=>(e1E.mp m).elim (h x) (t x)
theorem OblE.of {p:List Ob}(h:OblE B (p.map obE)):OblL B p:=λ o m=>c5i (h _ (e0e.mpr ⟨o,m,rfl⟩))
def a6B {α:Type}(y:α×St×Obs):α×List Ob×Bool:=(y.1,y.2.2.ps.map obE,e0m y.2.2.sz 1000)
def a2r (K:Kt)(n k:Nat)(args:List PV)(hs:List Hint):Option (PV×List Ob×Bool):=(a1T (rk K n) k args ⟨[],hs⟩).map a6B
def a5O (K:Kt)(n k:Nat)(args:List PV)(hs:List Hint):Option (Option PV×List Ob×Bool):=(a1T (rk K n) k args ⟨[],hs⟩).map λ y=>(a0b 8 y.2.1.H y.1,y.2.2.ps.map obE,e0m y.2.2.sz 1000)
section
variable {B:Base}
theorem a0W (BO:BaseOK2 B){K:Kt}(KO:KOK B K)(nl:a0E args=true)(h:a2r K n k args hs=some (w,p,true))(hw:∀ H,a0b 8 H w=some t)(O:OblE B p):FnOK B (n+1) k args t:=by unfold a2r at h;obtain ⟨⟨v,s,ob⟩,e,hh⟩:=e1C.mp h;unfold a6B at hh;simp only [Prod.mk.injEq] at hh;obtain ⟨rfl,rfl,h3⟩:=hh;exact a5H BO KO nl ⟨v,s,ob.ps,⟨ob.sz,e,e0t h3⟩,O.of,hw _⟩
theorem a0x (BO:BaseOK2 B){K:Kt}(KO:KOK B K)(nl:a0E args=true)(h:a5O K n k args hs=some (some t,p,true))(O:OblE B p):FnOK B (n+1) k args t:=by unfold a5O at h;obtain ⟨⟨v,s,ob⟩,e,hh⟩:=e1C.mp h;simp only [Prod.mk.injEq] at hh;obtain ⟨h1,rfl,h3⟩:=hh;exact a5H BO KO nl ⟨v,s,ob.ps,⟨ob.sz,e,e0t h3⟩,O.of,h1⟩
end
noncomputable def c7v (k:Nat):List PO->Option (List Str×List PV×Nat×List PO)
 | .fr fs vs::G=>some (fs,vs.take k,vs.length,G)| _=>none
def b6u {α:Type}(k:Nat)(y:α×St×Obs):α×Option (List Str×List PV×Nat×List PO)×List Hint×List Ob×Bool:=(y.1,c7v k y.2.1.H,y.2.1.hs,y.2.2.ps.map obE,e0m y.2.2.sz 1000)
theorem c3C (h:c7v k H=some (fs,A,N,G)):∃ w,H=.fr fs (A++w)::G/\w.length=N-k:=by
 cases H with
 | nil=>cases h| cons x H=>
   cases x with
   | fr fs' vs=>unfold c7v at h;simp only [Option.some.injEq,Prod.mk.injEq] at h;obtain ⟨rfl,rfl,rfl,rfl⟩:=h;exact ⟨vs.drop k,by rw [e1Y],e1s⟩
   | _=>cases h
theorem Run.ofN {α:Type}{m:Ev α}{st:St}{Q:α->St->Prop}{a:α}(h:(m st).map (b6u k)=some (a,some (fs,A,N,G),hs,p,true))(O:OblE B p)
 (q:∀ w,w.length=N-k->Q a ⟨.fr fs (A++w)::G,hs⟩):Run B m st Q:=by
 obtain ⟨⟨v,⟨H,hs'⟩,ob⟩,e,hh⟩:=e1C.mp h;unfold b6u at hh;simp only [Prod.mk.injEq] at hh;obtain ⟨rfl,h2,rfl,rfl,h3⟩:=hh;obtain ⟨w,rfl,hw⟩:=c3C h2;exact ⟨v,_,ob.ps,⟨ob.sz,e,e0t h3⟩,O.of,q w hw⟩
noncomputable def a7Z (body:PV->Ev Fl):List PV->Ev Fl
 | []=>Ev.ret .next
 | x::l=>Ev.bind (body x) λ f=>match f with
   | .next=>a7Z body l
   | .cont=>a7Z body l| _=>Ev.no
theorem Obs.add_le {a b:Obs}(e:a.add b=⟨p,z⟩)(hz:z<=1000):a.ps++b.ps=p/\a.sz<=1000/\b.sz<=1000:=by
 unfold Obs.add at e;injection e with u v
 exact ⟨(a6L _ _).symm.trans u,e0l c8F (v▸hz),e0l c8E (v▸hz)⟩
theorem c4q {α β:Type}{m:Ev α}{f:α->Ev β}{st s2:St}{b:β}(e:Ev.bind m f st=some (b,s2,⟨p,z⟩))(hz:z <= 1000) :
 ∃ a s1 o1 o2,m st=some (a,s1,o1)/\f a s1=some (b,s2,o2)/\o1.ps++o2.ps=p/\o1.sz<=1000/\o2.sz<=1000:=by
 exact oE (a2b.symm.trans e) λ y1 h1 e1=>oE e1 λ y2 h2 e2=>by have q:=a1C e2;have w:=Obs.add_le q.2.2 hz;exact ⟨y1.1,y1.2.1,y1.2.2,y2.2.2,h1,h2.trans (by rw [<- q.1,<- q.2.1]),w.1,w.2.1,w.2.2⟩
theorem Run.seq:∀ {k:List PV}{st:St},Run B (a7Z body k) st (λ f s=>f=.next /\ Run B (a0R body l) s Q)->Run B (a0R body (k++l)) st Q
 | [],st,h=>by obtain ⟨f,s,p,y,o,rfl,q⟩:=h;obtain ⟨z,e,hz⟩:=y;cases e;exact q
 | x::k,st,h=>by
   show Run B (a0R body (x::(k++l))) st Q;obtain ⟨f,s,p,y,o,rfl,q⟩:=h;obtain ⟨z,e,hz⟩:=y;dsimp only [a7Z] at e;unfold a0R;obtain ⟨f1,s1,o1,o2,e1,e2,rfl,z1,z2⟩:=c4q e hz;have rest:∀ {f0:Fl},a7Z body k s1=some (.next,s,o2)->Run B (a0R body (k++l)) s1 Q:=λ e2=>Run.seq ⟨.next,s,o2.ps,⟨o2.sz,e2,z2⟩,λ x m=>o x (e1i _ m),rfl,q⟩;refine Run.bind (Q:=λ f s=>f=f1/\s=s1) ⟨f1,s1,o1.ps,⟨o1.sz,e1,z1⟩,λ x m=>o x (e1R _ m),rfl,rfl⟩ ?_;rintro f s ⟨rfl,rfl⟩;cases f with
   | next=>exact rest (f0:=.next) e2
   | cont=>exact rest (f0:=.next) e2| brk=>cases e2| ret v=>cases e2
abbrev En:=Int×Int×List (Int×Int)
noncomputable def a9D (j:Nat)(l c p q r:Int):List En:=match j with
 | 0=>[(p,l,[(l,0)])]
 | 1=>[(p,l,[(l,0)]),(q,769,[(769,230)])]
 | 2=>[(p,c,[(l,0),(769,230)])]
 | 3=>[(p,l,[(l,0)]),(q,803,[(803,220)])]
 | 4=>[(p,c,[(l,0),(803,220)])]
 | 5=>[(p,l,[(l,0)]),(q,769,[(769,230)]),(r,803,[(803,220)])]
 | 6=>[(p,c,[(l,0),(769,230)]),(q,803,[(803,220)])]
 | 7=>[(p,l,[(l,0)]),(q,803,[(803,220)]),(r,769,[(769,230)])]
 | 8=>[(p,c,[(l,0),(803,220)]),(q,769,[(769,230)])]
 | _=>[]
def a6H (es:List En):List Hint:=es.flatMap λ e=>.val (.lst (e.2.2.map λ x=>i x.1))::e.2.2.map λ x=>.val (i x.2)
def d1N (es:List En):List Ob:=es.flatMap λ e=>.fn 176 38 [.lst [i e.2.1],a0B] (.lst (e.2.2.map λ x=>i x.1))::e.2.2.map λ x=>.fn 174 3094 [a0B,.str "ccc",i x.1] (i x.2)
noncomputable def d7q (x:Int×Int×Int):List (Int×Int×Int)->List (Int×Int×Int)
 | []=>[x]
 | y::r=>if x.2.2<y.2.2 then x::y::r else y::d7q x r
noncomputable def d1G (es:List En):List (Int×Int×Int):=es.flatMap λ e=>e.2.2.map λ x=>(x.1,e.1,x.2)
def a3C (es:List En):List (Int×Int×Int):=match d1G es with
 | []=>[]
 | x::r=>x::r.foldl (λ a y=>d7q y a) []
def b3M (x:Int×Int×Int):PV:=.tup [i x.1,i x.2.1,i x.2.2]
def c5X (x:Int×Int×Int):PV:=.tup [i x.1,i x.2.1]
def c6R (es:List En):List PO:=es.map λ e=>.froz [i e.2.1]
def a5K (es:List En):List PV:=es.map λ e=>.tup [i e.1,i e.2.1]
noncomputable def n60:List Str:=["text", "data", "rows", "place", "code", "part", "rank", "at"]
@[irreducible] def c3u (t:PV)(R:List PV)(G:List PO):List PO:=.fr ["text", "data", "rows"] [t,a0B,.loc 1]::.list R::G
@[irreducible] def h60 (t:PV)(w R:List PV)(G:List PO):List PO:=.fr n60 ([t,a0B,.loc 1]++w)::.list R::G
def B60 (x:PV):Ev Fl:=b0Z (rk K0 180) (aeK 60) (stm 60 1) x
abbrev O60:=Option (Fl×Option (List Str×List PV×Nat×List PO)×List Hint×List Ob×Bool)
@[irreducible] def b3L (es:List En)(H:List PO)(v:PV)(hs:List Hint):O60:=(a7Z B60 (a5K es) ⟨H,a6H es++.val v::hs⟩).map (b6u 3)
theorem b1H (es) (H) (v) (hs):(a7Z B60 (a5K es) ⟨H,a6H es++.val v::hs⟩).map (b6u 3)=b3L es H v hs:=by rw [b3L]
def b6n (t:PV)(es:List En)(R:List PV)(G:List PO)(v:PV)(hs:List Hint):O60:=some (.next,some (n60,[t,a0B,.loc 1],8,.list (R++(a3C es).map b3M)::(G++c6R es)),.val v::hs,d1N es,true)
noncomputable def P60:Nat->List (Nat×Nat)
 | 0=>[(0,0)]
 | 1=>[(1,1),(2,1),(2,2),(3,2),(3,3)]
 | 2=>[(2,2),(3,2),(3,3),(4,3),(4,4),(4,2),(5,3),(5,4),(5,5),(6,4),(6,5),(6,6)]
 | _=>[(3,3),(4,3),(4,4),(5,3),(5,4),(5,5),(6,3),(6,4),(6,5),(6,6),(7,4),(7,5),(7,6),(7,7),(8,5),(8,6),(8,7),(8,8),(9,6),(9,7),(9,8),(9,9)]
def c1A (k:Nat):List ((Nat×Nat)×Nat):=(P60 k).flatMap λ x=>(e0f 9).map λ j=>(x,j)
theorem d9Q (t) (l c p q r) (v) (hs):(e0f 9).map (λ j=>b3L (a9D j l c p q r) (c3u t [] []) v hs)=(e0f 9).map (λ j=>b6n t (a9D j l c p q r) [] [] v hs):=by kernel_rfl
theorem d9P (t a b d e g) (l c p q r) (f) (o) (v) (hs):(c1A 1).map (λ x=>b3L (a9D x.2 l c p q r) (h60 t [a,b,d,e,g] (a3R f x.1.1) (g30 x.1.2 o)) v hs)=(c1A 1).map (λ x=>b6n t (a9D x.2 l c p q r) (a3R f x.1.1) (g30 x.1.2 o) v hs):=by kernel_rfl
theorem d9O (t a b d e g) (l c p q r) (f) (o) (v) (hs):(c1A 2).map (λ x=>b3L (a9D x.2 l c p q r) (h60 t [a,b,d,e,g] (a3R f x.1.1) (g30 x.1.2 o)) v hs)=(c1A 2).map (λ x=>b6n t (a9D x.2 l c p q r) (a3R f x.1.1) (g30 x.1.2 o) v hs):=by kernel_rfl
@[irreducible] def b7K (H:List PO)(v:PV)(hs:List Hint):Option (Option PV×List Ob×Bool):=(a0a (rk K0 181) (aeK 60) ((fnB 60).drop 2) ⟨H,.val v::hs⟩).map b1o
theorem b2I (H) (v) (hs):(a0a (rk K0 181) (aeK 60) ((fnB 60).drop 2) ⟨H,.val v::hs⟩).map b1o=b7K H v hs:=by rw [b7K]
def sp3 (f g h:Nat->Int)(n:Nat):List PV:=a3R (λ k=>.tup [i (f k),i (g k),i (h k)]) n
def sp2 (f g:Nat->Int)(n:Nat):List PV:=a3R (λ k=>.tup [i (f k),i (g k)]) n
def c9n:List (Nat×Nat):=P60 1++P60 2++P60 3
theorem d4P (t v) (hs):b7K (c3u t [] []) v hs=some (some (.lst []),[],true):=by kernel_rfl
theorem d9M (t a b d e g v) (x y z) (o) (hs):c9n.map (λ u=>b7K (h60 t [a,b,d,e,g] (sp3 x y z u.1) (g30 u.2 o)) v hs)=c9n.map (λ u=>some (some (.lst (sp2 x y u.1)),[],true)):=by kernel_rfl
def d7w (t:PV):List PO:=[.fr ["text", "data"] [t,a0B]]
theorem d9N (t v) (hs):(enter true (scK 60) [] [("text",t),("data",a0B)] ⟨[],.val v::hs⟩).map a0S=some (aeK 60,⟨d7w t,.val v::hs⟩,[],true):=by kernel_rfl
theorem d9K (t v) (hs):((rk K0 181).s (stm 60 0) (aeK 60) ⟨d7w t,.val v::hs⟩).map a0S=some (.next,⟨c3u t [] [],.val v::hs⟩,[],true):=by kernel_rfl
theorem d9L (f) (v) (hs):(e0f 10).map (λ n=>(a1w (rk K0 180) (aeK 60) (a7Y (stm 60 1)) (b0M (stm 60 1)) ⟨c3u (.lst (spI f n)) [] [],.val v::hs⟩).map a0S) =
 (e0f 10).map λ n=>some (.stat (a4f 0 (spI f n)),⟨c3u (.lst (spI f n)) [] [],.val v::hs⟩,[],true):=by kernel_rfl
theorem d9I:fnB 60=[stm 60 0]++([stm 60 1]++(fnB 60).drop 2):=by kernel_rfl
theorem d9J (t):a2N (pmK 60) (dfK 60) [t,a0B]=(some [("text",t),("data",a0B)]:Option (List (Str×PV))):=by kernel_rfl
def T7:List (Nat×List Ent):=[(38,a0J.map λ c=>([a0P [c],a0B],a0P (a4e c)))]
theorem c7G:a1o K2 150 T7=true:=by decide +kernel
abbrev Kd:=Nat×Int×Int
def a2v (x:Kd)(p q r:Int):List En:=a9D x.1 x.2.1 x.2.2 p q r
def a0L (x:Kd):List Int:=(a2v x 0 0 0).map λ e=>e.2.1
def apK (x:Kd):List Int:=(a3C (a2v x 0 0 0)).map λ e=>e.1
def a0d:List Kd:=(0,32,0)::(a4y.flatMap (λ l=>[0,1,3,5,7].map λ j=>(j,l,0)))++[(2,101,233),(6,101,233),(4,101,7865),(8,101,7865),(2,69,201),(6,69,201),(4,69,7864),(8,69,7864)]
def d8C (e:En):Prop:=e.2.1∈a0J/\e.2.2=(a4e e.2.1).map λ a=>(a,a5Y a)
theorem a2S:∀ x∈a0d,x.1<9:=by decide
theorem c0D:∀ x∈a0d,∀ y∈(a2v x 0 0 0).map (λ e=>e.2),y.1∈a0J/\y.2=(a4e y.1).map λ a=>(a,a5Y a):=by decide
theorem d1a {P:Nat->Prop}(h0:P 0)(h1:P 1)(h2:P 2)(h3:P 3)(h4:P 4)(h5:P 5)(h6:P 6)(h7:P 7)(h8:P 8)(j:Nat)(h:j<9):P j:=
 a9o (show j∈[0,1,2,3,4,5,6,7,8] from e1a.mpr h) (·▸h0) λ h=>a9o h (·▸h1) λ h=>a9o h (·▸h2) λ h=>a9o h (·▸h3) λ h=>a9o h (·▸h4) λ h=>a9o h (·▸h5) λ h=>a9o h (·▸h6) λ h=>a9o h (·▸h7) λ h=>a9o h (·▸h8) d1g
theorem c4R (l c p q r:Int):∀ j,j<9->(a9D j l c p q r).map (λ e=>e.2)=(a9D j l c 0 0 0).map λ e=>e.2:=d1a rfl rfl rfl rfl rfl rfl rfl rfl rfl
theorem c4S (l c p q r:Int):∀ j,j<9->((a3C (a9D j l c p q r)).length,(a9D j l c p q r).length)=((a3C (a9D j 0 0 0 0 0)).length,(a9D j 0 0 0 0 0).length):=d1a rfl rfl rfl rfl rfl rfl rfl rfl rfl
theorem c0s (l c p q r:Int):∀ j,j<9->(a3C (a9D j l c p q r)).map (λ e=>e.1)=(a3C (a9D j l c 0 0 0)).map λ e=>e.1:=d1a rfl rfl rfl rfl rfl rfl rfl rfl rfl
theorem c0t (l c p q r:Int):∀ j,j<9->∃ e es,a9D j l c p q r=e::es:=d1a ⟨_,_,rfl⟩ ⟨_,_,rfl⟩ ⟨_,_,rfl⟩ ⟨_,_,rfl⟩ ⟨_,_,rfl⟩ ⟨_,_,rfl⟩ ⟨_,_,rfl⟩ ⟨_,_,rfl⟩ ⟨_,_,rfl⟩
theorem c0u (l c:Int)(n:Nat):∀ j,j<9->a4f n (((a9D j l c 0 0 0).map λ e=>e.2.1).map .int)=a5K (a9D j l c (.ofNat n) (.ofNat (n+1)) (.ofNat (n+1+1))):=d1a rfl rfl rfl rfl rfl rfl rfl rfl rfl
theorem b5V {x:Kd}(h:x∈a0d)(p q r:Int):∀ e∈a2v x p q r,d8C e:=λ e m=>by have:=c4R x.2.1 x.2.2 p q r x.1 (a2S x h);have m2:e.2∈(a2v x p q r).map (λ e=>e.2):=e0e.mpr ⟨e,m,rfl⟩;unfold a2v at m2;rw [this] at m2;exact c0D x h _ m2
theorem c2x:∀ k∈[0,1,2],∀ u∈P60 k,∀ j∈e0f 9,(u.1+(a3C (a9D j 0 0 0 0 0)).length,u.2+(a9D j 0 0 0 0 0).length)∈P60 (k+1):=by decide
theorem d8A {P:List PV->Prop}(h:∀ a b d e g,P [a,b,d,e,g]):∀ w:List PV,w.length=5->P w
 | [a,b,d,e,g],_=>h a b d e g
section
variable {B:Base}
theorem c1S (T:TabOK B 37 T1){c:Int}(h:c∈a0J):FnOK B 37 3094 [a0B,.str "ccc",i c] (i (a5Y c)):=
 T _ (e0X ..) ([a0B,.str "ccc",i c],i (a5Y c)) (e1R _ (e1R _ (e1R _ (e0e.mpr ⟨c,h,rfl⟩))))
theorem c8C (T:TabOK B 151 T7){c:Int}(h:c∈a0J):FnOK B 151 38 [a0P [c],a0B] (a0P (a4e c)):=
 T _ (e0X ..) ([a0P [c],a0B],a0P (a4e c)) (e0e.mpr ⟨c,h,rfl⟩)
theorem c9F:∀ c∈a0J,∀ a∈a4e c,a∈a0J:=by decide
theorem b5L (S:TabOK B 37 T1)(T:TabOK B 151 T7){es:List En}(h:∀ e∈es,d8C e):OblE B (d1N es):=λ o m=>by
 obtain ⟨e,me,mo⟩:=e0j.mp m;obtain ⟨h1,h2⟩:=h e me;rcases e0d.mp mo with rfl | mo
 · rw [h2,e1H];exact (c8C T h1).le (by decide)
 · obtain ⟨a,ma,rfl⟩:=e0e.mp mo;rw [h2] at ma;obtain ⟨b,mb,rfl⟩:=e0e.mp ma;exact (c1S S (c9F _ h1 b mb)).le (by decide)
end
section
variable {B:Base}{t v:PV}{hs:List Hint}{w:List PV}{R:List (Int×Int×Int)}{G:List PO}{p q r:Int}{x:Kd}{rest:List PV}{Q:Fl->St->Prop}
theorem s60 {k:Nat}(hk:k=1 \/ k=2)(hP:(R.length,G.length)∈P60 k)(hx:x.1 < 9)(hw:w.length=5):b3L (a2v x p q r) (h60 t w (R.map b3M) G) v hs =
 some (.next,some (n60,[t,a0B,.loc 1],8,.list ((R++a3C (a2v x p q r)).map b3M)::(G++c6R (a2v x p q r))),.val v::hs,d1N (a2v x p q r),true):=by
 obtain ⟨f,hf⟩:=b4k (R.map b3M);obtain ⟨o,ho⟩:=a8x G;rw [e0c] at hf;have key:∀ {k},(R.length,G.length)∈P60 k->((R.length,G.length),x.1)∈c1A k:=λ h=>e0j.mpr ⟨_,h,e0e.mpr ⟨_,a1b hx,rfl⟩⟩;rw [e0o,hf,ho];refine d8A (P:=λ w=>b3L (a2v x p q r) (h60 t w (a3R f R.length) (g30 G.length o)) v hs=_) (λ a b d e g=>?_) w hw;rcases hk with rfl | rfl
 · have:=a0I (d9P t a b d e g x.2.1 x.2.2 p q r f o v hs) (key hP);unfold b6n at this;exact this
 · have:=a0I (d9O t a b d e g x.2.1 x.2.2 p q r f o v hs) (key hP);unfold b6n at this;exact this
theorem p60 {k:Nat}(hk:k=1 \/ k=2)(hP:(R.length,G.length)∈P60 k)(hx:x.1 < 9)(hw:w.length=5)(O:OblE B (d1N (a2v x p q r)))
 (h:∀ w,w.length=5->Run B (a0R B60 rest) ⟨h60 t w ((R++a3C (a2v x p q r)).map b3M) (G++c6R (a2v x p q r)),.val v::hs⟩ Q) :
 Run B (a0R B60 (a5K (a2v x p q r)++rest)) ⟨h60 t w (R.map b3M) G,a6H (a2v x p q r)++.val v::hs⟩ Q:=by
 refine Run.seq (Run.ofN (k:=3) ((b1H _ _ v hs).trans (s60 hk hP hx hw)) O λ w hw=>⟨rfl,?_⟩);have:=h w hw;unfold h60 at this;exact this
theorem d9t (hx:x.1 < 9)(O:OblE B (d1N (a2v x p q r)))
 (h:∀ w,w.length=5->Run B (a0R B60 rest) ⟨h60 t w ((a3C (a2v x p q r)).map b3M) (c6R (a2v x p q r)),.val v::hs⟩ Q) :
 Run B (a0R B60 (a5K (a2v x p q r)++rest)) ⟨c3u t [] [],a6H (a2v x p q r)++.val v::hs⟩ Q:=by
 have e:=a0I (d9Q t x.2.1 x.2.2 p q r v hs) (a1b hx);unfold b6n at e;refine Run.seq (Run.ofN (k:=3) ((b1H _ _ v hs).trans e) O λ w hw=>⟨rfl,?_⟩);have:=h w hw;unfold h60 at this;exact this
noncomputable def a4g:Nat->List Kd->List (List En)
 | _,[]=>[]
 | n,x::xs=>a2v x (.ofNat n) (.ofNat (n+1)) (.ofNat (n+1+1))::a4g (n+(a0L x).length) xs
noncomputable def a8v:List (List En)->List Hint
 | []=>[.val .none]
 | es::r=>a6H es++a8v r
theorem a5l:∀ {xs:List Kd}{n:Nat},(∀ x∈xs,x∈a0d)->∃ v hs,a8v (a4g n xs)=.val v::hs
 | [],_,_=>⟨_,_,rfl⟩
 | x::xs,n,h=>by obtain ⟨e,es,he⟩:=c0t x.2.1 x.2.2 (.ofNat n) (.ofNat (n+1)) (.ofNat (n+1+1)) x.1 (a2S x (h x (e0X ..)));show ∃ v hs,a6H (a2v x (.ofNat n) (.ofNat (n+1)) (.ofNat (n+1+1)))++_=.val v::hs;unfold a2v;rw [he];exact ⟨_,_,rfl⟩
theorem b5w:∀ (a b:List PV)(n:Nat),a4f n (a++b)=a4f n a++a4f (n + a.length) b
 | [],b,n=>rfl| x::a,b,n=>by show PV.tup [.int (.ofNat n),x]::a4f (n+1) (a++b)=PV.tup [.int (.ofNat n),x]::(a4f (n+1) a++a4f (n+(a.length+1)) b);rw [b5w a b,Nat.add_assoc,e2A 1]
theorem d2l:∀ {xs:List Kd}{n:Nat},(∀ x∈xs,x∈a0d)->a4f n ((xs.flatMap a0L).map .int)=(a4g n xs).flatMap a5K
 | [],_,_=>rfl| x::xs,n,h=>by rw [e1O,e0o,b5w];show _=a5K (a2v x (.ofNat n) (.ofNat (n+1)) (.ofNat (n+1+1)))++(a4g (n+(a0L x).length) xs).flatMap a5K;rw [<- d2l λ y m=>h y (e0Z _ m),e0c];have:a4f n ((a0L x).map .int)=a5K (a2v x (.ofNat n) (.ofNat (n+1)) (.ofNat (n+1+1))):=c0u x.2.1 x.2.2 n x.1 (a2S x (h x (e0X ..)));rw [this]
theorem c6B {k:Nat}(hk:k<=2){n m:Nat}(hP:(n,m)∈P60 k)(hx:x.1<9):(n+(a3C (a2v x p q r)).length,m+(a2v x p q r).length)∈P60 (k+1):=by have e:=c4S x.2.1 x.2.2 p q r x.1 hx;simp only [Prod.mk.injEq] at e;unfold a2v;rw [e.1,e.2];exact c2x k (show k∈[0,1,2] from e1a.mpr (e2c hk)) _ hP x.1 (a1b hx)
theorem c8P (hx:x.1<9):((a3C (a2v x p q r)).length,(a2v x p q r).length)∈P60 1:=by have:=c6B (p:=p) (q:=q) (r:=r) (k:=0) (by decide) (e0X ..) hx;simp only [e1S] at this;exact this
theorem c7d {x:Kd}(hx:x∈a0d):(a3C (a2v x p q r)).map (λ e=>e.1)=apK x:=c0s x.2.1 x.2.2 p q r x.1 (a2S x hx)
def d7W (t:PV)(k:Nat)(R:List (Int×Int×Int))(f:Fl)(s:St):Prop:=f=.next /\ ∃ G w v hs,s=⟨h60 t w (R.map b3M) G,.val v::hs⟩/\(R.length,G.length)∈P60 k/\w.length=5
theorem d0u:∀ {xs:List Kd}{n:Nat},(∀ x∈xs,x∈a0d)->((a4g n xs).flatMap a3C).map (λ e=>e.1)=xs.flatMap apK
 | [],_,_=>rfl| x::xs,n,h=>by show ((a3C (a2v x (.ofNat n) (.ofNat (n+1)) (.ofNat (n+1+1))))++(a4g (n+(a0L x).length) xs).flatMap a3C).map (λ e=>e.1)=apK x++xs.flatMap apK;rw [e0o (f:=λ (e:Int×Int×Int)=>e.1),c7d (h x (e0X ..)),d0u λ y m=>h y (e0Z _ m)]
theorem c5y (S:TabOK B 37 T1)(T:TabOK B 151 T7):∀ {xs:List Kd}{n k:Nat}{w:List PV}{R:List (Int×Int×Int)}{G:List PO},(∀ x∈xs,x∈a0d)->1 <= k->k + xs.length <= 3->(R.length,G.length)∈P60 k->w.length=5 ->
 Run B (a0R B60 ((a4g n xs).flatMap a5K)) ⟨h60 t w (R.map b3M) G,a8v (a4g n xs)⟩ (d7W t (k+xs.length) (R++(a4g n xs).flatMap a3C))
 | [],n,k,w,R,G,h,h1,h3,hP,hw=>by rw [show (a4g n []).flatMap a3C=[] from rfl,e0k];exact Run.ret ⟨rfl,G,w,_,_,rfl,hP,hw⟩
 | x::xs,n,k,w,R,G,h,h1,h3,hP,hw=>by have hx:=h x (e0X ..);have h':∀ y∈xs,y∈a0d:=λ y m=>h y (e0Z _ m);have h3':k+(xs.length+1)<=3:=h3;obtain ⟨v,hs,hh⟩:=a5l (n:=n+(a0L x).length) h';show Run B (a0R B60 (a5K (a2v x (.ofNat n) (.ofNat (n+1)) (.ofNat (n+1+1)))++(a4g (n+(a0L x).length) xs).flatMap a5K)) ⟨h60 t w (R.map b3M) G,a6H (a2v x (.ofNat n) (.ofNat (n+1)) (.ofNat (n+1+1)))++a8v (a4g (n+(a0L x).length) xs)⟩ _;rw [hh];refine p60 (by lia) hP (a2S x hx) hw (b5L S T (b5V hx _ _ _)) λ w hw=>?_;rw [<- hh];have:=c5y S T (n:=n+(a0L x).length) (k:=k+1) (w:=w) (R:=R++a3C (a2v x (.ofNat n) (.ofNat (n+1)) (.ofNat (n+1+1)))) (G:=G++c6R (a2v x (.ofNat n) (.ofNat (n+1)) (.ofNat (n+1+1)))) h' (by lia) (by lia) (by rw [e0a,e0a];unfold c6R;rw [e0c];exact c6B (by lia) hP (a2S x hx))                                                                                                                                                                                 hw;rw [e0h,show k+1+xs.length=k+(xs.length+1) by lia] at this;exact this
theorem c5M:∀ R:List (Int×Int×Int),∃ f g h,R.map b3M=sp3 f g h R.length /\ R.map c5X=sp2 f g R.length
 | []=>⟨λ _=>0,λ _=>0,λ _=>0,rfl,rfl⟩
 | x::R=>by
   obtain ⟨f,g,h,e1,e2⟩:=c5M R;refine ⟨λ j=>match j with | 0=>x.1 | j+1=>f j,λ j=>match j with | 0=>x.2.1 | j+1=>g j,λ j=>match j with | 0=>x.2.2 | j+1=>h j,?_,?_⟩
   · show b3M x::R.map b3M=b3M x::sp3 f g h R.length;rw [e1]
   · show c5X x::R.map c5X=c5X x::sp2 f g R.length;rw [e2]
theorem c7m:∀ k∈[1,2,3],∀ u∈P60 k,u∈c9n:=by decide
theorem f60 {k:Nat}(hk:k∈[1,2,3])(hP:(R.length,G.length)∈P60 k)(hw:w.length=5):b7K (h60 t w (R.map b3M) G) v hs=some (some (.lst (R.map c5X)),[],true):=by obtain ⟨f,g,h,e1,e2⟩:=c5M R;obtain ⟨o,ho⟩:=a8x G;rw [e1,e2,ho];exact d8A (P:=λ w=>b7K (h60 t w (sp3 f g h R.length) (g30 G.length o)) v hs=_) (λ a b d e y=>a0I (d9M t a b d e y v f g h o hs) (c7m k hk _ hP)) w hw
theorem d3T {x:Kd}(h:x∈a0d):1<=(a0L x).length/\(a0L x).length<=3:=by revert h; revert x; decide
theorem a9G:∀ {xs:List Kd},(∀ x∈xs,x∈a0d)->(xs.flatMap a0L).length <= 3 * xs.length
 | [],_=>e0i _| x::xs,h=>by have:=a9G λ y m=>h y (e0Z x m);have:=(d3T (h x (e0X ..))).2;rw [e1O,e0a,e0n];lia
theorem b2W (BO:BaseOK2 B)(S:TabOK B 37 T1)(T:TabOK B 151 T7){xs:List Kd}(h:∀ x∈xs,x∈a0d)(hl:xs.length<=3):∃ R:List (Int×Int×Int),R.map (λ e=>e.1)=xs.flatMap apK/\FnOK B 183 60 [a0P (xs.flatMap a0L),a0B] (.lst (R.map c5X)):=by
 refine ⟨_,d0u (n:=0) h,?_⟩;obtain ⟨v,hs,hh⟩:=a5l (n:=0) h;have l9:=a9G h;have nl:a0E [a0P (xs.flatMap a0L),a0B]=true:=by rw [a0N]; rfl
 refine a0t BO (a0o B) (n:=181) (hs:=a8v (a4g 0 xs)) nl rfl (d9J _) (by rw [hh]; exact d9N _ _ _) a0V ?_;rw [d9I];refine Run.one (d9K _ _ _) a0V (Run.cons ?_);obtain ⟨f,hf⟩:=a0u (xs.flatMap a0L);have e:=a0I (d9L f v hs) (a1b (n:=(xs.flatMap a0L).length) (m:=10) (by lia));rw [<- hf] at e;refine Run.for rfl e a0V ?_;show Run B (a0R B60 (a4f 0 ((xs.flatMap a0L).map .int))) ⟨c3u (a0P (xs.flatMap a0L)) [] [],_⟩ _;rw [d2l h,<- hh];generalize a0P (xs.flatMap a0L)=t;cases xs with
 | nil=>refine Run.ret ⟨rfl,?_⟩;show Run B (a0a (rk K0 181) (aeK 60) ((fnB 60).drop 2)) ⟨c3u t [] [],.val .none::[]⟩ (a9O (.lst []));exact Run.ofV (p:=[]) ((b2I _ _ _).trans (d4P t _ _)) a0V| cons x xs=>have hx:=h x e0X;have h':∀ y∈xs,y∈a0d:=λ y m=>h y (e0Z _ m);have hl':xs.length+1<=3:=hl;obtain ⟨v,hs,hh⟩:=a5l (n:=0+(a0L x).length) h';show Run B (a0R B60 (a5K (a2v x (.ofNat 0) (.ofNat (0+1)) (.ofNat (0+1+1)))++(a4g (0+(a0L x).length) xs).flatMap a5K)) ⟨c3u t [] [],a6H (a2v x (.ofNat 0) (.ofNat (0+1)) (.ofNat (0+1+1)))++a8v (a4g (0+(a0L x).length) xs)⟩ _;rw [hh];refine d9t (a2S x hx) (b5L S T (b5V hx _ _ _)) λ w hw=>?_;rw [<- hh];refine (c5y S T (n:=0+(a0L x).length) (k:=1) (w:=w) (G:=c6R (a2v x (.ofNat 0) (.ofNat (0+1)) (.ofNat (0+1+1)))) h' (by decide) (by lia) (by unfold c6R; rw [e0c]; exact c8P (a2S x hx)) hw).mono ?_;rintro f s ⟨rfl,G,w,v,hs,rfl,hP,hw⟩;refine ⟨rfl,?_⟩;refine Run.ofV (p:=[]) ((b2I _ _ _).trans (f60 ?_ hP hw)) a0V;exact (List.mem_range'_1 (m:=1+xs.length) (s:=1) (n:=3)).mpr ⟨e1M 1 _,by lia⟩
end
noncomputable def wtF (c:Int):Int×Int×Int:=match c with
 | 32=>(5,32,2)
 | 97=>(10,32,2)
 | 65=>(10,32,8)
 | 101=>(11,32,2)
 | 69=>(11,32,8)
 | 769=>(0,36,2)
 | 803=>(0,37,2)
 | _=>(0,0,0)
def c1z (c:Int):PV:=.tup [i (wtF c).1,i (wtF c).2.1,i (wtF c).2.2,.bool false]
noncomputable def a4L:List Int:=[32,97,101,69,65,769,803]
def c7D:PV:=match a0Z with
 | .ins _ _ (t::_)=>t| _=>.none
theorem t59 (G) (at_):[true,false].map (λ r=>a5O K0 150 59 [.lst G,i at_,i 1] [.ans true,.ans true,.itm (.bool false),.ans r]) =
 [true,false].map λ r=>some (some (.lst [i at_]),[.cmp [] .Lt (i at_) (i (.ofNat G.length)) true,.cmp [] .Lt (i 0) (i 1) true,.itm [] (.lst G) (i at_) (.bool false),.cmp [] .Lt (i (at_+1)) (i (.ofNat G.length)) r],true):=by kernel_rfl
def d6w (ms:List Int):List Hint:=ms.flatMap λ m=>[.ans true,.itm (i m),.val (i (a5Y m)),.ans false,.itm (.bool false),.ans true,.itm (i m),.ans false]
def d6v:Option Int->List Hint
 | none=>[.ans false]
 | some d=>[.ans true,.itm (i d),.val (i 0),.ans true]
def d2T (c at_:Int)(ms:List Int)(nx:Option Int):List Hint:=[.itm (i c),.val (.lst [i at_]),.itm (i c),.inl,.itm (i c)]++(d6w ms++d6v nx)
noncomputable def d6a (L G:List PV)(c:Int):Int->Int->List Int->List Ob
 | _,_,[]=>[]
 | k,s,m::ms=>[.cmp [] .Lt (i k) (i (.ofNat L.length)) true,.itm [] (.lst L) (i k) (i m),.fn 180 3094 [a0B,.str "ccc",i m] (i (a5Y m)),.cmp [] .Eq (i (a5Y m)) (i 0) false,
    .itm [] (.lst G) (i k) (.bool false),.cmp [] .Gt (i (a5Y m)) (i s) true,.itm [] (.lst L) (i k) (i m),.cmp [] .In (.tup [i c,i m]) c7D false]++d6a L G c (k+1) (a5Y m) ms
noncomputable def atM:Int->List Int->Int
 | k,[]=>k| k,_::ms=>atM (k+1) ms
def d7j (L:List PV)(k:Int):Option Int->List Ob
 | none=>[.cmp [] .Lt (i k) (i (.ofNat L.length)) false]
 | some d=>[.cmp [] .Lt (i k) (i (.ofNat L.length)) true,.itm [] (.lst L) (i k) (i d),.fn 180 3094 [a0B,.str "ccc",i d] (i 0),.cmp [] .Eq (i 0) (i 0) true]
def d7i (L G:List PV)(c at_:Int)(ms:List Int)(nx:Option Int):List Ob:=[.itm [] (.lst L) (i at_) (i c),.fn 186 59 [.lst G,i at_,i 1] (.lst [i at_]),.itm [] (.lst L) (i at_) (i c),.itm [] (.lst L) (i at_) (i c)]++(d6a L G c (at_+1) 0 ms++d7j L (atM (at_+1) ms) nx)
def a8O (c at_:Int):PV:=.ins 57 ["elements", "places", "onward"] [.lst [c1z c],.lst [i at_],i (at_+1)]
def wK:List (Int×List Int):=(32,[])::(803,[])::(803,[769])::(769,[])::a4y.flatMap λ c=>[[],[769],[803],[803,769]].map λ ms=>(c,ms)
def d0H:List (Int×List Int×Bool):=wK.flatMap λ x=>[(x.1,x.2,false),(x.1,x.2,true)]
noncomputable def d1V (d:Int):Bool->Option Int
 | true=>some d| false=>none
@[irreducible] def d0t (L G:List PV)(at_ d:Int)(x:Int×List Int×Bool):=a5O K0 190 11058 [a0Z,.lst L,i at_,.lst G,a0B] (d2T x.1 at_ x.2.1 (d1V d x.2.2))
theorem t57 (L G) (at_ d):d0H.map (λ x=>d0t L G at_ d x)=d0H.map λ x=>some (some (a8O x.1 at_),d7i L G x.1 at_ x.2.1 (d1V d x.2.2),true):=by kernel_rfl
theorem a1P (H)(h:L[j]?=some v):a2T H (.lst L) (i (.ofNat j))=some v:=by
 have l:j < L.length:=by
  rcases e1A j L.length with l | l
  · exact l
  · rw [List.getElem?_eq_none l] at h; cases h
 show ob (c0T L.length (.ofNat j)) (λ j=>L[j]?)=some v;have:c0T L.length (.ofNat j)=some j:=by show gd (e0g j L.length) (some j)=some j;rw [show e0g j L.length=true from e2b l];rfl
 rw [this];exact h
theorem b3d (H)(h:j<n):a3U H .Lt (i (.ofNat j)) (i (.ofNat n))=some true:=by show some (a0X (.ofNat j) (.ofNat n))=_;exact congrArg some ((a0h _ _).trans (decide_eq_true (e1J.mpr h)))
theorem a8h (H)(h:n<=j):a3U H .Lt (i (.ofNat j)) (i (.ofNat n))=some false:=by show some (a0X (.ofNat j) (.ofNat n))=_;exact congrArg some ((a0h _ _).trans (decide_eq_false λ e=>e1U.mpr h (e1J.mp e)))
theorem a5f:∀ n:Nat,a0E (e0p n (.bool false))=true
 | 0=>rfl| n+1=>by show (true&&a0E (e0p n (.bool false)))=true;rw [a5f n];rfl
section
variable {B:Base}
theorem c8N (BO:BaseOK2 B)(h:j<n):FnOK B 151 59 [.lst (e0p n (.bool false)),i (.ofNat j),i 1] (.lst [i (.ofNat j)]):=by
 have hr:∃ r,∀ H,a3U H .Lt (i (.ofNat (j + 1))) (i (.ofNat (e0p n (PV.bool false)).length))=some r:=by
  rw [e1v];rcases e1A (j+1) n with l | l
  · exact ⟨true,λ H=>b3d H l⟩
  · exact ⟨false,λ H=>a8h H l⟩
 obtain ⟨r,hr⟩:=hr;have e:=a0I (t59 (e0p n (.bool false)) (.ofNat j)) (x:=r) (by cases r <;> decide);refine a0x BO (a0o B) ?_ e ?_
 · show (a0E (e0p n (.bool false))&&_)=true;rw [a5f]; rfl
 · refine a0H (λ H=>?_) (a0H (λ H=>rfl) (a0H (λ H=>a1P H ?_) (a0H (λ H=>hr H) a0m)))
   · rw [e1v]; exact b3d H h
   · rw [List.getElem?_replicate,if_pos h]
theorem d2P:∀ x∈wK,∀ m∈x.2,∀ H,a3U H .In (.tup [i x.1,i m]) c7D=some false:=by
 intro x hx m hm H;have:∀ x∈wK,∀ m∈x.2,(d3B (match c7D with | .dct ks _=>ks | _=>[]) (match c7D with | .dct _ vs=>vs | _=>[]) (.tup [i x.1,i m])).map e2L=some false:=by decide +kernel
 have e:(d3B (match c7D with | .dct ks _=>ks | _=>[]) (match c7D with | .dct _ vs=>vs | _=>[]) (.tup [i x.1,i m])).map e2L=some false:=this x hx m hm;exact e
theorem c3L:∀ x∈wK,∀ m∈x.2,m∈a0J/\a5Y m≠0:=by decide
noncomputable def b4x:Int->List Int->Bool
 | _,[]=>true| s,m::ms=>a0X s (a5Y m)&&b4x (a5Y m) ms
theorem c2p:∀ x∈wK,b4x 0 x.2=true:=by decide
theorem b9C (S:TabOK B 37 T1):∀ {ms:List Int}{k:Nat}{s:Int},(∀ m∈ms,m∈a0J /\ a5Y m ≠ 0)->(∀ m∈ms,∀ H,a3U H .In (.tup [i c,i m]) c7D=some false)->b4x s ms=true ->
 (∀ j x,ms[j]?=some x->L[k+j]?=some (i x)/\G[k+j]?=some (.bool false))->OblE B (d6a L G c (.ofNat k) s ms)
 | [],k,s,_,_,_,_=>a0m| m::ms,k,s,h1,h2,h3,h4=>by
   obtain ⟨h31,h32⟩:=e1I.mp (show (a0X s (a5Y m) && b4x (a5Y m) ms)=true from h3);obtain ⟨a,b⟩:=h4 0 m rfl;have l:k < L.length:=by
    rcases e1A k L.length with l | l
    · exact l
    · rw [e1o,List.getElem?_eq_none l] at a; cases a
   obtain ⟨c1,c2⟩:=h1 m (e0X ..);refine a1O ?_ (b9C S (k:=k+1) (λ x y=>h1 x (e0Z _ y)) (λ x y=>h2 x (e0Z _ y)) h32 λ j x e=>?_)
   · refine a0H (λ H=>b3d H l) (a0H (λ H=>a1P H a) (a0H ((c1S S c1).le (by decide)) (a0H (λ H=>?_) (a0H (λ H=>a1P H b) (a0H (λ H=>?_) (a0H (λ H=>a1P H a) (a0H (h2 m (e0X ..)) a0m)))))))
     · exact congrArg some ((a1L _ _).trans (decide_eq_false c2))
     · exact congrArg some h31
   · have:=h4 (j+1) x e;rwa [show k+(j+1)=k+1+j by lia] at this
theorem c1h:∀ (ms:List Int)(k:Nat),atM (.ofNat k) ms=.ofNat (k + ms.length)
 | [],k=>rfl| _::ms,k=>by show atM (.ofNat (k+1)) ms=.ofNat (k+(ms.length+1));rw [c1h ms,show k+1+ms.length=k+(ms.length+1) by lia]
def b4N (post:List Int):Prop:=post=[] \/ ∃ d r,post=d::r/\d∈a0J/\a5Y d=0
theorem b9c (BO:BaseOK2 B)(S:TabOK B 37 T1)(hw:(c,ms)∈wK)(hp:b4N post) :
 FnOK B 191 11058 [a0Z,a0P (pre++c::(ms++post)),i (.ofNat pre.length),.lst (e0p (pre++c::(ms++post)).length (.bool false)),a0B] (a8O c (.ofNat pre.length)):=by
 generalize hL:pre++c::(ms++post)=L;have hc:L[pre.length]?=some c:=by rw [<- hL,List.getElem?_append_right (e0i _),Nat.sub_self]; rfl
 have hcv:(L.map PV.int)[pre.length]?=some (i c):=by rw [List.getElem?_map,hc]; rfl
 have hm:∀ j x,ms[j]?=some x->L[pre.length + 1 + j]?=some x:=λ j x e=>by
  have l:j < ms.length:=by
   rcases e1A j ms.length with l | l
   · exact l
   · rw [List.getElem?_eq_none l] at e; cases e
  rw [<- hL,List.getElem?_append_right (by lia),show pre.length+1+j-pre.length=j+1 by lia,List.getElem?_cons_succ,List.getElem?_append_left l];exact e
 have hl:L.length=pre.length+(1+(ms.length+post.length)):=by rw [<- hL];simp only [e0a,e0n];lia
 have hG:∀ j,j<L.length->(e0p L.length (PV.bool false))[j]?=some (.bool false):=λ j l=>by rw [List.getElem?_replicate,if_pos l]
 have go:∀ (d:Int) (b:Bool),OblE B (d7j (L.map .int) (atM (.ofNat (pre.length + 1)) ms) (d1V d b))->FnOK B 191 11058 [a0Z,a0P L,i (.ofNat pre.length),.lst (e0p L.length (.bool false)),a0B] (a8O c (.ofNat pre.length)):=by
  intro d b O;have e:=a0I (t57 (L.map .int) (e0p L.length (.bool false)) (.ofNat pre.length) d) (x:=(c,ms,b)) (e0j.mpr ⟨_,hw,by cases b <;> simp⟩);have e:a5O K0 190 11058 [a0Z,a0P L,i (.ofNat pre.length),.lst (e0p L.length (.bool false)),a0B] (d2T c (.ofNat pre.length) ms (d1V d b))=some (some (a8O c (.ofNat pre.length)),d7i (L.map .int) (e0p L.length (.bool false)) c (.ofNat pre.length) ms (d1V d b),true):=by unfold d0t at e;exact e
  refine a0x BO (a0o B) ?_ e ?_
  · show (a0e a0Z&&a0E (a0P L::i (.ofNat pre.length)::.lst (e0p L.length (.bool false))::[a0B]))=true;rw [a0N];show (a0e a0Z&&(true&&(a0E (e0p L.length (.bool false))&&a0E [a0B])))=true;rw [a5f];rfl
  · refine a1O (a0H (λ H=>a1P H hcv) (a0H ((c8N BO (by lia)).le (by decide)) (a0H (λ H=>a1P H hcv) (a0H (λ H=>a1P H hcv) a0m)))) (a1O ?_ O);refine b9C S (k:=pre.length + 1) (c3L _ hw) (d2P _ hw) (c2p _ hw) λ j x e=>⟨?_,hG _ ?_⟩
    · rw [List.getElem?_map,hm j x e]; rfl
    · have l:j < ms.length:=by
       rcases e1A j ms.length with l | l
       · exact l
       · rw [List.getElem?_eq_none l] at e; cases e
      lia
 rcases hp with rfl | ⟨d,r,rfl,h1,h2⟩
 · refine go 0 false (a0H (λ H=>?_) a0m);rw [c1h,e0c];exact a8h H (by simp only [e1K] at hl; lia)
 · refine go d true ?_;have hd:(L.map PV.int)[pre.length + 1 + ms.length]?=some (i d):=by rw [List.getElem?_map,<- hL,List.getElem?_append_right (by lia),show pre.length + 1 + ms.length - pre.length=ms.length + 1 by lia,List.getElem?_cons_succ,List.getElem?_append_right (e0i _),Nat.sub_self];rfl
   rw [c1h];refine a0H (λ H=>?_) (a0H (λ H=>a1P H hd) (a0H ?_ (a0H (λ H=>rfl) a0m)))
   · rw [e0c];exact b3d H (by simp only [e0n] at hl; lia)
   · have:=c1S S h1;rw [h2] at this;exact this.le (by decide)
end
def a0f:PV:=.ins 66 ["factors", "how", "strength", "is_backwards", "case_first", "has_case_level", "is_numeric", "reorder"] [.tup [i 1,i 1,i 1],.str "non-ignorable",i 3,.bool false,.str "",.bool false,.bool false,.none]
noncomputable def a1h {α:Type}(f:Nat->α):Nat->List α
 | 0=>[]
 | n+1=>f 0::a1h (λ k=>f (k+1)) n
def b5l (e:PV)(p:Int):PV:=.tup [.lst [e],i p,i (p+1)]
def c2M (e:PV)(at_:Int):PV:=.ins 57 ["elements", "places", "onward"] [.lst [e],.lst [i at_],i (at_+1)]
noncomputable def ten:List Nat:=e0f 10
def el4 (x y z:Nat->Int)(k:Nat):PV:=.tup [i (x k),i (y k),i (z k),.bool false]
def we4 (x y z:Nat->Int)(k:Nat):PV:=.tup [i (x k),i (y k),i (z k),i 65535]
theorem d8V (T)(f g x y z:Nat->Int):ten.map (λ n=>a5O K0 200 13058 [a0Z,.lst T,a0B] (.val (.lst (sp2 f g n))::a1h (λ k=>.val (c2M (el4 x y z k) (.ofNat k))) n)) =
 ten.map λ n=>some (some (.lst (a1h (λ k=>b5l (el4 x y z k) (g k)) n)),.fn 196 60 [.lst T,a0B] (.lst (sp2 f g n))::a1h (λ k=>.fn 192 11058 [a0Z,.lst (spI f n),i (.ofNat k),.lst (e0p n (.bool false)),a0B] (c2M (el4 x y z k) (.ofNat k))) n,true):=by kernel_rfl
theorem d8W (T)(g x y z:Nat->Int):ten.map (λ n=>a5O K0 210 14058 [a0Z,.lst T,a0B] [.val (.lst (a1h (λ k=>b5l (el4 x y z k) (g k)) n))]) =
 ten.map λ n=>some (some (.lst (a1h (el4 x y z) n)),[.fn 206 13058 [a0Z,.lst T,a0B] (.lst (a1h (λ k=>b5l (el4 x y z k) (g k)) n))],true):=by kernel_rfl
theorem d8U (x y z:Nat->Int):ten.map (λ n=>a5O K0 100 69 [.lst (a1h (el4 x y z) n),.str "non-ignorable",i 1] (.ans false::.ans false::a1h (λ _=>.ans true) n)) =
 ten.map λ n=>some (some (.lst (a1h (we4 x y z) n)),.cmp [] .Eq (.str "non-ignorable") (.str "blanked") false::.cmp [] .NotEq (.str "non-ignorable") (.str "non-ignorable") false::a1h (λ k=>.cmp [] .Gt (i (x k+y k+z k)) (i 0) true) n,true):=by kernel_rfl
noncomputable def b3U {α:Type}:List Bool->(Nat->α)->List α
 | [],_=>[]
 | true::r,f=>f 0::b3U r λ k=>f (k+1)| false::r,f=>b3U r λ k=>f (k+1)
noncomputable def d1R (x:Nat->Int):List Bool->List Ob
 | []=>[]
 | b::r=>.cmp [] .NotEq (i (x 0)) (i 0) b::d1R (λ k=>x (k+1)) r
noncomputable def a6u:List (List Bool):=[0,1,2,3].flatMap pats
where pats:Nat->List (List Bool)
 | 0=>[[]]
 | n+1=>[[true],[true,false],[true,false,false]].flatMap λ g=>(pats n).map λ r=>g++r
theorem t71 (x y z:Nat->Int):a6u.map (λ p=>a5O K0 100 71 [.lst (a1h (we4 x y z) p.length),a0f] (p.map .ans))=a6u.map λ p=>some (some (.lst (b3U p λ k=>i (x k))),d1R x p,true):=by kernel_rfl
theorem t72 (x y z):ten.map (λ n=>a5O K0 100 72 [.lst (a1h (we4 x y z) n),a0f] (a1h (λ _=>.ans true) n))=ten.map λ n=>some (some (.lst (spI y n)),d1R y (e0p n true),true):=by kernel_rfl
theorem t74 (x y z):ten.map (λ n=>a5O K0 100 74 [.lst (a1h (we4 x y z) n),a0f] (a1h (λ _=>.ans true) n))=ten.map λ n=>some (some (.lst (spI z n)),d1R z (e0p n true),true):=by kernel_rfl
noncomputable def gnD:List (Nat×Nat):=[(0,0),(1,1),(1,2),(1,3),(2,2),(2,3),(2,4),(2,5),(2,6),(3,3),(3,4),(3,5),(3,6),(3,7),(3,8),(3,9)]
def d1v (x y z:Nat->Int)(u:Nat×Nat):PV:=.lst [.lst (spI x u.1),.lst (spI y u.2),.lst (spI z u.2)]
theorem t76 (W) (x y z):gnD.map (λ u=>a5O K0 110 76 [.lst W,a0f] [.val (.lst (spI x u.1)),.val (.lst (spI y u.2)),.val (.lst (spI z u.2))]) =
 gnD.map λ u=>some (some (d1v x y z u),[.fn 105 71 [.lst W,a0f] (.lst (spI x u.1)),.fn 103 72 [.lst W,a0f] (.lst (spI y u.2)),.fn 103 74 [.lst W,a0f] (.lst (spI z u.2))],true):=by kernel_rfl
theorem t78 (W) (x y z):gnD.map (λ u=>a5O K0 120 78 [.lst W,a0f,.none] [.val (d1v x y z u)]) =
 gnD.map λ u=>some (some (.lst (spI x u.1++(i 0::(spI y u.2++(i 0::spI z u.2))))),[.fn 116 76 [.lst W,a0f] (d1v x y z u)],true):=by kernel_rfl
theorem t77 (W a):[0,1,2].map (λ k=>a2r K0 110 77 [.lst W,i (.ofNat k),a0f] [.val (.lst a)])=[some (.lst a,[.fn 104 71 [.lst W,a0f] (.lst a)],true),some (.lst a,[.fn 104 72 [.lst W,a0f] (.lst a)],true),some (.lst a,[.fn 105 74 [.lst W,a0f] (.lst a)],true)]:=by kernel_rfl
theorem d9H (W):a2r K0 110 77 [.lst W,i 3,a0f] []=some (.none,[],true):=by kernel_rfl
theorem t79 (T E):a2r K0 217 79 [.lst T,a0B,a0Z,a0f] [.val (.lst E)]=some (.lst E,[.fn 212 14058 [a0Z,.lst T,a0B] (.lst E)],true):=by kernel_rfl
theorem t80 (T E W a):a2r K0 225 80 [.lst T,a0B,a0Z,a0f] [.val (.lst E),.val (.lst W),.val (.lst a)]=some (.lst a,[.fn 220 79 [.lst T,a0B,a0Z,a0f] (.lst E),.fn 221 69 [.lst E,.str "non-ignorable",i 1] (.lst W),.fn 221 78 [.lst W,a0f,.none] (.lst a)],true):=by kernel_rfl
def lvl (W a V b:List PV)(k:Nat)(t:Int):List Ob:=[.fn 113 77 [.lst W,i (.ofNat k),a0f] (.lst a),.fn 113 77 [.lst V,i (.ofNat k),a0f] (.lst b),.fn 114 81 [.lst a,.lst b] (i t)]
def hvl (a b:List PV)(t:Int):List Hint:=[.val (.lst a),.val (.lst b),.val (i t)]
noncomputable def a2f:List Int:=[-1,1]
theorem d8t (W V a b):a2f.map (λ t=>a2r K0 120 82 [.lst W,.lst V,a0f] (hvl a b t))=a2f.map λ t=>some (i t,lvl W a V b 0 t,true):=by kernel_rfl
theorem d8s (W V a b c d):a2f.map (λ t=>a2r K0 120 82 [.lst W,.lst V,a0f] (hvl a b 0++hvl c d t))=a2f.map λ t=>some (i t,lvl W a V b 0 0++lvl W c V d 1 t,true):=by kernel_rfl
theorem d8r (W V a b c d e f):a2f.map (λ t=>a2r K0 120 82 [.lst W,.lst V,a0f] (hvl a b 0++(hvl c d 0++hvl e f t)))=a2f.map λ t=>some (i t,lvl W a V b 0 0++(lvl W c V d 1 0++lvl W e V f 2 t),true):=by kernel_rfl
theorem d8q (W V a b c d e f):a2r K0 120 82 [.lst W,.lst V,a0f] (hvl a b 0++(hvl c d 0++(hvl e f 0++[.val .none,.val .none])))=some (i 0,lvl W a V b 0 0++(lvl W c V d 1 0++(lvl W e V f 2 0++[.fn 113 77 [.lst W,i 3,a0f] .none,.fn 113 77 [.lst V,i 3,a0f] .none])),true):=by kernel_rfl
theorem t83 (T U E F W V):[-1,0,1].map (λ t=>a2r K0 225 83 [.lst T,.lst U,a0B,a0Z,a0f] [.val (.lst E),.val (.lst W),.val (.lst F),.val (.lst V),.val (i t)]) =
 [-1,0,1].map λ t=>some (i t,[.fn 220 79 [.lst T,a0B,a0Z,a0f] (.lst E),.fn 221 69 [.lst E,.str "non-ignorable",i 1] (.lst W),.fn 220 79 [.lst U,a0B,a0Z,a0f] (.lst F),.fn 221 69 [.lst F,.str "non-ignorable",i 1] (.lst V),.fn 221 82 [.lst W,.lst V,a0f] (i t)],true):=by kernel_rfl
theorem Run.consR {r:Rc}{st:St}{Q:Fl->St->Prop}(h:Run B (r.s x ae) st (λ f s=>(f=.next/\Run B (a0a r ae l) s Q) \/ ∃ v,f=.ret v/\Q f s)):Run B (a0a r ae (x::l)) st Q:=by
 unfold a0a;refine Run.bind h ?_;rintro f s (⟨rfl,h⟩ | ⟨v,rfl,h⟩)
 · exact h
 · exact Run.ret h
theorem Run.ofE {α:Type}{m:Ev α}{st:St}{Q:α->St->Prop}{a:α}(h:(m st).map a6B=some (a,p,true))(O:OblE B p)(q:∀ s,Q a s):Run B m st Q:=by obtain ⟨⟨v,s,ob⟩,e,hh⟩:=e1C.mp h;unfold a6B at hh;simp only [Prod.mk.injEq] at hh;obtain ⟨rfl,rfl,h3⟩:=hh;exact ⟨v,s,ob.ps,⟨ob.sz,e,e0t h3⟩,O.of,q s⟩
noncomputable def b7a (A C:List PV):List PO:=[.fr ["one", "other"] [.lst A,.lst C]]
noncomputable def h81 (A C:List PV)(k:PV):List PO:=[.fr ["one", "other", "at"] [.lst A,.lst C,k]]
def B81 (x:PV):Ev Fl:=b0Z (rk K0 100) (aeK 81) (stm 81 0) x
def d3w (x y:Int)(hs:List Hint):List Hint:=.itm (i x)::.itm (i y)::.ans false::hs
def d3o (x y:Int)(r:Bool):List Hint:=[.itm (i x),.itm (i y),.ans true,.itm (i x),.itm (i y),.ans r]
def d6Y (A C:List PV)(k x y:Int):List Ob:=[.itm [] (.lst A) (i k) (i x),.itm [] (.lst C) (i k) (i y),.cmp [] .NotEq (i x) (i y) false]
def d6W (A C:List PV)(k x y:Int)(r:Bool):List Ob:=[.itm [] (.lst A) (i k) (i x),.itm [] (.lst C) (i k) (i y),.cmp [] .NotEq (i x) (i y) true,.itm [] (.lst A) (i k) (i x),.itm [] (.lst C) (i k) (i y),.cmp [] .Lt (i x) (i y) r]
noncomputable def sgn (r:Bool):Int:=match r with
 | true=>-1| false=>1
abbrev O81:=Option (Fl×Option (List Str×List PV×Nat×List PO)×List Hint×List Ob×Bool)
@[irreducible] def b2e (k:PV)(H:List PO)(hs:List Hint):O81:=(B81 k ⟨H,hs⟩).map (b6u 2)
theorem b7P (k) (H) (hs):(B81 k ⟨H,hs⟩).map (b6u 2)=b2e k H hs:=by rw [b2e]
@[irreducible] def c1Z (k:PV)(H:List PO)(hs:List Hint):Option (Fl×List Ob×Bool):=(B81 k ⟨H,hs⟩).map a6B
theorem c1Y (k) (H) (hs):(B81 k ⟨H,hs⟩).map a6B=c1Z k H hs:=by rw [c1Z]
noncomputable def d6h:List Str:=["one", "other", "at"]
theorem d9G (A C) (k x y) (hs):b2e (i k) (b7a A C) (d3w x y hs)=some (.next,some (d6h,[.lst A,.lst C],3,[]),hs,d6Y A C k x y,true):=by kernel_rfl
theorem d9F (A C) (u) (k x y) (hs):b2e (i k) (h81 A C u) (d3w x y hs)=some (.next,some (d6h,[.lst A,.lst C],3,[]),hs,d6Y A C k x y,true):=by kernel_rfl
theorem d9E (A C) (k x y):[true,false].map (λ r=>c1Z (i k) (b7a A C) (d3o x y r))=[true,false].map λ r=>some (.ret (i (sgn r)),d6W A C k x y r,true):=by kernel_rfl
theorem d9D (A C) (u) (k x y):[true,false].map (λ r=>c1Z (i k) (h81 A C u) (d3o x y r))=[true,false].map λ r=>some (.ret (i (sgn r)),d6W A C k x y r,true):=by kernel_rfl
@[irreducible] def b2H (H:List PO)(hs:List Hint):Option (Fl×List Ob×Bool):=(a0a (rk K0 101) (aeK 81) ((fnB 81).drop 1) ⟨H,hs⟩).map a6B
theorem a7a (H) (hs):(a0a (rk K0 101) (aeK 81) ((fnB 81).drop 1) ⟨H,hs⟩).map a6B=b2H H hs:=by rw [b2H]
def c9z (A C:List PV)(r:Bool):Ob:=.cmp [] .Eq (i (.ofNat A.length)) (i (.ofNat C.length)) r
def d6l (A C:List PV)(r:Bool):Ob:=.cmp [] .Lt (i (.ofNat A.length)) (i (.ofNat C.length)) r
theorem d9C (A C):b2H (b7a A C) [.ans true]=some (.ret (i 0),[c9z A C true],true):=by kernel_rfl
theorem d9B (A C) (u):b2H (h81 A C u) [.ans true]=some (.ret (i 0),[c9z A C true],true):=by kernel_rfl
theorem d9A (A C):[true,false].map (λ r=>b2H (b7a A C) [.ans false,.ans r])=[true,false].map λ r=>some (.ret (i (sgn r)),[c9z A C false,d6l A C r],true):=by kernel_rfl
theorem d8z (A C) (u):[true,false].map (λ r=>b2H (h81 A C u) [.ans false,.ans r])=[true,false].map λ r=>some (.ret (i (sgn r)),[c9z A C false,d6l A C r],true):=by kernel_rfl
noncomputable def rgL (k:Nat):Nat->List PV
 | 0=>[]
 | n+1=>i (.ofNat k)::rgL (k+1) n
theorem d8y (f g) (v) (hs):a4u.map (λ u=>(a1w (rk K0 100) (aeK 81) (a7Y (stm 81 0)) (b0M (stm 81 0)) ⟨b7a (spI f u.1) (spI g u.2),.itm v::hs⟩).map a0S) =
 a4u.map λ u=>some (.stat (rgL 0 (e1G u.1 u.2)),⟨b7a (spI f u.1) (spI g u.2),.itm v::hs⟩,[],true):=by kernel_rfl
theorem d8x (f g) (r) (hs):a4u.map (λ u=>(a1w (rk K0 100) (aeK 81) (a7Y (stm 81 0)) (b0M (stm 81 0)) ⟨b7a (spI f u.1) (spI g u.2),.ans r::hs⟩).map a0S) =
 a4u.map λ u=>some (.stat (rgL 0 (e1G u.1 u.2)),⟨b7a (spI f u.1) (spI g u.2),.ans r::hs⟩,[],true):=by kernel_rfl
theorem d8v:fnB 81=[stm 81 0]++(fnB 81).drop 1:=by kernel_rfl
theorem d8w (s t):a2N (pmK 81) (dfK 81) [s,t]=(some [("one",s),("other",t)]:Option (List (Str×PV))):=by kernel_rfl
theorem d8u (A C) (hs):(enter true (scK 81) [] [("one",.lst A),("other",.lst C)] ⟨[],hs⟩).map a0S=some (aeK 81,⟨b7a A C,hs⟩,[],true):=by kernel_rfl
noncomputable def a1z:List Int->List Int->Int
 | [],[]=>0| [],_::_=>-1| _::_,[]=>1| x::a,y::b=>match decide (x=y) with
   | true=>a1z a b| false=>sgn (a0X x y)
noncomputable def hC:List Int->List Int->List Hint
 | [],[]=>[.ans true]
 | [],_::_=>[.ans false,.ans true]
 | _::_,[]=>[.ans false,.ans false]
 | x::a,y::b=>match decide (x=y) with
   | true=>d3w x y (hC a b)| false=>d3o x y (a0X x y)
def S81 (A C:List PV)(H:List PO):Prop:=H=b7a A C \/ ∃ u,H=h81 A C u
section
variable {B:Base}{A C:List PV}{H:List PO}{k x y:Int}{hs:List Hint}
theorem e81 (h:S81 A C H):b2e (i k) H (d3w x y hs)=some (.next,some (d6h,[.lst A,.lst C],3,[]),hs,d6Y A C k x y,true):=by
 rcases h with rfl | ⟨u,rfl⟩
 · exact d9G A C k x y hs
 · exact d9F A C u k x y hs
theorem b4K (r):r∈[true,false]:=by cases r <;> decide
theorem d81 (h:S81 A C H) (r):c1Z (i k) H (d3o x y r)=some (.ret (i (sgn r)),d6W A C k x y r,true):=by
 rcases h with rfl | ⟨u,rfl⟩
 · exact a0I (d9E A C k x y) (b4K r)
 · exact a0I (d9D A C u k x y) (b4K r)
theorem e0K (h:S81 A C H):b2H H [.ans true]=some (.ret (i 0),[c9z A C true],true):=by
 rcases h with rfl | ⟨u,rfl⟩
 · exact d9C A C
 · exact d9B A C u
theorem d8B (h:S81 A C H) (r):b2H H [.ans false,.ans r]=some (.ret (i (sgn r)),[c9z A C false,d6l A C r],true):=by
 rcases h with rfl | ⟨u,rfl⟩
 · exact a0I (d9A A C) (b4K r)
 · exact a0I (d8z A C u) (b4K r)
theorem b4H (H) (x y):a3U H .Eq (i x) (i y)=some (decide (x=y)):=a4s H 5 x y
theorem b4G (H) (x y):a3U H .NotEq (i x) (i y)=some (!decide (x=y)):=by show Option.map _ (a5X H 6 (i x) (i y))=_;rw [a4s]; rfl
theorem a9w (e:decide (n=m)=r):∀ H,a3U H .Eq (i (.ofNat n)) (i (.ofNat m))=some r:=λ H=>by rw [b4H,<- e];exact congrArg some (decide_eq_decide.mpr ⟨λ h=>Int.ofNat.inj h,λ h=>h▸rfl⟩)
def Q81 (B:Base)(t:Int)(f:Fl)(s:St):Prop:=(f=.next/\Run B (a0a (rk K0 101) (aeK 81) ((fnB 81).drop 1)) s (a9O (i t))) \/ ∃ v,f=.ret v/\a9O (i t) f s
theorem b5x:a9O (i t) (.ret (i t)) s:=⟨_,rfl,rfl⟩
theorem b3r {α:Type}{l:List α}{x:α}(h:l[j]?=some x):j<l.length:=by
 rcases e1A j l.length with l' | l'
 · exact l'
 · rw [List.getElem?_eq_none l'] at h; cases h
theorem c5x:∀ (a b:List Int)(k:Nat)(H:List PO),S81 A C H->(∀ j x,a[j]?=some x->A[k + j]?=some (i x))->(∀ j x,b[j]?=some x->C[k + j]?=some (i x))->A.length=k + a.length->C.length=k + b.length ->
 Run B (a0R B81 (rgL k (e1G a.length b.length))) ⟨H,hC a b⟩ (Q81 B (a1z a b))
 | [],[],k,H,h,_,_,lA,lC=>Run.ret (.inl ⟨rfl,Run.ofE ((a7a _ _).trans (e0K h)) (a0H (λ H=>a9w (decide_eq_true (by rw [lA,lC])) H) a0m) λ s=>b5x⟩)| [],y::b,k,H,h,_,_,lA,lC=>Run.ret (.inl ⟨rfl,Run.ofE ((a7a _ _).trans (d8B h true)) (a0H (λ H=>a9w (decide_eq_false (by rw [lA,lC]; simp only [e0n,e1K]; lia)) H) (a0H (λ H=>b3d H (by rw [lA,lC]; simp only [e0n,e1K]; lia)) a0m)) λ s=>b5x⟩)| x::a,[],k,H,h,_,_,lA,lC=>Run.ret (.inl ⟨rfl,Run.ofE ((a7a _ _).trans (d8B h false)) (a0H (λ H=>a9w (decide_eq_false (by rw [lA,lC]; simp only [e0n,e1K]; lia)) H) (a0H (λ H=>a8h H (by rw [lA,lC]; simp only [e0n,e1K]; lia)) a0m)) λ s=>b5x⟩)| x::a,y::b,k,H,h,hA,hCc,lA,lC=>by
   have ea:=hA 0 x rfl;have eb:=hCc 0 y rfl;rw [e1o] at ea eb;have em:rgL k (e1G (x::a).length (y::b).length)=i (.ofNat k)::rgL (k+1) (e1G a.length b.length):=by have:e1G (x::a).length (y::b).length=e1G a.length b.length+1:=Nat.succ_min_succ a.length b.length;rw [this];rfl
   rw [em];dsimp only [a1z,hC];unfold a0R;cases hd:decide (x=y) with
   | true=>
     refine Run.bind (Q:=λ f s=>f=.next /\ ∃ u,s=⟨h81 A C u,hC a b⟩) (Run.ofN (k:=2) ((b7P _ _ _).trans (e81 h)) ?_ ?_) ?_
     · refine a0H (λ H=>a1P H ea) (a0H (λ H=>a1P H eb) (a0H (λ H=>?_) a0m));rw [b4G,hd]; rfl
     · intro w hw;obtain ⟨u,rfl⟩:=List.length_eq_one_iff.mp hw;exact ⟨rfl,u,rfl⟩
     · rintro f s ⟨rfl,u,rfl⟩;refine c5x a b (k + 1) _ (.inr ⟨u,rfl⟩) (λ j z e=>?_) (λ j z e=>?_) (by rw [lA]; simp only [e0n]; lia) (by rw [lC]; simp only [e0n]; lia)
       · have:=hA (j+1) z e;rwa [show k+(j+1)=k+1+j by lia] at this
       · have:=hCc (j+1) z e;rwa [show k+(j+1)=k+1+j by lia] at this
   | false=>
     refine Run.bind (Q:=λ f s=>f=.ret (i (sgn (a0X x y)))) (Run.ofE ((c1Y _ _ _).trans (d81 h (a0X x y))) ?_ λ s=>rfl) ?_
     · refine a0H (λ H=>a1P H ea) (a0H (λ H=>a1P H eb) (a0H (λ H=>?_) (a0H (λ H=>a1P H ea) (a0H (λ H=>a1P H eb) (a0H (λ H=>rfl) a0m)))));rw [b4G,hd]; rfl
     · rintro f s rfl;exact Run.ret (.inr ⟨_,rfl,b5x⟩)
theorem c8m:∀ a b:List Int,(∃ v hs,hC a b=.itm v::hs) \/ ∃ r hs,hC a b=.ans r::hs
 | [],[]=>.inr ⟨_,_,rfl⟩| [],_::_=>.inr ⟨_,_,rfl⟩| _::_,[]=>.inr ⟨_,_,rfl⟩| x::a,y::b=>by
   dsimp only [hC];cases decide (x=y) with
   | true=>exact .inl ⟨_,_,rfl⟩| false=>exact .inl ⟨_,_,rfl⟩
theorem c9V (BO:BaseOK2 B){a b:List Int}(la:a.length<10)(lb:b.length<10):FnOK B 103 81 [a0P a,a0P b] (i (a1z a b)):=by
 refine a0t BO (a0o B) (n:=101) (hs:=hC a b) (by rw [a0N,a0N]; rfl) rfl (d8w _ _) (d8u _ _ _) a0V ?_;rw [d8v];refine Run.consR ?_;obtain ⟨f,hf⟩:=a0u a;obtain ⟨g,hg⟩:=a0u b;have key:(a.length,b.length)∈a4u:=e0j.mpr ⟨_,a1b la,e0e.mpr ⟨_,a1b lb,rfl⟩⟩;have e:(a1w (rk K0 100) (aeK 81) (a7Y (stm 81 0)) (b0M (stm 81 0)) ⟨b7a (a.map .int) (b.map .int),hC a b⟩).map a0S=some (.stat (rgL 0 (e1G a.length b.length)),⟨b7a (a.map .int) (b.map .int),hC a b⟩,[],true):=by
  rw [hf,hg];rcases c8m a b with ⟨v,hs,h⟩ | ⟨v,hs,h⟩
  · rw [h]; exact a0I (d8y f g v hs) key
  · rw [h]; exact a0I (d8x f g v hs) key
 refine Run.for rfl e a0V ?_;exact c5x a b 0 _ (.inl rfl) (λ j x e=>by rw [e1S,List.getElem?_map,e]; rfl) (λ j x e=>by rw [e1S,List.getElem?_map,e]; rfl) (by rw [e0c,e1S]) (by rw [e0c,e1S])
end
def a0C (xs:List Kd):List Int:=xs.flatMap apK
def a0M (xs:List Kd):List Int:=xs.flatMap a0L
def Txt (xs:List Kd):Prop:=(∀ x∈xs,x∈a0d)/\xs.length<=3
theorem a1g {α β:Type}(F:α->β)(d:α):∀ S:List α,S.map F=a1h (λ k=>F (S.getD k d)) S.length
 | []=>rfl| x::S=>by show F x::S.map F=F x::a1h (λ k=>F (S.getD k d)) S.length;rw [a1g F d S]
theorem a1c (f):∀ n,a3R f n=a1h f n
 | 0=>rfl| n+1=>congrArg (f 0::·) (a1c (λ k=>f (k+1)) n)
theorem a2X (h:n<=9):n∈ten:=a1b (e2c h)
def wX (S:List Int)(k:Nat):Int:=(wtF (S.getD k 0)).1
def wY (S:List Int)(k:Nat):Int:=(wtF (S.getD k 0)).2.1
def wZ (S:List Int)(k:Nat):Int:=(wtF (S.getD k 0)).2.2
def wV (c:Int):PV:=.tup [i (wtF c).1,i (wtF c).2.1,i (wtF c).2.2,i 65535]
theorem c0w (S:List Int):S.map c1z=a1h (el4 (wX S) (wY S) (wZ S)) S.length:=a1g c1z 0 S
theorem c5E (S:List Int):S.map wV=a1h (we4 (wX S) (wY S) (wZ S)) S.length:=a1g wV 0 S
def L1 (S:List Int):List Int:=(S.map λ c=>(wtF c).1).filter λ x=>!decide (x=0)
def L2 (S:List Int):List Int:=S.map λ c=>(wtF c).2.1
def L3 (S:List Int):List Int:=S.map λ c=>(wtF c).2.2
theorem c9l:∀ x∈a0d,∀ j∈e0f 4,j<(apK x).length->((apK x).getD j 0,(apK x).drop (j+1))∈wK:=by decide
theorem c9m:∀ x∈a0d,(apK x)=(apK x).headD 0::(apK x).drop 1/\(apK x).headD 0∈a0J/\a5Y ((apK x).headD 0)=0:=by decide
theorem c1n:∀ x∈a0d,1<=(apK x).length/\(apK x).length<=3:=by decide
theorem d3S:∀ x∈a0d,∀ c∈apK x,c∈a4L:=by decide
theorem d3R:∀ x∈a0d,((apK x).map λ c=>!decide ((wtF c).1=0))∈[[true],[true,false],[true,false,false]]:=by decide
theorem b2Y:∀ {xs:List Kd},(∀ x∈xs,x∈a0d)->b4N (a0C xs)
 | [],_=>.inl rfl| x::xs,h=>by obtain ⟨a,b,c⟩:=c9m x (h x (e0X ..));refine .inr ⟨_,(apK x).drop 1++a0C xs,?_,b,c⟩;show apK x++a0C xs=_;rw [a];rfl
theorem b4j {l:List Int}(h:j<l.length):l=l.take j++l.getD j 0::l.drop (j+1):=by
 have:l.drop j=l.getD j 0::l.drop (j+1):=by rw [List.getD_eq_getElem?_getD,List.getElem?_eq_getElem h];exact List.drop_eq_getElem_cons h
 rw [<- this,e1Y]
theorem d0G:∀ {xs:List Kd},(∀ x∈xs,x∈a0d)->∀ k,k < (a0C xs).length->∃ pre c ms post,a0C xs=pre++c::(ms++post) /\ pre.length=k /\ (c,ms)∈wK /\ b4N post
 | [],_,k,h=>absurd h (Nat.not_lt_zero _)| x::xs,hx,k,h=>by
   have x0:=hx x (e0X ..);have hx':∀ y∈xs,y∈a0d:=λ y m=>hx y (e0Z _ m);have e:a0C (x::xs)=apK x++a0C xs:=rfl;rw [e,e0a] at h;have l3:=c1n x x0;rw [e];rcases e1A k (apK x).length with l | l
   · refine ⟨(apK x).take k,(apK x).getD k 0,(apK x).drop (k + 1),a0C xs,?_,?_,c9l x x0 k (a1b (by lia)) l,b2Y hx'⟩
     · have:=b4j l;rw [show (apK x).take k++(apK x).getD k 0::((apK x).drop (k+1)++a0C xs)=((apK x).take k++(apK x).getD k 0::(apK x).drop (k+1))++a0C xs by rw [e0h]; rfl,<- this]
     · rw [e1b]; lia
   · obtain ⟨pre,c,ms,post,h1,h2,h3,h4⟩:=d0G hx' (k-(apK x).length) (by lia);exact ⟨apK x++pre,c,ms,post,by rw [h1,e0h],by rw [e0a]; lia,h3,h4⟩
theorem a1R (h:Txt xs):(a0C xs).length<=9:=by
 have:∀ {xs:List Kd},(∀ x∈xs,x∈a0d)->(a0C xs).length <= 3 * xs.length:=by
  intro xs;induction xs with
  | nil=>intro _; exact e0i _| cons x xs ih=>intro h;have a:=ih λ y m=>h y (e0Z _ m);have b:=c1n x (h x (e0X ..));show (apK x++a0C xs).length<=3 * (xs.length+1);rw [e0a];lia
 have:=this h.1;have:=h.2;lia
theorem a2K (h:Txt xs):∀ c∈a0C xs,c∈a4L:=λ c m=>by obtain ⟨x,hx,hc⟩:=e0j.mp m;exact d3S x (h.1 x hx) c hc
theorem b9T:a0E [a0Z,a0P T,a0B]=true:=by show (a0e a0Z&&a0E (a0P T::[a0B]))=true;rw [a0N]; rfl
theorem a3g:∀ {n:Nat}{f:Nat->Ob},(∀ k,k < n->okE B (f k))->OblE B (a1h f n)
 | 0,_,_=>a0m| n+1,f,h=>a0H (h 0 (e1P _)) (a3g λ k l=>h (k+1) (e1Z l))
structure Tabs (B:Base):Prop where
 bo:BaseOK2 B
 t1:TabOK B 37 T1
 t7:TabOK B 151 T7
section
variable {B:Base}{xs:List Kd}
theorem b6x (Z:Tabs B)(h:Txt xs):∃ g:Nat->Int,FnOK B 201 13058 [a0Z,a0P (a0M xs),a0B] (.lst (a1h (λ k=>b5l (el4 (wX (a0C xs)) (wY (a0C xs)) (wZ (a0C xs)) k) (g k)) (a0C xs).length)):=by
 obtain ⟨R,hR,F⟩:=b2W Z.bo Z.t1 Z.t7 h.1 h.2;have hR:R.map (λ e=>e.1)=a0C xs:=hR;have n9:=a1R h;have hn:R.length=(a0C xs).length:=by rw [<- hR,e0c]
 have hS:spI (λ k=>(R.getD k (0,0,0)).1) (a0C xs).length=(a0C xs).map .int:=by rw [<- hR,e1H];unfold spI;rw [a1c,e0c];exact (a1g (λ e:Int×Int×Int=>PV.int e.1) (0,0,0) R).symm
 have h2:sp2 (λ k=>(R.getD k (0,0,0)).1) (λ k=>(R.getD k (0,0,0)).2.1) (a0C xs).length=R.map c5X:=by unfold sp2;rw [a1c,<- hn];exact (a1g c5X (0,0,0) R).symm
 refine ⟨λ k=>(R.getD k (0,0,0)).2.1,?_⟩;have e:=a0I (d8V ((a0M xs).map .int) (λ k=>(R.getD k (0,0,0)).1) (λ k=>(R.getD k (0,0,0)).2.1) (wX (a0C xs)) (wY (a0C xs)) (wZ (a0C xs))) (a2X n9);refine a0x Z.bo (a0o B) b9T e (a0H ?_ (a3g λ k l=>?_))
 · rw [h2];exact F.le (by decide)
 · show FnOK B 192 11058 _ _;rw [hS];obtain ⟨pre,c,ms,post,h1,rfl,h3,h4⟩:=d0G h.1 k l;have:=b9c Z.bo Z.t1 (pre:=pre) h3 h4;rw [<- h1] at this;have ec:(a0C xs).getD pre.length 0=c:=by rw [h1,List.getD_eq_getElem?_getD,List.getElem?_append_right (e0i _),Nat.sub_self]; rfl
   have et:c2M (el4 (wX (a0C xs)) (wY (a0C xs)) (wZ (a0C xs)) pre.length) (.ofNat pre.length)=a8O c (.ofNat pre.length):=by unfold c2M el4 wX wY wZ a8O c1z;rw [ec]
   rw [et];exact this.le (by decide)
theorem b3y (Z:Tabs B)(h:Txt xs):FnOK B 211 14058 [a0Z,a0P (a0M xs),a0B] (.lst ((a0C xs).map c1z)):=by obtain ⟨g,F⟩:=b6x Z h;have e:=a0I (d8W ((a0M xs).map .int) g (wX (a0C xs)) (wY (a0C xs)) (wZ (a0C xs))) (a2X (a1R h));rw [c0w];exact a0x Z.bo (a0o B) b9T e (a0H (F.le (by decide)) a0m)
theorem b9V:a0E [a0P T,a0B,a0Z,a0f]=true:=by rw [a0N]; rfl
theorem a1y {α:Type}{f:α->PV}(h:∀ x,a0e (f x)=true):∀ l:List α,a0E (l.map f)=true
 | []=>rfl| x::l=>by show (a0e (f x)&&a0E (l.map f))=true;rw [h,a1y h l]; rfl
theorem c2I {α:Type}{f:α->PV}(h:∀ x,a0e (f x)=true)(l:List α) (H):a0b 8 H (.lst (l.map f))=some (.lst (l.map f)):=by show gd (a0E (l.map f)) (some (PV.lst (l.map f)))=_;rw [a1y h]; rfl
theorem b3z (Z:Tabs B)(h:Txt xs):FnOK B 218 79 [a0P (a0M xs),a0B,a0Z,a0f] (.lst ((a0C xs).map c1z)):=
 a0W Z.bo (a0o B) b9V (t79 _ _) (λ H=>c2I (λ c=>rfl) _ H) (a0H ((b3y Z h).le (by decide)) a0m)
theorem c6u:∀ c∈a4L,a0X 0 ((wtF c).1+(wtF c).2.1+(wtF c).2.2)=true/\a3J (wtF c).2.1 0=false/\a3J (wtF c).2.2 0=false:=by decide
theorem a4d {S:List Int}(l:k<S.length):S.getD k 0∈S:=by rw [List.getD_eq_getElem?_getD,List.getElem?_eq_getElem l];exact List.getElem_mem l
theorem a4W (Z:Tabs B)(h:Txt xs):FnOK B 101 69 [.lst ((a0C xs).map c1z),.str "non-ignorable",i 1] (.lst ((a0C xs).map wV)):=by
 have e:=a0I (d8U (wX (a0C xs)) (wY (a0C xs)) (wZ (a0C xs))) (a2X (a1R h));rw [c5E,c0w];rw [<- c0w] at e ⊢;refine a0x Z.bo (a0o B) ?_ e (a0H (λ H=>rfl) (a0H (λ H=>rfl) (a3g λ k l=>λ H=>?_)))
 · show (a0E ((a0C xs).map c1z)&&_)=true;rw [a1y λ c=>rfl]; rfl
 · exact congrArg some (c6u _ (a2K h _ (a4d l))).1
end
theorem c1G:c2m K0 60 134 [] a0B=true:=by decide +kernel
theorem b6Z:c2m K0 60 135 [] a0Z=true:=by decide +kernel
def a9h (S:List Int):List Bool:=S.map λ c=>!decide ((wtF c).1=0)
theorem b3T:∀ S:List Int,b3U (a9h S) (λ k=>i (wX S k))=(L1 S).map .int
 | []=>rfl| c::S=>by
   have ih:=b3T S;show b3U ((!decide ((wtF c).1=0))::a9h S) (λ k=>i (wX (c::S) k))=List.map PV.int (List.filter (λ x=>!decide (x=0)) ((wtF c).1::S.map λ c=>(wtF c).1));rw [e2T];cases hd:decide ((wtF c).1=0) with
   | true=>exact ih| false=>show i (wtF c).1::b3U (a9h S) (λ k=>i (wX S k))=i (wtF c).1::(L1 S).map .int;rw [ih]
section
variable {B:Base}{xs:List Kd}
theorem a9k:∀ (p:List Bool)(x:Nat->Int),(∀ k,k < p.length->(!decide (x k=0))=p.getD k false)->OblE B (d1R x p)
 | [],_,_=>a0m| b::p,x,h=>a0H (λ H=>by rw [b4G,h 0 (e1P _)]; rfl) (a9k p _ λ k l=>h (k+1) (e1Z l))
theorem b8v (S) (k)(h:k<(a9h S).length):(!decide (wX S k=0))=(a9h S).getD k false:=by
 have l:k<S.length:=by unfold a9h at h;rwa [e0c] at h
 unfold wX a9h;rw [List.getD_eq_getElem?_getD,List.getD_eq_getElem?_getD,List.getElem?_map,List.getElem?_eq_getElem l];rfl
theorem b8i (h:k<(e0p n true).length):(e0p n true).getD k false=true:=by rw [e1v] at h;rw [List.getD_eq_getElem?_getD,List.getElem?_replicate,if_pos h];rfl
theorem a9I:∀ {xs:List Kd},(∀ x∈xs,x∈a0d)->a9h (a0C xs)∈a6u.pats xs.length
 | [],_=>e0X ..| x::xs,h=>by have ih:=a9I λ y m=>h y (e0Z _ m);have e:a9h (a0C (x::xs))=a9h (apK x)++a9h (a0C xs):=e0o;rw [e];exact e0j.mpr ⟨_,d3R x (h x (e0X ..)),e0e.mpr ⟨_,ih,rfl⟩⟩
theorem a9g (h:Txt xs):a9h (a0C xs)∈a6u:=e0j.mpr ⟨xs.length,by have:=h.2;exact (show xs.length∈e0f 4 from a1b (by lia)),a9I h.1⟩
theorem c4c:∀ p∈a6u,(p.count true,p.length)∈gnD:=by decide
theorem c6r:∀ S:List Int,(L1 S).length=(a9h S).count true
 | []=>rfl| c::S=>by
   have ih:=c6r S;show (List.filter (λ x=>!decide (x=0)) ((wtF c).1::S.map λ c=>(wtF c).1)).length=((!decide ((wtF c).1=0))::a9h S).count true;rw [e2T,List.count_cons];cases hd:decide ((wtF c).1=0) with
   | true=>exact ih| false=>show (L1 S).length+1=_;rw [ih];rfl
theorem c6O (h:Txt xs):((L1 (a0C xs)).length,(a0C xs).length)∈gnD:=by have:=c4c _ (a9g h);rw [<- c6r] at this;unfold a9h at this;rwa [e0c] at this
def wS (xs:List Kd):PV:=.lst ((a0C xs).map wV)
theorem b9S (l):a0E (wS xs::l)=a0E l:=by show (a0E ((a0C xs).map wV)&&a0E l)=_;rw [a1y λ c=>rfl]; rfl
theorem c6v:wS xs=.lst (a1h (we4 (wX (a0C xs)) (wY (a0C xs)) (wZ (a0C xs))) (a0C xs).length):=congrArg PV.lst (c5E _)
theorem b5s (Z:Tabs B)(h:Txt xs):FnOK B 101 71 [wS xs,a0f] (a0P (L1 (a0C xs))):=by have e:=a0I (t71 (wX (a0C xs)) (wY (a0C xs)) (wZ (a0C xs))) (a9g h);rw [b3T,show (a9h (a0C xs)).length=(a0C xs).length from e0c ..,<- c6v] at e;exact a0x Z.bo (a0o B) (by rw [b9S]; rfl) e (a9k _ _ λ k l=>b8v _ k l)
theorem b2x (F:Int->Int)(S:List Int):spI (λ k=>F (S.getD k 0)) S.length=(S.map F).map .int:=by unfold spI;rw [a1c,e1H];exact (a1g (λ c=>PV.int (F c)) 0 S).symm
theorem b1F (Z:Tabs B)(h:Txt xs):FnOK B 101 72 [wS xs,a0f] (a0P (L2 (a0C xs))):=by have e:=a0I (t72 (wX (a0C xs)) (wY (a0C xs)) (wZ (a0C xs))) (a2X (a1R h));rw [<- c6v,show spI (wY (a0C xs)) (a0C xs).length=(L2 (a0C xs)).map .int from b2x (λ c=>(wtF c).2.1) _] at e;refine a0x Z.bo (a0o B) (by rw [b9S]; rfl) e (a9k _ _ λ k l=>?_);rw [b8i l];rw [e1v] at l;rw [show decide (wY (a0C xs) k=0)=false from (a1L _ _).symm.trans (c6u _ (a2K h _ (a4d l))).2.1];rfl
theorem b4e (Z:Tabs B)(h:Txt xs):FnOK B 101 74 [wS xs,a0f] (a0P (L3 (a0C xs))):=by have e:=a0I (t74 (wX (a0C xs)) (wY (a0C xs)) (wZ (a0C xs))) (a2X (a1R h));rw [<- c6v,show spI (wZ (a0C xs)) (a0C xs).length=(L3 (a0C xs)).map .int from b2x (λ c=>(wtF c).2.2) _] at e;refine a0x Z.bo (a0o B) (by rw [b9S]; rfl) e (a9k _ _ λ k l=>?_);rw [b8i l];rw [e1v] at l;rw [show decide (wZ (a0C xs) k=0)=false from (a1L _ _).symm.trans (c6u _ (a2K h _ (a4d l))).2.2];rfl
def a5i (xs:List Kd):PV:=.lst [a0P (L1 (a0C xs)),a0P (L2 (a0C xs)),a0P (L3 (a0C xs))]
def a1r (S:List Int):List Int:=L1 S++(0::(L2 S++(0::L3 S)))
theorem c6p (S):(L2 S).length=S.length:=e0c ..
theorem c6n (S):(L3 S).length=S.length:=e0c ..
theorem b6y (Z:Tabs B)(h:Txt xs):FnOK B 111 76 [wS xs,a0f] (a5i xs)/\FnOK B 121 78 [wS xs,a0f,.none] (a0P (a1r (a0C xs))):=by
 obtain ⟨f,hf⟩:=a0u (L1 (a0C xs));obtain ⟨g,hg⟩:=a0u (L2 (a0C xs));obtain ⟨k,hk⟩:=a0u (L3 (a0C xs));rw [c6p] at hg;rw [c6n] at hk;have e:=a0I (t76 ((a0C xs).map wV) f g k) (c6O h);have e2:=a0I (t78 ((a0C xs).map wV) f g k) (c6O h);have el:d1v f g k ((L1 (a0C xs)).length,(a0C xs).length)=a5i xs:=by unfold d1v a5i a0P;rw [hf,hg,hk]
 rw [el] at e e2;dsimp only at e e2;rw [<- hf,<- hg,<- hk] at e e2;have F:FnOK B 111 76 [wS xs,a0f] (a5i xs):=a0x Z.bo (a0o B) (by rw [b9S]; rfl) e (a0H ((b5s Z h).le (by decide)) (a0H ((b1F Z h).le (by decide)) (a0H ((b4e Z h).le (by decide)) a0m)));refine ⟨F,?_⟩;have ek:a0P (a1r (a0C xs))=.lst ((L1 (a0C xs)).map .int++(i 0::((L2 (a0C xs)).map .int++(i 0::(L3 (a0C xs)).map .int)))):=by unfold a0P a1r;simp only [e0o,e0v]
 rw [ek];exact a0x Z.bo (a0o B) (by rw [b9S]; rfl) e2 (a0H (F.le (by decide)) a0m)
theorem b1r (Z:Tabs B)(h:Txt xs):FnOK B 226 80 [a0P (a0M xs),a0B,a0Z,a0f] (a0P (a1r (a0C xs))):=
 a0W Z.bo (a0o B) b9V (t80 _ _ _ _) (λ H=>a1U H _) (a0H ((b3z Z h).le (by decide)) (a0H ((a4W Z h).le (by decide)) (a0H ((b6y Z h).2.le (by decide)) a0m)))
theorem c6A (Z:Tabs B)(h:Txt xs):FnOK B 111 77 [wS xs,i (.ofNat 0),a0f] (a0P (L1 (a0C xs)))/\FnOK B 111 77 [wS xs,i (.ofNat 1),a0f] (a0P (L2 (a0C xs)))/\FnOK B 111 77 [wS xs,i (.ofNat 2),a0f] (a0P (L3 (a0C xs)))/\FnOK B 111 77 [wS xs,i 3,a0f] .none:=by have g:=λ a=>t77 ((a0C xs).map wV) a;simp only [e0v,e2C,List.cons.injEq,and_true] at g;refine ⟨a0W Z.bo (a0o B) (by rw [b9S]; rfl) (g _).1 (λ H=>a1U H _) (a0H ((b5s Z h).le (by decide)) a0m),a0W Z.bo (a0o B) (by rw [b9S]; rfl) (g _).2.1 (λ H=>a1U H _) (a0H ((b1F Z h).le (by decide)) a0m),a0W Z.bo (a0o B) (by rw [b9S]; rfl) (g _).2.2 (λ H=>a1U H _) (a0H ((b4e Z h).le (by decide)) a0m),a0W Z.bo (a0o B) (by rw [b9S]; rfl) (d9H _) (λ H=>rfl) a0m⟩
def b2P (S T:List Int):Int:=match a1z (L1 S) (L1 T) with
 | 0=>match a1z (L2 S) (L2 T) with
   | 0=>a1z (L3 S) (L3 T)| t=>t
 | t=>t
theorem a1Y:∀ a b:List Int,a1z a b=0 \/ a1z a b∈a2f
 | [],[]=>.inl rfl| [],_::_=>.inr (e0X ..)| _::_,[]=>.inr (e0Z _ (e0X ..))| x::a,y::b=>by
   unfold a1z;cases decide (x=y) with
   | true=>exact a1Y a b| false=>cases a0X x y with
     | true=>exact .inr (e0X ..)| false=>exact .inr (e0Z _ (e0X ..))
end
section
variable {B:Base}{xs ys:List Kd}
theorem d3b (h:Txt xs):(L1 (a0C xs)).length<10:=by
 have:=a1R h;have:(L1 (a0C xs)).length<=(a0C xs).length:=by unfold L1;have:=List.length_filter_le (λ x=>!decide (x=0)) ((a0C xs).map λ c=>(wtF c).1);rwa [e0c] at this
 lia
theorem d3a (h:Txt xs):(L2 (a0C xs)).length<10:=by rw [c6p]; have:=a1R h; lia
theorem d3Z (h:Txt xs):(L3 (a0C xs)).length<10:=by rw [c6n]; have:=a1R h; lia
theorem ne0 (h:t∈a2f):∀ {α:Type}(a b:α),(match t with | 0=>a | _=>b)=b:=by intro α a b;unfold a2f at h;simp only [e0d,e0b,or_false] at h;rcases h with rfl | rfl <;> rfl
theorem b2O (S T):(a1z (L1 S) (L1 T)∈a2f /\ b2P S T=a1z (L1 S) (L1 T)) \/ (a1z (L1 S) (L1 T)=0 /\ a1z (L2 S) (L2 T)∈a2f /\ b2P S T=a1z (L2 S) (L2 T)) \/
 (a1z (L1 S) (L1 T)=0/\a1z (L2 S) (L2 T)=0/\a1z (L3 S) (L3 T)∈a2f/\b2P S T=a1z (L3 S) (L3 T))\/(a1z (L1 S) (L1 T)=0/\a1z (L2 S) (L2 T)=0/\a1z (L3 S) (L3 T)=0/\b2P S T=0):=by
 unfold b2P;generalize a1Y (L1 S) (L1 T)=h1;generalize a1Y (L2 S) (L2 T)=h2;generalize a1Y (L3 S) (L3 T)=h3;generalize a1z (L1 S) (L1 T)=a at *;generalize a1z (L2 S) (L2 T)=b at *;generalize a1z (L3 S) (L3 T)=c at *;have g:∀ {t:Int},t∈a2f->t=-1\/t=1:=λ h=>by unfold a2f at h;simpa only [e0d,e0b,or_false] using h
 rcases h1 with rfl | h1
 · rcases h2 with rfl | h2
   · rcases h3 with rfl | h3
     · exact .inr (.inr (.inr ⟨rfl,rfl,rfl,rfl⟩))
     · exact .inr (.inr (.inl ⟨rfl,rfl,h3,rfl⟩))
   · refine .inr (.inl ⟨rfl,h2,?_⟩);rcases g h2 with rfl | rfl <;> rfl
 · refine .inl ⟨h1,?_⟩;rcases g h1 with rfl | rfl <;> rfl
theorem b9j (Z:Tabs B)(h1:FnOK B 111 77 [W,i (.ofNat k),a0f] (a0P a))(h2:FnOK B 111 77 [V,i (.ofNat k),a0f] (a0P b))(la:a.length<10)(lb:b.length<10)(hw:W=.lst w)(hv:V=.lst v):OblE B (lvl w (a.map .int) v (b.map .int) k (a1z a b)):=by subst hw hv;exact a0H (h1.le (by decide)) (a0H (h2.le (by decide)) (a0H ((c9V Z.bo la lb).le (by decide)) a0m))
theorem d7J (Z:Tabs B)(h:Txt xs)(k:Txt ys):FnOK B 121 82 [wS xs,wS ys,a0f] (i (b2P (a0C xs) (a0C ys))):=by
 obtain ⟨x1,x2,x3,x4⟩:=c6A Z h;obtain ⟨y1,y2,y3,y4⟩:=c6A Z k;have nl:a0E [wS xs,wS ys,a0f]=true:=by rw [b9S,b9S]; rfl
 have o1:=b9j Z x1 y1 (d3b h) (d3b k) rfl rfl;have o2:=b9j Z x2 y2 (d3a h) (d3a k) rfl rfl;have o3:=b9j Z x3 y3 (d3Z h) (d3Z k) rfl rfl;rcases b2O (a0C xs) (a0C ys) with ⟨m,e⟩ | ⟨z1,m,e⟩ | ⟨z1,z2,m,e⟩ | ⟨z1,z2,z3,e⟩
 · rw [e];exact a0W Z.bo (a0o B) nl (a0I (d8t ((a0C xs).map wV) ((a0C ys).map wV) ((L1 (a0C xs)).map .int) ((L1 (a0C ys)).map .int)) m) (λ H=>rfl) o1
 · rw [e];rw [z1] at o1;exact a0W Z.bo (a0o B) nl (a0I (d8s ((a0C xs).map wV) ((a0C ys).map wV) ((L1 (a0C xs)).map .int) ((L1 (a0C ys)).map .int) ((L2 (a0C xs)).map .int) ((L2 (a0C ys)).map .int)) m) (λ H=>rfl) (a1O o1 o2)
 · rw [e];rw [z1] at o1;rw [z2] at o2;exact a0W Z.bo (a0o B) nl (a0I (d8r ((a0C xs).map wV) ((a0C ys).map wV) ((L1 (a0C xs)).map .int) ((L1 (a0C ys)).map .int) ((L2 (a0C xs)).map .int) ((L2 (a0C ys)).map .int) ((L3 (a0C xs)).map .int) ((L3 (a0C ys)).map .int)) m) (λ H=>rfl) (a1O o1 (a1O o2 o3))
 · rw [e];rw [z1] at o1;rw [z2] at o2;rw [z3] at o3;exact a0W Z.bo (a0o B) nl (d8q ((a0C xs).map wV) ((a0C ys).map wV) ((L1 (a0C xs)).map .int) ((L1 (a0C ys)).map .int) ((L2 (a0C xs)).map .int) ((L2 (a0C ys)).map .int) ((L3 (a0C xs)).map .int) ((L3 (a0C ys)).map .int)) (λ H=>rfl) (a1O o1 (a1O o2 (a1O o3 (a0H (x4.le (by decide)) (a0H (y4.le (by decide)) a0m)))))
theorem c0y (S T):b2P S T∈([-1,0,1]:List Int):=by
 have g:∀ {t:Int},t∈a2f->t∈([-1,0,1]:List Int):=λ h=>by unfold a2f at h;simp only [e0d,e0b,or_false] at h;rcases h with rfl | rfl <;> decide
 rcases b2O S T with ⟨m,e⟩ | ⟨_,m,e⟩ | ⟨_,_,m,e⟩ | ⟨_,_,_,e⟩
 · rw [e]; exact g m
 · rw [e]; exact g m
 · rw [e]; exact g m
 · rw [e]; decide
theorem a9F (Z:Tabs B)(h:Txt xs)(k:Txt ys):FnOK B 226 83 [a0P (a0M xs),a0P (a0M ys),a0B,a0Z,a0f] (i (b2P (a0C xs) (a0C ys))):=
 a0W Z.bo (a0o B) (by rw [a0N,a0N]; rfl) (a0I (t83 ((a0M xs).map .int) ((a0M ys).map .int) ((a0C xs).map c1z) ((a0C ys).map c1z) ((a0C xs).map wV) ((a0C ys).map wV)) (c0y _ _)) (λ H=>rfl)
  (a0H ((b3z Z h).le (by decide)) (a0H ((a4W Z h).le (by decide)) (a0H ((b3z Z k).le (by decide)) (a0H ((a4W Z k).le (by decide)) (a0H ((d7J Z h k).le (by decide)) a0m)))))
end
def c9o:AEnv:=aeK 84 [("options",4),("table",3),("data",2),("texts",1)]
def c84 (a b:List PV):List PO:=[.cell (some (.lst [.lst a,.lst b])),.cell (some a0B),.cell (some a0Z),.cell (some a0f)]
def d7t (a b:List PV):List PO:=.fr [] []::c84 a b
def h84 (a b:List PV)(L:List PV):List PO:=.fr ["keys"] [.loc 5]::(c84 a b++[.list L,.opq])
def kr (k:List PV)(n:Int):PV:=.tup [.lst k,i n]
theorem d8j (t):a2N (pmK 84) (dfK 84) [t,a0B,a0Z,a0f]=(some [("texts",t),("data",a0B),("table",a0Z),("options",a0f)]:Option (List (Str×PV))):=by kernel_rfl
theorem d8n (a b) (hs):(enter true (scK 84) [] [("texts",.lst [.lst a,.lst b]),("data",a0B),("table",a0Z),("options",a0f)] ⟨[],hs⟩).map a0S=some (c9o,⟨d7t a b,hs⟩,[],true):=by kernel_rfl
theorem d8p (a b k l):((rk K0 231).s (stm 84 0) c9o ⟨d7t a b,[.val (.lst k),.val (.lst l)]⟩).map a0S=some (.next,⟨h84 a b [kr k 0,kr l 1],[]⟩,[.fn 227 80 [.lst a,a0B,a0Z,a0f] (.lst k),.fn 227 80 [.lst b,a0B,a0Z,a0f] (.lst l)],true):=by kernel_rfl
theorem d8i:fnB 84=[stm 84 0]++([stm 84 1]++(fnB 84).drop 2):=by kernel_rfl
def c5a (H:List PO)(f:Fl):Option (List PV):=match f with
 | .ret v=>ob (a5S v) λ j=>ob H[j]? a5T| _=>none
def d1o (y:Fl×St×Obs):Option (List PV)×List Ob×Bool:=(c5a y.2.1.H y.1,y.2.2.ps.map obE,e0m y.2.2.sz 1000)
theorem c5K (n) (H) (L):a0b (n+1) H (a0P L)=some (a0P L):=by show gd (a0E (L.map .int)) (some (PV.lst (L.map .int)))=_;rw [a0O];rfl
theorem c5J (H) (a b):a1F (a0b 7 H) [a0P a,a0P b]=some [a0P a,a0P b]:=by dsimp only [a1F];rw [c5K 6 H a,c5K 6 H b];rfl
theorem Run.ofL {st:St}(h:(m st).map d1o=some (some l,p,true))(O:OblE B p)(ht:∀ H,a1F (a0b 7 H) l=some l):Run B m st (a9O (.lst l)):=by
 obtain ⟨⟨f,s,ob⟩,e,hh⟩:=e1C.mp h;have z:=Prod.mk.inj hh;have z2:=Prod.mk.inj z.2;refine ⟨_,s,ob.ps,⟨ob.sz,e,e0t z2.2⟩,OblE.of (z2.1▸O),?_⟩;have h1:c5a s.H f=some l:=z.1;cases f with
 | ret v=>
   refine oE (show Internal.ob (a5S v) (λ j=>Internal.ob s.H[j]? a5T)=some l from h1) λ j hj h1=>oE h1 λ o ho h1=>⟨v,rfl,?_⟩
   rw [a2c hj];rw [a1x h1] at ho;show Internal.ob s.H[j]? (λ o=>b6Y (a1F (a0b 7 s.H)) s.H o)=_;rw [ho];show Internal.ob (a1F (a0b 7 s.H) l) (λ l'=>some (PV.lst l'))=_;rw [ht];rfl
 | _=>exact nx0 h1
theorem d8m (a b k l):[(0,1),(1,0)].map (λ u=>((a0a (rk K0 231) c9o ((fnB 84).drop 2)) ⟨h84 a b [kr k (.ofNat u.1),kr l (.ofNat u.2)],[]⟩).map d1o)=[some (some [.lst a,.lst b],[],true),some (some [.lst b,.lst a],[],true)]:=by kernel_rfl
noncomputable def d0m (s:Stmt):Expr:=match s with
 | .Expr e _=>e| _=>default
noncomputable def d8O (e:Expr):Expr:=match e with
 | .Call a _ _ _=>a| _=>default
noncomputable def d8Q (e:Expr):Expr×Str:=match e with
 | .Attribute o x _=>(o,x)
 | _=>(default,default)
def oS:Expr:=(d8Q (d8O (d0m (stm 84 1)))).1
def xS:Str:=(d8Q (d8O (d0m (stm 84 1)))).2
theorem d8k (a b L):((rk K0 229).e oS c9o ⟨h84 a b L,[]⟩).map a0S=some (.loc 5,⟨h84 a b L,[]⟩,[],true):=by kernel_rfl
theorem d8l (a b L):b8a (h84 a b L) (.loc 5) xS.cps.toList=some .sort:=by kernel_rfl
theorem Run.big0 {α:Type}{m:Ev α}{Q:α->St->Prop}(r:Run B m ⟨H,[]⟩ Q):Run B (Ev.big m) ⟨H,[]⟩ Q:=r
noncomputable def c9v (r:Bool)(p q:PV):List PV:=match r with
 | true=>[q,p]
 | false=>[p,q]
section
variable {B:Base}
theorem Run.rd {α:Type}{f:List PO->Option α}{st:St}{a:α}{Q:α->St->Prop}(h:f st.H=some a)(q:Q a st):Run B (Ev.rd f) st Q:=by refine ⟨a,st,[],⟨0,?_,by decide⟩,a0V,q⟩;unfold Ev.rd;rw [h];rfl
theorem Run.up {α:Type}{f:List PO->Option (α×List PO×Nat)}{st:St}{a:α}{Q:α->St->Prop}(h:f st.H=some (a,H,n))(hn:n<=1000)(q:Q a { st with H:=H }):Run B (Ev.up f) st Q:=by refine ⟨a,{ st with H:=H },[],⟨n,?_,hn⟩,a0V,q⟩;unfold Ev.up;rw [h];exact a4B ..
theorem d8o:(rk K0 231).s (stm 84 1) c9o=Ev.bind (a6W (rk K0 229) c9o oS xS []) λ v=>gE' (c6G v) (Ev.ret .next):=by kernel_rfl
theorem d0n (h:∀ H,lt2 H (kr l 1) (kr k 0)=some r) :
 Run B ((rk K0 231).s (stm 84 1) c9o) ⟨h84 a b [kr k 0,kr l 1],[]⟩ (λ f s=>f=.next/\s=⟨h84 a b (c9v r (kr k 0) (kr l 1)),[]⟩):=by
 rw [d8o];refine Run.bind (Q:=λ v s=>v=.none/\s=⟨h84 a b (c9v r (kr k 0) (kr l 1)),[]⟩) ?_ ?_
 · unfold a6W;refine Run.bind (Run.of (d8k a b _) a0V (Q:=λ v s=>v=.loc 5/\s=⟨h84 a b [kr k 0,kr l 1],[]⟩) ⟨rfl,rfl⟩) ?_;rintro v s ⟨rfl,rfl⟩;refine Run.bind (Run.rd (a:=none) rfl (Q:=λ v s=>v=none/\s=⟨h84 a b [kr k 0,kr l 1],[]⟩) ⟨rfl,rfl⟩) ?_;rintro v s ⟨rfl,rfl⟩;refine Run.bind (Run.rd (a:=.sort) (d8l a b _) (Q:=λ v s=>v=.sort/\s=⟨h84 a b [kr k 0,kr l 1],[]⟩) ⟨rfl,rfl⟩) ?_;rintro v s ⟨rfl,rfl⟩;refine Run.bind (m:=Ev.ret []) (Run.ret (Q:=λ v s=>v=[]/\s=⟨h84 a b [kr k 0,kr l 1],[]⟩) ⟨rfl,rfl⟩) ?_;rintro v s ⟨rfl,rfl⟩;refine Run.big0 (m:=a5Q .sort (.loc 5) []) ?_;refine Run.up (f:=λ H=>gd (c3g []) (d0o H (.loc 5))) (a:=PV.none) (H:=h84 a b (c9v r (kr k 0) (kr l 1))) (n:=2) (Q:=λ v s=>v=.none/\s=⟨h84 a b (c9v r (kr k 0) (kr l 1)),[]⟩) ?_ (by decide) ⟨rfl,rfl⟩;have e:=h ((h84 a b [kr k 0,kr l 1]).set 5 (.list []));show Internal.ob (lt2 ((h84 a b [kr k 0,kr l 1]).set 5 (.list [])) (kr l 1) (kr k 0)) (λ c=>some (PV.none,(h84 a b [kr k 0,kr l 1]).set 5 (.list (bc c [kr l 1,kr k 0] [kr k 0,kr l 1])),2))=_;rw [e];cases r <;> rfl
 · rintro v s ⟨rfl,rfl⟩;unfold gE';exact Run.ret ⟨rfl,rfl⟩
theorem c8K (H)(a b:List Int):lt2 H (kr (b.map .int) 1) (kr (a.map .int) 0)=some (ltI b a):=by
 have e:b1m (a5X H 4) (c5d H 4) (b.map .int) (a.map .int)=some (ltI b a):=a9q (f:=.int) (λ x y=>a4s H 3 x y) (λ _ _=>rfl) b a;rw [show lt2 H (kr (b.map .int) 1) (kr (a.map .int) 0)=Internal.ob (a5X H 5 (a0P b) (a0P a)) (λ c=>bc c (some false) (b1m (a5X H 4) (c5d H 4) (b.map .int) (a.map .int))) by kernel_rfl,a3e,e];cases hd:decide (b=a) with
 | false=>rfl| true=>
   have:=of_decide_eq_true hd;subst this;show some false=_;have:∀ l:List Int,ltI l l=false:=by
    intro l;induction l with
    | nil=>rfl| cons x l ih=>show (match decide (x=x) with | true=>ltI l l | false=>a0X x x)=false;rw [decide_eq_true rfl];exact ih
   rw [this]
theorem d1Y (a b) (l):a0E (.lst [a0P a,a0P b]::l)=a0E l:=by show (a0E [a0P a,a0P b]&&a0E l)=_;rw [a0N,a0N];rfl
theorem b4F (Z:Tabs B)(h:Txt xs)(k:Txt ys) :
 FnOK B 233 84 [.lst [a0P (a0M xs),a0P (a0M ys)],a0B,a0Z,a0f] (.lst (c9v (ltI (a1r (a0C ys)) (a1r (a0C xs))) (a0P (a0M xs)) (a0P (a0M ys)))):=by
 refine a0t Z.bo (a0o B) (n:=231) (hs:=[.val (a0P (a1r (a0C xs))),.val (a0P (a1r (a0C ys)))]) (by rw [d1Y]; rfl) rfl (d8j _) (d8n _ _ _) a0V ?_;rw [d8i];refine Run.one (d8p _ _ _ _) (OblL.cons ((b1r Z h).le (by decide)) (OblL.one ((b1r Z k).le (by decide)))) (Run.cons ((d0n λ H=>c8K H _ _).mono ?_));rintro f s ⟨rfl,rfl⟩;refine ⟨rfl,?_⟩;have e:=d8m ((a0M xs).map .int) ((a0M ys).map .int);cases ltI (a1r (a0C ys)) (a1r (a0C xs)) with
 | false=>have e:=e ((a1r (a0C xs)).map .int) ((a1r (a0C ys)).map .int);simp only [e0v,e2C,List.cons.injEq,and_true] at e;exact Run.ofL e.1 a0m λ H=>c5J H _ _| true=>have e:=e ((a1r (a0C ys)).map .int) ((a1r (a0C xs)).map .int);simp only [e0v,e2C,List.cons.injEq,and_true] at e;exact Run.ofL e.2 a0m λ H=>c5J H _ _
end
noncomputable def a4I (c:Int):List Nat:=match c with
 | 769=>[204,129]
 | 803=>[204,163]
 | 201=>[195,137]
 | 233=>[195,169]
 | 7864=>[225,186,184]
 | 7865=>[225,186,185]
 | c=>[c.toNat]
def a3S (c:Int):List Int:=(a4I c).map Int.ofNat
def T8:List (Nat×List Ent):=[(109,a0J.map λ c=>([i c],a0P (a3S c))),(12,a0J.map λ c=>([i c],.bool true))]
theorem c7F:a1o K0 100 T8=true:=by decide +kernel
@[irreducible] noncomputable def a7T (t:PV)(L:List PV):List PO:=[.fr ["text", "found"] [t,.loc 1],.list L]
@[irreducible] noncomputable def c0b (t c:PV)(L:List PV):List PO:=[.fr ["text", "found", "code"] [t,.loc 1,c],.list L]
def d3g (x:PV):Ev Fl:=b0Z (rk K0 130) (aeK 110) (stm 110 1) x
abbrev e0U:=Option (Fl×St×List Ob×Bool)
noncomputable def b0G (o:List PV):List Hint:=[.val (.bool true),.val (.lst o)]
@[irreducible] def a7o (c:Int)(o:List PV)(H:List PO)(v:PV)(hs:List Hint):e0U:=(d3g (i c) ⟨H,b0G o++.val v::hs⟩).map a0S
theorem b4M (c) (o) (H) (v) (hs):(d3g (i c) ⟨H,b0G o++.val v::hs⟩).map a0S=a7o c o H v hs:=by rw [a7o]
def b9H (c:Int)(o:List PV):List Ob:=[.fn 124 12 [i c] (.bool true),.fn 125 109 [i c] (.lst o)]
noncomputable def c6Y:List (Nat×Nat):=[1,2,3].flatMap λ m=>(e0f (16-m)).map λ n=>(n,m)
theorem d5v (t) (c) (g) (v) (hs):[1,2,3].map (λ m=>a7o c (spI g m) (a7T t []) v hs)=[1,2,3].map λ m=>some (.next,⟨c0b t (i c) (spI g m),.val v::hs⟩,b9H c (spI g m),true):=by kernel_rfl
theorem d5u (t u) (c) (f g) (v) (hs):c6Y.map (λ x=>a7o c (spI g x.2) (c0b t u (spI f x.1)) v hs)=c6Y.map λ x=>some (.next,⟨c0b t (i c) (spI f x.1++spI g x.2),.val v::hs⟩,b9H c (spI g x.2),true):=by kernel_rfl
noncomputable def d2g (t:PV):List PO:=[.fr ["text"] [t]]
theorem d5t (t) (hs):(enter true (scK 110) [] [("text",t)] ⟨[],hs⟩).map a0S=some (aeK 110,⟨d2g t,hs⟩,[],true):=by kernel_rfl
theorem d5r (t) (hs):((rk K0 131).s (stm 110 0) (aeK 110) ⟨d2g t,hs⟩).map a0S=some (.next,⟨a7T t [],hs⟩,[],true):=by kernel_rfl
theorem d5s (f) (hs):ten.map (λ n=>(a1w (rk K0 130) (aeK 110) (a7Y (stm 110 1)) (b0M (stm 110 1)) ⟨a7T (.lst (spI f n)) [],hs⟩).map a0S) =
 ten.map λ n=>some (.stat (spI f n),⟨a7T (.lst (spI f n)) [],hs⟩,[],true):=by kernel_rfl
theorem d5l:fnB 110=[stm 110 0]++([stm 110 1]++[stm 110 2]):=by kernel_rfl
theorem d5q (t):a2N (pmK 110) (dfK 110) [t]=(some [("text",t)]:Option (List (Str×PV))):=by kernel_rfl
noncomputable def fE (s:Stmt):Expr:=match s with
 | .Return (some (.Call f _ _ _)) _=>f| _=>default
noncomputable def arE (s:Stmt):Expr:=match s with
 | .Return (some (.Call _ (a::_) _ _)) _=>a| _=>default
def d7L (r:Rc)(ae:AEnv)(s:Stmt):Ev Fl:=Ev.bind (Ev.bind (r.e (fE s) ae) λ fv=>Ev.bind (evs r ae [arE s]) λ vs=>c4k r fv vs) λ v=>Ev.ret (.ret v)
section
variable {B:Base}
theorem Run.retBytes {st:St}(h:m=d7L r ae s)
 (h1:(r.e (fE s) ae st).map a0S=some (.typ "bytes",st,[],true)) (h2:(evs r ae [arE s] st).map a0S=some ([.loc j],st,[],true)) (hl:a1v st.H (.loc j)=some L) (hb:a3O L=some b) :
 Run B m st (a9O (.bytes b)):=
 h▸Run.bind (Q:=λ v _=>v=.bytes b) (Run.bind (Q:=λ v s=>v=.typ "bytes" /\ s=st) (Run.of h1 a0V ⟨rfl,rfl⟩) λ _ _ e=>e.1▸e.2▸Run.bind (Q:=λ v s=>v=[.loc j] /\ s=st) (Run.of h2 a0V ⟨rfl,rfl⟩) λ _ _ e=>e.1▸e.2 ▸
  (show c4k r (.typ "bytes") [.loc j]=Ev.rd (λ H=>ob (a1v H (.loc j)) λ l=>ob (a3O l) λ b=>some (PV.bytes b)) by kernel_rfl)▸Run.rd (a:=.bytes b) (show ob (a1v st.H (.loc j)) (λ l=>ob (a3O l) λ b=>some (PV.bytes b))=_ by rw [hl]; show ob (a3O L) _=_; rw [hb]; rfl) rfl) λ v s e=>by subst e; exact Run.ret ⟨_,rfl,rfl⟩
end
theorem a4i:∀ {l:List Nat},(∀ n∈l,n < 256)->a3O (l.map λ n=>.int (.ofNat n))=some l
 | [],_=>rfl| n::l,h=>by show gd (e0g n 256) (ob (a3O (l.map λ n=>.int (.ofNat n))) λ l=>some (n::l))=_;rw [a4i λ m x=>h m (e0Z _ x),show e0g n 256=true from e2b (h n (e0X ..))];rfl
theorem d0f:(rk K0 131).s (stm 110 2) (aeK 110)=d7L (rk K0 129) (aeK 110) (stm 110 2):=by kernel_rfl
theorem d5p (t u) (L) (hs):((rk K0 129).e (fE (stm 110 2)) (aeK 110) ⟨c0b t u L,hs⟩).map a0S=some (.typ "bytes",⟨c0b t u L,hs⟩,[],true):=by kernel_rfl
theorem d5o (t u) (L) (hs):(evs (rk K0 129) (aeK 110) [arE (stm 110 2)] ⟨c0b t u L,hs⟩).map a0S=some ([.loc 1],⟨c0b t u L,hs⟩,[],true):=by kernel_rfl
theorem d5n (t) (L) (hs):((rk K0 129).e (fE (stm 110 2)) (aeK 110) ⟨a7T t L,hs⟩).map a0S=some (.typ "bytes",⟨a7T t L,hs⟩,[],true):=by kernel_rfl
theorem d5m (t) (L) (hs):(evs (rk K0 129) (aeK 110) [arE (stm 110 2)] ⟨a7T t L,hs⟩).map a0S=some ([.loc 1],⟨a7T t L,hs⟩,[],true):=by kernel_rfl
def a4A (cs:List Int):List Hint:=cs.flatMap (λ c=>b0G ((a3S c).map .int))++[.val .none]
theorem b2D:∀ cs:List Int,∃ v hs,a4A cs=.val v::hs
 | []=>⟨_,_,rfl⟩
 | c::cs=>⟨_,_,rfl⟩
def d7U (t:PV)(L:List Int)(H:List PO):Prop:=(L=[]/\H=a7T t []) \/ ∃ u,H=c0b t u (L.map .int)
theorem b1X:∀ c∈a0J,(a3S c).length∈[1,2,3] /\ ∀ n∈a4I c,n<256:=by decide
section
variable {B:Base}{t:PV}{H:List PO}{L:List Int}{v:PV}{hs:List Hint}
theorem e0S (hc:c∈a0J)(hl:L.length+(a3S c).length<=15)(h:d7U t L H):a7o c ((a3S c).map .int) H v hs=some (.next,⟨c0b t (i c) ((L++a3S c).map .int),.val v::hs⟩,b9H c ((a3S c).map .int),true):=by
 have hm:=(b1X c hc).1;obtain ⟨g,hg⟩:=a0u (a3S c);rcases h with ⟨rfl,rfl⟩ | ⟨u,rfl⟩
 · rw [e1V,hg];exact a0I (d5v t c g v hs) hm
 · obtain ⟨f,hf⟩:=a0u L;rw [e0o,hf,hg];exact a0I (d5u t u c f g v hs) (x:=(L.length,(a3S c).length)) (e0j.mpr ⟨_,hm,e0e.mpr ⟨_,a1b (by lia),rfl⟩⟩)
theorem d3W (T:TabOK B 101 T8)(h:c∈a0J):FnOK B 101 109 [i c] (a0P (a3S c)):=T _ (e0X ..) ([i c],a0P (a3S c)) (e0e.mpr ⟨c,h,rfl⟩)
theorem d7T (T:TabOK B 101 T8)(h:c∈a0J):FnOK B 101 12 [i c] (.bool true):=T _ (e0Z _ (e0X ..)) ([i c],.bool true) (e0e.mpr ⟨c,h,rfl⟩)
theorem b9s (T:TabOK B 101 T8):∀ {cs:List Int}{L:List Int}{H:List PO},(∀ c∈cs,c∈a0J)->L.length + (cs.flatMap a3S).length <= 15->d7U t L H ->
 Run B (a0R d3g (cs.map .int)) ⟨H,a4A cs⟩ (λ f s=>f=.next /\ ∃ H',s=⟨H',[.val .none]⟩/\d7U t (L++cs.flatMap a3S) H')
 | [],L,H,_,_,h=>Run.ret ⟨rfl,H,rfl,by rw [e2B,e0k]; exact h⟩| c::cs,L,H,hc,hl,h=>by
   have h0:=hc c (e0X ..);rw [e1O,e0a] at hl;have e:a4A (c::cs)=b0G ((a3S c).map .int)++a4A cs:=rfl;obtain ⟨v,hs,hh⟩:=b2D cs;rw [e,hh];show Run B (Ev.bind (d3g (PV.int c)) _) _ _;refine Run.bind (Q:=λ f s=>f=.next/\s=_) (Run.of ((b4M c _ H _ _).trans (e0S h0 (by lia) h)) ?_ ⟨rfl,rfl⟩) ?_
   · exact OblL.cons ((d7T T h0).le (by decide)) (OblL.one ((d3W T h0).le (by decide)))
   · rintro f s ⟨rfl,rfl⟩;have:=b9s T (cs:=cs) (L:=L++a3S c) (H:=c0b t (i c) ((L++a3S c).map .int)) (λ c m=>hc c (e0Z _ m)) (by rw [e0a]; lia) (.inr ⟨_,rfl⟩);rw [e0h] at this;rw [<- hh];exact this
def a0y (cs:List Int):List Nat:=cs.flatMap a4I
theorem b0h:∀ cs:List Int,(cs.flatMap a3S).map PV.int=(a0y cs).map λ n=>.int (.ofNat n)
 | []=>rfl| c::cs=>by rw [e1O,e0o,b0h cs,show a0y (c::cs)=a4I c++a0y cs from rfl,e0o];unfold a3S;rw [e1H];rfl
theorem c5I (h:∀ c∈cs,c∈a0J):∀ n∈a0y cs,n<256:=λ n m=>by obtain ⟨c,hc,hn⟩:=e0j.mp m;exact (b1X c (h c hc)).2 n hn
theorem c0v (BO:BaseOK2 B)(T:TabOK B 101 T8)(hc:∀ c∈cs,c∈a0J)(h9:cs.length<=9)(hl:(cs.flatMap a3S).length<=15):FnOK B 133 110 [a0P cs] (.bytes (a0y cs)):=by
 refine a0t BO (a0o B) (n:=131) (hs:=a4A cs) (by rw [a0N]; rfl) rfl (d5q _) (d5t _ _) a0V ?_;rw [d5l];refine Run.one (d5r _ _) a0V (Run.cons ?_);obtain ⟨f,hf⟩:=a0u cs;have e:=a0I (d5s f (a4A cs)) (a2X h9);rw [<- hf] at e;refine Run.for rfl e a0V ?_;show Run B (a0R d3g (cs.map .int)) ⟨a7T (a0P cs) [],_⟩ _;generalize a0P cs=t;refine (b9s T (L:=[]) hc (by rw [e1K]; lia) (.inl ⟨rfl,rfl⟩)).mono ?_;rintro f s ⟨rfl,H,rfl,h⟩;refine ⟨rfl,Run.consR ?_⟩;have hb:=a4i (c5I hc);rw [<- b0h] at hb;rw [e1V] at h;have fin:∀ {j:Nat},Run B ((rk K0 131).s (stm 110 2) (aeK 110)) ⟨H,[.val .none]⟩ (a9O (.bytes (a0y cs)))->Run B ((rk K0 131).s (stm 110 2) (aeK 110)) ⟨H,[.val .none]⟩ (λ f s=>(f=.next/\Run B (a0a (rk K0 131) (aeK 110) []) s (a9O (.bytes (a0y cs)))) \/ ∃ v,f=.ret v/\a9O (.bytes (a0y cs)) f s):=λ h=>h.mono λ f s e=>.inr (by obtain ⟨v,rfl,h⟩:=e;exact ⟨v,rfl,v,rfl,h⟩);rcases h with ⟨h0,rfl⟩ | ⟨u,rfl⟩
 · refine fin (j:=0) (Run.retBytes d0f (d5n _ _ _) (d5m _ _ _) (L:=(cs.flatMap a3S).map .int) ?_ hb);rw [h0];unfold a7T;rfl
 · refine fin (j:=0) (Run.retBytes d0f (d5p _ _ _ _) (d5o _ _ _ _) (L:=(cs.flatMap a3S).map .int) ?_ hb);unfold c0b;rfl
end
def o0 (c:Int):Int:=.ofNat ((a4I c).headD 0)
def b9K (c:Int):List Int:=((a4I c).drop 1).map .ofNat
def d2U (os:List Int):List Hint:=os.flatMap λ o=>[.ans false,.itm (i o),.ans true,.ans true]
noncomputable def d3n (w:List Nat)(at_:Int):Nat->List Int->List Ob
 | _,[]=>[]
 | k,o::os=>[.cmp [] .GtE (i (at_+.ofNat k)) (i (.ofNat w.length)) false,.itm [] (.bytes w) (i (at_+.ofNat k)) (i o),.cmp [] .LtE (i 128) (i o) true,.cmp [] .LtE (i o) (i 191) true]++d3n w at_ (k+1) os
def d6t (c:Int):List Hint:=.itm (i (o0 c))::.inl::.itm (i (o0 c))::d2U (b9K c)
def e0A (w:List Nat)(at_ c:Int):List Ob:=.itm [] (.bytes w) (i at_) (i (o0 c))::.itm [] (.bytes w) (i at_) (i (o0 c))::d3n w at_ 1 (b9K c)
def c5g (c:Int):PV:=.tup [i (.ofNat (a4I c).length),i c,.str ""]
theorem d9j (w) (at_):a0J.map (λ c=>a2r K0 100 112 [.bytes w,i at_] (d6t c))=a0J.map λ c=>some (c5g c,e0A w at_ c,true):=by kernel_rfl
noncomputable def d0A:List (Int×Nat):=[(769,1),(803,1),(201,1),(233,1),(7864,1),(7865,1),(7864,2),(7865,2)]
def d6u (c:Int)(m:Nat):List Hint:=.itm (i (o0 c))::.inl::.itm (i (o0 c))::(d2U ((b9K c).take (m-1))++[.ans true])
def e0B (w:List Nat)(at_ c:Int)(m:Nat):List Ob:=.itm [] (.bytes w) (i at_) (i (o0 c))::.itm [] (.bytes w) (i at_) (i (o0 c))::(d3n w at_ 1 ((b9K c).take (m-1))++[.cmp [] .GtE (i (at_+.ofNat m)) (i (.ofNat w.length)) true])
noncomputable def b4v:Str := "a sequence that is cut short"
def b1D (m:Nat):PV:=.tup [i (.ofNat m),.none,.str b4v]
theorem d5k (w) (at_):d0A.map (λ x=>a2r K0 100 112 [.bytes w,i at_] (d6u x.1 x.2))=d0A.map λ x=>some (b1D x.2,e0B w at_ x.1 x.2,true):=by kernel_rfl
noncomputable def kL:PV:=.str "left"
noncomputable def kM:PV:=.str "mixed"
abbrev a6S:=List Int×Int
def a8J (d:a6S):List PO:=[.dict [kL,kM] [.loc 1,i d.2],.list (d.1.map .int)]
def b2o (B:Base)(n k:Nat)(d:a6S)(args:List PV)(v:PV)(d':a6S):Prop:=FnD B n k kL kM (d.1.map .int) (i d.2) args v (d'.1.map .int) (i d'.2)
def e0V (d':a6S)(t:PV)(v:PV)(s:St):Prop:=∃ G,s.H=a8J d'++G/\a0b 8 (.opq::.opq::G) v=some t
theorem b3t (BO:BaseOK2 B){K:Kt}(KO:KOK B K)(nl:a0E args=true)(h:Run B (a1T (rk K n) k (.loc 0::args)) ⟨a8J d,hs⟩ (e0V d' t)):b2o B (n+1) k d args t d':=by obtain ⟨v,⟨H,hs'⟩,p,⟨z,e,hz⟩,o,G,rfl,ht⟩:=h;exact d2k BO KO ⟨nl,a0O _,rfl,a0O _⟩ e ⟨o,e0l hz (by decide)⟩ ht
theorem a2t (x:FnD B m k kl km l m0 args v l' m')(h:m<=n):FnD B n k kl km l m0 args v l' m':=⟨x.1,x.2.1,x.2.2.1,x.2.2.2.1,λ Pr A s d e xs Ro R rx=>x.2.2.2.2 Pr A s d e xs (Ro.le h) R rx⟩
theorem d5Y (M x) (l) (j):(a1T (rk K0 60) 133 [.loc 0,i (.ofNat (j+1))] ⟨[.dict [kL,kM] [.loc 1,i M],.list (i x::l)],[]⟩).map a0S=some (i (e1T x (.ofNat (j+1))),⟨[.dict [kL,kM] [.loc 1,i M],.list l,.opq,.list []],[]⟩,[],true):=by kernel_rfl
noncomputable def d3q (M:Int):Int:=e1T (M * 4801+59) 1000003
theorem d5X (M) (j):(a1T (rk K0 60) 133 [.loc 0,i (.ofNat (j+1))] ⟨[.dict [kL,kM] [.loc 1,i M],.list []],[]⟩).map a0S=some (i (e1T (Int.fdiv (d3q M) 7) (.ofNat (j+1))),⟨[.dict [kL,kM] [.loc 1,i (d3q M)],.list [],.opq,.list []],[]⟩,[],true):=by kernel_rfl
theorem b5r (x) (j):∃ r,r<=j/\e1T x (.ofNat (j+1))=.ofNat r:=by have h0:(0:Int)<Int.ofNat (j+1):=e1J.mpr (e1P j);have h1:=Int.fmod_nonneg_of_pos x h0;have h2:=Int.fmod_lt_of_pos x h0;refine ⟨(e1T x (.ofNat (j+1))).toNat,?_,(Int.toNat_of_nonneg h1).symm⟩;have:=(Int.toNat_lt h1).mpr h2;exact Nat.lt_succ_iff.mp this
theorem a5s (BO:BaseOK2 B) (d) (j):∃ r d',r<=j/\b2o B 61 133 d [i (.ofNat (j+1))] (i (.ofNat r)) d':=by
 obtain ⟨L,M⟩:=d;cases L with
 | nil=>obtain ⟨r,hr,e⟩:=b5r (Int.fdiv (d3q M) 7) j;refine ⟨r,([],d3q M),hr,b3t BO (a0o B) rfl (hs:=[]) (Run.of (d5X M j) a0V ⟨[.opq,.list []],rfl,?_⟩)⟩;rw [e]; rfl
 | cons x L=>obtain ⟨r,hr,e⟩:=b5r x j;refine ⟨r,(L,M),hr,b3t BO (a0o B) rfl (hs:=[]) (Run.of (d5Y M x (L.map .int) j) a0V ⟨[.opq,.list []],rfl,?_⟩)⟩;rw [e]; rfl
noncomputable def c8U:List (List Int):=[[],[769],[769,803],[803]]
def a2u:List Grp:=(32,[])::a4y.flatMap λ l=>c8U.map λ m=>(l,m)
def pcT (g:Grp):PV:=.lst (i g.1::g.2.map .int)
abbrev OF:=Option (Fl×St×List Ob×Bool)
def a1l {α:Type}(y:α×St×Obs):α×St×List Ob×Bool:=(y.1,y.2.1,y.2.2.ps.map obE,e0m y.2.2.sz 1000)
theorem Run.ofF {α:Type}{m:Ev α}{st st1:St}{Q:α->St->Prop}{a:α}(h:(m st).map a1l=some (a,st1,p,true))(O:OblE B p)(q:Q a st1):Run B m st Q:=by obtain ⟨⟨v,s,ob⟩,e,hh⟩:=e1C.mp h;unfold a1l at hh;simp only [Prod.mk.injEq] at hh;obtain ⟨rfl,rfl,rfl,h3⟩:=hh;exact ⟨v,s,ob.ps,⟨ob.sz,e,e0t h3⟩,O.of,q⟩
@[irreducible] noncomputable def a8F (Ps:List PV):List PO:=[.fr ["pieces", "found"] [.lst Ps,.loc 1],.list []]
@[irreducible] noncomputable def c6N (Ps:List PV)(x:PV)(F:List PV):List PO:=[.fr ["pieces", "found", "piece"] [.lst Ps,.loc 2,x],.list [],.list F]
def d3f (x:PV):Ev Fl:=a4j (rk K0 100) (aeK 138) (stm 138 1) 2 x
noncomputable def a3L (k:Nat)(g:Grp):List Hint:=[.big,.big,.skp [k+g.2.length]]
@[irreducible] def b0b (g:Grp)(H:List PO)(k:Nat)(hs:List Hint):OF:=(d3f (pcT g) ⟨H,a3L k g++hs⟩).map a1l
theorem a7l (g) (H) (k) (hs):(d3f (pcT g) ⟨H,a3L k g++hs⟩).map a1l=b0b g H k hs:=by rw [b0b]
def apG (F:List PV)(g:Grp):List PV:=(F++[i g.1])++(a0Y g.2).map .int
def b9G (Ps F:List PV)(g:Grp):List Ob:=[.sz (F++[i g.1]).length,.sz (apG F g).length,.nl (.lst Ps),.nl (pcT g),.nl (.lst (apG F g))]
theorem d5D (Ps) (l) (hs):c8U.map (λ m=>b0b (l,m) (a8F Ps) 6 hs)=c8U.map λ m=>some (.next,⟨c6N Ps (pcT (l,m)) (apG [] (l,m)),hs⟩,b9G Ps [] (l,m),true):=by kernel_rfl
theorem d5C (Ps F) (x) (l) (hs):c8U.map (λ m=>b0b (l,m) (c6N Ps x F) 7 hs)=c8U.map λ m=>some (.next,⟨c6N Ps (pcT (l,m)) (apG F (l,m)),hs⟩,b9G Ps F (l,m),true):=by kernel_rfl
theorem d0e (t) (hs):(enter true (scK 138) [] [("pieces",t)] ⟨[],hs⟩).map a0S=some (aeK 138,⟨[.fr ["pieces"] [t]],hs⟩,[],true):=by kernel_rfl
theorem d0c (Ps) (hs):((rk K0 101).s (stm 138 0) (aeK 138) ⟨[.fr ["pieces"] [.lst Ps]],hs⟩).map a0S=some (.next,⟨a8F Ps,hs⟩,[],true):=by kernel_rfl
theorem d0d (Ps) (hs):(a1w (rk K0 100) (aeK 138) (a7Y (stm 138 1)) (b0M (stm 138 1)) ⟨a8F Ps,hs⟩).map a0S=some (.stat Ps,⟨a8F Ps,hs⟩,[],true):=by kernel_rfl
theorem d0a:fnB 138=[stm 138 0]++([stm 138 1]++[stm 138 2]):=by kernel_rfl
theorem d0b (t):a2N (pmK 138) (dfK 138) [t]=(some [("pieces",t)]:Option (List (Str×PV))):=by kernel_rfl
theorem d5B (Ps F) (x) (hs):(a0a (rk K0 101) (aeK 138) [stm 138 2] ⟨c6N Ps x F,hs⟩).map a0S=some (.ret (.loc 2),⟨c6N Ps x F,hs⟩,[],true):=by kernel_rfl
theorem d5A (Ps) (hs):(a0a (rk K0 101) (aeK 138) [stm 138 2] ⟨a8F Ps,hs⟩).map a0S=some (.ret (.loc 1),⟨a8F Ps,hs⟩,[],true):=by kernel_rfl
theorem b7n (F:List Int):a1F (a0b (n+1) H) (F.map .int)=some (F.map .int):=by
 induction F with
 | nil=>rfl| cons x F ih=>show ob (a1F (a0b (n+1) H) (F.map .int)) (λ r'=>some (i x::r'))=_;rw [ih]; rfl
theorem a9P {F:List Int}(h:H[j]?=some (.list (F.map .int))):a0b (n+2) H (.loc j)=some (a0P F):=by show ob H[j]? (λ o=>b6Y (a1F (a0b (n+1) H)) H o)=_;rw [h];show ob (a1F (a0b (n+1) H) (F.map .int)) (λ l'=>some (PV.lst l'))=_;rw [b7n];rfl
theorem b7q {F:List Int}(h:H[j]?=some (.list (F.map .int))):a0b 8 H (.loc j)=some (a0P F):=a9P h
def OkL (gs:List Grp):Prop:=(∀ g∈gs,g∈a2u)/\gs.length<=3
theorem a7K:∀ g∈a2u,g.2∈c8U/\(g.1∈a3Z/\g.2∈a3A)/\(a0Y g.2).length<=2:=by decide
theorem c3G (g):a0e (pcT g)=true:=a0O (g.1::g.2)
theorem b1i (gs:List Grp):a0e (.lst (gs.map pcT))=true:=a1y c3G gs
theorem d7l (L):a0e (a0P L)=true:=a0O L
def apI (F:List Int)(g:Grp):List Int:=F++g.1::a0Y g.2
theorem b6O (F:List Int) (g):apG (F.map .int) g=(apI F g).map .int:=by unfold apG apI;rw [e0o,e0v,e0h];rfl
section
variable {B:Base}{Ps:List PV}
theorem b1a (hp:a0e (.lst Ps)=true){F:List Int}(hg:g∈a2u)(hl:F.length<=90):OblE B (b9G Ps (F.map .int) g):=by
 have h2:=(a7K g hg).2.2;have h3:=a2Y;have e:(apI F g).length=F.length+((a0Y g.2).length+1):=by unfold apI;rw [e0a,e0n]
 refine a0H ?_ (a0H ?_ (a0H hp (a0H (c3G g) (a0H ?_ a0m))))
 · show (F.map PV.int++[i g.1]).length<=sizeLine;rw [e0a,e0c];show F.length+1<=sizeLine;lia
 · show (apG (F.map .int) g).length<=sizeLine;rw [b6O,e0c,e];lia
 · show a0e (.lst (apG (F.map .int) g))=true;rw [b6O];exact d7l _
theorem b9p (hp:a0e (.lst Ps)=true):∀ {gs:List Grp}{F:List Int}{x:PV},(∀ g∈gs,g∈a2u)->F.length + 3 * gs.length <= 90 ->
 Run B (a0R d3f (gs.map pcT)) ⟨c6N Ps x (F.map .int),gs.flatMap (a3L 7)⟩ (λ f s=>f=.next /\ ∃ x,s=⟨c6N Ps x ((F++a0F gs).map .int),[]⟩)
 | [],F,x,_,_=>Run.ret ⟨rfl,x,by rw [show a0F []=[] from rfl,e0k]; rfl⟩| g::gs,F,x,hg,hl=>by have h0:=hg g (e0X ..);have hl':F.length+3 * (gs.length+1)<=90:=hl;have e:=a0I (d5C Ps (F.map .int) x g.1 (gs.flatMap (a3L 7))) (a7K g h0).1;show Run B (Ev.bind (d3f (pcT g)) _) ⟨_,a3L 7 g++gs.flatMap (a3L 7)⟩ _;refine Run.bind (Q:=λ f s=>f=.next/\s=_) (Run.ofF ((a7l g _ 7 _).trans e) (b1a hp h0 (by lia)) ⟨rfl,rfl⟩) ?_;rintro f s ⟨rfl,rfl⟩;rw [b6O];have l2:=(a7K g h0).2.2;have:=b9p hp (gs:=gs) (F:=apI F g) (x:=pcT g) (λ y m=>hg y (e0Z _ m)) (by unfold apI;rw [e0a,e0n];lia);rw [show apI F g++a0F gs=F++a0F (g::gs) by unfold apI;rw [e0h]; rfl] at this;exact this
theorem a5V (BO:BaseOK2 B)(h:OkL gs):FnOK B 103 138 [.lst (gs.map pcT)] (a0P (a0F gs)):=by
 have hp:=b1i gs;have nl:a0E [PV.lst (gs.map pcT)]=true:=by show (a0e (.lst (gs.map pcT))&&true)=true;rw [hp]; rfl
 obtain ⟨h,hl⟩:=h
 match gs,h,hl,hp,nl with
 | [],h,hl,hp,nl=>refine a0t BO (a0o B) (n:=101) (hs:=[]) nl rfl (d0b _) (d0e _ _) a0V ?_;rw [d0a];refine Run.one (d0c _ _) a0V (Run.cons (Run.forG rfl (d0d _ _) a0V (Run.ret ⟨rfl,?_⟩)));refine Run.of (d5A _ _) a0V ⟨_,rfl,?_⟩;unfold a8F;rfl| g::gs,h,hl,hp,nl=>have h0:=h g (e0X ..);have hl':gs.length+1<=3:=hl;refine a0t BO (a0o B) (n:=101) (hs:=a3L 6 g++gs.flatMap (a3L 7)) nl rfl (d0b _) (d0e _ _) a0V ?_;rw [d0a];refine Run.one (d0c _ _) a0V (Run.cons (Run.forG rfl (d0d _ _) a0V ?_));show Run B (a0R (a4j (rk K0 100) (aeK 138) (stm 138 1) (a8F ((g::gs).map pcT)).length) ((g::gs).map pcT)) _ _;rw [show (a8F ((g::gs).map pcT)).length=2 by unfold a8F; rfl];have e:=a0I (d5D ((g::gs).map pcT) g.1 (gs.flatMap (a3L 7))) (a7K g h0).1;show Run B (Ev.bind (d3f (pcT g)) _) _ _;refine Run.bind (Q:=λ f s=>f=.next/\s=_) (Run.ofF ((a7l g _ 6 _).trans e) (b1a (F:=[]) hp h0 (by decide)) ⟨rfl,rfl⟩) ?_;rintro f s ⟨rfl,rfl⟩;have ea:apG [] (g.1,g.2)=(apI [] g).map .int:=b6O [] g;rw [ea];have l2:=(a7K g h0).2.2;refine (b9p hp (gs:=gs) (F:=apI [] g) (x:=pcT g) (λ y m=>h y (e0Z _ m)) (by unfold apI;rw [e0a,e0n];simp only [e1K];lia)).mono ?_;rintro f s ⟨rfl,x,rfl⟩;refine ⟨rfl,Run.of (d5B _ _ _ _) a0V ⟨_,rfl,?_⟩⟩;refine b7q ?_;unfold c6N;rfl
end
def d1F:PV:=.dct [i 233,i 201,i 7865,i 7864] [.tup [i 101,i 769],.tup [i 69,i 769],.tup [i 101,i 803],.tup [i 69,i 803]]
def b8H:PV:=.dct [i 65,i 69,i 201,i 7864] [i 97,i 101,i 233,i 7865]
def T9:List (Nat×List Ent):=[(128,[([],d1F)]),(130,[([],b8H)])]
theorem c7E:a1o K0 60 T9=true:=by decide +kernel
def KP:Kt:=Kof 61 T9
def b4R:AEnv:=aeK 139 [("marks",2),("piece",1)]
def a0k (g:Grp):List Int:=match a2V g.1 (a0Y g.2) with
 | some (c,r)=>c::r| none=>g.1::a0Y g.2
def c3K (g:Grp):List Int:=match a2V g.1 (a0Y g.2) with
 | some (c,_)=>[c]
 | none=>[]
@[irreducible] noncomputable def a8D (Ps:List PV):List PO:=[.fr ["pieces", "found"] [.lst Ps,.loc 3],.cell none,.cell none,.list []]
@[irreducible] noncomputable def c8o (Ps:List PV)(x:PV)(mt mk F:List PV):List PO:=[.fr ["pieces", "found", "mates"] [.lst Ps,.loc 4,.loc 5],.cell (some x),.cell (some (.loc 6)),.list [],.list F,.list mt,.list mk]
def c1v (x:PV):Ev Fl:=a4j (rk KP 100) b4R (stm 139 1) 4 x
def a3K (k:Nat)(g:Grp):List Hint:=[.big,.big,.skp [k+g.2.length+(c3K g).length]]
@[irreducible] def b0a (g:Grp)(H:List PO)(k:Nat)(hs:List Hint):OF:=(c1v (pcT g) ⟨H,a3K k g++hs⟩).map a1l
theorem a7k (g) (H) (k) (hs):(c1v (pcT g) ⟨H,a3K k g++hs⟩).map a1l=b0a g H k hs:=by rw [b0a]
def c5j (Ps F:List PV)(g:Grp):List Ob:=[.sz (a0k g).length,.sz (F++(a0k g).map PV.int).length,.nl (.lst Ps),.nl (pcT g),.nl (.lst (F++(a0k g).map PV.int))]
def b5B (Ps F:List PV)(hs:List Hint)(g:Grp):OF:=some (.next,⟨c8o Ps (pcT g) ((c3K g).map .int) ((a0Y g.2).map .int) (F++(a0k g).map PV.int),hs⟩,c5j Ps F g,true)
theorem d4z (Ps) (hs):a2u.map (λ g=>b0a g (a8D Ps) 16 hs)=a2u.map (b5B Ps [] hs):=by kernel_rfl
theorem d4y (Ps F mt mk) (x) (hs):a2u.map (λ g=>b0a g (c8o Ps x mt mk F) 19 hs)=a2u.map (b5B Ps F hs):=by kernel_rfl
theorem d0Z (t) (hs):(enter true (scK 139) [] [("pieces",t)] ⟨[],hs⟩).map a0S=some (b4R,⟨[.fr ["pieces"] [t],.cell none,.cell none],hs⟩,[],true):=by kernel_rfl
theorem d0X (Ps) (hs):((rk KP 101).s (stm 139 0) b4R ⟨[.fr ["pieces"] [.lst Ps],.cell none,.cell none],hs⟩).map a0S=some (.next,⟨a8D Ps,hs⟩,[],true):=by kernel_rfl
theorem d0Y (Ps) (hs):(a1w (rk KP 100) b4R (a7Y (stm 139 1)) (b0M (stm 139 1)) ⟨a8D Ps,hs⟩).map a0S=some (.stat Ps,⟨a8D Ps,hs⟩,[],true):=by kernel_rfl
theorem d0V:fnB 139=[stm 139 0]++([stm 139 1]++[stm 139 2]):=by kernel_rfl
theorem d0W (t):a2N (pmK 139) (dfK 139) [t]=(some [("pieces",t)]:Option (List (Str×PV))):=by kernel_rfl
theorem d4x (Ps F mt mk) (x) (hs):(a0a (rk KP 101) b4R [stm 139 2] ⟨c8o Ps x mt mk F,hs⟩).map a0S=some (.ret (.loc 4),⟨c8o Ps x mt mk F,hs⟩,[],true):=by kernel_rfl
theorem d4w (Ps) (hs):(a0a (rk KP 101) b4R [stm 139 2] ⟨a8D Ps,hs⟩).map a0S=some (.ret (.loc 3),⟨a8D Ps,hs⟩,[],true):=by kernel_rfl
def a0K (gs:List Grp):List Int:=gs.flatMap a0k
theorem a6d:∀ g∈a2u,(a0k g).length<=3:=by decide
section
variable {B:Base}{Ps:List PV}
theorem b1Z (hp:a0e (.lst Ps)=true){F:List Int}(hg:g∈a2u)(hl:F.length<=90):OblE B (c5j Ps (F.map .int) g):=by
 have h2:=a6d g hg;have h3:=a2Y;refine a0H ?_ (a0H ?_ (a0H hp (a0H (c3G g) (a0H ?_ a0m))))
 · show (a0k g).length<=sizeLine;lia
 · show (F.map PV.int++(a0k g).map PV.int).length<=sizeLine;rw [e0a,e0c,e0c];lia
 · show a0e (.lst (F.map PV.int++(a0k g).map PV.int))=true;rw [<- e0o];exact d7l _
theorem b9o (hp:a0e (.lst Ps)=true):∀ {gs:List Grp}{F:List Int}{x:PV}{mt mk:List PV},(∀ g∈gs,g∈a2u)->F.length + 3 * gs.length <= 90 ->
 Run B (a0R c1v (gs.map pcT)) ⟨c8o Ps x mt mk (F.map .int),gs.flatMap (a3K 19)⟩ (λ f s=>f=.next /\ ∃ x mt mk,s=⟨c8o Ps x mt mk ((F++a0K gs).map .int),[]⟩)
 | [],F,x,mt,mk,_,_=>Run.ret ⟨rfl,x,mt,mk,by rw [show a0K []=[] from rfl,e0k]; rfl⟩| g::gs,F,x,mt,mk,hg,hl=>by have h0:=hg g (e0X ..);have hl':F.length+3 * (gs.length+1)<=90:=hl;have e:=a0I (d4y Ps (F.map .int) mt mk x (gs.flatMap (a3K 19))) h0;unfold b5B at e;show Run B (Ev.bind (c1v (pcT g)) _) ⟨_,a3K 19 g++gs.flatMap (a3K 19)⟩ _;refine Run.bind (Q:=λ f s=>f=.next/\s=_) (Run.ofF ((a7k g _ 19 _).trans e) (b1Z hp h0 (by lia)) ⟨rfl,rfl⟩) ?_;rintro f s ⟨rfl,rfl⟩;rw [<- e0o];have l2:=a6d g h0;have:=b9o hp (gs:=gs) (F:=F++a0k g) (x:=pcT g) (mt:=(c3K g).map .int) (mk:=(a0Y g.2).map .int) (λ y m=>hg y (e0Z _ m)) (by rw [e0a];lia);rw [e0h] at this;exact this
theorem a7X (BO:BaseOK2 B)(KO:KOK B KP)(h:OkL gs):FnOK B 103 139 [.lst (gs.map pcT)] (a0P (a0K gs)):=by
 have hp:=b1i gs;have nl:a0E [PV.lst (gs.map pcT)]=true:=by show (a0e (.lst (gs.map pcT))&&true)=true;rw [hp]; rfl
 obtain ⟨h,hl⟩:=h
 match gs,h,hl,hp,nl with
 | [],h,hl,hp,nl=>refine a0t BO KO (n:=101) (hs:=[]) nl rfl (d0W _) (d0Z _ _) a0V ?_;rw [d0V];refine Run.one (d0X _ _) a0V (Run.cons (Run.forG rfl (d0Y _ _) a0V (Run.ret ⟨rfl,?_⟩)));refine Run.of (d4w _ _) a0V ⟨_,rfl,?_⟩;unfold a8D;rfl| g::gs,h,hl,hp,nl=>have h0:=h g (e0X ..);have hl':gs.length+1<=3:=hl;refine a0t BO KO (n:=101) (hs:=a3K 16 g++gs.flatMap (a3K 19)) nl rfl (d0W _) (d0Z _ _) a0V ?_;rw [d0V];refine Run.one (d0X _ _) a0V (Run.cons (Run.forG rfl (d0Y _ _) a0V ?_));show Run B (a0R (a4j (rk KP 100) b4R (stm 139 1) (a8D ((g::gs).map pcT)).length) ((g::gs).map pcT)) _ _;rw [show (a8D ((g::gs).map pcT)).length=4 by unfold a8D; rfl];have e:=a0I (d4z ((g::gs).map pcT) (gs.flatMap (a3K 19))) h0;unfold b5B at e;show Run B (Ev.bind (c1v (pcT g)) _) _ _;refine Run.bind (Q:=λ f s=>f=.next/\s=_) (Run.ofF ((a7k g _ 16 _).trans e) (b1Z (F:=[]) hp h0 (by decide)) ⟨rfl,rfl⟩) ?_;rintro f s ⟨rfl,rfl⟩;have l2:=a6d g h0;refine (b9o hp (gs:=gs) (F:=a0k g) (x:=pcT g) (mt:=(c3K g).map .int) (mk:=(a0Y g.2).map .int) (λ y m=>h y (e0Z _ m)) (by lia)).mono ?_;rintro f s ⟨rfl,x,mt,mk,rfl⟩;refine ⟨rfl,Run.of (d4x _ _ _ _ _ _) a0V ⟨_,rfl,?_⟩⟩;refine b7q ?_;unfold c8o;rfl
end
@[irreducible] noncomputable def a7Q (t:PV)(F:List PV)(G:List PO):List PO:=.fr ["text", "found"] [t,.loc 1]::.list F::G
@[irreducible] noncomputable def c6M (t c:PV)(F:List PV)(G:List PO):List PO:=.fr ["text", "found", "code"] [t,.loc 1,c]::.list F::G
def d3e (x:PV):Ev Fl:=b0Z (rk K0 100) (aeK 140) (stm 140 1) x
@[irreducible] def a7j (c:Int)(H:List PO)(hs:List Hint):OF:=(d3e (i c) ⟨H,.big::hs⟩).map a1l
theorem b4L (c) (H) (hs):(d3e (i c) ⟨H,.big::hs⟩).map a1l=a7j c H hs:=by rw [a7j]
def b5Y (c:Int):Bool:=e0m 2 (a4I c).length
def nls (c:Int):List PO:=match b5Y c with
 | true=>[.list ((a3S c).map .int)]
 | false=>[]
def b5M (F:List PV)(c:Int):List Ob:=match b5Y c with
 | true=>[.sz (F++(a3S c).map PV.int).length]
 | false=>[.sz (F.length+1)]
def b5A (t:PV)(F:List PV)(G:List PO)(hs:List Hint)(c:Int):OF:=some (.next,⟨c6M t (i c) (F++(a3S c).map PV.int) (G++nls c),hs⟩,b5M F c,true)
theorem d4v (t) (hs):a0J.map (λ c=>a7j c (a7Q t [] []) hs)=a0J.map (b5A t [] [] hs):=by kernel_rfl
def c6X:List (Nat×Int):=(e0f 9).flatMap λ m=>a0J.map λ c=>(m,c)
theorem d4u (t u) (F) (o) (hs):c6X.map (λ x=>a7j x.2 (c6M t u F (g30 x.1 o)) hs)=c6X.map (λ x=>b5A t F (g30 x.1 o) hs x.2):=by kernel_rfl
theorem d4t (t) (hs):(enter true (scK 140) [] [("text",t)] ⟨[],hs⟩).map a0S=some (aeK 140,⟨[.fr ["text"] [t]],hs⟩,[],true):=by kernel_rfl
theorem d4r (t) (hs):((rk K0 101).s (stm 140 0) (aeK 140) ⟨[.fr ["text"] [t]],hs⟩).map a0S=some (.next,⟨a7Q t [] [],hs⟩,[],true):=by kernel_rfl
theorem d4s (T) (hs):(a1w (rk K0 100) (aeK 140) (a7Y (stm 140 1)) (b0M (stm 140 1)) ⟨a7Q (.lst T) [] [],hs⟩).map a0S=some (.stat T,⟨a7Q (.lst T) [] [],hs⟩,[],true):=by kernel_rfl
theorem d4l:fnB 140=[stm 140 0]++([stm 140 1]++[stm 140 2]):=by kernel_rfl
theorem d4q (t):a2N (pmK 140) (dfK 140) [t]=(some [("text",t)]:Option (List (Str×PV))):=by kernel_rfl
theorem d0U:(rk K0 101).s (stm 140 2) (aeK 140)=d7L (rk K0 99) (aeK 140) (stm 140 2):=by kernel_rfl
theorem d4p (t u) (L) (G) (hs):((rk K0 99).e (fE (stm 140 2)) (aeK 140) ⟨c6M t u L G,hs⟩).map a0S=some (.typ "bytes",⟨c6M t u L G,hs⟩,[],true):=by kernel_rfl
theorem d4o (t u) (L) (G) (hs):(evs (rk K0 99) (aeK 140) [arE (stm 140 2)] ⟨c6M t u L G,hs⟩).map a0S=some ([.loc 1],⟨c6M t u L G,hs⟩,[],true):=by kernel_rfl
theorem d4n (t) (L) (G) (hs):((rk K0 99).e (fE (stm 140 2)) (aeK 140) ⟨a7Q t L G,hs⟩).map a0S=some (.typ "bytes",⟨a7Q t L G,hs⟩,[],true):=by kernel_rfl
theorem d4m (t) (L) (G) (hs):(evs (rk K0 99) (aeK 140) [arE (stm 140 2)] ⟨a7Q t L G,hs⟩).map a0S=some ([.loc 1],⟨a7Q t L G,hs⟩,[],true):=by kernel_rfl
def d3y (t:PV)(L:List Int)(m:Nat)(H:List PO):Prop:=(L=[]/\m=0/\H=a7Q t [] []) \/ ∃ u G,G.length=m/\H=c6M t u (L.map .int) G
theorem b9R (c):(nls c).length<=1:=by
 unfold nls;cases b5Y c with
 | true=>exact e0i 1| false=>exact e0q 1
section
variable {B:Base}{t:PV}{H:List PO}{L:List Int}{m:Nat}{hs:List Hint}
theorem e0R (hc:c∈a0J)(hm:m<=8)(h:d3y t L m H):∃ m',m'<=m+1 /\ ∃ H',a7j c H hs=some (.next,⟨H',hs⟩,b5M (L.map .int) c,true)/\d3y t (L++a3S c) m' H':=by
 rcases h with ⟨rfl,rfl,rfl⟩ | ⟨u,G,rfl,rfl⟩
 · have e:=a0I (d4v t hs) hc;unfold b5A at e;exact ⟨_,by have:=b9R c; rw [e1V]; lia,_,e,.inr ⟨_,_,rfl,rfl⟩⟩
 · obtain ⟨o,ho⟩:=a8x G;have e:=a0I (d4u t u (L.map .int) o hs) (x:=(G.length,c)) (e0j.mpr ⟨_,a1b (by lia),e0e.mpr ⟨_,hc,rfl⟩⟩);dsimp only at e;rw [<- ho] at e;unfold b5A at e;rw [<- e0o] at e;refine ⟨_,?_,_,e,.inr ⟨_,_,rfl,rfl⟩⟩;rw [e0a];have:=b9R c;lia
theorem b9F (hc:c∈a0J)(hl:L.length<=100):OblE B (b5M (L.map .int) c):=by
 have h3:=a2Y;have hm:=(b1X c hc).1;simp only [e0d,e0b,or_false] at hm;unfold b5M;cases b5Y c with
 | true=>refine a0H ?_ a0m;show (L.map PV.int++(a3S c).map PV.int).length<=sizeLine;rw [e0a,e0c,e0c];lia| false=>refine a0H ?_ a0m;show (L.map PV.int).length+1<=sizeLine;rw [e0c];lia
theorem b9n:∀ {cs:List Int}{L:List Int}{m:Nat}{H:List PO},(∀ c∈cs,c∈a0J)->m + cs.length <= 9->L.length + 3 * cs.length <= 100->d3y t L m H ->
 Run B (a0R d3e (cs.map .int)) ⟨H,cs.map λ _=>.big⟩ (λ f s=>f=.next /\ ∃ H' m',s=⟨H',[]⟩/\d3y t (L++cs.flatMap a3S) m' H')
 | [],L,m,H,_,_,_,h=>Run.ret ⟨rfl,H,m,rfl,by rw [e2B,e0k]; exact h⟩| c::cs,L,m,H,hc,hm,hl,h=>by have h0:=hc c (e0X ..);have hm':m+(cs.length+1)<=9:=hm;have hl':L.length+3 * (cs.length+1)<=100:=hl;obtain ⟨m',h1,H',e,h2⟩:=e0R (hs:=cs.map λ _=>.big) h0 (by lia) h;show Run B (Ev.bind (d3e (PV.int c)) _) ⟨H,.big::cs.map λ _=>.big⟩ _;refine Run.bind (Q:=λ f s=>f=.next/\s=_) (Run.ofF ((b4L c H _).trans e) (b9F h0 (by lia)) ⟨rfl,rfl⟩) ?_;rintro f s ⟨rfl,rfl⟩;have ho:=(b1X c h0).1;simp only [e0d,e0b,or_false] at ho;have:=b9n (cs:=cs) (L:=L++a3S c) (m:=m') (H:=H') (λ c x=>hc c (e0Z _ x)) (by lia) (by rw [e0a]; lia) h2;rw [e0h] at this;exact this
theorem b9A (BO:BaseOK2 B)(hc:∀ c∈cs,c∈a0J)(h9:cs.length<=9):FnOK B 103 140 [a0P cs] (.bytes (a0y cs)):=by
 refine a0t BO (a0o B) (n:=101) (hs:=cs.map λ _=>.big) (by rw [a0N]; rfl) rfl (d4q _) (d4t _ _) a0V ?_;rw [d4l];refine Run.one (d4r _ _) a0V (Run.cons (Run.for rfl (d4s _ _) a0V ?_));show Run B (a0R d3e (cs.map .int)) ⟨a7Q (a0P cs) [] [],_⟩ _;generalize a0P cs=t;refine (b9n (L:=[]) (m:=0) hc (by lia) (by simp only [e1K]; lia) (.inl ⟨rfl,rfl,rfl⟩)).mono ?_;rintro f s ⟨rfl,H,m,rfl,h⟩;refine ⟨rfl,Run.consR ?_⟩;have hb:=a4i (c5I hc);rw [<- b0h] at hb;rw [e1V] at h;have fin:Run B ((rk K0 101).s (stm 140 2) (aeK 140)) ⟨H,[]⟩ (a9O (.bytes (a0y cs)))->Run B ((rk K0 101).s (stm 140 2) (aeK 140)) ⟨H,[]⟩ (λ f s=>(f=.next/\Run B (a0a (rk K0 101) (aeK 140) []) s (a9O (.bytes (a0y cs)))) \/ ∃ v,f=.ret v/\a9O (.bytes (a0y cs)) f s):=λ h=>h.mono λ f s e=>.inr (by obtain ⟨v,rfl,h⟩:=e;exact ⟨v,rfl,v,rfl,h⟩);rcases h with ⟨h0,_,rfl⟩ | ⟨u,G,_,rfl⟩
 · refine fin (Run.retBytes d0U (d4n _ _ _ _) (d4m _ _ _ _) (L:=(cs.flatMap a3S).map .int) ?_ hb);rw [h0];unfold a7Q;rfl
 · refine fin (Run.retBytes d0U (d4p _ _ _ _ _) (d4o _ _ _ _ _) (L:=(cs.flatMap a3S).map .int) ?_ hb);unfold c6M;rfl
end
def c8j (x y z:Nat->Int)(p:List Bool):List Hint:=a1h (λ k=>.itm (.tup [i (x k),i (y k),i (z k)])) p.length++(p.map .ans++(p.map (λ _=>.ans true)++p.map λ _=>.ans true))
def b4X:PV:=.dct [i 32,i 97,i 65,i 101,i 69,i 769,i 803] [.tup [i 5,i 32,i 2],.tup [i 10,i 32,i 2],.tup [i 10,i 32,i 8],.tup [i 11,i 32,i 2],.tup [i 11,i 32,i 8],.tup [i 0,i 36,i 2],.tup [i 0,i 37,i 2]]
noncomputable def d1Q (x:Nat->Int):List Bool->List Ob
 | []=>[]
 | b::r=>.cmp [] .Gt (i (x 0)) (i 0) b::d1Q (λ k=>x (k+1)) r
def d1S (f x y z:Nat->Int)(p:List Bool):List Ob:=a1h (λ k=>.itm [] b4X (i (f k)) (.tup [i (x k),i (y k),i (z k)])) p.length++(d1Q x p++(d1Q y (p.map λ _=>true)++d1Q z (p.map λ _=>true)))
theorem d9h (f x y z:Nat->Int):a6u.map (λ p=>a5O K0 100 142 [.lst (spI f p.length)] (c8j x y z p))=a6u.map λ p=>some (some (.lst [.lst (b3U p λ k=>i (x k)),.lst (spI y p.length),.lst (spI z p.length)]),d1S f x y z p,true):=by kernel_rfl
theorem c6t (h:c∈a4L) (H):a2T H b4X (i c)=some (.tup [i (wtF c).1,i (wtF c).2.1,i (wtF c).2.2]):=by unfold a4L at h;simp only [e0d,e0b,or_false] at h;rcases h with rfl | rfl | rfl | rfl | rfl | rfl | rfl <;> rfl
theorem a9j:∀ (p:List Bool)(x:Nat->Int),(∀ k,k < p.length->a0X 0 (x k)=p.getD k false)->OblE B (d1Q x p)
 | [],_,_=>a0m| b::p,x,h=>a0H (λ H=>congrArg some (h 0 (e1P _))) (a9j p _ λ k l=>h (k+1) (e1Z l))
theorem b0g:∀ c∈a4L,a0X 0 (wtF c).1=!decide ((wtF c).1=0)/\a0X 0 (wtF c).2.1=true/\a0X 0 (wtF c).2.2=true:=by decide
section
variable {B:Base}{xs:List Kd}
theorem b4c {S:List Int}(h:k<((a9h S).map λ _=>true).length):((a9h S).map λ _=>true).getD k false=true:=by rw [e0c] at h;rw [List.getD_eq_getElem?_getD,List.getElem?_map,List.getElem?_eq_getElem h];rfl
theorem b9w (BO:BaseOK2 B)(h:Txt xs):FnOK B 101 142 [a0P (a0C xs)] (a5i xs):=by
 have e:=a0I (d9h (λ k=>(a0C xs).getD k 0) (wX (a0C xs)) (wY (a0C xs)) (wZ (a0C xs))) (a9g h);have hl:(a9h (a0C xs)).length=(a0C xs).length:=e0c ..;have hm:=λ k (l:k<(a0C xs).length)=>a2K h _ (a4d l);rw [hl,b3T,show spI (λ k=>(a0C xs).getD k 0) (a0C xs).length=(a0C xs).map .int from by unfold spI;rw [a1c];exact (a1g (λ c=>PV.int c) 0 _).symm,show spI (wY (a0C xs)) (a0C xs).length=(L2 (a0C xs)).map .int from b2x (λ c=>(wtF c).2.1) _,show spI (wZ (a0C xs)) (a0C xs).length=(L3 (a0C xs)).map .int from b2x (λ c=>(wtF c).2.2) _] at e;refine a0x BO (a0o B) (by rw [a0N]; rfl) e ?_;refine a1O (a3g λ k l=>?_) (a1O (a9j _ _ λ k l=>?_) (a1O (a9j _ _ λ k l=>?_) (a9j _ _ λ k l=>?_)))
 · rw [hl] at l;exact λ H=>c6t (hm k l) H
 · rw [<- b8v _ _ l];rw [hl] at l;exact (b0g _ (hm k l)).1
 · rw [b4c l];rw [e0c,hl] at l;exact (b0g _ (hm k l)).2.1
 · rw [b4c l];rw [e0c,hl] at l;exact (b0g _ (hm k l)).2.2
noncomputable def a8V (g:Grp):Kd:=match g.2 with
 | []=>(0,g.1,0)
 | [769]=>(1,g.1,0)
 | [803]=>(3,g.1,0)
 | _=>(5,g.1,0)
theorem b1T:∀ g∈a2u,a8V g∈a0d/\apK (a8V g)=g.1::a0Y g.2:=by decide
theorem a2C:∀ {gs:List Grp},(∀ g∈gs,g∈a2u)->a0C (gs.map a8V)=a0F gs
 | [],_=>rfl| g::gs,h=>by have ih:=a2C (gs:=gs) λ y m=>h y (e0Z _ m);show apK (a8V g)++a0C (gs.map a8V)=(g.1::a0Y g.2)++a0F gs;rw [ih,(b1T g (h g (e0X ..))).2]
theorem a4t (h:OkL gs):Txt (gs.map a8V):=⟨λ x m=>by obtain ⟨g,hg,rfl⟩:=e0e.mp m;exact (b1T g (h.1 g hg)).1,by rw [e0c]; exact h.2⟩
def e0D (S:List Int):PV:=.lst [a0P (L1 S),a0P (L2 S),a0P (L3 S)]
theorem a8l (BO:BaseOK2 B)(h:OkL gs):FnOK B 101 142 [a0P (a0F gs)] (e0D (a0F gs)):=by have:=b9w BO (a4t h);unfold a5i at this;rw [a2C h.1] at this;exact this
end
noncomputable def d2W:Int->Nat->List Bool->List Hint
 | _,_,[]=>[]
 | ahead,k,b::p=>(match b with
   | true=>[.ans false]
   | false=>[.ans true,.ans true,.ans true])++((match a0X ahead 0 with
   | true=>[.ans false]
   | false=>[.ans true,.ans false])++(.ans false::d2W (match b with | true=>.ofNat k | false=>ahead) (k+1) p))
def b5h (s:Nat->Str)(p:List Bool):List Hint:=.inl::(a1h (λ k=>.val (.str (s k))) p.length++(d2W (-1) 0 p++(p.reverse.map λ b=>.ans (!b))))
noncomputable def c2Z:PV:=.tup [.str "Extend",.str "Format",.str "ZWJ"]
noncomputable def d2q:PV:=.tup [.str "CR",.str "LF",.str "Newline"]
noncomputable def riT:PV:=.str "Regional_Indicator"
noncomputable def c3V (ahead:Int)(k:Nat)(b:Bool):Int:=match b with
 | true=>.ofNat k| false=>ahead
noncomputable def d1P (s:Nat->Str):Int->Nat->List Bool->List Ob
 | _,_,[]=>[]
 | ahead,k,b::p=>(match b with
   | true=>[.cmp [] .In (.str (s k)) c2Z false]
   | false=>[.cmp [] .In (.str (s k)) c2Z true,.cmp [] .GtE (i ahead) (i 0) true,.cmp [] .NotIn (.str (s ahead.toNat)) d2q true])++((match a0X ahead 0 with
   | true=>[.cmp [] .GtE (i ahead) (i 0) false]
   | false=>[.cmp [] .GtE (i ahead) (i 0) true,.cmp [] .Eq (.str (s ahead.toNat)) riT false])++(.cmp [] .Eq (.str (s k)) riT false::d1P s (c3V ahead k b) (k+1) p))
noncomputable def b5S:Int->Nat->List Bool->List Int
 | _,_,[]=>[]
 | ahead,k,b::p=>c3V ahead k b::b5S (c3V ahead k b) (k+1) p
noncomputable def a9b:Nat->List Bool->List Int
 | k,[]=>[.ofNat k]
 | k,b::p=>match b,a9b (k + 1) p with
   | false,r::l=>r::r::l| _,l=>.ofNat k::l
noncomputable def d6Z (s:Nat->Str):Nat->List Bool->List Ob
 | _,[]=>[]
 | k,b::p=>d6Z s (k+1) p++[.cmp [] .In (.str (s k)) c2Z (!b)]
def c7q (f:Nat->Int)(s:Nat->Str)(p:List Bool):List Ob:=a1h (λ k=>.fn 143 3094 [a0B,.str "wb",i (f k)] (.str (s k))) p.length++(d1P s (-1) 0 p++d6Z s 0 p)
def c9p:AEnv:=aeK 126 [("walk",1)]
def d2Z (T:List PV):List PO:=[.fr ["text", "data"] [.lst T,a0B],.cell none]
noncomputable def b7e:List Str:=["text", "data", "sorts", "lefts", "rows", "rights"]
def d7u (f:Nat->Int)(s:Nat->Str)(p:List Bool):List PO:=[.fr ["text", "data"] [.lst (spI f p.length),a0B],.cell (some (.loc 3)),.ns b7e [.lst (spI f p.length),a0B,.loc 6,.loc 8,.loc 9,.loc 11],.inst 122 2,.opq,.cell (some a0B),
 .list (a1h (λ k=>.str (s k)) p.length),.opq,.list (i (-1)::(b5S (-1) 0 p).map .int),.list (a1h (λ _=>i 0) p.length),.list [i (.ofNat p.length)],.list ((a9b 0 p).map .int)]
def c5V (f:Nat->Int)(s:Nat->Str)(hs:List Hint)(p:List Bool):OF:=((rk K0 151).s (stm 126 0) c9p ⟨d2Z (spI f p.length),b5h s p++hs⟩).map a1l
theorem d5d (f) (s) (hs):a6u.map (c5V f s hs)=a6u.map λ p=>some (.next,⟨d7u f s p,hs⟩,c7q f s p,true):=by kernel_rfl
noncomputable def a3c:List (List Nat):=[0,1,2,3].flatMap go
where go:Nat->List (List Nat)
 | 0=>[[]]
 | n+1=>[0,1,2,3].flatMap λ k=>(go n).map λ r=>k::r
noncomputable def d1E (k:Nat):List Bool:=match k with
 | 0=>[true]
 | m+1=>true::e0p m false
def a1a (sh:List Nat):List Bool:=sh.flatMap d1E
noncomputable def d8P (w:Bool):List Nat->List Bool
 | []=>[true]
 | k::r=>(w != e0Y k 0)::(e0p (k-1) false++d8P (e0Y k 0) r)
def bnd:List Nat->List Bool
 | []=>[false]
 | k::r=>true::(e0p (k-1) false++d8P (e0Y k 0) r)
noncomputable def b8q:Nat->List Bool->List Int
 | _,[]=>[]
 | k,true::l=>.ofNat k::b8q (k+1) l| k,false::l=>b8q (k+1) l
def c2F (f:Nat->Int)(s:Nat->Str)(p:List Bool):PV:=.ins 122 b7e [.lst (spI f p.length),a0B,.lst (a1h (λ k=>.str (s k)) p.length),.lst (i (-1)::(b5S (-1) 0 p).map .int),.lst (a1h (λ _=>i 0) p.length),.lst ((a9b 0 p).map .int)]
noncomputable def c7r (f:Nat->Int)(s:Nat->Str)(p:List Bool):Nat->List Bool->List Ob
 | _,[]=>[]
 | k,b::l=>.fn 146 125 [c2F f s p,i (.ofNat k)] (.bool b)::c7r f s p (k+1) l
def c6U (f:Nat->Int)(s:Nat->Str)(sh:List Nat):Option (Option PV×List Ob×Bool):=(a0a (rk K0 151) c9p [stm 126 1] ⟨d7u f s (a1a sh),(bnd sh).map λ b=>.val (.bool b)⟩).map λ y=>(match y.1 with | .ret v=>a0b 8 y.2.1.H v | _=>none,y.2.2.ps.map obE,e0m y.2.2.sz 1000)
theorem d5c (f) (s):a3c.map (c6U f s)=a3c.map λ sh=>some (some (a0P (b8q 0 (bnd sh))),c7r f s (a1a sh) 0 (bnd sh),true):=by kernel_rfl
def a4U:PV:=.dct [i 769,i 803] [i 230,i 220]
noncomputable def c0X (w:Bool):List Nat->List Hint
 | []=>[.ans true]
 | k::r=>[.ans false,.ans true,.ans (e0Y k 0),.ans w,.ans (e0Y k 0 != w)]++((e0p (k-1) ()).flatMap (λ _=>[.ans false,.ans false])++c0X (e0Y k 0) r)
noncomputable def d1O (n:Nat)(f:Nat->Int):Nat->Nat->List Ob
 | _,0=>[]
 | at_,m+1=>[.cmp [] .Eq (i (.ofNat at_)) (i (.ofNat n)) false,.cmp [] .NotIn (i (f at_)) a4U false]++d1O n f (at_+1) m
noncomputable def a8X (f:Nat->Int)(n:Nat)(w:Bool):Nat->List Nat->List Ob
 | at_,[]=>[.cmp [] .Eq (i (.ofNat at_)) (i (.ofNat n)) true]
 | at_,k::r=>[.cmp [] .Eq (i (.ofNat at_)) (i (.ofNat n)) false,.cmp [] .NotIn (i (f at_)) a4U true,.cmp [] .Eq (i (f at_)) (i 32) (e0Y k 0),.cmp [] .Eq (i (f (at_ - 1))) (i 32) w,.cmp [] .NotEq (.bool (e0Y k 0)) (.bool w) (e0Y k 0 != w)] ++
    (d1O n f (at_+1) (k-1)++a8X f n (e0Y k 0) (at_+1+(k-1)) r)
def c7t:List Ob->List Ob
 | []=>[]
 | o::r=>o::r.map obE
def c5U (f:Nat->Int)(sh:List Nat):Option (Option PV×List Ob×Bool):=(a1T (rk K0 100) 141 [.lst (spI f (a1a sh).length)] ⟨[],match sh with
 | []=>[.ans false]
 | k::r=>.ans true::((e0p (k-1) ()).flatMap (λ _=>[.ans false,.ans false])++c0X (e0Y k 0) r)⟩).map λ y=>(a0b 8 y.2.1.H y.1,c7t y.2.2.ps,e0m y.2.2.sz 1000)
def d3u (f:Nat->Int)(n:Nat):List PO:=[.fr ["text"] [.lst (spI f n)],.list []]
def c5b (f:Nat->Int)(sh:List Nat):Option (Option PV×List Ob×Bool):=some (some (a0P (b8q 0 (bnd sh))),(match sh with
 | []=>[.cmp (d3u f 0) .NotEq (.lst []) (.loc 1) false]
 | k::r=>.cmp (d3u f (a1a sh).length) .NotEq (.lst (spI f (a1a sh).length)) (.loc 1) true::(d1O (a1a sh).length f 1 (k-1)++a8X f (a1a sh).length (e0Y k 0) (1+(k-1)) r)),true)
theorem d9i (f):a3c.map (c5U f)=a3c.map (c5b f):=by kernel_rfl
noncomputable def sW:Str := "WSegSpace"
noncomputable def sA:Str := "ALetter"
noncomputable def sX:Str := "Extend"
def a5w (T S Lf Rw Rt:List PV):PV:=.ins 122 b7e [.lst T,a0B,.lst S,.lst Lf,.lst Rw,.lst Rt]
noncomputable def a4c (x:Str):List Hint:=[.inl,.ans true,.ans true,.itm (.str x)]
def a4J (S:List PV)(j:Int)(x:Str):List Ob:=[.cmp [] .LtE (i 0) (i j) true,.cmp [] .Lt (i j) (i (.ofNat S.length)) true,.itm [] (.lst S) (i j) (.str x)]
def c6J (m:Nat)(x:Str):List Hint:=match m with
 | 0=>[.inl,.ans false]
 | 1=>[.inl,.ans true,.ans false]
 | _=>a4c x
def b9J (S:List PV)(j:Int)(m:Nat)(x:Str):List Ob:=match m with
 | 0=>[.cmp [] .LtE (i 0) (i j) false]
 | 1=>[.cmp [] .LtE (i 0) (i j) true,.cmp [] .Lt (i j) (i (.ofNat S.length)) false]
 | _=>a4J S j x
noncomputable def xOf (m:Nat)(x:Str):Str:=match m with
 | 0 => ""| 1 => ""| _=>x
def d1U (T:List PV)(a:Int):List Ob:=[.cmp [] .LtE (i a) (i 0) false,.cmp [] .GtE (i a) (i (.ofNat T.length)) false]
section
variable (T S Lf Rw Rt:List PV)(a l r:Int)(x:Str)
theorem d5j:[true,false].map (λ u=>a2r K0 100 125 [a5w T S Lf Rw Rt,i a] [.ans true,.ans u])=[true,false].map λ u=>some (.bool u,[.cmp [] .LtE (i a) (i 0) true,.cmp [] .Gt (i (.ofNat T.length)) (i 0) u],true):=by kernel_rfl
theorem d5i:a2r K0 100 125 [a5w T S Lf Rw Rt,i a] [.ans false,.ans true,.ans true]=some (.bool true,[.cmp [] .LtE (i a) (i 0) false,.cmp [] .GtE (i a) (i (.ofNat T.length)) true,.cmp [] .Gt (i (.ofNat T.length)) (i 0) true],true):=by kernel_rfl
def b7m:List (Str×Str):=[(sW,sW),(sA,sX),(sX,sX)]
theorem d5h:b7m.map (λ u=>a2r K0 100 125 [a5w T S Lf Rw Rt,i a] ([.ans false,.ans false]++(a4c u.1++a4c u.2)))=b7m.map λ u=>some (.bool false,d1U T a++(a4J S (a-1) u.1++a4J S a u.2),true):=by kernel_rfl
theorem d5g:[sA,sX].map (λ b=>a2r K0 100 125 [a5w T S Lf Rw Rt,i a] ([.ans false,.ans false]++(a4c b++(a4c sA++([.inl,.inl,.itm (i l)]++(a4c sA++a4c sA)))))) =
 [sA,sX].map λ b=>some (.bool false,d1U T a++(a4J S (a-1) b++(a4J S a sA++(.itm [] (.lst Lf) (i a) (i l)::(a4J S a sA++a4J S l sA)))),true):=by kernel_rfl
theorem d5f:[0,2].map (λ m=>a2r K0 100 125 [a5w T S Lf Rw Rt,i a] ([.ans false,.ans false]++(a4c sW++(a4c sA++([.inl,.inl,.itm (i l)]++(a4c sA++(a4c sW++([.inl,.itm (i r)]++(c6J m x++[.val (.bool false)]))))))))) =
 [0,2].map λ m=>some (.bool true,d1U T a++(a4J S (a-1) sW++(a4J S a sA++(.itm [] (.lst Lf) (i a) (i l)::(a4J S a sA++(a4J S l sW++(.itm [] (.lst Lf) (i l) (i r)::(b9J S r m x++[.fn 89 123 [.str (xOf m x),.str sW,.str sA] (.bool false)]))))))),true):=by kernel_rfl
def c1B:List (Str×Nat):=[(sA,1),(sA,2),(sX,1),(sX,2)]
theorem d5e:c1B.map (λ u=>a2r K0 100 125 [a5w T S Lf Rw Rt,i a] ([.ans false,.ans false]++(a4c u.1++(a4c sW++([.inl,.inl,.itm (i l)]++(a4c sW++(a4c sA++([.inl,.itm (i r)]++(c6J u.2 x++[.val (.bool false)]))))))))) =
 c1B.map λ u=>some (.bool true,d1U T a++(a4J S (a-1) u.1++(a4J S a sW++(.itm [] (.lst Lf) (i a) (i l)::(a4J S a sW++(a4J S l sA++(.itm [] (.lst Rt) (i (a+1)) (i r)::(b9J S r u.2 x++[.fn 89 123 [.str sA,.str sW,.str (xOf u.2 x)] (.bool false)]))))))),true):=by kernel_rfl
end
def T10:List (Nat×List Ent):=[(123,([("" : Str),sW,sA,sX]:List Str).flatMap λ x=>[([.str sA,.str sW,.str x],.bool false),([.str x,.str sW,.str sA],.bool false)])]
theorem c2R:a1o K0 60 T10=true:=by decide +kernel
def a0p (sh:List Nat):List Str:=sh.flatMap λ k=>match k with
 | 0=>[sW]
 | m+1=>sA::e0p m sX
def a1p (sh:List Nat):List Int:=-1::b5S (-1) 0 (a1a sh)
def a2P (sh:List Nat):List Int:=a9b 0 (a1a sh)
noncomputable def gS (S:List Str)(j:Int):Str:=S.getD j.toNat ""
def okS (S:List Str)(j:Int)(x:Str):Bool:=!a0X j 0&&(a0X j (.ofNat S.length)&&sEq (gS S j) x)
def d6X (S:List Str)(j:Int)(m:Nat)(x:Str):Bool:=match m with
 | 0=>a0X j 0| 1=>!a0X j 0 && !a0X j (.ofNat S.length)| _=>okS S j x
noncomputable def b0o (x:Str):List Str->Bool
 | []=>false| y::l=>sEq x y||b0o x l
def c8y:List Str:=["",sW,sA,sX]
def b6p (L:List Int)(j r:Int):Bool:=!a0X j 0&&(a0X j (.ofNat L.length)&&a3J (L.getD j.toNat 0) r)
def c6d (sh:List Nat)(k:Nat):Bool:=
 let S:=a0p sh
 let a:Int:=.ofNat k
 let l:=(a1p sh).getD k 0
 let b:=(bnd sh).getD k false
 (!a0X (.ofNat S.length) (a+1)&&a0X 0 a)&&((b7m.any λ u=>!b&&(okS S (a-1) u.1&&okS S a u.2)) ||
 (([sA,sX].any λ c=>!b&&(okS S (a-1) c&&(okS S a sA&&(b6p (a1p sh) a l&&okS S l sA)))) ||
 (([0,2].any λ m=>b&&(okS S (a-1) sW&&(okS S a sA&&(b6p (a1p sh) a l&&(okS S l sW&&(b6p (a1p sh) l ((a1p sh).getD l.toNat 0)&&(d6X S ((a1p sh).getD l.toNat 0) m (gS S ((a1p sh).getD l.toNat 0))&&b0o (xOf m (gS S ((a1p sh).getD l.toNat 0))) c8y))))))) ||
 (c1B.any λ u=>b&&(okS S (a-1) u.1&&(okS S a sW&&(b6p (a1p sh) a l&&(okS S l sA&&(b6p (a2P sh) (a+1) ((a2P sh).getD (k+1) 0)&&(d6X S ((a2P sh).getD (k+1) 0) u.2 (gS S ((a2P sh).getD (k+1) 0))&&b0o (xOf u.2 (gS S ((a2P sh).getD (k+1) 0))) c8y))))))))))
def d3J (sh:List Nat):Bool:=(e0f (a0p sh).length).all (λ k=>e0Y k 0||c6d sh k)&&((bnd sh).getD 0 false==e0g 0 (a0p sh).length&&((bnd sh).getD (a0p sh).length false==e0g 0 (a0p sh).length&&(e0Y (a1a sh).length (a0p sh).length&&e0Y (bnd sh).length ((a0p sh).length+1))))
theorem c6c:(a3c.all d3J)=true:=by decide +kernel
theorem b9N (h:(!a0X j 0)=true):∃ n,j=.ofNat n:=by
 rw [a0h] at h;have:¬ j<0:=by simpa using h
 exact ⟨j.toNat,(Int.toNat_of_nonneg (by lia)).symm⟩
theorem ltT (h:n<m):a0X (.ofNat n) (.ofNat m)=true:=(a0h _ _).trans (decide_eq_true (e1J.mpr h))
theorem c5u (h:a0X (.ofNat n) (.ofNat m)=true):n<m:=by rw [a0h] at h;exact e1J.mp (of_decide_eq_true h)
theorem a1N (h:(a&&b)=true):a=true/\b=true:=e1I.mp h
theorem a5c:∀ {l:List Str},b0o x l=true->x∈l
 | [],h=>by cases h
 | y::l,h=>by
   rcases e1m.mp (show (sEq x y||b0o x l)=true from h) with h | h
   · rw [a0w.mp h]; exact e0X ..
   · exact e0Z _ (a5c h)
section
variable {B:Base}{S:List Str}{j:Int}{x:Str}
theorem le0 (h:(!a0X j 0)=true) (H):a3U H .LtE (i 0) (i j)=some true:=congrArg some h
theorem a1S (h:okS S j x=true):OblE B (a4J (S.map .str) j x):=by
 obtain ⟨h1,h2⟩:=a1N h;obtain ⟨h2,h3⟩:=a1N h2;obtain ⟨n,rfl⟩:=b9N h1;have l:=c5u h2;refine a0H (le0 h1) (a0H (λ H=>?_) (a0H (λ H=>a1P H ?_) a0m))
 · rw [e0c]; exact congrArg some h2
 · have e:=a0w.mp h3;have e:S.getD n "" = x:=e;rw [List.getElem?_map,List.getElem?_eq_getElem l];rw [List.getD_eq_getElem?_getD,List.getElem?_eq_getElem l] at e;exact congrArg (some∘PV.str) e
theorem b5J (h:d6X S j m x=true):OblE B (b9J (S.map .str) j m x):=by
 match m,h with
 | 0,h=>exact a0H (λ H=>congrArg some (show (!a0X j 0)=false by rw [show a0X j 0=true from h]; rfl)) a0m| 1,h=>obtain ⟨h1,h2⟩:=a1N h;refine a0H (le0 h1) (a0H (λ H=>?_) a0m);rw [e0c];exact congrArg some (by simpa using h2)
 | m+2,h=>exact a1S h
theorem a3f (h:b6p L j r=true) (H):a2T H (.lst (L.map .int)) (i j)=some (i r):=by obtain ⟨h1,h2⟩:=a1N h;obtain ⟨h2,h3⟩:=a1N h2;obtain ⟨n,rfl⟩:=b9N h1;have l:=c5u h2;refine a1P H ?_;have e:L.getD n 0=r:=of_decide_eq_true ((a1L _ _).symm.trans h3);rw [List.getElem?_map,List.getElem?_eq_getElem l];rw [List.getD_eq_getElem?_getD,List.getElem?_eq_getElem l] at e;exact congrArg (some∘PV.int) e
def a6g (T:List PV)(sh:List Nat):PV:=a5w T ((a0p sh).map .str) ((a1p sh).map .int) (a1h (λ _=>i 0) (a1a sh).length) ((a2P sh).map .int)
theorem b2b (Z:TabOK B 61 T10)(h:x∈c8y):FnOK B 61 123 [.str sA,.str sW,.str x] (.bool false)/\FnOK B 61 123 [.str x,.str sW,.str sA] (.bool false):=
 ⟨Z _ (e0X ..) ([.str sA,.str sW,.str x],.bool false) (e0j.mpr ⟨x,h,e0X ..⟩),Z _ (e0X ..) ([.str x,.str sW,.str sA],.bool false) (e0j.mpr ⟨x,h,e0Z _ (e0X ..)⟩)⟩
theorem b9U:∀ n,a0E (a1h (λ _=>i 0) n)=true
 | 0=>rfl| n+1=>by show (true&&a0E (a1h (λ _=>i 0) n))=true;rw [b9U n]; rfl
theorem a5g (hT:a0E T=true) (sh) (a):a0E [a6g T sh,i a]=true:=by have h1:a0E ((a0p sh).map PV.str)=true:=a1y (λ _=>rfl) _;have h2:a0E ((a1p sh).map PV.int)=true:=a0O _;have h3:a0E ((a2P sh).map PV.int)=true:=a0O _;have h4:=b9U (a1a sh).length;have e:a0e (a6g T sh)=(a0E T&&(a0e a0B&&(a0E ((a0p sh).map PV.str)&&(a0E ((a1p sh).map PV.int)&&(a0E (a1h (λ _=>i 0) (a1a sh).length)&&(a0E ((a2P sh).map PV.int)&&true)))))):=rfl;have e2:a0E [a6g T sh,i a]=(a0e (a6g T sh)&&(true&&true)):=rfl;rw [e2,e,hT,h1,h2,h3,h4];rfl
theorem c7c (BO:BaseOK2 B)(Z:TabOK B 61 T10)(hs:sh∈a3c)(hT:a0E T=true)(hl:T.length=(a0p sh).length)(hk:k <= (a0p sh).length) :
 FnOK B 101 125 [a6g T sh,i (.ofNat k)] (.bool ((bnd sh).getD k false)):=by
 have c:=e0w.mp c6c sh hs;obtain ⟨c1,c2⟩:=a1N c;obtain ⟨c2,c3⟩:=a1N c2;obtain ⟨c3,c4⟩:=a1N c3;have c2:=eq_of_beq c2;have c3:=eq_of_beq c3;have KO:=a0o B;have gt0:∀ {n:Nat} {u:Bool},e0g 0 n=u->∀ H,a3U H .Gt (i (.ofNat n)) (i 0)=some u:=fun {n u} e H=>by
  show some (a0X 0 (.ofNat n))=some u;rw [<- e,a0h];cases n with
  | zero=>rfl| succ n=>exact congrArg some (decide_eq_true (e1J.mpr (e1P n)))
 rcases Nat.eq_zero_or_pos k with rfl | k0
 · rw [c2];refine a0W BO KO (a5g hT sh _) (a0I (d5j _ _ _ _ _ _) (b4K _)) (λ H=>rfl) (a0H (λ H=>rfl) (a0H (gt0 (by rw [hl])) a0m))
 · have ple:∀ H,a3U H .LtE (i (.ofNat k)) (i 0)=some false:=λ H=>by show some (!a0X 0 (.ofNat k))=_;rw [show a0X 0 (.ofNat k)=true from ltT k0]; rfl
   rcases e1A k (a0p sh).length with l | l
   · have c:=e0w.mp c1 k (a1b l);rcases e1m.mp c with c | c
     · rw [e0r c] at k0; exact absurd k0 (Nat.lt_irrefl 0)
     · unfold c6d at c;dsimp only at c;have mid:OblE B (d1U T (.ofNat k)):=a0H ple (a0H (λ H=>by show some (!a0X (.ofNat k) (.ofNat T.length))=_;rw [hl,ltT l]; rfl) a0m);rcases e1m.mp (a1N c).2 with c | c
       · obtain ⟨u,hu,c⟩:=e1y.mp c;obtain ⟨b0,c⟩:=a1N c;obtain ⟨d1,d2⟩:=a1N c;rw [show (bnd sh).getD k false=false by simpa using b0];exact a0W BO KO (a5g hT sh _) (a0I (d5h _ _ _ _ _ _) hu) (λ H=>rfl) (a1O mid (a1O (a1S d1) (a1S d2)))
       · rcases e1m.mp c with c | c
         · obtain ⟨u,hu,c⟩:=e1y.mp c;obtain ⟨b0,c⟩:=a1N c;obtain ⟨d1,c⟩:=a1N c;obtain ⟨d2,c⟩:=a1N c;obtain ⟨d3,d4⟩:=a1N c;rw [show (bnd sh).getD k false=false by simpa using b0];exact a0W BO KO (a5g hT sh _) (a0I (d5g _ _ _ _ _ _ _) hu) (λ H=>rfl) (a1O mid (a1O (a1S d1) (a1O (a1S d2) (a0H (a3f d3) (a1O (a1S d2) (a1S d4))))))
         · rcases e1m.mp c with c | c
           · obtain ⟨u,hu,c⟩:=e1y.mp c;obtain ⟨b0,c⟩:=a1N c;obtain ⟨d1,c⟩:=a1N c;obtain ⟨d2,c⟩:=a1N c;obtain ⟨d3,c⟩:=a1N c;obtain ⟨d4,c⟩:=a1N c;obtain ⟨d5,c⟩:=a1N c;obtain ⟨d6,d7⟩:=a1N c;rw [b0];exact a0W BO KO (a5g hT sh _) (a0I (d5f _ _ _ _ _ _ _ _ _) hu) (λ H=>rfl) (a1O mid (a1O (a1S d1) (a1O (a1S d2) (a0H (a3f d3) (a1O (a1S d2) (a1O (a1S d4) (a0H (a3f d5) (a1O (b5J d6) (a0H ((b2b Z (a5c d7)).2.le (by decide)) a0m)))))))))
           · obtain ⟨u,hu,c⟩:=e1y.mp c;obtain ⟨b0,c⟩:=a1N c;obtain ⟨d1,c⟩:=a1N c;obtain ⟨d2,c⟩:=a1N c;obtain ⟨d3,c⟩:=a1N c;obtain ⟨d4,c⟩:=a1N c;obtain ⟨d5,c⟩:=a1N c;obtain ⟨d6,d7⟩:=a1N c;rw [b0];exact a0W BO KO (a5g hT sh _) (a0I (d5e _ _ _ _ _ _ _ _ _) hu) (λ H=>rfl) (a1O mid (a1O (a1S d1) (a1O (a1S d2) (a0H (a3f d3) (a1O (a1S d2) (a1O (a1S d4) (a0H (a3f d5) (a1O (b5J d6) (a0H ((b2b Z (a5c d7)).1.le (by decide)) a0m)))))))))
   · have e:k=(a0p sh).length:=Nat.le_antisymm hk l;subst e;have pt:e0g 0 (a0p sh).length=true:=e2b k0;rw [c3,pt];refine a0W BO KO (a5g hT sh _) (d5i _ _ _ _ _ _) (λ H=>rfl) (a0H ple (a0H (λ H=>?_) (a0H (gt0 (by rw [hl,pt])) a0m)));show some (!a0X (.ofNat (a0p sh).length) (.ofNat T.length))=_;rw [hl,show a0X (.ofNat (a0p sh).length) (.ofNat (a0p sh).length)=false from (a0h _ _).trans (decide_eq_false (Int.lt_irrefl _))]; rfl
end
def wbS (c:Int):Str:=match c with
 | 32=>sW| 769=>sX| 803=>sX| _=>sA
theorem d0I (h:c∈a0J):wbF c=.str (wbS c):=by unfold a0J at h;simp only [e0d,e0b,or_false] at h;rcases h with rfl | rfl | rfl | rfl | rfl | rfl | rfl | rfl | rfl | rfl | rfl <;> rfl
def shG (g:Grp):Nat:=match a3J g.1 32 with
 | true=>0| false=>(a0k g).length
def a3X (gs:List Grp):List Nat:=gs.map shG
theorem a8T:∀ g∈a2u,shG g∈[0,1,2,3]/\a0p [shG g]=(a0k g).map wbS/\(∀ c∈a0k g,c∈a0J):=by decide +kernel
theorem b8w:∀ k∈[0,1,2,3],d1E k=(a0p [k]).map (λ s=>!sEq s sX)/\d1E k∈[[true],[true,false],[true,false,false]]:=by decide +kernel
theorem c5P:∀ {l:List Nat},(∀ k∈l,k∈[0,1,2,3])->l∈a3c.go l.length
 | [],_=>e0X ..| k::l,h=>e0j.mpr ⟨k,h k (e0X ..),e0e.mpr ⟨l,c5P λ x m=>h x (e0Z _ m),rfl⟩⟩
theorem b4m (k) (l):a0p (k::l)=a0p [k]++a0p l:=by unfold a0p;rw [e1O,e1O,e2B,e0k]
theorem c7j (k) (l):a1a (k::l)=d1E k++a1a l:=rfl
theorem b5E:∀ {l:List Nat},(∀ k∈l,k∈[0,1,2,3])->a1a l=(a0p l).map λ s=>!sEq s sX
 | [],_=>rfl| k::l,h=>by rw [c7j,b4m,e0o,<- b5E λ x m=>h x (e0Z _ m),(b8w k (h k (e0X ..))).1]
theorem b5F:∀ {l:List Nat},(∀ k∈l,k∈[0,1,2,3])->a1a l∈a6u.pats l.length
 | [],_=>e0X ..| k::l,h=>e0j.mpr ⟨_,(b8w k (h k (e0X ..))).2,e0e.mpr ⟨_,b5F λ x m=>h x (e0Z _ m),rfl⟩⟩
section
variable {gs:List Grp}
theorem b8U (h:∀ g∈gs,g∈a2u):∀ k∈a3X gs,k∈[0,1,2,3]:=λ k m=>by obtain ⟨g,hg,rfl⟩:=e0e.mp m;exact (a8T g (h g hg)).1
theorem c5Q:(a3X gs).length=gs.length:=e0c ..
theorem a4p (h:OkL gs):a3X gs∈a3c:=e0j.mpr ⟨(a3X gs).length,by rw [c5Q]; exact (show gs.length∈e0f 4 from a1b (by have:=h.2; lia)),c5P (b8U h.1)⟩
theorem c7U (h:OkL gs):a1a (a3X gs)∈a6u:=e0j.mpr ⟨(a3X gs).length,by rw [c5Q]; exact (show gs.length∈e0f 4 from a1b (by have:=h.2; lia)),b5F (b8U h.1)⟩
theorem a9Y:∀ {gs:List Grp},(∀ g∈gs,g∈a2u)->a0p (a3X gs)=(a0K gs).map wbS
 | [],_=>rfl| g::gs,h=>by show a0p (shG g::a3X gs)=(a0k g++a0K gs).map wbS;rw [b4m,a9Y λ y m=>h y (e0Z _ m),(a8T g (h g (e0X ..))).2.1,e0o]
theorem a5o (h:∀ g∈gs,g∈a2u):∀ c∈a0K gs,c∈a0J:=λ c m=>by obtain ⟨g,hg,hc⟩:=e0j.mp m;exact (a8T g (h g hg)).2.2 c hc
theorem a5p (h:OkL gs):(a0K gs).length<=9:=by
 have:∀ {gs:List Grp},(∀ g∈gs,g∈a2u)->(a0K gs).length <= 3 * gs.length:=by
  intro gs;induction gs with
  | nil=>intro _; exact e0i _| cons g gs ih=>intro h;have a:=ih λ y m=>h y (e0Z _ m);have b:=a6d g (h g (e0X ..));show (a0k g++a0K gs).length<=3 * (gs.length+1);rw [e0a];lia
 have:=this h.1;have:=h.2;lia
end
theorem a5Z (h:s∈[sW,sA,sX]):∀ H,a3U H .In (.str s) c2Z=some (sEq s sX)/\a3U H .NotIn (.str s) d2q=some true/\a3U H .Eq (.str s) riT=some false:=by intro H;simp only [e0d,e0b,or_false] at h;rcases h with rfl | rfl | rfl <;> exact ⟨by kernel_rfl,by kernel_rfl,by kernel_rfl⟩
theorem b7c (c):wbS c∈[sW,sA,sX]:=by
 unfold wbS;split
 · exact e0X ..
 · exact e0Z _ (e0Z _ (e0X ..))
 · exact e0Z _ (e0Z _ (e0X ..))
 · exact e0Z _ (e0X ..)
section
variable {B:Base}{s:Nat->Str}
theorem ge0 (n) (H):a3U H .GtE (i (.ofNat n)) (i 0)=some true:=by show some (!a0X (.ofNat n) 0)=_;rw [show a0X (.ofNat n) 0=false from (a0h _ _).trans (decide_eq_false (by simp))];rfl
theorem b9E (h3:∀ k,s k∈[sW,sA,sX]):∀ (p:List Bool)(ahead:Int)(k:Nat),(∀ j,j < p.length->p.getD j false=!sEq (s (k + j)) sX)->(ahead=-1 /\ p.headD true=true \/ ∃ n:Nat,ahead=.ofNat n)->OblE B (d1P s ahead k p)
 | [],_,_,_,_=>a0m| b::p,ahead,k,hp,ha=>by
   have hb:b=!sEq (s k) sX:=hp 0 (e1P _);have rest:OblE B (d1P s (c3V ahead k b) (k + 1) p):=b9E h3 p _ (k + 1) (λ j l=>by
    have:=hp (j+1) (e1Z l);rw [show k+(j+1)=k+1+j by lia] at this;exact this) (by
    cases b with
    | true=>exact .inr ⟨k,rfl⟩| false=>
      rcases ha with ⟨_,h⟩ | h
      · cases h
      · exact .inr h)
   dsimp only [d1P];refine a1O ?_ (a1O ?_ (a0H (λ H=>(a5Z (h3 k) H).2.2) rest))
   · cases b with
     | true=>exact a0H (λ H=>by rw [(a5Z (h3 k) H).1]; rw [show sEq (s k) sX=false by simpa using hb.symm]) a0m| false=>
       rcases ha with ⟨_,h⟩ | ⟨n,rfl⟩
       · cases h
       · exact a0H (λ H=>by rw [(a5Z (h3 k) H).1]; rw [show sEq (s k) sX=true by simpa using hb.symm]) (a0H (λ H=>ge0 n H) (a0H (λ H=>(a5Z (h3 _) H).2.1) a0m))
   · rcases ha with ⟨rfl,_⟩ | ⟨n,rfl⟩
     · exact a0H (λ H=>rfl) a0m
     · rw [show a0X (.ofNat n) 0=false from (a0h _ _).trans (decide_eq_false (by simp))];exact a0H (λ H=>ge0 n H) (a0H (λ H=>(a5Z (h3 _) H).2.2) a0m)
theorem b9B (h3:∀ k,s k∈[sW,sA,sX]):∀ (p:List Bool)(k:Nat),(∀ j,j < p.length->p.getD j false=!sEq (s (k + j)) sX)->OblE B (d6Z s k p)
 | [],_,_=>a0m| b::p,k,hp=>by have hb:b=!sEq (s k) sX:=hp 0 (e1P _);refine a1O (b9B h3 p (k+1) λ j l=>by have:=hp (j+1) (e1Z l);rw [show k+(j+1)=k+1+j by lia] at this;exact this) (a0H (λ H=>?_) a0m);rw [(a5Z (h3 k) H).1,hb];simp
end
theorem d5b (T) (hs):(enter true (scK 126) [] [("text",.lst T),("data",a0B)] ⟨[],hs⟩).map a0S=some (c9p,⟨d2Z T,hs⟩,[],true):=by kernel_rfl
theorem d5Z:fnB 126=[stm 126 0]++[stm 126 1]:=by kernel_rfl
theorem d5a (t):a2N (pmK 126) (dfK 126) [t,a0B]=(some [("text",t),("data",a0B)]:Option (List (Str×PV))):=by kernel_rfl
theorem Run.ofVE {st:St}(h:(m st).map (λ y=>(match y.1 with | .ret v=>a0b 8 y.2.1.H v | _=>none,y.2.2.ps.map obE,e0m y.2.2.sz 1000))=some (some t,p,true))(O:OblE B p):Run B m st (a9O t):=by
 obtain ⟨⟨f,s,ob⟩,e,hh⟩:=e1C.mp h;simp only [Prod.mk.injEq] at hh;obtain ⟨h1,rfl,h3⟩:=hh;cases f with
 | ret v=>exact ⟨.ret v,s,ob.ps,⟨ob.sz,e,e0t h3⟩,O.of,v,rfl,h1⟩| _=>cases h1
section
variable {B:Base}{gs:List Grp}
def sG (gs:List Grp)(k:Nat):Str:=wbS ((a0K gs).getD k 0)
def fG (gs:List Grp)(k:Nat):Int:=(a0K gs).getD k 0
theorem d7h (h:∀ g∈gs,g∈a2u):a1a (a3X gs)=(a0K gs).map λ c=>!sEq (wbS c) sX:=by rw [b5E (b8U h),a9Y h,e1H]; rfl
theorem a3w (h:∀ g∈gs,g∈a2u):(a1a (a3X gs)).length=(a0K gs).length:=by rw [d7h h,e0c]
theorem spG (gs):spI (fG gs) (a0K gs).length=(a0K gs).map .int:=by unfold spI;rw [a1c];exact (a1g (λ c=>PV.int c) 0 _).symm
theorem b5G (h:∀ g∈gs,g∈a2u):∀ j,j<(a1a (a3X gs)).length->(a1a (a3X gs)).getD j false=!sEq (sG gs (0+j)) sX:=λ j l=>by rw [a3w h] at l;rw [d7h h,e1S];unfold sG;rw [List.getD_eq_getElem?_getD,List.getD_eq_getElem?_getD,List.getElem?_map,List.getElem?_eq_getElem l];rfl
theorem b7d (h:∀ g∈gs,g∈a2u):c2F (fG gs) (sG gs) (a1a (a3X gs))=a6g ((a0K gs).map .int) (a3X gs):=by
 have e1:a1h (λ k=>PV.str (sG gs k)) (a1a (a3X gs)).length=(a0p (a3X gs)).map .str:=by rw [a3w h,a9Y h,e1H];exact (a1g (λ c=>PV.str (wbS c)) 0 _).symm
 unfold c2F a6g a5w;rw [e1,a3w h,spG];rfl
theorem c2v (h:∀ g∈gs,g∈a2u):(a1a (a3X gs)).headD true=true:=by
 cases gs with
 | nil=>rfl| cons g gs=>have h0:=(a8T g (h g (e0X ..))).1;show (d1E (shG g)++a1a (a3X gs)).headD true=true;simp only [e0d,e0b,or_false] at h0;rcases h0 with e | e | e | e <;> rw [e] <;> rfl
theorem b5K:∀ (l:List Bool)(k:Nat),(∀ j,j < l.length->FnOK B 146 125 [c2F f s p,i (.ofNat (k + j))] (.bool (l.getD j false)))->OblE B (c7r f s p k l)
 | [],_,_=>a0m| b::l,k,h=>a0H (h 0 (e1P _)) (b5K l (k+1) λ j x=>by have:=h (j+1) (e1Z x);rw [show k+(j+1)=k+1+j by lia] at this;exact this)
theorem d4A (T:TabOK B 37 T1)(h:c∈a0J):FnOK B 37 3094 [a0B,.str "wb",i c] (.str (wbS c)):=by rw [<- d0I h];exact T _ (e0X ..) ([a0B,.str "wb",i c],wbF c) (e1i _ (e0e.mpr ⟨c,h,rfl⟩))
theorem b0f (BO:BaseOK2 B)(S:TabOK B 37 T1)(Z:TabOK B 61 T10)(h:OkL gs):FnOK B 153 126 [a0P (a0K gs),a0B] (a0P (b8q 0 (bnd (a3X gs)))):=by
 have c:=e0w.mp c6c _ (a4p h);have c4:=(a1N (a1N (a1N c).2).2).2;have hb:(bnd (a3X gs)).length=(a0p (a3X gs)).length+1:=e0r (a1N c4).2;have hs:(a0p (a3X gs)).length=(a0K gs).length:=by rw [a9Y h.1,e0c]
 refine a0t BO (a0o B) (n:=151) (hs:=b5h (sG gs) (a1a (a3X gs))++(bnd (a3X gs)).map λ b=>.val (.bool b)) (by rw [a0N]; rfl) rfl (d5a _) (d5b _ _) a0V ?_;rw [d5Z];have e:=a0I (d5d (fG gs) (sG gs) ((bnd (a3X gs)).map λ b=>.val (.bool b))) (c7U h);unfold c5V at e;rw [show spI (fG gs) (a1a (a3X gs)).length=(a0K gs).map .int by rw [a3w h.1,spG]] at e;refine Run.cons (Run.ofF e (a1O (a3g λ k l=>?_) (a1O (b9E (λ k=>b7c _) _ _ _ (b5G h.1) (.inl ⟨rfl,c2v h.1⟩)) (b9B (λ k=>b7c _) _ _ (b5G h.1)))) ⟨rfl,?_⟩)
 · rw [a3w h.1] at l;exact (d4A S (a5o h.1 _ (a4d l))).le (by decide)
 · have e2:=a0I (d5c (fG gs) (sG gs)) (a4p h);unfold c6U at e2;refine Run.ofVE e2 (b5K _ _ λ j l=>?_);rw [b7d h.1,e1S];exact (c7c BO Z (a4p h) (a0O _) (by rw [e0c,hs]) (by lia)).le (by decide)
end
def b7F (c:Int):Bool:=a3J c 769||a3J c 803
theorem b9a {c:Int}(h:c∈a0J)(H:List PO):a3U H .NotIn (i c) a4U=some (!b7F c):=by unfold a0J at h;simp only [e0d,e0b,or_false] at h;rcases h with rfl | rfl | rfl | rfl | rfl | rfl | rfl | rfl | rfl | rfl | rfl <;> rfl
theorem a9f:∀ g∈a2u,a0k g=(a0k g).headD 0::(a0k g).drop 1/\b7F ((a0k g).headD 0)=false/\decide ((a0k g).headD 0=32)=e0Y (shG g) 0/\((a0k g).drop 1).length=shG g-1/\(∀ c∈(a0k g).drop 1,b7F c=true)/\decide ((a0k g).getLastD 0=32)=e0Y (shG g) 0:=by decide +kernel
theorem c0q {n m:Nat}{r:Bool}(e:decide (n=m)=r)(H:List PO):a3U H .Eq (i (.ofNat n)) (i (.ofNat m))=some r:=a9w e H
section
variable {B:Base}{f:Nat->Int}
theorem b9D:∀ (m at_:Nat),at_ + m <= n->(∀ j,j < m->f (at_ + j)∈a0J /\ b7F (f (at_ + j))=true)->OblE B (d1O n f at_ m)
 | 0,_,_,_=>a0m| m+1,at_,hl,h=>by obtain ⟨a,b⟩:=h 0 (e1P _);rw [e1o] at a b;refine a0H (c0q (decide_eq_false (by lia))) (a0H (λ H=>by rw [b9a a,show b7F (f at_)=true from b]; rfl) (b9D m (at_+1) (by lia) λ j l=>?_));have:=h (j+1) (e1Z l);rwa [show at_+(j+1)=at_+1+j by lia] at this
theorem c0e {l r:List Int}{k:Nat}(h:k<r.length):(l++r).getD (l.length+k) 0=r.getD k 0:=by rw [List.getD_eq_getElem?_getD,List.getD_eq_getElem?_getD,List.getElem?_append_right (e1M _ _),e2o]
theorem b5j {l r:List Int}{k:Nat}(h:k<l.length):(l++r).getD k 0=l.getD k 0:=by rw [List.getD_eq_getElem?_getD,List.getD_eq_getElem?_getD,List.getElem?_append_left h]
theorem c3T {l:List Int}(h:l≠[]):l.getD (l.length-1) 0=l.getLastD 0:=by rw [List.getD_eq_getElem?_getD,<- List.getLast?_eq_getElem?,e2p]
theorem b5O {g:Grp}(hg:g∈a2u){pre post:List Int}{n:Nat}(hn:pre.length+(a0k g).length<=n)(hf:∀ k,f k=(pre++(a0k g++post)).getD k 0):OblE B (d1O n f (pre.length+1) (shG g-1)):=by
 obtain ⟨e,_,_,e3,e4,_⟩:=a9f g hg;have el:(a0k g).length=shG g-1+1:=by rw [e,e0n,e3]
 refine b9D _ _ (by lia) λ j l=>?_;have:f (pre.length+1+j)=(a0k g).getD (j+1) 0:=by rw [hf,show pre.length+1+j=pre.length+(j+1) by lia,c0e (by rw [e0a]; lia),b5j (by lia)]
 rw [this];have hm:(a0k g).getD (j+1) 0∈(a0k g).drop 1:=by rw [List.getD_eq_getElem?_getD,List.getElem?_eq_getElem (by lia)];have:(a0k g).drop 1=(a0k g).tail:=List.drop_one;rw [this];exact e0s (i:=j) (by rw [List.getElem?_tail,List.getElem?_eq_getElem (by lia)]; rfl)
 exact ⟨(a8T g hg).2.2 _ (e2l hm),e4 _ hm⟩
theorem c3U {l r:List Int}(h:r≠[]):(l++r).getLastD 0=r.getLastD 0:=by
 rw [e2p,e2p,List.getLast?_append];cases r with
 | nil=>exact absurd rfl h| cons x r=>rw [List.getLast?_cons];rfl
theorem b1Y:∀ {gs:List Grp}{pre:List Int}{w:Bool},(∀ g∈gs,g∈a2u)->pre ≠ []->decide (pre.getLastD 0=32)=w->(∀ k,f k=(pre++a0K gs).getD k 0)->n=(pre++a0K gs).length->OblE B (a8X f n w pre.length (a3X gs))
 | [],pre,w,_,_,_,_,hn=>a0H (c0q (decide_eq_true (by rw [hn,show a0K []=[] from rfl,e0k]))) a0m| g::gs,pre,w,hg,h0,hw,hf,hn=>by
   have hg0:=hg g (e0X ..);obtain ⟨e,e1,e2,e3,e4,e5⟩:=a9f g hg0;have ef:a0K (g::gs)=a0k g++a0K gs:=rfl;rw [ef] at hf hn;have el:(a0k g).length=shG g-1+1:=by rw [e,e0n,e3]
   have hn':n=pre.length+((a0k g).length+(a0K gs).length):=by rw [hn,e0a,e0a]
   have fx:f pre.length=(a0k g).headD 0:=by
    have:f (pre.length+0)=(a0k g++a0K gs).getD 0 0:=by rw [hf,c0e (by rw [e0a]; lia)]
    rw [e1o] at this;rw [this,e];rfl
   have fp:f (pre.length-1)=pre.getLastD 0:=by have:0<pre.length:=List.length_pos_iff.mpr h0;rw [hf,b5j (by lia),c3T h0]
   have hc:(a0k g).headD 0∈a0J:=(a8T g hg0).2.2 _ (by have:(a0k g).headD 0∈(a0k g).headD 0::(a0k g).drop 1:=e0X ..;rwa [<- e] at this);have ne:a0k g≠[]:=by rw [e]; exact λ h=>by cases h
   have rest:OblE B (a8X f n (e0Y (shG g) 0) (pre++a0k g).length (a3X gs)):=b1Y (λ y m=>hg y (e0Z _ m)) (by intro h;exact ne (List.append_eq_nil_iff.mp h).2) (by rw [c3U ne,e5]) (by rw [e0h]; exact hf) (by rw [e0h]; exact hn);rw [e0a] at rest;show OblE B (a8X f n w pre.length (shG g::a3X gs));dsimp only [a8X];refine a1O ?_ (a1O (b5O hg0 (by lia) hf) ?_)
   · refine a0H (c0q (decide_eq_false (by lia))) (a0H (λ H=>by rw [fx,b9a hc,e1]; rfl) (a0H (λ H=>by rw [fx,b4H,e2]) (a0H (λ H=>by rw [fp,b4H,hw]) (a0H (λ H=>?_) a0m))));generalize e0Y (shG g) 0=a;cases a <;> cases w <;> rfl
   · rw [show pre.length+1+(shG g-1)=pre.length+(a0k g).length by lia];exact rest
theorem b5q (BO:BaseOK2 B){K:Kt}(KO:KOK B K)(nl:a0E args=true)(h:(a1T (rk K n) k args ⟨[],hs⟩).map (λ y=>(a0b 8 y.2.1.H y.1,c7t y.2.2.ps,e0m y.2.2.sz 1000))=some (some t,o::p,true))(h0:o.ok B)(O:OblE B p):FnOK B (n+1) k args t:=by
 obtain ⟨⟨v,s,ob⟩,e,hh⟩:=e1C.mp h;simp only [Prod.mk.injEq] at hh;obtain ⟨h1,h2,h3⟩:=hh;refine a5H BO KO nl ⟨v,s,ob.ps,⟨ob.sz,e,e0t h3⟩,?_,h1⟩;cases hp:ob.ps with
 | nil=>rw [hp] at h2; cases h2| cons x r=>rw [hp] at h2;simp only [c7t,List.cons.injEq] at h2;obtain ⟨rfl,rfl⟩:=h2;exact OblL.cons h0 O.of
theorem b1l (BO:BaseOK2 B)(h:OkL gs):FnOK B 101 141 [a0P (a0K gs)] (a0P (b8q 0 (bnd (a3X gs)))):=by
 have e:=a0I (d9i (fG gs)) (a4p h);unfold c5U c5b at e;rw [a3w h.1] at e;have hf:∀ k,fG gs k=(a0K gs).getD k 0:=λ _=>rfl;have hsp:=spG gs
 match gs,h,e,hsp with
 | [],h,e,hsp=>exact b5q BO (a0o B) rfl e rfl a0m| g::gs,h,e,hsp=>
   have hg0:=h.1 g (e0X ..);have hg':∀ y∈gs,y∈a2u:=λ y m=>h.1 y (e0Z _ m);obtain ⟨q,q1,q2,q3,q4,q5⟩:=a9f g hg0;have ef:a0K (g::gs)=a0k g++a0K gs:=rfl;have ne:a0k g≠[]:=by rw [q]; exact λ h=>by cases h
   have el:(a0k g).length=shG g-1+1:=by rw [q,e0n,q3]
   have sp2:d3u (fG (g::gs)) (a0K (g::gs)).length=[.fr ["text"] [a0P (a0K (g::gs))],.list []]:=by unfold d3u;rw [hsp]; rfl
   dsimp only [a3X,e0v] at e;rw [sp2,hsp] at e;refine b5q BO (a0o B) (by rw [a0N]; rfl) e ?_ (a1O ?_ ?_)
   · show a3U _ .NotEq (a0P (a0K (g::gs))) (.loc 1)=some true;rw [ef,q];rfl
   · have:=b5O (f:=fG (g::gs)) (B:=B) hg0 (pre:=[]) (post:=a0K gs) (n:=(a0K (g::gs)).length) (by rw [ef,e0a,e1K]; lia) (λ k=>rfl);rwa [e1K,e1S] at this
   · have:=b1Y (f:=fG (g::gs)) (B:=B) (gs:=gs) (pre:=a0k g) (n:=(a0K (g::gs)).length) hg' ne q5 (λ k=>rfl) rfl;rw [show 1+(shG g-1)=(a0k g).length by lia];exact this
end
def d0C (d':a6S)(t:PV)(f:Fl)(s:St):Prop:=∃ v G,f=.ret v/\s.H=a8J d'++G/\a0b 8 (.opq::.opq::G) v=some t
theorem b6C (d) (G):b0e 2 (a8J d++G)=a8J d++b0e 0 G/\b0e 2 (.opq::.opq::G)=.opq::.opq::b0e 0 G:=by
 cases G with
 | nil=>exact ⟨rfl,rfl⟩| cons o G=>cases o <;> exact ⟨rfl,rfl⟩
theorem b0N (BO:BaseOK2 B){K:Kt}(KO:KOK B K)(nl:a0E args=true)(hk:okK k=true)(hb:a2N (pmK k) (dfK k) (.loc 0::args)=some xs)
 (he:(enter true (scK k) [] xs ⟨a8J d,hs⟩).map a0S=some (ae,st1,p,true)) (hL:ae.L=2) (O:OblL B p) (h:Run B (a0a (rk K n) ae (fnB k)) st1 (d0C d' t)):b2o B (n+2) k d args t d':=by
 unfold okK at hk;unfold pmK dfK at hb;unfold scK at he;unfold fnB at h;cases hf:a2U k with
 | none=>rw [hf] at hk; cases hk| some f=>
   rw [hf] at hb he h;refine b3t BO KO nl (Run.call hf hb he O (h.mono λ f s q=>?_));obtain ⟨v,G,rfl,e,ht⟩:=q;refine ⟨v,rfl,b0e 0 G,?_,?_⟩
   · show b0e ae.L s.H=_;rw [hL,e,(b6C d' G).1]
   · rw [<- (b6C d' G).2];exact b4d ht
def b2l:AEnv:=⟨scK 136,2,[],true⟩
noncomputable def a9t (j:Nat):Nat->List PV
 | 0=>[]
 | n+1=>.loc j::a9t (j+1) n
def frV (mk:Bool)(g w:Int):PO:=match mk with
 | true=>.fr ["deck", "found", "go", "way", "marks"] [.loc 0,.loc 3,i g,i w,.loc 4]| false=>.fr ["deck", "found", "go", "way"] [.loc 0,.loc 3,i g,i w]
noncomputable def mkO (mk:Bool)(Mk:List PV):List PO:=match mk with
 | true=>[.list Mk]
 | false=>[]
noncomputable def nM (mk:Bool):Nat:=match mk with
 | true=>5| false=>4
@[irreducible] def b7I (mk:Bool)(L:List PV)(M g w:Int)(Mk:List PV)(Ps:List (List PV)):List PO:=.dict [kL,kM] [.loc 1,i M]::.list L::frV mk g w::.list (a9t (nM mk) Ps.length)::(mkO mk Mk++Ps.map .list)
@[irreducible] def a7S (L:List PV)(M:Int):List PO:=[.dict [kL,kM] [.loc 1,i M],.list L,.fr ["deck", "found"] [.loc 0,.loc 3],.list []]
def d0E (x:PV):Ev Fl:=a4j (rk K0 100) b2l (stm 136 1) 4 x
noncomputable def c7n:List (Nat×Nat):=(0,0)::[1,2,3,4].flatMap λ w=>[0,1,2,3].map λ m=>(w,m)
def b8z (o:Nat×Nat):Grp:=match o.1 with
 | 0=>(32,[])
 | w+1=>(a4y.getD w 0,c8U.getD o.2 [])
noncomputable def c5N (n:Nat):List Nat:=1::(e0f n).map λ j=>4+j
def b0F (n:Nat)(o:Nat×Nat)(L1 L2:List PV)(M1 M2:Int):List Hint:=.dk (i (.ofNat o.1)) L1 (i M1)::(match o.1 with
 | 0=>[.skp (c5N n)]
 | _=>[.dk (i (.ofNat o.2)) L2 (i M2),.skp (c5N n)])
@[irreducible] def a5v (g:Int)(H:List PO)(n:Nat)(o:Nat×Nat)(L1 L2:List PV)(M1 M2:Int)(hs:List Hint):OF:=(d0E (i g) ⟨H,b0F n o L1 L2 M1 M2++hs⟩).map a1l
theorem a7n (g) (H) (n) (o) (L1 L2) (M1 M2) (hs):(d0E (i g) ⟨H,b0F n o L1 L2 M1 M2++hs⟩).map a1l=a5v g H n o L1 L2 M1 M2 hs:=by rw [a5v]
def dkO (n:Nat)(L:List PV)(M:Int)(many r:Nat)(L':List PV)(M':Int):Ob:=.dk n 133 kL kM L (i M) [i (.ofNat many)] (i (.ofNat r)) L' (i M')
def b1d (mk:Bool)(L:List PV)(M:Int)(Mk:List PV)(Ps:List (List PV))(o:Nat×Nat)(L1 L2:List PV)(M1 M2:Int):List Ob:=dkO 96 L M 5 o.1 L1 M1::(match o.1 with
 | 0=>.nl (.lst L1)::((match mk with | true=>[.nl (.lst Mk)] | false=>[])++Ps.map λ p=>.nl (.lst p))| _=>dkO 93 L1 M1 4 o.2 L2 M2::.nl (.lst L2)::Ps.map λ p=>.nl (.lst p))
def b1K (mk:Bool)(L:List PV)(M g:Int)(Mk:List PV)(Ps:List (List PV))(L1 L2:List PV)(M1 M2:Int)(hs:List Hint)(o:Nat×Nat):OF:=some (.next,⟨match o.1 with
 | 0=>b7I mk L1 M1 g 0 Mk (Ps++[[i 32]])| w+1=>b7I true L2 M2 g (.ofNat (w+1)) ((b8z o).2.map .int) (Ps++[i (b8z o).1::(b8z o).2.map .int]),hs⟩,b1d mk L M Mk Ps o L1 L2 M1 M2,true)
theorem d5W (L L1 L2) (M M1 M2 g) (hs):c7n.map (λ o=>a5v g (a7S L M) 0 o L1 L2 M1 M2 hs)=c7n.map (b1K false L M g [] [] L1 L2 M1 M2 hs):=by kernel_rfl
def b2R:List (Nat×Nat×Nat):=[1,2].flatMap λ k=>c7n.map λ o=>(k,o)
theorem d5V (L L1 L2) (M M1 M2 g g0 w0) (Mk) (ps) (hs):b2R.map (λ x=>a5v g (b7I false L M g0 w0 Mk (a1h ps x.1)) x.1 x.2 L1 L2 M1 M2 hs)=b2R.map λ x=>b1K false L M g Mk (a1h ps x.1) L1 L2 M1 M2 hs x.2:=by kernel_rfl
theorem d5U (L L1 L2) (M M1 M2 g g0 w0) (Mk) (ps) (hs):b2R.map (λ x=>a5v g (b7I true L M g0 w0 Mk (a1h ps x.1)) (x.1+1) x.2 L1 L2 M1 M2 hs)=b2R.map λ x=>b1K true L M g Mk (a1h ps x.1) L1 L2 M1 M2 hs x.2:=by kernel_rfl
theorem d5T (d) (hs):(enter true (scK 136) [] [("deck",.loc 0)] ⟨a8J d,hs⟩).map a0S=some (b2l,⟨[.dict [kL,kM] [.loc 1,i d.2],.list (d.1.map .int),.fr ["deck"] [.loc 0]],hs⟩,[],true):=by kernel_rfl
theorem d5P (L) (M) (hs):((rk K0 101).s (stm 136 0) b2l ⟨[.dict [kL,kM] [.loc 1,i M],.list L,.fr ["deck"] [.loc 0]],hs⟩).map a0S=some (.next,⟨a7S L M,hs⟩,[],true):=by kernel_rfl
noncomputable def gos (r:Nat):List Int:=(e0f r).map Int.ofNat
theorem d5Q (L L1) (M M1) (hs):[0,1,2,3].map (λ r=>(a1w (rk K0 100) b2l (a7Y (stm 136 1)) (b0M (stm 136 1)) ⟨a7S L M,.dk (i (.ofNat r)) L1 (i M1)::hs⟩).map a0S)=[0,1,2,3].map λ r=>some (.stat ((gos r).map .int),⟨a7S L1 M1,hs⟩,[dkO 98 L M 4 r L1 M1],true):=by kernel_rfl
theorem d5N:fnB 136=[stm 136 0]++([stm 136 1]++[stm 136 2]):=by kernel_rfl
theorem d5O:a2N (pmK 136) (dfK 136) [.loc 0]=(some [("deck",.loc 0)]:Option (List (Str×PV))):=by kernel_rfl
theorem d5S (L) (M g w) (Mk) (Ps) (hs):[true,false].map (λ mk=>(a0a (rk K0 101) b2l [stm 136 2] ⟨b7I mk L M g w Mk Ps,hs⟩).map a0S)=[true,false].map λ mk=>some (.ret (.loc 3),⟨b7I mk L M g w Mk Ps,hs⟩,[],true):=by kernel_rfl
theorem d5R (L) (M) (hs):(a0a (rk K0 101) b2l [stm 136 2] ⟨a7S L M,hs⟩).map a0S=some (.ret (.loc 3),⟨a7S L M,hs⟩,[],true):=by kernel_rfl
noncomputable def a2a (g:Grp):List PV:=(g.1::g.2).map .int
theorem b8y:∀ o∈c7n,b8z o∈a2u:=by decide
theorem a8M {H:List PO}:∀ {gs:List Grp}{j:Nat},H.drop j=gs.map (λ g=>.list (a2a g))->a1F (a0b (n + 2) H) (a9t j gs.length)=some (gs.map pcT)
 | [],j,_=>rfl| g::gs,j,h=>by
   have h0:H[j]?=some (.list ((g.1::g.2).map .int)):=by
    have:(H.drop j)[0]?=some (.list (a2a g)):=by rw [h]; rfl
    rwa [List.getElem?_drop,e1o] at this
   have h1:H.drop (j+1)=gs.map (λ g=>.list (a2a g)):=by have:=congrArg (List.drop 1) h;rw [List.drop_drop] at this;exact this
   show ob (a0b (n+2) H (.loc j)) (λ x'=>ob (a1F (a0b (n+2) H) (a9t (j+1) gs.length)) λ r'=>some (x'::r'))=_;rw [a9P h0,a8M h1];rfl
theorem b7o {gs:List Grp}(h:G=.opq::.list (a9t (nM mk) gs.length)::(mkO mk Mk++gs.map λ g=>.list (a2a g)) \/ ∃ o,G=o::.list (a9t (nM mk) gs.length)::(mkO mk Mk++gs.map λ g=>.list (a2a g))):a0b 8 (.opq::.opq::G) (.loc 3)=some (.lst (gs.map pcT)):=by have h:∃ o,G=o::.list (a9t (nM mk) gs.length)::(mkO mk Mk++gs.map λ g=>.list (a2a g)):=h.elim (λ e=>⟨_,e⟩) id;obtain ⟨o,rfl⟩:=h;show ob (a1F (a0b 7 _) (a9t (nM mk) gs.length)) (λ l'=>some (PV.lst l'))=_;rw [a8M (n:=5) (by cases mk <;> rfl)];rfl
section
variable {B:Base}
theorem c7z (g):a0e (.lst (a2a g))=true:=a0O _
theorem b9I (gs:List Grp):OblE B ((gs.map a2a).map λ p=>.nl (.lst p)):=λ o m=>by obtain ⟨p,hp,rfl⟩:=e0e.mp m;obtain ⟨g,_,rfl⟩:=e0e.mp hp;exact c7z g
theorem b1c {gs:List Grp}{o:Nat×Nat}(hM:a0e (.lst Mk)=true)(h1:b2o B 61 133 d [i (.ofNat 5)] (i (.ofNat o.1)) d1)(h2:o.1 ≠ 0->b2o B 61 133 d1 [i (.ofNat 4)] (i (.ofNat o.2)) d2) :
 OblE B (b1d mk (d.1.map .int) d.2 Mk (gs.map a2a) o (d1.1.map .int) (d2.1.map .int) d1.2 d2.2):=by
 unfold b1d;refine a0H (a2t h1 (by decide)) ?_;obtain ⟨a,b⟩:=o;cases a with
 | zero=>
   refine a0H (a0O _) (a1O ?_ (b9I gs));cases mk with
   | true=>exact a0H hM a0m| false=>exact a0m
 | succ a=>exact a0H (a2t (h2 (Nat.succ_ne_zero a)) (by decide)) (a0H (a0O _) (b9I gs))
theorem d2u (BO:BaseOK2 B) (d):∃ (o:Nat×Nat)(d1 d2:a6S),o∈c7n/\b2o B 61 133 d [i (.ofNat 5)] (i (.ofNat o.1)) d1/\(o.1≠0->b2o B 61 133 d1 [i (.ofNat 4)] (i (.ofNat o.2)) d2):=by
 obtain ⟨r,d1,hr,h1⟩:=a5s BO d 4;cases r with
 | zero=>exact ⟨(0,0),d1,d1,e0X ..,h1,λ h=>absurd rfl h⟩| succ r=>
   obtain ⟨m,d2,hm,h2⟩:=a5s BO d1 3;refine ⟨(r+1,m),d1,d2,e0Z _ (e0j.mpr ⟨r+1,?_,e0e.mpr ⟨m,?_,rfl⟩⟩),h1,λ _=>h2⟩
   · exact d7o r (Nat.le_of_succ_le_succ hr) (by decide) (by decide) (by decide) (by decide)
   · exact d7o m hm (by decide) (by decide) (by decide) (by decide)
def a6f (mk:Bool)(g:Int)(Mk:List PV)(gs:List Grp)(d1 d2:a6S)(o:Nat×Nat):List PO:=match o.1 with
 | 0=>b7I mk (d1.1.map .int) d1.2 g 0 Mk ((gs++[b8z o]).map a2a)| w+1=>b7I true (d2.1.map .int) d2.2 g (.ofNat (w+1)) ((b8z o).2.map .int) ((gs++[b8z o]).map a2a)
theorem b6P (mk) (g)(hM:a0e (.lst Mk)=true) (gs) (d1 d2) (o):∃ (mk':Bool)(w':Int)(Mk':List PV)(d':a6S),a0e (.lst Mk')=true/\a6f mk g Mk gs d1 d2 o=b7I mk' (d'.1.map .int) d'.2 g w' Mk' ((gs++[b8z o]).map a2a):=by
 obtain ⟨a,b⟩:=o;cases a with
 | zero=>exact ⟨mk,0,Mk,d1,hM,rfl⟩| succ a=>exact ⟨true,_,_,d2,a0O _,rfl⟩
theorem b1J {d d1 d2:a6S}{gs:List Grp}(ho:o∈c7n):b1K mk (d.1.map .int) d.2 g Mk (gs.map a2a) (d1.1.map .int) (d2.1.map .int) d1.2 d2.2 hs o=some (.next,⟨a6f mk g Mk gs d1 d2 o,hs⟩,b1d mk (d.1.map .int) d.2 Mk (gs.map a2a) o (d1.1.map .int) (d2.1.map .int) d1.2 d2.2,true):=by
 unfold b1K a6f;rw [e0o,e0v,e2C];obtain ⟨a,b⟩:=o;cases a with
 | zero=>have:b8z (0,b)=(32,[]):=rfl;rw [this];rfl| succ a=>rfl
theorem b9f {α:Type}:∀ l:List α,(h:α)->l=a1h (λ k=>l.getD k h) l.length:=λ l h=>by have:=a1g (λ x:α=>x) h l;rwa [List.map_id'] at this
theorem c2n {d d1 d2:a6S}{gs:List Grp}(ho:o∈c7n)(hg:gs.length∈[1,2]) :
 a5v g (b7I mk (d.1.map .int) d.2 g0 w0 Mk (gs.map a2a)) (gs.length+(nM mk-4)) o (d1.1.map .int) (d2.1.map .int) d1.2 d2.2 hs=some (.next,⟨a6f mk g Mk gs d1 d2 o,hs⟩,b1d mk (d.1.map .int) d.2 Mk (gs.map a2a) o (d1.1.map .int) (d2.1.map .int) d1.2 d2.2,true):=by
 rw [<- b1J ho];have key:(gs.length,o)∈b2R:=e0j.mpr ⟨_,hg,e0e.mpr ⟨_,ho,rfl⟩⟩;have hps:=b9f (gs.map a2a) [];rw [e0c] at hps;rw [hps];cases mk with
 | false=>exact a0I (d5V _ _ _ _ _ _ g g0 w0 Mk _ hs) key| true=>exact a0I (d5U _ _ _ _ _ _ g g0 w0 Mk _ hs) key
theorem b9r (BO:BaseOK2 B):∀ (gl:List Int)(mk:Bool)(d:a6S)(g0 w0:Int)(Mk:List PV)(gs:List Grp),a0e (.lst Mk)=true->1 <= gs.length->gs.length + gl.length <= 3->(∀ g∈gs,g∈a2u) ->
 ∃ (hs:List Hint) (gs':List Grp) (d':a6S),(∀ g∈gs',g∈a2u)/\gs'.length=gs.length+gl.length/\Run B (a0R d0E (gl.map .int)) ⟨b7I mk (d.1.map .int) d.2 g0 w0 Mk (gs.map a2a),hs⟩ (λ f s=>f=.next /\ ∃ mk g w Mk,s=⟨b7I mk (d'.1.map .int) d'.2 g w Mk (gs'.map a2a),[]⟩)
 | [],mk,d,g0,w0,Mk,gs,hM,h1,h3,hg=>⟨[],gs,d,hg,rfl,Run.ret ⟨rfl,mk,g0,w0,Mk,rfl⟩⟩
 | g::gl,mk,d,g0,w0,Mk,gs,hM,h1,h3,hg=>by
   obtain ⟨o,d1,d2,ho,f1,f2⟩:=d2u BO d;obtain ⟨mk',w',Mk',d3,hM',ea⟩:=b6P mk g hM gs d1 d2 o;have h3':gs.length + (gl.length + 1) <= 3:=h3;obtain ⟨hs,gs',d',k1,k2,k3⟩:=b9r BO gl mk' d3 g w' Mk' (gs++[b8z o]) hM' (by rw [e0a]; exact e2D 1 _) (by rw [e0a]; show gs.length + 1 + gl.length <= 3; lia) (λ x m=>(e1E.mp m).elim (hg x) λ m=>by rw [e0u.mp m]; exact b8y o ho);refine ⟨b0F (gs.length + (nM mk - 4)) o (d1.1.map .int) (d2.1.map .int) d1.2 d2.2++hs,gs',d',k1,by rw [k2,e0a]; show gs.length + 1 + gl.length=gs.length + (gl.length + 1); lia,?_⟩;show Run B (Ev.bind (d0E (PV.int g)) _) _ _;refine Run.bind (Q:=λ f s=>f=.next /\ s=_) (Run.ofF ((a7n _ _ _ _ _ _ _ _ _).trans (c2n ho (by
    have h12:gs.length=1\/gs.length=2:=by lia
    rcases h12 with e | e <;> rw [e] <;> decide))) (b1c hM f1 f2) ⟨rfl,rfl⟩) ?_
   rintro f s ⟨rfl,rfl⟩;rw [ea];exact k3
theorem b8A (BO:BaseOK2 B) (d):∃ (gs:List Grp)(d':a6S),OkL gs/\b2o B 103 136 d [] (.lst (gs.map pcT)) d':=by
 obtain ⟨r,d0,hr,f0⟩:=a5s BO d 3;have hr4:r∈[0,1,2,3]:=e1a.mpr (e2c hr);have fin:∀ {hs:List Hint} {gs':List Grp} {d':a6S},Run B (a0R d0E ((gos r).map .int)) ⟨a7S (d0.1.map .int) d0.2,hs⟩ (λ f s=>f=.next/\Run B (a0a (rk K0 101) b2l [stm 136 2]) s (d0C d' (.lst (gs'.map pcT))))->b2o B 103 136 d [] (.lst (gs'.map pcT)) d':=by intro hs gs' d' h;refine b0N BO (a0o B) (n:=101) (hs:=.dk (i (.ofNat r)) (d0.1.map .int) (i d0.2)::hs) rfl rfl d5O (d5T d _) rfl a0V ?_;rw [d5N];refine Run.one (d5P _ _ _) a0V (Run.cons (Run.forG rfl (a0I (d5Q (d.1.map .int) (d0.1.map .int) d.2 d0.2 hs) hr4) (OblL.one (a2t f0 (by decide))) ?_));show Run B (a0R (a4j (rk K0 100) b2l (stm 136 1) (a7S (d0.1.map .int) d0.2).length) ((gos r).map .int)) _ _;rw [show (a7S (d0.1.map .int) d0.2).length=4 by unfold a7S; rfl];exact h
 cases hg:gos r with
 | nil=>rw [hg] at fin;refine ⟨[],d0,⟨λ g m=>absurd m e0b,e0q _⟩,fin (hs:=[]) (Run.ret ⟨rfl,?_⟩)⟩;refine Run.of (d5R _ _ _) a0V ⟨_,[.fr ["deck", "found"] [.loc 0,.loc 3],.list []],rfl,?_,rfl⟩;unfold a7S;rfl| cons g gl=>
   have hl:(gos r).length=r:=by unfold gos;rw [e0c,List.length_range]
   rw [hg] at hl fin;have hl':gl.length+1=r:=hl;obtain ⟨o,d1,d2,ho,f1,f2⟩:=d2u BO d0;have hN:a0e (.lst [])=true:=rfl;obtain ⟨mk',w',Mk',d3,hM',ea⟩:=b6P false g hN [] d1 d2 o;obtain ⟨hs,gs',d',k1,k2,k3⟩:=b9r BO gl mk' d3 g w' Mk' ([]++[b8z o]) hM' (by simp) (by show 1+gl.length<=3; lia) (λ x m=>by rw [e0u.mp m]; exact b8y o ho);have k2:gs'.length=1+gl.length:=k2;refine ⟨gs',d',⟨k1,by lia⟩,fin (hs:=b0F 0 o (d1.1.map .int) (d2.1.map .int) d1.2 d2.2++hs) ?_⟩;show Run B (Ev.bind (d0E (PV.int g)) _) _ _;have e:=a0I (d5W (d0.1.map .int) (d1.1.map .int) (d2.1.map .int) d0.2 d1.2 d2.2 g hs) ho;have e2:=b1J (mk:=false) (d:=d0) (d1:=d1) (d2:=d2) (g:=g) (Mk:=[]) (gs:=[]) (hs:=hs) ho;refine Run.bind (Q:=λ f s=>f=.next/\s=_) (Run.ofF ((a7n _ _ _ _ _ _ _ _ _).trans (e.trans e2)) (b1c (gs:=[]) hN f1 f2) ⟨rfl,rfl⟩) ?_;rintro f s ⟨rfl,rfl⟩;rw [ea];refine k3.mono ?_;rintro f s ⟨rfl,mk,g,w,Mk,rfl⟩;refine ⟨rfl,?_⟩;refine Run.of (a0I (d5S _ _ _ _ _ _ _) (b4K mk)) a0V ⟨_,frV mk g w::.list (a9t (nM mk) gs'.length)::(mkO mk Mk++gs'.map λ g=>.list (a2a g)),rfl,?_,b7o (.inr ⟨_,rfl⟩)⟩;unfold b7I;rw [e1H,e0c];rfl
end
def b2k:AEnv:=⟨scK 137,2,[("marks",4),("letter",3)],true⟩
def dk2 (L:List PV)(M:Int):List PO:=[.dict [kL,kM] [.loc 1,i M],.list L]
@[irreducible] def a7R (L:List PV)(M:Int)(Ps:List PV)(t:Bool):List PO:=dk2 L M++[.fr ["deck", "pieces", "is_turned", "found"] [.loc 0,.lst Ps,.bool t,.loc 5],.cell none,.cell none,.list []]
@[irreducible] def c0a (L:List PV)(M:Int)(Ps:List PV)(t:Bool)(x y:PV)(mt mk F:List PV):List PO:=dk2 L M++[.fr ["deck", "pieces", "is_turned", "found", "piece", "mates"] [.loc 0,.lst Ps,.bool t,.loc 6,x,.loc 7],.cell (some y),.cell (some (.loc 8)),.list [],.list F,.list mt,.list mk]
def d0D (x:PV):Ev Fl:=a4j (rk KP 100) b2k (stm 137 1) 6 x
noncomputable def d4J (l:Int):Int:=match l with
 | 97=>65| 65=>97| 101=>69| 69=>101| l=>l
def a6N (t:Bool)(l:Int):Int:=match t with
 | true=>d4J l| false=>l
def d8T (t:Bool)(l:Int):Nat:=match t,a3J l 32 with
 | true,false=>1| _,_=>0
noncomputable def a8f (r:Nat)(m:List Int):List Int:=match r with
 | 0=>m| _=>m.reverse
def b5i (t:Bool)(g:Grp)(r:Nat):Bool:=(a2V (a6N t g.1) (a8f r g.2)).isSome
def spF (t:Bool)(g:Grp)(r q:Nat):List Int:=match q,a2V (a6N t g.1) (a8f r g.2) with
 | 0,some (c,m)=>c::m| _,_=>a6N t g.1::a8f r g.2
def d1h (t:Bool)(g:Grp)(r:Nat):List Int:=match a2V (a6N t g.1) (a8f r g.2) with
 | some (c,_)=>[c]
 | none=>[]
abbrev c5B:=Grp×Bool×Nat×Nat
def a5M:List c5B:=a2u.flatMap λ g=>[false,true].flatMap λ t=>[0,1].flatMap λ r=>(match b5i t g r with | true=>[0,1] | false=>[1]).map λ q=>(g,t,r,q)
def d2R (b:Nat)(x:c5B):Nat:=b+(x.2.2.1+(d8T x.2.1 x.1.1+(1-x.2.2.2)))
def b0E (b:Nat)(x:c5B)(L1 L2:List PV)(M1 M2:Int):List Hint:=.dk (i (.ofNat x.2.2.1)) L1 (i M1)::((match b5i x.2.1 x.1 x.2.2.1 with
 | true=>[.dk (i (.ofNat x.2.2.2)) L2 (i M2)]
 | false=>[])++[.big,.big,.skp [1,d2R b x]])
@[irreducible] def b0c (x:c5B)(H:List PO)(b:Nat)(L1 L2:List PV)(M1 M2:Int)(hs:List Hint):OF:=(d0D (pcT x.1) ⟨H,b0E b x L1 L2 M1 M2++hs⟩).map a1l
theorem a7m (x:c5B) (H) (b) (L1 L2) (M1 M2) (hs):(d0D (pcT x.1) ⟨H,b0E b x L1 L2 M1 M2++hs⟩).map a1l=b0c x H b L1 L2 M1 M2 hs:=by rw [b0c]
def a4P (F:List PV)(x:c5B):List PV:=(F++[i ((spF x.2.1 x.1 x.2.2.1 x.2.2.2).headD 0)])++((spF x.2.1 x.1 x.2.2.1 x.2.2.2).drop 1).map .int
def a8Y (L:List PV)(M:Int)(Ps F:List PV)(x:c5B)(L1 L2:List PV)(M1 M2:Int):List Ob:=.dk 95 133 kL kM L (i M) [i 2] (i (.ofNat x.2.2.1)) L1 (i M1)::((match b5i x.2.1 x.1 x.2.2.1 with
 | true=>[.dk 94 133 kL kM L1 (i M1) [i 2] (i (.ofNat x.2.2.2)) L2 (i M2)]
 | false=>[])++[.sz (F++[i ((spF x.2.1 x.1 x.2.2.1 x.2.2.2).headD 0)]).length,.sz (a4P F x).length,.nl (.lst (match b5i x.2.1 x.1 x.2.2.1 with | true=>L2 | false=>L1)),.nl (.lst Ps),.nl (pcT x.1),.nl (.lst (a4P F x))])
def a4q (L:List PV)(M:Int)(Ps F:List PV)(L1 L2:List PV)(M1 M2:Int)(hs:List Hint)(x:c5B):OF:=some (.next,⟨match b5i x.2.1 x.1 x.2.2.1 with
 | true=>c0a L2 M2 Ps x.2.1 (pcT x.1) (i (a6N x.2.1 x.1.1)) ((d1h x.2.1 x.1 x.2.2.1).map .int) ((a8f x.2.2.1 x.1.2).map .int) (a4P F x)| false=>c0a L1 M1 Ps x.2.1 (pcT x.1) (i (a6N x.2.1 x.1.1)) ((d1h x.2.1 x.1 x.2.2.1).map .int) ((a8f x.2.2.1 x.1.2).map .int) (a4P F x),hs⟩,a8Y L M Ps F x L1 L2 M1 M2,true)
theorem d5M (L Ps L1 L2) (M M1 M2) (hs):a5M.map (λ x=>b0c x (a7R L M Ps x.2.1) 17 L1 L2 M1 M2 hs)=a5M.map (a4q L M Ps [] L1 L2 M1 M2 hs):=by kernel_rfl
theorem d5L (L Ps F mt mk L1 L2) (x y) (M M1 M2) (hs):a5M.map (λ u=>b0c u (c0a L M Ps u.2.1 x y mt mk F) 20 L1 L2 M1 M2 hs)=a5M.map (a4q L M Ps F L1 L2 M1 M2 hs):=by kernel_rfl
theorem d5K (d) (p q) (hs):(enter true (scK 137) [] [("deck",.loc 0),("pieces",p),("is_turned",q)] ⟨a8J d,hs⟩).map a0S=some (b2k,⟨dk2 (d.1.map .int) d.2++[.fr ["deck", "pieces", "is_turned"] [.loc 0,p,q],.cell none,.cell none],hs⟩,[],true):=by kernel_rfl
theorem d5G (L Ps) (M) (t) (hs):((rk KP 101).s (stm 137 0) b2k ⟨dk2 L M++[.fr ["deck", "pieces", "is_turned"] [.loc 0,.lst Ps,.bool t],.cell none,.cell none],hs⟩).map a0S=some (.next,⟨a7R L M Ps t,hs⟩,[],true):=by kernel_rfl
theorem d5H (L Ps) (M) (t) (hs):(a1w (rk KP 100) b2k (a7Y (stm 137 1)) (b0M (stm 137 1)) ⟨a7R L M Ps t,hs⟩).map a0S=some (.stat Ps,⟨a7R L M Ps t,hs⟩,[],true):=by kernel_rfl
theorem d5E:fnB 137=[stm 137 0]++([stm 137 1]++[stm 137 2]):=by kernel_rfl
theorem d5F (p q):a2N (pmK 137) (dfK 137) [.loc 0,p,q]=(some [("deck",.loc 0),("pieces",p),("is_turned",q)]:Option (List (Str×PV))):=by kernel_rfl
theorem d5J (L Ps F mt mk) (M) (t) (x y) (hs):(a0a (rk KP 101) b2k [stm 137 2] ⟨c0a L M Ps t x y mt mk F,hs⟩).map a0S=some (.ret (.loc 6),⟨c0a L M Ps t x y mt mk F,hs⟩,[],true):=by kernel_rfl
theorem d5I (L Ps) (M) (t) (hs):(a0a (rk KP 101) b2k [stm 137 2] ⟨a7R L M Ps t,hs⟩).map a0S=some (.ret (.loc 5),⟨a7R L M Ps t,hs⟩,[],true):=by kernel_rfl
def a7v (t:Bool)(g:Grp):Grp:=(a6N t g.1,g.2)
def a4G (x:c5B):List Int:=spF x.2.1 x.1 x.2.2.1 x.2.2.2
theorem c7h:(a5M.all λ x=>a0d.any λ k=>a0L k==a4G x&&apK k==a6N x.2.1 x.1.1::a0Y x.1.2)=true:=by decide +kernel
theorem b3V (h:x∈a5M):∃ k∈a0d,a0L k=a4G x/\apK k=a6N x.2.1 x.1.1::a0Y x.1.2:=by obtain ⟨k,hk,e⟩:=e1y.mp (e0w.mp c7h x h);obtain ⟨e1,e2⟩:=a1N e;exact ⟨k,hk,eq_of_beq e1,eq_of_beq e2⟩
theorem c7O (x):a4G x=(a4G x).headD 0::(a4G x).drop 1:=by unfold a4G spF;split <;> rfl
theorem b8x (F:List Int) (x):a4P (F.map .int) x=(F++a4G x).map .int:=by have:a4P (F.map .int) x=(F.map PV.int++[i ((a4G x).headD 0)])++((a4G x).drop 1).map .int:=rfl;rw [this,c7O x,e0o,e0v,e0h];rfl
theorem d2Q (hg:g∈a2u) (t)(hr:r∈[0,1])(hq:q∈[0,1])(h:b5i t g r=true\/q=1):(g,t,r,q)∈a5M:=by
 refine e0j.mpr ⟨g,hg,e0j.mpr ⟨t,by cases t <;> decide,e0j.mpr ⟨r,hr,e0e.mpr ⟨q,?_,rfl⟩⟩⟩⟩;cases e:b5i t g r with
 | true=>exact hq| false=>
   rw [e] at h;rcases h with h | h
   · cases h
   · rw [h]; exact e0X ..
section
variable {B:Base}{Ps:List PV}
theorem le1 (h:r<=1):r∈[0,1]:=e1a.mpr (e2c h)
theorem b5z (BO:BaseOK2 B) (d)(hg:g∈a2u) (t):∃ (r q:Nat)(d1 d2:a6S),(g,t,r,q)∈a5M/\b2o B 61 133 d [i 2] (i (.ofNat r)) d1/\(b5i t g r=true->b2o B 61 133 d1 [i 2] (i (.ofNat q)) d2):=by
 obtain ⟨r,d1,hr,h1⟩:=a5s BO d 1;cases e:b5i t g r with
 | true=>obtain ⟨q,d2,hq,h2⟩:=a5s BO d1 1;exact ⟨r,q,d1,d2,d2Q hg t (le1 hr) (le1 hq) (.inl e),h1,λ _=>h2⟩
 | false=>exact ⟨r,1,d1,d1,d2Q hg t (le1 hr) (by decide) (.inr rfl),h1,λ h=>by rw [e] at h; cases h⟩
theorem c0E:∀ k∈a0d,(a0L k).length<=3:=by decide
theorem b1b (hp:a0e (.lst Ps)=true){F:List Int}(hx:x∈a5M)(hl:F.length <= 90)(h1:b2o B 61 133 d [i 2] (i (.ofNat x.2.2.1)) d1)(h2:b5i x.2.1 x.1 x.2.2.1=true->b2o B 61 133 d1 [i 2] (i (.ofNat x.2.2.2)) d2) :
 OblE B (a8Y (d.1.map .int) d.2 Ps (F.map .int) x (d1.1.map .int) (d2.1.map .int) d1.2 d2.2):=by
 obtain ⟨k,hk,e1,_⟩:=b3V hx;have l3:=c0E k hk;rw [e1] at l3;have h3:=a2Y;have tail:OblE B [.sz (F.map PV.int++[i ((spF x.2.1 x.1 x.2.2.1 x.2.2.2).headD 0)]).length,.sz (a4P (F.map .int) x).length,.nl (.lst (match b5i x.2.1 x.1 x.2.2.1 with | true=>d2.1.map .int | false=>d1.1.map .int)),.nl (.lst Ps),.nl (pcT x.1),.nl (.lst (a4P (F.map .int) x))]:=by
  refine a0H ?_ (a0H ?_ (a0H ?_ (a0H hp (a0H (c3G _) (a0H ?_ a0m)))))
  · show (F.map PV.int++[_]).length<=sizeLine;rw [e0a,e0c];show F.length+1<=sizeLine;lia
  · show (a4P (F.map .int) x).length<=sizeLine;rw [b8x,e0c,e0a];lia
  · cases b5i x.2.1 x.1 x.2.2.1 <;> exact a0O _
  · show a0e (.lst (a4P (F.map .int) x))=true;rw [b8x];exact a0O _
 unfold a8Y;refine a0H (a2t h1 (by decide)) (a1O ?_ tail);cases e:b5i x.2.1 x.1 x.2.2.1 with
 | true=>exact a0H (a2t (h2 e) (by decide)) a0m| false=>exact a0m
theorem b4y (d d1 d2:a6S)(F:List Int) (hs) (x):∃ (d3:a6S)(y:PV)(mt mk:List PV),a4q (d.1.map .int) d.2 Ps (F.map .int) (d1.1.map .int) (d2.1.map .int) d1.2 d2.2 hs x=some (.next,⟨c0a (d3.1.map .int) d3.2 Ps x.2.1 (pcT x.1) y mt mk ((F++a4G x).map .int),hs⟩,a8Y (d.1.map .int) d.2 Ps (F.map .int) x (d1.1.map .int) (d2.1.map .int) d1.2 d2.2,true):=by
 unfold a4q;rw [<- b8x];cases b5i x.2.1 x.1 x.2.2.1 with
 | true=>exact ⟨d2,_,_,_,rfl⟩| false=>exact ⟨d1,_,_,_,rfl⟩
def Sp2 (t:Bool):List Grp->List Kd->Prop
 | [],[]=>True| g::gs,k::xs=>(k∈a0d/\apK k=a6N t g.1::a0Y g.2)/\Sp2 t gs xs| _,_=>False
def SpG (t:Bool)(gs:List Grp)(xs:List Kd):Prop:=(∀ x∈xs,x∈a0d)/\xs.length=gs.length/\a0C xs=a0F (gs.map (a7v t))/\Sp2 t gs xs
theorem SpG.cons {g:Grp}(hk:k∈a0d)(e:apK k=a6N t g.1::a0Y g.2)(h:SpG t gs xs):SpG t (g::gs) (k::xs):=by obtain ⟨a,b,c,d⟩:=h;refine ⟨λ x m=>(e0d.mp m).elim (λ e=>e▸hk) (a x),congrArg (· + 1) b,?_,⟨hk,e⟩,d⟩;show apK k++a0C xs=(a6N t g.1::a0Y g.2)++a0F (gs.map (a7v t));rw [e,c]
theorem b9q (BO:BaseOK2 B)(hp:a0e (.lst Ps)=true) (t):∀ (gs:List Grp)(d:a6S)(x y:PV)(mt mk:List PV)(F:List Int),(∀ g∈gs,g∈a2u)->F.length + 3 * gs.length <= 90 ->
 ∃ (hs:List Hint) (xs:List Kd) (d':a6S),SpG t gs xs/\Run B (a0R d0D (gs.map pcT)) ⟨c0a (d.1.map .int) d.2 Ps t x y mt mk (F.map .int),hs⟩ (λ f s=>f=.next /\ ∃ x y mt mk,s=⟨c0a (d'.1.map .int) d'.2 Ps t x y mt mk ((F++a0M xs).map .int),[]⟩)
 | [],d,x,y,mt,mk,F,_,_=>⟨[],[],d,⟨λ x m=>absurd m e0b,rfl,rfl,trivial⟩,Run.ret ⟨rfl,x,y,mt,mk,by rw [show a0M []=[] from rfl,e0k]⟩⟩
 | g::gs,d,x,y,mt,mk,F,hg,hl=>by
   have h0:=hg g (e0X ..);have hl':F.length+3 * (gs.length+1)<=90:=hl;obtain ⟨r,q,d1,d2,hx,f1,f2⟩:=b5z BO d h0 t;obtain ⟨k,hk,e1,e2⟩:=b3V hx;have l3:=c0E k hk;rw [e1] at l3;obtain ⟨d3,y3,mt3,mk3,er⟩:=b4y (Ps:=Ps) d d1 d2 F [] (g,t,r,q);obtain ⟨hs,xs,d',k1,k2⟩:=b9q BO hp t gs d3 (pcT g) y3 mt3 mk3 (F++a4G (g,t,r,q)) (λ x m=>hg x (e0Z _ m)) (by rw [e0a]; lia);refine ⟨b0E 20 (g,t,r,q) (d1.1.map .int) (d2.1.map .int) d1.2 d2.2++hs,k::xs,d',k1.cons hk e2,?_⟩;have e:=a0I (d5L (d.1.map .int) Ps (F.map .int) mt mk (d1.1.map .int) (d2.1.map .int) x y d.2 d1.2 d2.2 hs) hx;have er':a4q (d.1.map .int) d.2 Ps (F.map .int) (d1.1.map .int) (d2.1.map .int) d1.2 d2.2 hs (g,t,r,q)=some (.next,⟨c0a (d3.1.map .int) d3.2 Ps t (pcT g) y3 mt3 mk3 ((F++a4G (g,t,r,q)).map .int),hs⟩,a8Y (d.1.map .int) d.2 Ps (F.map .int) (g,t,r,q) (d1.1.map .int) (d2.1.map .int) d1.2 d2.2,true):=by unfold a4q at er ⊢;simp only [Option.some.injEq,Prod.mk.injEq,St.mk.injEq,true_and,and_true] at er ⊢;exact er
   show Run B (Ev.bind (d0D (pcT g)) _) _ _;refine Run.bind (Q:=λ f s=>f=.next/\s=_) (Run.ofF ((a7m (g,t,r,q) _ _ _ _ _ _ _).trans (e.trans er')) (b1b hp hx (by lia) f1 f2) ⟨rfl,rfl⟩) ?_;rintro f s ⟨rfl,rfl⟩;have et:a0M (k::xs)=a4G (g,t,r,q)++a0M xs:=by show a0L k++a0M xs=_;rw [e1]
   rw [et,<- e0h];exact k2
theorem a3t (BO:BaseOK2 B)(KO:KOK B KP) (d)(h:OkL gs) (t):∃ (xs:List Kd)(d':a6S),SpG t gs xs/\b2o B 103 137 d [.lst (gs.map pcT),.bool t] (a0P (a0M xs)) d':=by
 have hp:=b1i gs;have nl:a0E [PV.lst (gs.map pcT),.bool t]=true:=by show (a0e (.lst (gs.map pcT))&&true)=true;rw [hp]; rfl
 have fin:∀ (hs:List Hint) (xs:List Kd) (d':a6S),Run B (a0R d0D (gs.map pcT)) ⟨a7R (d.1.map .int) d.2 (gs.map pcT) t,hs⟩ (λ f s=>f=.next/\Run B (a0a (rk KP 101) b2k [stm 137 2]) s (d0C d' (a0P (a0M xs))))->b2o B 103 137 d [.lst (gs.map pcT),.bool t] (a0P (a0M xs)) d':=by intro hs xs d' h;refine b0N BO KO (n:=101) (hs:=hs) nl rfl (d5F _ _) (d5K d _ _ _) rfl a0V ?_;rw [d5E];refine Run.one (d5G _ _ _ _ _) a0V (Run.cons (Run.forG rfl (d5H _ _ _ _ _) a0V ?_));show Run B (a0R (a4j (rk KP 100) b2k (stm 137 1) (a7R (d.1.map .int) d.2 (gs.map pcT) t).length) (gs.map pcT)) _ _;rw [show (a7R (d.1.map .int) d.2 (gs.map pcT) t).length=6 by unfold a7R; rfl];exact h
 obtain ⟨h,hl⟩:=h;cases gs with
 | nil=>refine ⟨[],d,⟨λ x m=>absurd m e0b,rfl,rfl,trivial⟩,fin [] [] d (Run.ret ⟨rfl,?_⟩)⟩;refine Run.of (d5I _ _ _ _ _) a0V ⟨_,[.fr ["deck", "pieces", "is_turned", "found"] [.loc 0,.lst [],.bool t,.loc 5],.cell none,.cell none,.list []],rfl,?_,rfl⟩;unfold a7R;rfl| cons g gs=>
   have h0:=h g (e0X ..);have hl':gs.length+1<=3:=hl;obtain ⟨r,q,d1,d2,hx,f1,f2⟩:=b5z BO d h0 t;obtain ⟨k,hk,e1,e2⟩:=b3V hx;have l3:=c0E k hk;rw [e1] at l3;obtain ⟨d3,y3,mt3,mk3,er⟩:=b4y (Ps:=(g::gs).map pcT) d d1 d2 [] [] (g,t,r,q);obtain ⟨hs,xs,d',k1,k2⟩:=b9q BO hp t gs d3 (pcT g) y3 mt3 mk3 ([]++a4G (g,t,r,q)) (λ x m=>h x (e0Z _ m)) (by rw [e1V]; lia);refine ⟨k::xs,d',k1.cons hk e2,fin (b0E 17 (g,t,r,q) (d1.1.map .int) (d2.1.map .int) d1.2 d2.2++hs) (k::xs) d' ?_⟩;have e:=a0I (d5M (d.1.map .int) ((g::gs).map pcT) (d1.1.map .int) (d2.1.map .int) d.2 d1.2 d2.2 hs) hx;have er':a4q (d.1.map .int) d.2 ((g::gs).map pcT) [] (d1.1.map .int) (d2.1.map .int) d1.2 d2.2 hs (g,t,r,q)=some (.next,⟨c0a (d3.1.map .int) d3.2 ((g::gs).map pcT) t (pcT g) y3 mt3 mk3 (([]++a4G (g,t,r,q)).map .int),hs⟩,a8Y (d.1.map .int) d.2 ((g::gs).map pcT) [] (g,t,r,q) (d1.1.map .int) (d2.1.map .int) d1.2 d2.2,true):=by have er:a4q (d.1.map .int) d.2 ((g::gs).map pcT) [] (d1.1.map .int) (d2.1.map .int) d1.2 d2.2 [] (g,t,r,q)=_:=er;unfold a4q at er ⊢;simp only [Option.some.injEq,Prod.mk.injEq,St.mk.injEq,true_and,and_true] at er ⊢;exact er.1
   show Run B (Ev.bind (d0D (pcT g)) _) _ _;refine Run.bind (Q:=λ f s=>f=.next/\s=_) (Run.ofF ((a7m (g,t,r,q) _ _ _ _ _ _ _).trans (e.trans er')) (b1b (F:=[]) hp hx (by decide) f1 f2) ⟨rfl,rfl⟩) ?_;rintro f s ⟨rfl,rfl⟩;refine k2.mono ?_;rintro f s ⟨rfl,x,y,mt,mk,rfl⟩;refine ⟨rfl,?_⟩;have et:([]++a4G (g,t,r,q))++a0M xs=a0M (k::xs):=by rw [e1V];show _=a0L k++a0M xs;rw [e1]
   rw [et];refine Run.of (d5J _ _ _ _ _ _ _ _ _ _) a0V ⟨_,[.fr ["deck", "pieces", "is_turned", "found", "piece", "mates"] [.loc 0,.lst ((g::gs).map pcT),.bool t,.loc 6,x,.loc 7],.cell (some y),.cell (some (.loc 8)),.list [],.list ((a0M (k::xs)).map .int),.list mt,.list mk],rfl,?_,a9P (n:=6) rfl⟩;unfold c0a;rfl
end
def a1B:AEnv:=⟨scK 143,2,[],true⟩
noncomputable def c3I:List Str:=["deck", "data", "pieces", "text", "other"]
def c2G (Ps T O:List PV):List PV:=[.loc 0,a0B,.lst Ps,.lst T,.lst O]
def rdr (l:Bool)(V:List Nat)(P:Int):PO:=.ns ["is_strict", "waiting", "place"] [.bool l,.bytes V,i P]
@[irreducible] def a6Q (L:List PV)(M:Int)(Ps T O:List PV)(w:List Nat)(cut:Nat)(V:List Nat)(P:Int)(G:List PO):List PO:=dk2 L M++([.fr (c3I++(["octets", "cut", "reader", "read"]:List Str)) (c2G Ps T O++[.bytes w,i (.ofNat cut),.loc 4,.none]),rdr false V P,.inst 113 3,.opq]++G)
theorem d4k (L L1 Ps T O) (M M1) (w) (cut) (hs):(a0a (rk KP 260) a1B [stm 143 0,stm 143 1] ⟨dk2 L M++[.fr c3I (c2G Ps T O)],.val (.bytes w)::.dk (i (.ofNat cut)) L1 (i M1)::.inl::hs⟩).map a1l =
 some (.next,⟨a6Q L1 M1 Ps T O w cut [] 0 [],hs⟩,[.fn 257 110 [.lst T] (.bytes w),.dk 256 133 kL kM L (i M) [i (.ofNat (w.length+1))] (i (.ofNat cut)) L1 (i M1)],true):=by kernel_rfl
noncomputable def b7b (w:List Nat)(cut:Nat):List Nat:=(w.drop 0).take (e1G cut w.length-0)
noncomputable def c9S (w:List Nat)(cut:Nat):List Nat:=(w.drop (e1G cut w.length)).take (w.length-e1G cut w.length)
noncomputable def b0d (m:Nat->Nat):Nat->Nat
 | 0=>0| k+1=>b0d m k+m k
def a5r (m:Nat->Nat)(c:Nat->Int)(n:Nat):List Hint:=(a1h (λ k=>[Hint.ans true,.val (.tup [i (.ofNat (m k)),i (c k),.str ""]),.ans false,.ans false,.ans false]) n).flatten
def c4N (N:Nat)(W:List Nat)(m:Nat->Nat)(c:Nat->Int)(n:Nat):List Ob:=(a1h (λ k=>[Ob.cmp [] .Lt (i (.ofNat (b0d m k))) (i (.ofNat W.length)) true,.fn N 112 [.bytes W,i (.ofNat (b0d m k))] (.tup [i (.ofNat (m k)),i (c k),.str ""]),.cmp [] .Eq (.str "") (.str b4v) false,.cmp [] .Is (i (c k)) .none false,.cmp [] .Is (i (c k)) .none false]) n).flatten
noncomputable def bT (s:Stmt):Expr:=match s with
 | .Assign (t::_) _ _=>t| _=>default
noncomputable def bL (s:Stmt):Expr:=match s with
 | .Assign _ (.BinOp l _ _ _) _=>l| _=>default
noncomputable def bX (s:Stmt):Expr:=match s with
 | .Assign _ (.BinOp _ _ x _) _=>x| _=>default
noncomputable def bE (s:Stmt):Expr:=match s with
 | .Assign _ e _=>e| _=>default
def asS (r:Rc)(ae:AEnv)(e t:Expr):Ev Fl:=oc (a8P ae t e) (λ x=>b4E r ae x e) (gE' (a4v t e) (Ev.bind (r.e e ae) λ v=>Ev.bind (asg r ae t v) λ _=>Ev.ret .next))
abbrev OP:=Option (PV×St×List Ob×Bool)
def d3k (L:List PV)(M:Int)(Ps T O:List PV)(w:List Nat)(cut:Nat)(m:Nat->Nat)(c:Nat->Int)(hs:List Hint)(e:List Hint)(n:Nat):OP:=((rk KP 258).e (bL (stm 143 2)) a1B ⟨a6Q L M Ps T O w cut [] 0 [],[.inl,.big]++(a5r m c n++(e++hs))⟩).map a1l
noncomputable def c2O (W:List Nat)(a:Nat):List Nat:=(W.drop (e1G a W.length)).take (W.length-e1G a W.length)
def d3l (L:List PV)(M:Int)(Ps T O:List PV)(w:List Nat)(cut:Nat)(m:Nat->Nat)(c:Nat->Int)(hs:List Hint)(e:List Ob)(n:Nat):OP:=some (.loc 7,⟨a6Q L M Ps T O w cut (c2O (b7b w cut) (b0d m n)) (.ofNat (0+b0d m n)) [.opq,.list (spI c n)],hs⟩,.sz (b7b w cut).length::(c4N 250 (b7b w cut) m c n++e),true)
def d7G (W:List Nat)(a:Nat):List Ob:=[.cmp [] .Lt (i (.ofNat a)) (i (.ofNat W.length)) false]
def e0L (W:List Nat)(a q:Nat):List Ob:=[.cmp [] .Lt (i (.ofNat a)) (i (.ofNat W.length)) true,.fn 250 112 [.bytes W,i (.ofNat a)] (b1D q),.cmp [] .Eq (.str b4v) (.str b4v) true]
theorem d4j (L Ps T O) (M) (w) (cut) (m) (c)(v:PV) (hs):ten.map (d3k L M Ps T O w cut m c (.inl::hs) [.ans false])=ten.map λ n=>d3l L M Ps T O w cut m c (.inl::hs) (d7G (b7b w cut) (b0d m n)) n:=by kernel_rfl
theorem d4i (L Ps T O) (M) (w) (cut q) (m) (c)(v:PV) (hs):ten.map (d3k L M Ps T O w cut m c (.inl::hs) [.ans true,.val (b1D q),.ans true])=ten.map λ n=>d3l L M Ps T O w cut m c (.inl::hs) (e0L (b7b w cut) (b0d m n) q) n:=by kernel_rfl
noncomputable def d2K:CmpOp->Bool
 | .Eq=>true| .NotEq=>true| _=>false
def drL (H:List PO)(a:PV):Option (List PV):=oc (c4u a) some (ob (a5S a) λ j=>ob H[j]? a5T)
def d3x (H:List PO)(op:CmpOp)(a b:PV)(r:Bool):Ob:=bc (d2K op) (oc (drL H a) (λ l=>oc (drL H b) (λ m=>.cmp [] op (.lst l) (.lst m) r) (.cmp [] op a b r)) (.cmp [] op a b r)) (.cmp [] op a b r)
def obD:Ob->Ob
 | .cmp H op a b r=>d3x H op a b r| o=>obE o
theorem b9v (h:H[j]?=some (.list l)):a1v H (.loc j)=some l:=by
 show gd (match b3Y H j with
  | some (.list _)=>true| some (.froz _)=>true| _=>false) (match b3Y H j with
  | some (.list l)=>some l| some (.froz l)=>some l| _=>none)=_
 rw [a1d,h];rfl
theorem drE {P:PV->Prop}(h:drL H a=some l)(k1:a1v H (.lst l)=some l->P (.lst l))(k2:∀ j,a1v H (.loc j)=some l->P (.loc j)):P a:=
 ocE h (λ x hx e=>by rw [b4Q hx,sj e]; exact k1 rfl) λ _ e=>oE e λ j hj e=>oE e λ o ho e=>by rw [a2c hj];rw [a1x e] at ho;exact k2 j (b9v ho)
def eqL (f:PV->PV->Option Bool)(x y:Option (List PV)):Option Bool:=ob (ob x λ x=>ob y λ y=>some (x,y)) λ p=>bc (a1V p.1 p.2) (a5L f p.1 p.2) (some false)
def Eqs (H:List PO)(l m:List PV)(a b:PV):Prop:=(∀ f,a7d H f a b=eqL f (some l) (some m))/\isNone a=false/\isNone b=false/\b6E a b=none
theorem d2o (ha:drL H a=some l)(hb:drL H b=some m):Eqs H l m a b:=
 drE (P:=λ a=>Eqs H l m a b) ha (λ x=>drE (P:=λ b=>Eqs H l m (.lst l) b) hb (λ y=>⟨λ f=>congr (congrArg (eqL f) x) y,rfl,rfl,rfl⟩) λ j y=>⟨λ f=>congr (congrArg (eqL f) x) y,rfl,rfl,rfl⟩)
  λ i x=>drE (P:=λ b=>Eqs H l m (.loc i) b) hb (λ y=>⟨λ f=>congr (congrArg (eqL f) x) y,rfl,rfl,rfl⟩) λ j y=>⟨λ f=>congr (congrArg (eqL f) x) y,rfl,rfl,rfl⟩
theorem Eqs.cmp (e:Eqs H l m a b)(ho:d2K op=true):a3U H op a b=a3U H op (.lst l) (.lst m):=by
 cases op with
 | Eq=>show bc (isNone a) _ (bc (isNone b) _ (a7d H (a5X H 5) a b))=_;rw [e.2.1,e.2.2.1,e.1];rfl| NotEq=>show oc (b6E a b) _ (ob (a7d H (a5X H 5) a b) _)=_;rw [e.2.2.2,e.1];rfl| _=>exact nx2 ho
theorem d1M (h:okE B (obD o)):o.ok B:=by
 cases o with
 | cmp H op a b r=>have h:okE B (d3x H op a b r):=h;have fin:∀ {o},d3x H op a b r=o->okE B o:=λ e=>e▸h;exact bcE (b:=d3x H op a b r) rfl (λ ho e=>ocE e (λ l hl e=>ocE e (λ m hm e=>((d2o hl hm).cmp ho).trans ((fin e.symm:okE B (.cmp [] op (.lst l) (.lst m) r)) H)) λ _ e=>(fin e.symm:okE B (.cmp [] op a b r)) H) λ _ e=>(fin e.symm:okE B (.cmp [] op a b r)) H) λ _ e=>(fin e.symm:okE B (.cmp [] op a b r)) H| _=>exact c5i h
def a2R {α:Type}(y:α×St×Obs):α×St×List Ob×Bool:=(y.1,y.2.1,y.2.2.ps.map obD,e0m y.2.2.sz 1000)
theorem OblE.ofD {p:List Ob}(h:OblE B (p.map obD)):OblL B p:=λ o m=>d1M (h _ (e0e.mpr ⟨o,m,rfl⟩))
theorem Run.ofD {α:Type}{m:Ev α}{st st1:St}{Q:α->St->Prop}{a:α}(h:(m st).map a2R=some (a,st1,p,true))(O:OblE B p)(q:Q a st1):Run B m st Q:=by obtain ⟨⟨v,s,ob⟩,e,hh⟩:=e1C.mp h;unfold a2R at hh;simp only [Prod.mk.injEq] at hh;obtain ⟨rfl,rfl,rfl,h3⟩:=hh;exact ⟨v,s,ob.ps,⟨ob.sz,e,e0t h3⟩,O.ofD,q⟩
def d7d (L:List PV)(M P:Int)(Ps T O A:List PV)(w V:List Nat)(cut:Nat)(m:Nat->Nat)(c:Nat->Int)(hs:List Hint)(n:Nat):OP:=((rk KP 258).e (bX (stm 143 2)) a1B ⟨a6Q L M Ps T O w cut V P [.opq,.list A],[.inl,.big]++(a5r m c n++(.ans false::hs))⟩).map a1l
theorem d4h (L Ps T O A) (M P) (w V) (cut) (m) (c) (hs):ten.map (d7d L M P Ps T O A w V cut m c (.big::hs)) =
 ten.map λ n=>some (.loc 9,⟨a6Q L M Ps T O w cut [] 0 [.opq,.list A,.opq,.list (spI c n)],.big::hs⟩,.sz (V++c9S w cut).length::(c4N 250 (V++c9S w cut) m c n++d7G (V++c9S w cut) (b0d m n)),true):=by kernel_rfl
def d1d:List Str:=c3I++(["octets", "cut", "reader", "read"]:List Str)
def b7i (Ps T O:List PV)(w:List Nat)(cut:Nat):List PV:=c2G Ps T O++[.bytes w,i (.ofNat cut),.loc 4,.loc 10]
def c0h (A C R:List PV):List PO:=[rdr false [] 0,.inst 113 3,.opq,.opq,.list A,.opq,.list C,.list R]
@[irreducible] def c3w (L:List PV)(M:Int)(Ps T O:List PV)(w:List Nat)(cut:Nat)(A C R:List PV):List PO:=dk2 L M++(.fr d1d (b7i Ps T O w cut)::c0h A C R)
theorem d4g (L Ps T O A C) (M) (w) (cut) (hs):(Ev.bind (b7R .Add (.loc 7) (.loc 9)) (λ v=>Ev.bind (asg (rk KP 259) a1B (bT (stm 143 2)) v) λ _=>Ev.ret Fl.next) ⟨a6Q L M Ps T O w cut [] 0 [.opq,.list A,.opq,.list C],.big::hs⟩).map a1l=some (.next,⟨c3w L M Ps T O w cut A C (A++C),hs⟩,[.sz (A++C).length],true):=by kernel_rfl
theorem d0S:(rk KP 260).s (stm 143 2) a1B=Ev.bind (Ev.opt (some (bT (stm 143 2)))) (asS (rk KP 259) a1B (bE (stm 143 2))):=by kernel_rfl
theorem d0R:asS (rk KP 259) a1B (bE (stm 143 2)) (bT (stm 143 2))=Ev.bind (Ev.bind ((rk KP 258).e (bL (stm 143 2)) a1B) λ a=>Ev.bind ((rk KP 258).e (bX (stm 143 2)) a1B) λ b=>b7R .Add a b) λ v=>Ev.bind (asg (rk KP 259) a1B (bT (stm 143 2)) v) λ _=>Ev.ret Fl.next:=by kernel_rfl
def c8D:List Str:=d1d++(["formed"]:List Str)
@[irreducible] def a6P (L:List PV)(M:Int)(Ps T O:List PV)(w:List Nat)(cut:Nat)(A C R F:List PV):List PO:=dk2 L M++(.fr c8D (b7i Ps T O w cut++[.lst F])::c0h A C R)
theorem d4f (L Ps T O A C R F) (M) (w) (cut) (hs):(a0a (rk KP 260) a1B [stm 143 3,stm 143 4] ⟨c3w L M Ps T O w cut A C R,.val (.bytes w)::.ans false::.ans false::.val (.lst F)::hs⟩).map a2R =
 some (.next,⟨a6P L M Ps T O w cut A C R F,hs⟩,[.fn 255 140 [.lst T] (.bytes w),.cmp [] .NotEq (.bytes w) (.bytes w) false,.cmp [] .NotEq (.lst R) (.lst T) false,.fn 257 139 [.lst Ps] (.lst F)],true):=by kernel_rfl
theorem a3l (H)(h:W[j]?=some x):a2T H (.bytes W) (i (.ofNat j))=some (i (.ofNat x)):=by show ob W[j]? (λ x=>some (PV.int (Int.ofNat x)))=_;rw [h];rfl
theorem a6w:∀ c∈a0J,a4I c=(a4I c).headD 0::(a4I c).drop 1 /\ ∀ o∈(a4I c).drop 1,128<=o/\o<=191:=by decide
theorem c6C (h:n<=m) (H):a3U H .LtE (i (.ofNat n)) (i (.ofNat m))=some true:=by show some (!a0X (.ofNat m) (.ofNat n))=_;rw [show a0X (.ofNat m) (.ofNat n)=false from (a0h _ _).trans (decide_eq_false λ e=>e1U.mpr h (e1J.mp e))];rfl
theorem d2e (h:n<m) (H):a3U H .GtE (i (.ofNat n)) (i (.ofNat m))=some false:=by show some (!a0X (.ofNat n) (.ofNat m))=_;rw [ltT h]; rfl
theorem d2d (h:m<=n) (H):a3U H .GtE (i (.ofNat n)) (i (.ofNat m))=some true:=by show some (!a0X (.ofNat n) (.ofNat m))=_;rw [show a0X (.ofNat n) (.ofNat m)=false from (a0h _ _).trans (decide_eq_false λ e=>e1U.mpr h (e1J.mp e))];rfl
section
variable {B:Base}{W:List Nat}
theorem b3X:∀ (os:List Nat)(k:Nat),(∀ o∈os,128 <= o /\ o <= 191)->(∀ t x,os[t]?=some x->W[j + (k + t)]?=some x)->OblE B (d3n W (.ofNat j) k (os.map .ofNat))
 | [],_,_,_=>a0m| o::os,k,h1,h2=>by have e:=h2 0 o rfl;have l:=b3r e;rw [e1o] at e l;obtain ⟨a,b⟩:=h1 o (e0X ..);refine a0H (λ H=>d2e l H) (a0H (λ H=>a3l H e) (a0H (λ H=>c6C a H) (a0H (λ H=>c6C b H) (b3X os (k+1) (λ o m=>h1 o (e0Z _ m)) λ t x ht=>?_))));have:=h2 (t+1) x ht;rwa [show j+(k+(t+1))=j+(k+1+t) by lia] at this
theorem b3p (hc:c∈a0J)(hq:0<q)(h:∀ t x,t<q->(a4I c)[t]?=some x->W[j+t]?=some x):W[j]?=some ((a4I c).headD 0):=by
 have e:=(a6w c hc).1;have:(a4I c)[0]?=some ((a4I c).headD 0):=by rw [e]; rfl
 exact h 0 _ hq this
theorem b8h (hc:c∈a0J)(h:((a4I c).drop 1)[t]?=some x):(a4I c)[t+1]?=some x:=by rw [List.getElem?_drop] at h;rwa [e2A 1 t] at h
theorem b8t (BO:BaseOK2 B)(hc:c∈a0J)(h:∀ t x,(a4I c)[t]?=some x->W[j+t]?=some x):FnOK B 101 112 [.bytes W,i (.ofNat j)] (c5g c):=by have h0:=b3p hc (q:=4) (by decide) λ t x _ e=>h t x e;refine a0W BO (a0o B) rfl (a0I (d9j W (.ofNat j)) hc) (λ H=>rfl) (a0H (λ H=>a3l H h0) (a0H (λ H=>a3l H h0) (b3X _ 1 (a6w c hc).2 λ t x e=>?_)));have:=h (t+1) x (b8h hc e);rwa [e2A t 1] at this
theorem c9P:∀ x∈d0A,x.1∈a0J/\0<x.2/\x.2<(a4I x.1).length:=by decide
theorem c9Q:∀ c∈a0J,∀ q∈e0f 4,0<q->q<(a4I c).length->(c,q)∈d0A:=by decide
theorem b3S (BO:BaseOK2 B)(hx:x∈d0A)(h:∀ t y,t<x.2->(a4I x.1)[t]?=some y->W[j+t]?=some y)(hl:W.length=j+x.2):FnOK B 101 112 [.bytes W,i (.ofNat j)] (b1D x.2):=by
 obtain ⟨hc,h1,h2⟩:=c9P x hx;have h0:=b3p hc h1 h;refine a0W BO (a0o B) rfl (a0I (d5k W (.ofNat j)) hx) (λ H=>rfl) (a0H (λ H=>a3l H h0) (a0H (λ H=>a3l H h0) (a1O ?_ (a0H (λ H=>d2d (e1L hl) H) a0m))));have e:(b9K x.1).take (x.2-1)=(((a4I x.1).drop 1).take (x.2-1)).map .ofNat:=(List.map_take ..).symm;rw [e];refine b3X _ 1 (λ o m=>(a6w x.1 hc).2 o (e2X m)) λ t y ht=>?_;rw [List.getElem?_take] at ht;split at ht
 · rename_i lt;have:=h (t+1) y (by lia) (b8h hc ht);rwa [e2A t 1] at this
 · cases ht
def mO (cs:List Int)(k:Nat):Nat:=(a4I (cs.getD k 0)).length
noncomputable def cO (cs:List Int)(k:Nat):Int:=cs.getD k 0
theorem spC (cs):spI (cO cs) cs.length=cs.map .int:=by unfold spI;rw [a1c];exact (a1g (λ c=>PV.int c) 0 _).symm
theorem a8W (cs:List Int):∀ k,k <= cs.length->b0d (mO cs) k=(a0y (cs.take k)).length
 | 0,_=>rfl| k+1,h=>by have l:k<cs.length:=h;show b0d (mO cs) k+mO cs k=_;rw [a8W cs k (e1d l),List.take_succ,List.getElem?_eq_getElem l];unfold a0y mO;rw [e1g,e0a,List.getD_eq_getElem?_getD,List.getElem?_eq_getElem l];simp
theorem b7j (a b):a0y (a++b)=a0y a++a0y b:=e1g
theorem b1f:∀ {n:Nat}{f:Nat->List Ob},(∀ k,k < n->OblE B (f k))->OblE B (a1h f n).flatten
 | 0,_,_=>a0m| n+1,f,h=>a1O (h 0 (e1P _)) (b1f λ k l=>h (k+1) (e1Z l))
theorem b0Q (BO:BaseOK2 B)(hN:101<=N)(hc:∀ c∈cs,c∈a0J)(hW:W=a0y cs++R):OblE B (c4N N W (mO cs) (cO cs) cs.length):=by
 refine b1f λ k l=>?_;have hk:=a8W cs k (e1d l);have mem:=a4d l;have dec:W=a0y (cs.take k)++(a4I (cs.getD k 0)++(a0y (cs.drop (k + 1))++R)):=by
  rw [hW];have:cs=cs.take k++(cs.getD k 0::cs.drop (k + 1)):=b4j l;have e:a0y cs=a0y (cs.take k)++(a4I (cs.getD k 0)++a0y (cs.drop (k + 1))):=by
   conv=>lhs; rw [this]
   rw [b7j];rfl
  rw [e,e0h,e0h]
 have at':∀ t x,(a4I (cs.getD k 0))[t]?=some x->W[b0d (mO cs) k+t]?=some x:=λ t x h=>by rw [hk,dec,List.getElem?_append_right (e1M _ _),e2o,List.getElem?_append_left (b3r h)];exact h
 have pos:b0d (mO cs) k<W.length:=by have:=b3r (b3p (hc _ mem) (q:=4) (by decide) λ t x _ e=>at' t x e);exact this
 exact a0H (λ H=>b3d H pos) (a0H ((b8t BO (hc _ mem) at').le hN) (a0H (λ H=>by kernel_rfl) (a0H (λ H=>rfl) (a0H (λ H=>rfl) a0m))))
end
theorem c1I {w:List Nat}(h:cut<=w.length):b7b w cut=w.take cut:=by unfold b7b;rw [e2I,Nat.sub_zero,show e1G cut w.length=cut from e1z h]
theorem c9R {w:List Nat}(h:cut<=w.length):c9S w cut=w.drop cut:=by unfold c9S;rw [show e1G cut w.length=cut from e1z h];exact e2Z (by rw [e1s]; exact e0i _)
theorem c2N (a p):c2O (a++p) a.length=p:=by unfold c2O;rw [show e1G a.length (a++p).length=a.length from e1z (by rw [e0a]; lia),List.drop_left];exact e2Z (by rw [e0a]; lia)
theorem b2V:∀ (cs:List Int)(cut:Nat),cut <= (a0y cs).length->∃ a b P,cs=a++b /\ (a0y cs).take cut=a0y a++P /\ P++(a0y cs).drop cut=a0y b /\ (P=[] \/ ∃ c b' q,b=c::b' /\ P=(a4I c).take q /\ 0 < q /\ q < (a4I c).length)
 | [],cut,h=>⟨[],[],[],rfl,by rw [show a0y []=[] from rfl,List.take_nil]; rfl,by rw [show a0y []=[] from rfl,List.drop_nil]; rfl,.inl rfl⟩
 | c::cs,cut,h=>by
   have eu:a0y (c::cs)=a4I c++a0y cs:=rfl;rw [eu] at h ⊢;rcases e1A cut (a4I c).length with l | l
   · rcases Nat.eq_zero_or_pos cut with rfl | p
     · exact ⟨[],c::cs,[],rfl,by rw [List.take_zero]; rfl,by rw [e2I]; rfl,.inl rfl⟩
     · refine ⟨[],c::cs,(a4I c).take cut,rfl,?_,?_,.inr ⟨c,cs,cut,rfl,rfl,p,l⟩⟩
       · rw [List.take_append_of_le_length (e1d l)]; rfl
       · rw [List.drop_append_of_le_length (e1d l),<- e0h,e1Y]; rfl
   · obtain ⟨a,b,P,h1,h2,h3,h4⟩:=b2V cs (cut - (a4I c).length) (by rw [e0a] at h; lia);refine ⟨c::a,b,P,by rw [h1]; rfl,?_,?_,h4⟩
     · rw [List.take_append,e2Z l,h2,<- e0h]; rfl
     · rw [List.drop_append,List.drop_eq_nil_of_le l,e1V]; exact h3
structure Rd where
 L:List PV
 M:Int
 Ps:List PV
 T:List PV
 O:List PV
 w:List Nat
 cut:Nat
 A:List PV
 C:List PV
 R:List PV
 F:List PV
 X:List PV
 Y:List PV
 cc:Int
noncomputable def d0g:List Str:=["data", "word", "composer", "held"]
def nsS (h:Nat):PO:=.ns d0g [a0B,.str "nfc",a0U,.loc h]
def exE (d:Rd)(b:Nat):List PO:=match b with
 | 0=>[]
 | 1=>[.inst 44 12,nsS 13,.list [],.list d.X,.list []]
 | _=>[.inst 44 12,nsS 13,.list [],.list d.X]
noncomputable def oB (b:Nat):Nat:=match b with
 | 0=>11| 1=>16| _=>15
noncomputable def spB (d:Rd)(b:Nat):PV:=match b with
 | 0=>.loc 10| _=>.lst d.O
def d7E (d:Rd)(b:Nat):List PV:=match b with
 | 0=>[]
 | 1=>[i d.cc,.loc 15]
 | _=>[i d.cc,.lst d.Y]
def nmS (ext:List PV):List Str:=c8D++((["spelled", "stream", "told", "many"]:List Str)++(match ext with
 | []=>[]
 | _=>(["code", "fresh"]:List Str)))
def hS (d:Rd)(b:Nat)(told held:Nat)(many:Nat)(ext:List PV)(rest:List PO):List PO:=dk2 d.L d.M++(.fr (nmS ext) (b7i d.Ps d.T d.O d.w d.cut++([.lst d.F,spB d b,.loc (oB b+1),.loc told,i (.ofNat many)]++ext))::(c0h d.A d.C d.R++(exE d b++([nsS held,.inst 44 (oB b),.opq]++rest))))
@[irreducible] def hI0 (d:Rd)(b:Nat):List PO:=hS d b (oB b+4) (oB b+3) 0 (d7E d b) [.list [],.list []]
@[irreducible] def hI1 (d:Rd)(b:Nat)(c:Int)(Hd:List PV):List PO:=hS d b (oB b+5) (oB b+3) 1 [i c,.loc (oB b+6)] [.list Hd,.list [],.list [],.list []]
@[irreducible] def c3t (d:Rd)(b many:Nat)(c:Int)(H0 Td Fm:List PV):List PO:=hS d b (oB b+5) (oB b+6) many [i c,.lst Fm] [.froz H0,.list [],.list Td,.list [i c]]
@[irreducible] def c6K (d:Rd)(b many:Nat)(c:Int)(H0 Td Hd:List PV):List PO:=hS d b (oB b+5) (oB b+7) many [i c,.loc (oB b+6)] [.froz H0,.list [],.list Td,.list [],.list Hd]
def b2r:Stmt:=stm 143 5
def b2C:Stmt:=match (c6S b2r)[1]? with
 | some s=>s| none=>default
def Bin (b:Nat)(x:PV):Ev Fl:=a4j (rk KP 257) a1B b2C (oB b+5) x
def skS (b n:Nat):List Nat:=[1,7,9,10,14,oB b+3,n]
def hnF (b:Nat)(G:List PV):List Hint:=[.inl,.ans false,.big,.ans true,.val (.lst G),.ans false,.skp (skS b (oB b+7))]
def hnM (b n:Nat):List Hint:=[.inl,.val (.bool false),.ans true,.big,.ans false,.skp (skS b (n+3))]
def hnS (b n:Nat)(Fm G:List PV):List Hint:=[.inl,.val (.bool true),.inl,.val (.lst Fm),.ans false,.big,.ans true,.val (.lst G),.ans false,.skp (skS b (n+4))]
noncomputable def spN (d:Rd)(b:Nat):List Ob:=match b with
 | 0=>[]
 | _=>[.nl (.lst d.O)]
def exN (d:Rd)(b:Nat):List Ob:=match b with
 | 0=>[]
 | _=>[.nl a0B,.nl a0U,.nl (.lst d.X)]
def nlS (d:Rd)(b:Nat)(fr:List Ob)(Hx Td:List PV):List Ob:=[.nl (.lst d.L),.nl a0B,.nl (.lst d.Ps),.nl (.lst d.T),.nl (.lst d.O),.nl (.lst d.F)]++(spN d b++(fr++([.nl (.lst d.A),.nl (.lst d.C),.nl (.lst d.R)]++(exN d b++[.nl a0B,.nl a0U,.nl (.lst Hx),.nl (.lst Td)]))))
def stO (c:Int)(r:Bool):Ob:=.fn 247 43 [i c,a0B,.str "nfc",a0U] (.bool r)
def obF (d:Rd)(b:Nat)(c:Int)(Q G:List PV):List Ob:=[.cmp [] .In (i c) a4U false,.sz (([]:List PV)++[]).length,.cmp [] .NotIn (i c) a4U true,.fn 250 139 [.lst Q] (.lst G),.cmp [] .NotEq (.lst []) (.lst G) false]++nlS d b [] [i c] []
def obM (d:Rd)(b:Nat)(c:Int)(Hx Td:List PV):List Ob:=[stO c false,.cmp [] .In (i c) a4U true,.sz (Td++[]).length,.cmp [] .NotIn (i c) a4U false]++nlS d b [] Hx (Td++[])
def obS (d:Rd)(b:Nat)(c:Int)(Hd Hx Td Fm Q G:List PV):List Ob:=[stO c true,.fn 243 37 [.lst Hd,a0B,.str "nfc",a0U] (.lst Fm),.cmp [] .In (i c) a4U false,.sz (Td++Fm).length,.cmp [] .NotIn (i c) a4U true,.fn 250 139 [.lst Q] (.lst G),.cmp [] .NotEq (.lst (Td++Fm)) (.lst G) false]++nlS d b [.nl (.lst Fm)] Hx (Td++Fm)
@[irreducible] def c2l (b:Nat)(c:Int)(H:List PO)(hs:List Hint):OF:=(Bin b (i c) ⟨H,hs⟩).map a2R
theorem a3B (b) (c) (H) (hs):(Bin b (i c) ⟨H,hs⟩).map a2R=c2l b c H hs:=by rw [c2l]
def a4l (d:Rd)(p:Nat->List PV)(k:Nat):Rd:={ d with Ps:=a1h (λ j=>.lst (p j)) k }
def pfx (p:Nat->List PV)(j:Nat):List PV:=a1h (λ j=>.lst (p j)) j
noncomputable def a1G:List Nat:=[0,1,2]
def d8F:List (Nat×Nat):=a1G.flatMap λ b=>[1,2,3].map λ k=>(b,k)
theorem tF (d) (p) (c) (G) (hs):d8F.map (λ x=>c2l x.1 c (hI0 (a4l d p x.2) x.1) (hnF x.1 G++hs))=d8F.map λ x=>some (.next,⟨hI1 (a4l d p x.2) x.1 c [i c],hs⟩,obF (a4l d p x.2) x.1 c [] G,true):=by kernel_rfl
theorem tM1 (d) (c c') (h) (hs):(a1G.flatMap λ b=>[1,2].map λ n=>(b,n)).map (λ x=>c2l x.1 c (hI1 d x.1 c' (spI h x.2)) (hnM x.1 (oB x.1+7)++hs))=(a1G.flatMap λ b=>[1,2].map λ n=>(b,n)).map λ x=>some (.next,⟨hI1 d x.1 c (spI h x.2++[i c]),hs⟩,obM d x.1 c (spI h x.2++[i c]) [],true):=by kernel_rfl
theorem tM2 (d) (m) (c c') (H0 Td Fm) (hs):a1G.map (λ b=>c2l b c (c3t d b m c' H0 Td Fm) (hnM b (oB b+7)++hs))=a1G.map λ b=>some (.next,⟨c6K d b m c H0 (Td++[]) [i c',i c],hs⟩,obM d b c H0 Td,true):=by kernel_rfl
theorem tM3 (d) (m) (c c' x y) (H0 Td) (hs):a1G.map (λ b=>c2l b c (c6K d b m c' H0 Td [i x,i y]) (hnM b (oB b+8)++hs))=a1G.map λ b=>some (.next,⟨c6K d b m c H0 (Td++[]) [i x,i y,i c],hs⟩,obM d b c H0 Td,true):=by kernel_rfl
def d8H:List (Nat×Nat×Nat):=a1G.flatMap λ b=>[2,3].flatMap λ k=>[1,2,3].map λ n=>(b,k,n)
theorem tS1 (d) (p) (c c') (h) (Fm G) (hs):d8H.map (λ x=>c2l x.1 c (hI1 (a4l d p x.2.1) x.1 c' (spI h x.2.2)) (hnS x.1 (oB x.1 + 7) Fm G++hs)) =
 d8H.map λ x=>some (.next,⟨c3t (a4l d p x.2.1) x.1 2 c (spI h x.2.2) ([]++Fm) Fm,hs⟩,obS (a4l d p x.2.1) x.1 c (spI h x.2.2) (spI h x.2.2) [] Fm (pfx p 1) G,true):=by kernel_rfl
theorem tS2 (d) (p) (c c') (H0 Td F' Fm G) (hs):a1G.map (λ b=>c2l b c (c3t (a4l d p 3) b 2 c' H0 Td F') (hnS b (oB b + 7) Fm G++hs)) =
 a1G.map λ b=>some (.next,⟨c3t (a4l d p 3) b 3 c H0 (Td++Fm) Fm,hs⟩,obS (a4l d p 3) b c [i c'] H0 Td Fm (pfx p 2) G,true):=by kernel_rfl
theorem tS3 (d) (p) (c c') (h) (H0 Td Fm G) (hs):(a1G.flatMap λ b=>[2,3].map λ n=>(b,n)).map (λ x=>c2l x.1 c (c6K (a4l d p 3) x.1 2 c' H0 Td (spI h x.2)) (hnS x.1 (oB x.1 + 8) Fm G++hs)) =
 (a1G.flatMap λ b=>[2,3].map λ n=>(b,n)).map λ x=>some (.next,⟨c3t (a4l d p 3) x.1 3 c H0 (Td++Fm) Fm,hs⟩,obS (a4l d p 3) x.1 c (spI h x.2) H0 Td Fm (pfx p 2) G,true):=by kernel_rfl
def Steps (B:Base)(P:St->Prop)(body:PV->Ev Fl)(Q:St->Prop):List PV->St->Prop
 | [],st=>P st/\Q st| x::l,st=>P st/\Run B (body x) st (λ f s=>f=.next/\Steps B P body Q l s)
section
variable {B:Base}{P:St->Prop}{body:PV->Ev Fl}{Q:St->Prop}
theorem Steps.stat:∀ {l:List PV}{st:St},Steps B P body Q l st->Run B (a0R body l) st (λ f s=>f=.next /\ Q s)
 | [],st,h=>Run.ret ⟨rfl,h.2⟩| x::l,st,h=>by unfold a0R;refine Run.bind h.2 ?_;rintro f s ⟨rfl,h⟩;exact h.stat
theorem Steps.dyn (hP:∀ st,P st->a7J st.H r=some R):∀ {l:List PV}{j:Nat}{st:St},R.drop j=l->Steps B P body Q l st->Run B (b5o body r l.length j) st (λ f s=>f=.next /\ Q s)
 | [],j,st,hd,h=>by have hj:R.length<=j:=e1p.mp hd;refine Run.bind (Q:=λ _ s=>s=st) (Run.rd (a:=()) ?_ rfl) λ _ s e=>e▸Run.ret ⟨rfl,h.2⟩;rw [hP st h.1];show gd (!e0g j R.length) (some ())=_;rw [show e0g j R.length=false from Bool.eq_false_iff.mpr λ e=>e1U.mpr hj (e0t e)];rfl
 | x::l,j,st,hd,h=>by obtain ⟨h1,h2⟩:=a3q hd;refine Run.bind (Q:=λ o s=>o=some x/\s=st) (Run.rd (a:=some x) (by rw [hP st h.1]; exact congrArg some h1) ⟨rfl,rfl⟩) λ o s e=>?_;obtain ⟨rfl,rfl⟩:=e;refine Run.bind h.2 ?_;rintro f s ⟨rfl,h⟩;exact Steps.dyn hP h2 h
theorem Steps.app:∀ {k:List PV}{st:St},Steps B P body (λ s=>Steps B P body Q l s) k st->Steps B P body Q (k++l) st
 | [],st,h=>h.2| x::k,st,h=>⟨h.1,h.2.mono λ f s q=>⟨q.1,q.2.app⟩⟩
end
@[irreducible] def hE (d:Rd)(b:Nat)(sp:PV)(many:Nat):List PO:=dk2 d.L d.M++(.fr (nmS (d7E d b)) (b7i d.Ps d.T d.O d.w d.cut++([.lst d.F,sp,.loc 11,.loc 14,i (.ofNat many)]++d7E d b))::(c0h d.A d.C d.R++exE d b))
@[irreducible] def hSp (d:Rd)(b many:Nat):List PO:=match b with
  | 0=>dk2 d.L d.M++(.fr (c8D++(["spelled"]:List Str)) (b7i d.Ps d.T d.O d.w d.cut++[.lst d.F,.loc 10])::c0h d.A d.C d.R)| b=>hE d b (.lst d.O) many
def d5y:Stmt:=match (c6S b2r)[0]? with
 | some s=>s| none=>default
def d0j:Stmt:=match (c6S b2r)[2]? with
 | some s=>s| none=>default
theorem d4N:c6S b2r=[d5y,b2C,d0j]:=by kernel_rfl
def b0I (d:Rd)(b many:Nat):List PO:=match b with
 | 0=>a6P d.L d.M d.Ps d.T d.O d.w d.cut d.A d.C d.R d.F| b=>hE d b (.loc 10) many
theorem d8a (d) (m) (hs):a1G.map (λ b=>(asg (rk KP 259) a1B (a7Y b2r) (spB d b) ⟨b0I d b m,hs⟩).map a0S)=a1G.map λ b=>some ((),⟨hSp d b m,hs⟩,[],true):=by kernel_rfl
theorem d8X (d) (m) (hs):a1G.map (λ b=>((rk KP 258).s d5y a1B ⟨hSp d b m,.inl::.val a0U::hs⟩).map a2R)=a1G.map λ b=>some (.next,⟨hI0 d b,hs⟩,[.fn 250 42 [a0B,.str "nfc",.none] a0U],true):=by kernel_rfl
@[irreducible] def d2r (b:Nat)(H:List PO)(Fm:List PV)(hs:List Hint):OF:=(Ev.bind ((rk KP 258).s d0j a1B) (λ f=>c6Q 11 f) ⟨H,.inl::.val (.lst Fm)::.big::.ans false::.skp [1,7,9,10,oB b+5]::hs⟩).map a2R
theorem b0R (b) (H) (Fm) (hs):(Ev.bind ((rk KP 258).s d0j a1B) (λ f=>c6Q 11 f) ⟨H,.inl::.val (.lst Fm)::.big::.ans false::.skp [1,7,9,10,oB b+5]::hs⟩).map a2R=d2r b H Fm hs:=by rw [d2r]
def nlE (d:Rd)(b:Nat)(fr:List Ob)(Td:List PV):List Ob:=[.nl (.lst d.L),.nl a0B,.nl (.lst d.Ps),.nl (.lst d.T),.nl (.lst d.O),.nl (.lst d.F)]++(spN d b++(fr++[.nl (.lst d.A),.nl (.lst d.C),.nl (.lst d.R),.nl a0B,.nl a0U,.nl (.lst Td)]))
def c3A (d:Rd)(b:Nat)(Hd Td Fm:List PV)(fr:List Ob):List Ob:=[.fn 249 37 [.lst Hd,a0B,.str "nfc",a0U] (.lst Fm),.sz (Td++Fm).length,.cmp [] .NotEq (.lst (Td++Fm)) (.lst d.F) false]++nlE d b fr Td
noncomputable def b6z (d:Rd)(X Y:List PV)(c:Int):Rd:={ d with X:=X,Y:=Y,cc:=c }
def d8G:List (Nat×Nat):=a1G.flatMap λ b=>[1,2,3].map λ n=>(b,n)
theorem tE1 (d) (c) (h) (Fm) (hs):d8G.map (λ x=>d2r x.1 (hI1 d x.1 c (spI h x.2)) Fm hs)=d8G.map λ x=>some (.next,⟨hE (b6z d [] d.Y c) 1 (spB d x.1) 1,hs⟩,c3A d x.1 (spI h x.2) [] Fm [],true):=by kernel_rfl
theorem tE2 (d) (m) (c) (H0 Td F' Fm) (hs):a1G.map (λ b=>d2r b (c3t d b m c H0 Td F') Fm hs)=a1G.map λ b=>some (.next,⟨hE (b6z d Td F' c) 2 (spB d b) m,hs⟩,c3A d b [i c] Td Fm [.nl (.lst F')],true):=by kernel_rfl
theorem tE3 (d) (m) (c) (h) (H0 Td Fm) (hs):(a1G.flatMap λ b=>[2,3].map λ n=>(b,n)).map (λ x=>d2r x.1 (c6K d x.1 m c H0 Td (spI h x.2)) Fm hs)=(a1G.flatMap λ b=>[2,3].map λ n=>(b,n)).map λ x=>some (.next,⟨hE (b6z d Td d.Y c) 1 (spB d x.1) m,hs⟩,c3A d x.1 (spI h x.2) Td Fm [],true):=by kernel_rfl
theorem d4e (d) (sp) (m) (N Wd) (hs):[1,2].map (λ b=>((rk KP 260).s (stm 143 6) a1B ⟨hE d b (.lst sp) m,.val (.lst N)::.val (.lst N)::.ans false::.val (.lst Wd)::.val (.lst Wd)::.ans false::hs⟩).map a2R) =
 [1,2].map λ b=>some (.next,⟨hE d b (.lst sp) m,hs⟩,[.fn 255 38 [.lst d.F,a0B] (.lst N),.fn 255 138 [.lst d.Ps] (.lst N),.cmp [] .NotEq (.lst N) (.lst N) false,.fn 255 126 [.lst d.F,a0B] (.lst Wd),.fn 255 141 [.lst d.F] (.lst Wd),.cmp [] .NotEq (.lst Wd) (.lst Wd) false],true):=by kernel_rfl
def c3R (y:Fl×St×Obs):Fl×List PO×List Ob×Bool:=(y.1,y.2.1.H.take 2,y.2.2.ps.map obD,e0m y.2.2.sz 1000)
theorem d4d (d) (sp) (m) (w) (mm) (c):([1,2].flatMap λ b=>ten.map λ n=>(b,n)).map (λ x=>((rk KP 260).s (stm 143 7) a1B ⟨hE d x.1 (.lst sp) m,.inl::.val (.bytes w)::.inl::.big::(a5r mm c x.2++[.ans false,.ans true])⟩).map c3R) =
 ([1,2].flatMap λ b=>ten.map λ n=>(b,n)).map λ x=>some (.ret (.bool true),dk2 d.L d.M,.fn 255 110 [.lst d.F] (.bytes w)::.sz (([]:List Nat)++w).length::(c4N 250 w mm c x.2++(d7G w (b0d mm x.2)++[.cmp [] .Eq (.lst (spI c x.2)) (.lst d.F) true])),true):=by kernel_rfl
def T11:List (Nat×List Ent):=[(37,[([.lst [],a0B,.str "nfc",a0U],.lst [])])]
theorem c2Q:a1o K2 100 T11=true:=by decide +kernel
def emp:List Hint:=[.inl,.val a0U,.inl,.val (.lst []),.skp [1]]
def d6b:List Ob:=[.fn 250 42 [a0B,.str "nfc",.none] a0U,.fn 249 37 [.lst [],a0B,.str "nfc",a0U] (.lst [])]
inductive SS where
 | one (c:Int) (Hd:List Int)
 | two (j:Nat) (c:Int) (H0 Td Fm:List Int)
 | more (j:Nat) (c:Int) (H0 Td Hd:List Int)
noncomputable def SS.held:SS->List Int
 | .one _ Hd=>Hd| .two _ c _ _ _=>[c]
 | .more _ _ _ _ Hd=>Hd
noncomputable def SS.told:SS->List Int
 | .one _ _=>[]
 | .two _ _ _ Td _=>Td| .more _ _ _ Td _=>Td
noncomputable def SS.many:SS->Nat
 | .one _ _=>1| .two j _ _ _ _=>j| .more j _ _ _ _=>j
noncomputable def SS.first:SS->List Int
 | .one _ Hd=>Hd| .two _ _ H0 _ _=>H0| .more _ _ H0 _ _=>H0
def SS.ok:SS->Prop
 | .one _ Hd=>Hd.length∈[1,2,3]| .two _ _ _ _ _=>True| .more _ _ _ _ Hd=>Hd.length∈[2,3]
noncomputable def SS.mark:SS->Int->SS
 | .one _ Hd,c=>.one c (Hd++[c])| .two j c0 H0 Td _,c=>.more j c H0 (Td++[]) [c0,c]| .more j _ H0 Td Hd,c=>.more j c H0 (Td++[]) (Hd++[c])
def SS.start (s:SS)(c:Int)(Fm:List Int):SS:=.two (s.many+1) c s.first (s.told++Fm) Fm
noncomputable def I (l:List Int):List PV:=l.map .int
def SS.heap (d:Rd)(b:Nat):SS->List PO
 | .one c Hd=>hI1 d b c (I Hd)| .two j c H0 Td Fm=>c3t d b j c (I H0) (I Td) (I Fm)| .more j c H0 Td Hd=>c6K d b j c (I H0) (I Td) (I Hd)
def SS.n (b:Nat):SS->Nat
 | .more _ _ _ _ _=>oB b+8| _=>oB b+7
structure RdOK (d:Rd):Prop where
 L:a0e (.lst d.L)=true
 Ps:a0e (.lst d.Ps)=true
 T:a0e (.lst d.T)=true
 O:a0e (.lst d.O)=true
 A:a0e (.lst d.A)=true
 C:a0e (.lst d.C)=true
 R:a0e (.lst d.R)=true
 F:a0e (.lst d.F)=true
 X:a0e (.lst d.X)=true
 Y:a0e (.lst d.Y)=true
theorem d0L {α:Type}{l:List α}(h:l.length=2):∃ x y,l=[x,y]:=by
 cases l with
 | nil=>exact nomatch h| cons x l=>exact (List.length_eq_one_iff.mp (Nat.succ.inj h)).elim λ y e=>⟨x,y,e▸rfl⟩
theorem a6A:a0e a0B=true:=by decide +kernel
theorem a9m:a0e a0U=true:=by decide +kernel
section
variable {B:Base}{d:Rd}{b:Nat}
theorem c5L (r:RdOK d):OblE B (spN d b):=by
 unfold spN;split
 · exact a0m
 · exact a0H r.O a0m
theorem d2n (r:RdOK d):OblE B (exN d b):=by
 unfold exN;split
 · exact a0m
 · exact a0H a6A (a0H a9m (a0H r.X a0m))
theorem b9W (r:RdOK d)(hf:OblE B fr)(hx:a0e (.lst Hx)=true)(ht:a0e (.lst Td)=true):OblE B (nlS d b fr Hx Td):=
 a1O (a0H r.L (a0H a6A (a0H r.Ps (a0H r.T (a0H r.O (a0H r.F a0m)))))) (a1O (c5L r) (a1O hf (a1O (a0H r.A (a0H r.C (a0H r.R a0m))) (a1O (d2n r) (a0H a6A (a0H a9m (a0H hx (a0H ht a0m))))))))
theorem nlI (l):a0e (.lst (I l))=true:=a0O l
structure StrmOK (B:Base):Prop where
 t3:TabOK B 101 T3a
 t4:TabOK B 101 T4
theorem b0q (Z:StrmOK B)(hc:c∈a0J):FnOK B 101 43 [i c,a0B,.str "nfc",a0U] (.bool (a5Y c==0)):=Z.t4 _ (e0X ..) ([i c,a0B,.str "nfc",a0U],.bool (a5Y c==0)) (e0e.mpr ⟨c,hc,rfl⟩)
theorem c5m (Z:StrmOK B)(hp:p∈a4n):FnOK B 101 37 [a0P p,a0B,.str "nfc",a0U] (a0P (a0l p)):=Z.t3 _ (e0X ..) ([a0P p,a0B,.str "nfc",a0U],a0P (a0l p)) (e0e.mpr ⟨p,hp,rfl⟩)
theorem b6A (Z:StrmOK B):FnOK B 101 42 [a0B,.str "nfc",.none] a0U:=Z.t4 _ (e0Z _ (e0X ..)) ([a0B,.str "nfc",.none],a0U) (e0X ..)
theorem b1k:∀ c∈a0J,(a5Y c==0)=!b7F c:=by decide
theorem c0P (h:c∈a0J) (H):a3U H .In (i c) a4U=some (b7F c):=by unfold a0J at h;simp only [e0d,e0b,or_false] at h;rcases h with rfl | rfl | rfl | rfl | rfl | rfl | rfl | rfl | rfl | rfl | rfl <;> rfl
theorem szI {l:List Int}(h:l.length<=1000):(I l).length<=sizeLine:=by have:=a2Y;unfold I;rw [e0c];lia
theorem a7t (a c):I (a++c)=I a++I c:=e0o
theorem b9d (Z:StrmOK B)(r:RdOK d)(hb:b∈a1G){s:SS}(hs:s.ok)(h2:s.held.length <= 2)(ht:s.told.length <= 100)(hc:c∈a0J)(hm:b7F c=true) (tl) :
 Run B (Bin b (i c)) ⟨s.heap d b,hnM b (s.n b)++tl⟩ (λ f st=>f=.next/\st=⟨(s.mark c).heap d b,tl⟩):=by
 have o1:∀ {Hx Td:List PV},a0e (.lst Hx)=true->a0e (.lst (Td++[]))=true->(Td++[]).length <= sizeLine->OblE B (obM d b c Hx Td):=λ hx ht hz=>
  a1O (a0H (by have:=b0q Z hc;rw [b1k c hc,hm] at this;exact this.le (by decide)) (a0H (λ H=>by rw [c0P hc,hm]) (a0H hz (a0H (λ H=>by rw [b9a hc,hm]; rfl) a0m)))) (b9W r a0m hx ht)
 cases s with
 | one c' Hd=>
   obtain ⟨h,hh⟩:=a0u Hd;have h2:Hd.length<=2:=h2;have hn:Hd.length∈[1,2]:=by have hs:Hd.length∈[1,2,3]:=hs;simp only [e0d,e0b,or_false] at hs ⊢;lia
   have e:=a0I (tM1 d c c' h tl) (x:=(b,Hd.length)) (e0j.mpr ⟨_,hb,e0e.mpr ⟨_,hn,rfl⟩⟩);dsimp only at e;rw [<- hh] at e;refine Run.ofD ((a3B b c _ _).trans e) (o1 ?_ rfl (e0q _)) ⟨rfl,?_⟩
   · exact nlI (Hd++[c])▸(by rw [a7t]; rfl)
   · show _=(⟨hI1 d b c (I (Hd++[c])),tl⟩:St)
     rw [a7t];rfl
 | two j c0 H0 Td Fm=>
   have e:=a0I (tM2 d j c c0 (I H0) (I Td) (I Fm) tl) hb;refine Run.ofD ((a3B b c _ _).trans e) (o1 (nlI H0) (by rw [e0k]; exact nlI Td) (by rw [e0k]; exact szI (e0l ht (by decide)))) ⟨rfl,?_⟩;show _=(⟨c6K d b j c (I H0) (I (Td++[])) (I [c0,c]),tl⟩:St)
   rw [a7t];rfl
 | more j c0 H0 Td Hd=>
   have h2:Hd.length<=2:=h2;have hn:Hd.length=2:=by exact a9o (show Hd.length∈[2,3] from hs) id λ h=>a9o h (λ h=>absurd (h▸h2) (by decide)) d1g
   · obtain ⟨x,y,rfl⟩:=d0L hn;have e:=a0I (tM3 d j c c0 x y (I H0) (I Td) tl) hb;refine Run.ofD ((a3B b c _ _).trans e) (o1 (nlI H0) (by rw [e0k]; exact nlI Td) (by rw [e0k]; exact szI (e0l ht (by decide)))) ⟨rfl,?_⟩;show _=(⟨c6K d b j c (I H0) (I (Td++[])) (I ([x,y]++[c])),tl⟩:St)
     rw [a7t];rfl
end
def pG (gs:List Grp)(j:Nat):List PV:=a2a (gs.getD j (0,[]))
theorem a8g {α:Type}{f g:Nat->α}:∀ {n:Nat},(∀ k,k < n->f k=g k)->a1h f n=a1h g n
 | 0,_=>rfl| n+1,h=>by show f 0::a1h (λ k=>f (k+1)) n=g 0::a1h (λ k=>g (k+1)) n;rw [h 0 (e1P _),a8g λ k l=>h (k+1) (e1Z l)]
theorem c7i (gs:List Grp):gs.map pcT=a1h (λ j=>.lst (pG gs j)) gs.length:=a1g pcT (0,[]) gs
theorem c2u {gs:List Grp}(h:j<=gs.length):pfx (pG gs) j=(gs.take j).map pcT:=by have e:=a1g pcT (0,[]) (gs.take j);rw [e1b,e1z h] at e;rw [e];refine a8g λ k l=>?_;show pcT (gs.getD k (0,[]))=_;rw [List.getD_eq_getElem?_getD,List.getD_eq_getElem?_getD,List.getElem?_take,if_pos l]
theorem b4V {d:Rd}{gs:List Grp}(h:d.Ps=gs.map pcT):a4l d (pG gs) gs.length=d:=by cases d;unfold a4l;rw [<- c7i];exact congrArg (λ P=>Rd.mk _ _ P _ _ _ _ _ _ _ _ _ _ _) h.symm
section
variable {B:Base}{d:Rd}{b:Nat}
theorem d6d (l):OblE B [.nl (.lst (I l))]:=a0H (nlI l) a0m
theorem b8B (h:OkL gs) (j):OkL (gs.take j):=⟨λ g m=>h.1 g (e2X m),by rw [e1b]; have:=h.2; lia⟩
theorem b6a (BO:BaseOK2 B)(KP':KOK B KP)(Z:StrmOK B)(r:RdOK d)(hb:b∈a1G)(hg:OkL gs)(hP:d.Ps=gs.map pcT){s:SS}(hs:s.ok)(hm1:(∃ c Hd,s=.one c Hd) \/ s.many=2)(hk:s.many < gs.length)(ht:(s.told++a0l s.held).length <= 100)(hh:s.held∈a4n)
 (hG:a0K (gs.take s.many)=s.told++a0l s.held) (hc:c∈a0J) (hm:b7F c=false) (tl) :
 Run B (Bin b (i c)) ⟨s.heap d b,hnS b (s.n b) (I (a0l s.held)) (I (s.told++a0l s.held))++tl⟩ (λ f st=>f=.next/\st=⟨(s.start c (a0l s.held)).heap d b,tl⟩):=by
 have h3:=hg.2;have e0:=b4V hP;have law:FnOK B 103 139 [.lst (pfx (pG gs) s.many)] (a0P (s.told++a0l s.held)):=by rw [c2u (e1d hk),<- hG];exact a7X BO KP' (b8B hg _)
 have o1:∀ {Hx:List PV},a0e (.lst Hx)=true->OblE B (obS d b c (I s.held) Hx (I s.told) (I (a0l s.held)) (pfx (pG gs) s.many) (I (s.told++a0l s.held))):=fun {Hx} hx=>by
  have nl2:a0e (.lst (I s.told++I (a0l s.held)))=true:=by rw [<- a7t]; exact nlI _
  refine a1O (a0H ?_ (a0H ((c5m Z hh).le (by decide)) (a0H (λ H=>by rw [c0P hc,hm]) (a0H ?_ (a0H (λ H=>by rw [b9a hc,hm]; rfl) (a0H (law.le (by decide)) (a0H (λ H=>?_) a0m))))))) (b9W r (d6d _) hx nl2)
  · have:=b0q Z hc;rw [b1k c hc,hm] at this;exact this.le (by decide)
  · show (I s.told++I (a0l s.held)).length<=sizeLine;rw [<- a7t];exact szI (e0l ht (by decide))
  · rw [<- a7t];have:=a7h H (s.told++a0l s.held) (s.told++a0l s.held);rw [decide_eq_true rfl] at this;exact this
 cases s with
 | one c' Hd=>
   obtain ⟨h,hh'⟩:=a0u Hd;have hk:1<gs.length:=hk;have hn:gs.length∈[2,3]:=by simp only [e0d,e0b,or_false];lia
   have hs:Hd.length∈[1,2,3]:=hs;have e:=a0I (tS1 d (pG gs) c c' h (I (a0l Hd)) (I ([]++a0l Hd)) tl) (x:=(b,gs.length,Hd.length)) (e0j.mpr ⟨_,hb,e0j.mpr ⟨_,hn,e0e.mpr ⟨_,hs,rfl⟩⟩⟩);dsimp only at e;rw [e0,<- hh'] at e;exact Run.ofD ((a3B b c _ _).trans e) (o1 (nlI Hd)) ⟨rfl,rfl⟩
 | two j c' H0 Td F'=>
   have hj:j=2:=by
    rcases hm1 with ⟨_,_,e⟩ | e
    · cases e
    · exact e
   subst hj;have hk:2<gs.length:=hk;have h33:gs.length=3:=by lia
   have e:=a0I (tS2 d (pG gs) c c' (I H0) (I Td) (I F') (I (a0l [c'])) (I (Td++a0l [c'])) tl) hb;rw [h33] at e0;rw [e0] at e;refine Run.ofD ((a3B b c _ _).trans e) (o1 (nlI H0)) ⟨rfl,?_⟩;show _=(⟨c3t d b 3 c (I H0) (I (Td++a0l [c'])) (I (a0l [c'])),tl⟩:St)
   rw [a7t]
 | more j c' H0 Td Hd=>
   have hj:j=2:=by
    rcases hm1 with ⟨_,_,e⟩ | e
    · cases e
    · exact e
   subst hj;obtain ⟨h,hh'⟩:=a0u Hd;have hk:2<gs.length:=hk;have h33:gs.length=3:=by lia
   have hs:Hd.length∈[2,3]:=hs;have e:=a0I (tS3 d (pG gs) c c' h (I H0) (I Td) (I (a0l Hd)) (I (Td++a0l Hd)) tl) (x:=(b,Hd.length)) (e0j.mpr ⟨_,hb,e0e.mpr ⟨_,hs,rfl⟩⟩);dsimp only at e;rw [h33] at e0;rw [e0,<- hh'] at e;refine Run.ofD ((a3B b c _ _).trans e) (o1 (nlI H0)) ⟨rfl,?_⟩;show _=(⟨c3t d b 3 c (I H0) (I (Td++a0l Hd)) (I (a0l Hd)),tl⟩:St)
   rw [a7t]
theorem b7J (BO:BaseOK2 B)(KP':KOK B KP)(r:RdOK d)(hb:b∈a1G)(hg:OkL gs)(hP:d.Ps=gs.map pcT)(h0:gs ≠ [])(hc:c∈a0J)(hm:b7F c=false) (tl) :
 Run B (Bin b (i c)) ⟨hI0 d b,hnF b []++tl⟩ (λ f st=>f=.next/\st=⟨(SS.one c [c]).heap d b,tl⟩):=by
 have h3:=hg.2;have hn:gs.length∈[1,2,3]:=by have:0<gs.length:=List.length_pos_iff.mpr h0;simp only [e0d,e0b,or_false];lia
 have e:=a0I (tF d (pG gs) c [] tl) (x:=(b,gs.length)) (e0j.mpr ⟨_,hb,e0e.mpr ⟨_,hn,rfl⟩⟩);dsimp only at e;rw [b4V hP] at e;have law:=a7X BO KP' (gs:=[]) ⟨λ g m=>absurd m e0b,e0q _⟩;refine Run.ofD ((a3B b c _ _).trans e) (a1O (a0H (λ H=>by rw [c0P hc,hm]) (a0H (e0q _) (a0H (λ H=>by rw [b9a hc,hm]; rfl) (a0H (law.le (by decide)) (a0H (λ H=>rfl) a0m))))) (b9W r a0m (nlI [c]) rfl)) ⟨rfl,rfl⟩
theorem d1Z (r:RdOK d)(hf:OblE B fr)(ht:a0e (.lst Td)=true):OblE B (nlE d b fr Td):=
 a1O (a0H r.L (a0H a6A (a0H r.Ps (a0H r.T (a0H r.O (a0H r.F a0m)))))) (a1O (c5L r) (a1O hf (a0H r.A (a0H r.C (a0H r.R (a0H a6A (a0H a9m (a0H ht a0m))))))))
def b7H (b:Nat)(Fm:List Int):List Hint:=[.inl,.val (.lst (I Fm)),.big,.ans false,.skp [1,7,9,10,oB b+5]]
theorem c4T (Z:StrmOK B)(r:RdOK d)(hb:b∈a1G){s:SS}(hs:s.ok)(hh:s.held∈a4n)(ht:(s.told++a0l s.held).length <= 100)(hF:d.F=I (s.told++a0l s.held)):∃ d' b' m,b'∈[1,2] /\ RdOK d' /\ (∃ X Y c,d'=b6z d X Y c) /\
 ∀ tl,Run B (Ev.bind ((rk KP 258).s d0j a1B) (λ f=>c6Q 11 f)) ⟨s.heap d b,b7H b (a0l s.held)++tl⟩ (λ f st=>f=.next/\st=⟨hE d' b' (spB d b) m,tl⟩):=by
 have ob:∀ {fr:List Ob},OblE B fr->OblE B (c3A d b (I s.held) (I s.told) (I (a0l s.held)) fr):=fun {fr} hf=>by
  refine a1O (a0H ((c5m Z hh).le (by decide)) (a0H ?_ (a0H (λ H=>?_) a0m))) (d1Z r hf (nlI _))
  · show (I s.told++I (a0l s.held)).length<=sizeLine;rw [<- a7t];exact szI (e0l ht (by decide))
  · rw [<- a7t,hF];have:=a7h H (s.told++a0l s.held) (s.told++a0l s.held);rw [decide_eq_true rfl] at this;exact this
 have lok:∀ {X Y:List PV} {c:Int},a0e (.lst X)=true->a0e (.lst Y)=true->RdOK (b6z d X Y c):=λ hx hy=>⟨r.L,r.Ps,r.T,r.O,r.A,r.C,r.R,r.F,hx,hy⟩
 cases s with
 | one c Hd=>obtain ⟨h,hh'⟩:=a0u Hd;have hs:Hd.length∈[1,2,3]:=hs;refine ⟨_,1,1,by decide,lok (X:=[]) (Y:=d.Y) (c:=c) rfl r.Y,⟨_,_,_,rfl⟩,λ tl=>?_⟩;have e:=a0I (tE1 d c h (I (a0l Hd)) tl) (x:=(b,Hd.length)) (e0j.mpr ⟨_,hb,e0e.mpr ⟨_,hs,rfl⟩⟩);dsimp only at e;rw [<- hh'] at e;exact Run.ofD ((b0R b _ _ _).trans e) (ob a0m) ⟨rfl,rfl⟩
 | two j c H0 Td F'=>refine ⟨_,2,j,by decide,lok (X:=I Td) (Y:=I F') (c:=c) (nlI _) (nlI _),⟨_,_,_,rfl⟩,λ tl=>?_⟩;have e:=a0I (tE2 d j c (I H0) (I Td) (I F') (I (a0l [c])) tl) hb;exact Run.ofD ((b0R b _ _ _).trans e) (ob (d6d F')) ⟨rfl,rfl⟩| more j c H0 Td Hd=>obtain ⟨h,hh'⟩:=a0u Hd;have hs:Hd.length∈[2,3]:=hs;refine ⟨_,1,j,by decide,lok (X:=I Td) (Y:=d.Y) (c:=c) (nlI _) r.Y,⟨_,_,_,rfl⟩,λ tl=>?_⟩;have e:=a0I (tE3 d j c h (I H0) (I Td) (I (a0l Hd)) tl) (x:=(b,Hd.length)) (e0j.mpr ⟨_,hb,e0e.mpr ⟨_,hs,rfl⟩⟩);dsimp only at e;rw [<- hh'] at e;exact Run.ofD ((b0R b _ _ _).trans e) (ob a0m) ⟨rfl,rfl⟩
end
theorem a5A:∀ k∈a0d,a0L k=(a0L k).headD 0::(a0L k).drop 1/\b7F ((a0L k).headD 0)=false/\(a0L k).headD 0∈a0J/\(∀ c∈(a0L k).drop 1,b7F c=true/\c∈a0J)/\((a0L k).drop 1).length<=2/\a0L k∈a4n/\(a0l (a0L k)).length<=3:=by decide +kernel
def d7C:List Int->List Int
 | l::m=>match a2V l m with
   | some (c,r)=>c::r| none=>l::m
 | []=>[]
theorem c0F:∀ k∈a0d,a0l (a0L k)=d7C (apK k):=by decide +kernel
section
variable {B:Base}{d:Rd}{b:Nat}{P:St->Prop}{Q:St->Prop}
noncomputable def a4Q (s:SS):List Int->SS
 | []=>s| c::l=>a4Q (s.mark c) l
noncomputable def a5F (b:Nat)(s:SS):List Int->List Hint
 | []=>[]
 | c::l=>hnM b (s.n b)++a5F b (s.mark c) l
theorem a4x (s:SS) (c):(s.mark c).held=s.held++[c]/\(s.mark c).told=s.told/\(s.mark c).many=s.many:=by
 cases s with
 | one c' Hd=>exact ⟨rfl,rfl,rfl⟩| two j c0 H0 Td Fm=>exact ⟨rfl,e0k _,rfl⟩| more j c0 H0 Td Hd=>exact ⟨rfl,e0k _,rfl⟩
theorem b9e {s:SS}(h:s.ok)(h2:s.held.length<=2) (c):(s.mark c).ok:=by
 cases s with
 | one c' Hd=>have h:Hd.length∈[1,2,3]:=h;have h2:Hd.length<=2:=h2;show (Hd++[c]).length∈[1,2,3];rw [e0a];simp only [e0d,e0b,or_false,e0n,e1K] at h ⊢;lia| two j c0 H0 Td Fm=>exact e0X ..| more j c0 H0 Td Hd=>have h:Hd.length∈[2,3]:=h;have h2:Hd.length<=2:=h2;show (Hd++[c]).length∈[2,3];rw [e0a];simp only [e0d,e0b,or_false,e0n,e1K] at h ⊢;lia
theorem a4Z:∀ (l:List Int)(s:SS),(a4Q s l).held=s.held++l /\ (a4Q s l).told=s.told /\ (a4Q s l).many=s.many
 | [],s=>⟨(e0k _).symm,rfl,rfl⟩
 | c::l,s=>by obtain ⟨a,b,e⟩:=a4Z l (s.mark c);obtain ⟨a',b',e'⟩:=a4x s c;refine ⟨?_,b.trans b',e.trans e'⟩;show (a4Q (s.mark c) l).held=_;rw [a,a',e0h];rfl
theorem a7F:∀ (l:List Int){s:SS},s.ok->s.held.length + l.length <= 3->(a4Q s l).ok
 | [],s,h,_=>h| c::l,s,h,hl=>by have hl:s.held.length+(l.length+1)<=3:=hl;refine a7F l (b9e h (by lia) c) ?_;rw [(a4x s c).1,e0a];show s.held.length+1+l.length<=3;lia
theorem a4Y (Z:StrmOK B)(r:RdOK d)(hb:b∈a1G)(hP:∀ (s:SS)(tl:List Hint),P ⟨s.heap d b,tl⟩):∀ (l:List Int){s:SS}{tl:List Hint},s.ok->s.held.length + l.length <= 3->s.told.length <= 100->(∀ c∈l,b7F c=true /\ c∈a0J)->Q ⟨(a4Q s l).heap d b,tl⟩->Steps B P (Bin b) Q (l.map .int) ⟨s.heap d b,a5F b s l++tl⟩
 | [],s,tl,_,_,_,_,q=>⟨hP s _,q⟩
 | c::l,s,tl,h,hl,ht,hc,q=>by
   have hl:s.held.length+(l.length+1)<=3:=hl;obtain ⟨c1,c2⟩:=hc c (e0X ..);refine ⟨hP s _,?_⟩;have:=b9d Z r hb h (by lia) ht c2 c1 (a5F b (s.mark c) l++tl);rw [show a5F b s (c::l)++tl=hnM b (s.n b)++(a5F b (s.mark c) l++tl) from e0h ..];refine this.mono ?_;rintro f st ⟨rfl,rfl⟩;refine ⟨rfl,a4Y Z r hb hP l (b9e h (by lia) c) ?_ ?_ (λ x m=>hc x (e0Z _ m)) q⟩
   · rw [(a4x s c).1,e0a];show s.held.length+1+l.length<=3;lia
   · rw [(a4x s c).2.1]; exact ht
theorem a8N (BO:BaseOK2 B)(KP':KOK B KP)(Z:StrmOK B)(r:RdOK d)(hb:b∈a1G)(hg:OkL gs)(hPs:d.Ps=gs.map pcT)(hP:∀ (s:SS)(tl:List Hint),P ⟨s.heap d b,tl⟩) :
 ∀ (g2:List Grp) (xs:List Kd) (gp:List Grp) (gl:Grp) (xl:Kd) (s:SS),gs=gp++gl::g2->Sp2 false g2 xs->xl∈a0d->apK xl=gl.1::a0Y gl.2->s.ok->s.held=a0L xl->s.told=a0K gp->s.many=gp.length + 1->((∃ c Hd,s=.one c Hd) \/ s.many ≠ 1) ->
   ∃ (hs:List Hint) (s':SS) (xl':Kd),(∀ (Q:St->Prop) (tl:List Hint),Q ⟨s'.heap d b,tl⟩->Steps B P (Bin b) Q ((a0M xs).map .int) ⟨s.heap d b,hs++tl⟩)/\s'.ok/\s'.held=a0L xl'/\xl'∈a0d/\s'.told++a0l s'.held=a0K gs
 | [],xs,gp,gl,xl,s,e1,h2,hx,ex,ok,hh,ht,hm,h1=>by
   cases xs with
   | cons=>exact absurd h2 id| nil=>refine ⟨[],s,xl,λ Q tl q=>⟨hP s _,q⟩,ok,hh,hx,?_⟩;rw [ht,hh,c0F xl hx,ex,e1];unfold a0K;rw [e1g,e1O,e2B,e0k];rfl
 | g::g2,xs,gp,gl,xl,s,e1,h2,hx,ex,ok,hh,ht,hm,h1=>by
   cases xs with
   | nil=>exact absurd h2 id| cons x xs=>
     obtain ⟨⟨hx2,ex2⟩,h2⟩:=h2;obtain ⟨p1,p2,p3,p4,p5,p6,p7⟩:=a5A x hx2;have q7:=a5A xl hx;have l3:=hg.2;have ef:a0K (gp++[gl])=a0K gp++a0l (a0L xl):=by unfold a0K;rw [e1g,e1O,e2B,e0k,c0F xl hx,ex];rfl
     have lg:gs.length=gp.length+(g2.length+2):=by rw [e1]; simp only [e0a,e0n]
     have tk:gs.take s.many=gp++[gl]:=by rw [hm,e1,show gp++gl::g::g2=(gp++[gl])++g::g2 by rw [e0h]; rfl];exact List.take_left' (by rw [e0a]; rfl)
     have hG:a0K (gs.take s.many)=s.told++a0l s.held:=by rw [tk,ef,ht,hh]
     have lsm:(s.told++a0l s.held).length<=9:=by rw [<- hG];exact a5p (b8B hg _)
     let s1:=s.start ((a0L x).headD 0) (a0l s.held)
     have s1h:s1.held=[(a0L x).headD 0]:=rfl;have s1t:s1.told=a0K (gp++[gl]):=by rw [ef,<- hh,<- ht]; rfl
     have s1m:s1.many=(gp++[gl]).length+1:=by show s.many+1=_;rw [hm,e0a];rfl
     obtain ⟨ma,mb,mc⟩:=a4Z ((a0L x).drop 1) s1;obtain ⟨hs,s',xl',k1,k2,k3,k4,k5⟩:=a8N BO KP' Z r hb hg hPs hP g2 xs (gp++[gl]) g x (a4Q s1 ((a0L x).drop 1)) (by rw [e1,e0h]; rfl) h2 hx2 ex2 (a7F _ (show s1.ok from trivial) (by rw [s1h]; show 1 + _ <= 3; lia)) (by rw [ma,s1h]; exact p1.symm) (by rw [mb,s1t]) (by rw [mc,s1m]) (.inr (by rw [mc,s1m,e0a]; show gp.length + 1 + 1 ≠ 1; lia));refine ⟨hnS b (s.n b) (I (a0l s.held)) (I (s.told++a0l s.held))++(a5F b s1 ((a0L x).drop 1)++hs),s',xl',λ Q tl q=>?_,k2,k3,k4,k5⟩;have et:(a0M (x::xs)).map PV.int=i ((a0L x).headD 0)::(((a0L x).drop 1).map .int++(a0M xs).map .int):=by
      show (a0L x++a0M xs).map PV.int=_;rw [e0o];conv=>lhs; rw [p1]
      rfl
     rw [et];refine ⟨hP s _,?_⟩;have st:=b6a BO KP' Z r hb hg hPs ok (h1.elim .inl λ h=>.inr (by lia)) (by lia) (by lia) (by rw [hh]; exact q7.2.2.2.2.2.1) hG p3 p2 ((a5F b s1 ((a0L x).drop 1)++hs)++tl);rw [e0h];refine st.mono ?_;rintro f st ⟨rfl,rfl⟩;refine ⟨rfl,Steps.app ?_⟩;show Steps B P (Bin b) _ _ ⟨s1.heap d b,_⟩;rw [e0h];exact a4Y Z r hb hP _ (show s1.ok from trivial) (by rw [s1h]; show 1+_<=3; lia) (by rw [s1t,ef,<- hh,<- ht]; lia) p4 (k1 Q tl q)
theorem b2s (BO:BaseOK2 B)(KP':KOK B KP)(Z:StrmOK B)(r:RdOK d)(hb:b∈a1G)(hg:OkL gs)(hPs:d.Ps=gs.map pcT)(hP:∀ (s:SS)(tl:List Hint),P ⟨s.heap d b,tl⟩)(hP0:∀ tl,P ⟨hI0 d b,tl⟩)(h0:gs ≠ [])(h2:Sp2 false gs xs) :
 ∃ (hs:List Hint) (s':SS) (xl':Kd),(∀ (Q:St->Prop) (tl:List Hint),Q ⟨s'.heap d b,tl⟩->Steps B P (Bin b) Q ((a0M xs).map .int) ⟨hI0 d b,hs++tl⟩)/\s'.ok/\s'.held=a0L xl'/\xl'∈a0d/\s'.told++a0l s'.held=a0K gs:=by
 cases hgs:gs with
 | nil=>exact absurd hgs h0| cons g g2=>
   rw [hgs] at h2;cases xs with
   | nil=>exact absurd h2 id| cons x xs=>
     obtain ⟨⟨hx2,ex2⟩,h2⟩:=h2;obtain ⟨p1,p2,p3,p4,p5,p6,p7⟩:=a5A x hx2;have s1ok:(SS.one ((a0L x).headD 0) [(a0L x).headD 0]).ok:=e0X ..;obtain ⟨ma,mb,mc⟩:=a4Z ((a0L x).drop 1) (SS.one ((a0L x).headD 0) [(a0L x).headD 0]);have one:∀ (l:List Int) (c:Int) (Hd:List Int),∃ c' Hd',a4Q (.one c Hd) l=.one c' Hd':=by
      intro l;induction l with
      | nil=>exact λ c Hd=>⟨c,Hd,rfl⟩
      | cons y l ih=>exact λ c Hd=>ih y (Hd++[y])
     obtain ⟨hs,s',xl',k1,k2,k3,k4,k5⟩:=a8N BO KP' Z r hb hg hPs hP g2 xs [] g x (a4Q (SS.one ((a0L x).headD 0) [(a0L x).headD 0]) ((a0L x).drop 1)) hgs h2 hx2 ex2 (a7F _ s1ok (by show 1 + _ <= 3; lia)) (by rw [ma]; exact p1.symm) (by rw [mb]; rfl) (by rw [mc]; rfl) (.inl (one _ _ _));rw [hgs] at k5;refine ⟨hnF b []++(a5F b (SS.one ((a0L x).headD 0) [(a0L x).headD 0]) ((a0L x).drop 1)++hs),s',xl',λ Q tl q=>?_,k2,k3,k4,k5⟩;have et:(a0M (x::xs)).map PV.int=i ((a0L x).headD 0)::(((a0L x).drop 1).map .int++(a0M xs).map .int):=by
      show (a0L x++a0M xs).map PV.int=_;rw [e0o];conv=>lhs; rw [p1]
      rfl
     rw [et];refine ⟨hP0 _,?_⟩;have st:=b7J BO KP' r hb hg hPs h0 p3 p2 ((a5F b (SS.one ((a0L x).headD 0) [(a0L x).headD 0]) ((a0L x).drop 1)++hs)++tl);rw [e0h];refine st.mono ?_;rintro f st ⟨rfl,rfl⟩;refine ⟨rfl,Steps.app ?_⟩;rw [e0h];exact a4Y Z r hb hP _ s1ok (by show 1+_<=3; lia) (e0q _) p4 (k1 Q tl q)
end
theorem Obs.add_assoc (a b c:Obs):(a.add b).add c=a.add (b.add c):=by unfold Obs.add;simp only [a6L,e0h,b9Z,Nat.max_assoc]
theorem a2s {α β γ:Type}(m:Ev α)(f:α->Ev β)(g:β->Ev γ):Ev.bind (Ev.bind m f) g=Ev.bind m λ a=>Ev.bind (f a) g:=by
 funext st;rw [a2b,a2b,a2b];cases m st with
 | none=>rfl| some y=>
   show ob (ob (f y.1 y.2.1) _) _=ob (Ev.bind (f y.1) g y.2.1) _;rw [a2b];cases f y.1 y.2.1 with
   | none=>rfl| some z=>
     show ob (g z.1 z.2.1) _=ob (ob (g z.1 z.2.1) _) _;cases g z.1 z.2.1 with
     | none=>rfl| some u=>exact congrArg (λ o=>some (u.1,u.2.1,o)) (Obs.add_assoc _ _ _)
theorem a9c {α β:Type}(a:α)(f:α->Ev β):Ev.bind (Ev.ret a) f=f a:=by
 funext st;rw [a2b];show ob (f a st) _=f a st;cases f a st with
 | none=>rfl| some z=>exact congrArg (λ o=>some (z.1,z.2.1,o)) (show Obs.mk ([]++z.2.2.ps) (mxN 0 z.2.2.sz)=z.2.2 by rw [e1V,show mxN 0 z.2.2.sz=z.2.2.sz from e1S _])
section
variable {B:Base}{r:Rc}{ae:AEnv}
theorem Run.pre {st:St}(h:Run B (r.s a ae) st (λ f s=>f=.next/\Run B (Ev.bind (a0a r ae l) G) s Q)):Run B (Ev.bind (a0a r ae (a::l)) G) st Q:=by unfold a0a;rw [a2s];refine Run.bind h ?_;rintro f s ⟨rfl,h⟩;exact h
theorem Run.lastS {st:St}(h:Run B (Ev.bind (r.s a ae) G) st Q):Run B (Ev.bind (a0a r ae [a]) G) st Q:=by
 have e:Ev.bind (a0a r ae [a]) G=Ev.bind (r.s a ae) G:=by
  unfold a0a;rw [a2s];congr 1;funext f;cases f with
  | next=>exact a9c _ _
  | _=>exact a9c _ _
 rw [e];exact h
end
theorem d4M (d) (hs):a1G.map (λ b=>(a1w (rk KP 257) a1B (a7Y b2C) (b0M b2C) ⟨hI0 d b,hs⟩).map a0S)=[some (.dyn 10 d.R.length,⟨hI0 d 0,hs⟩,[],true),some (.stat d.O,⟨hI0 d 1,hs⟩,[],true),some (.stat d.O,⟨hI0 d 2,hs⟩,[],true)]:=by kernel_rfl
theorem tIn:c0J b2C=true/\c0J b2r=true:=⟨by kernel_rfl,by kernel_rfl⟩
theorem d8Y (d:Rd) (hs):(a1w (rk KP 259) a1B (a7Y b2r) (b0M b2r) ⟨a6P d.L d.M d.Ps d.T d.O d.w d.cut d.A d.C d.R d.F,hs⟩).map a0S=some (.stat [.loc 10,.lst d.O],⟨a6P d.L d.M d.Ps d.T d.O d.w d.cut d.A d.C d.R d.F,hs⟩,[],true):=by kernel_rfl
section
variable {B:Base}{d:Rd}{b:Nat}
theorem c0Y (s:SS):a7J (s.heap d b) 10=some d.R:=by cases s <;> kernel_rfl
theorem c8h:a7J (hI0 d b) 10=some d.R:=by kernel_rfl
theorem d2S (hb:b∈a1G):(hI0 d b).length=oB b+5:=by unfold a1G at hb;simp only [e0d,e0b,or_false] at hb;rcases hb with rfl | rfl | rfl <;> kernel_rfl
theorem a9Q {α:Type}{F:Nat->α}{a0 a1 a2:α}(h:a1G.map F=[a0,a1,a2]):F 0=a0/\F 1=a1/\F 2=a2:=by unfold a1G at h;simp only [e0v,e2C,List.cons.injEq,and_true] at h;exact h
theorem b4w (BO:BaseOK2 B)(KP':KOK B KP)(Z:StrmOK B)(r:RdOK d)(hb:b∈a1G) (m)(hg:OkL gs)(h0:gs ≠ [])(hPs:d.Ps=gs.map pcT)(hF:d.F=I (a0K gs))(h2:Sp2 false gs xs)
 (hR:b=0->d.R=(a0M xs).map .int) (hO:b≠0->d.O=(a0M xs).map .int) :
 ∃ (hs:List Hint) (d':Rd) (b' m':Nat),b'∈[1,2]/\RdOK d'/\(∃ X Y c,d'=b6z d X Y c) /\ ∀ tl,Run B (a4j (rk KP 259) a1B b2r 11 (spB d b)) ⟨b0I d b m,hs++tl⟩ (λ f s=>f=.next/\s=⟨hE d' b' (spB d b) m',tl⟩):=by
 have run:∀ {P:St->Prop} (hP:∀ (s:SS) (tl:List Hint),P ⟨s.heap d b,tl⟩) (hP0:∀ tl,P ⟨hI0 d b,tl⟩) (src:Src),(∀ hs,(a1w (rk KP 257) a1B (a7Y b2C) (b0M b2C) ⟨hI0 d b,hs⟩).map a0S=some (src,⟨hI0 d b,hs⟩,[],true)) ->
  (∀ {Q:St->Prop} {st:St},Steps B P (Bin b) Q ((a0M xs).map .int) st->Run B (a3o (Bin b) src) st (λ f s=>f=.next/\Q s)) ->
  ∃ (hs:List Hint) (d':Rd) (b' m':Nat),b'∈[1,2]/\RdOK d'/\(∃ X Y c,d'=b6z d X Y c) /\ ∀ tl,Run B (a4j (rk KP 259) a1B b2r 11 (spB d b)) ⟨b0I d b m,hs++tl⟩ (λ f s=>f=.next/\s=⟨hE d' b' (spB d b) m',tl⟩):=by
  intro P hP hP0 src hsrc conv
  obtain ⟨hs,s',xl',k1,k2,k3,k4,k5⟩:=b2s (d:=d) (b:=b) BO KP' Z r hb hg hPs hP hP0 h0 h2;have q7:=a5A xl' k4;have l9:(s'.told++a0l s'.held).length<=100:=by rw [k5];exact e0l (a5p hg) (by decide)
  obtain ⟨d',b',m',e1,e2,e3,e4⟩:=c4T Z r hb k2 (by rw [k3]; exact q7.2.2.2.2.2.1) l9 (by rw [k5]; exact hF);refine ⟨.inl::.val a0U::(hs++b7H b (a0l s'.held)),d',b',m',e1,e2,e3,λ tl=>?_⟩;show Run B (Ev.bind (Ev.bind (asg (rk KP 259) a1B (a7Y b2r) (spB d b)) λ _=>(rk KP 259).ss (c6S b2r) a1B) λ f=>c6Q 11 f) _ _;rw [a2s];refine Run.bind (Q:=λ _ s=>s=⟨hSp d b m,(.inl::.val a0U::(hs++b7H b (a0l s'.held)))++tl⟩) (Run.of (a0I (d8a d m _) hb) a0V rfl) ?_;rintro _ s rfl;rw [show (rk KP 259).ss (c6S b2r) a1B=a0a (rk KP 258) a1B [d5y,b2C,d0j] by rw [d4N]; rfl];refine Run.pre (Run.ofD (a0I (d8X d m ((hs++b7H b (a0l s'.held))++tl)) hb) (a0H ((b6A Z).le (by decide)) a0m) ⟨rfl,?_⟩);refine Run.pre (Run.forG tIn.1 (hsrc _) a0V ?_);rw [d2S hb,e0h];refine (conv (k1 (λ st=>st=⟨s'.heap d b,b7H b (a0l s'.held)++tl⟩) (b7H b (a0l s'.held)++tl) rfl)).mono ?_;rintro f s ⟨rfl,rfl⟩;exact ⟨rfl,Run.lastS (e4 tl)⟩
 by_cases hb0:b=0
 · subst hb0;refine run (P:=λ st=>a7J st.H 10=some d.R) (λ s tl=>c0Y s) (λ tl=>c8h) (.dyn 10 d.R.length) (λ hs=>(a9Q (d4M d hs)).1) fun {Q st} h=>?_;rw [<- hR rfl] at h;exact Steps.dyn (λ st h=>h) (e2I) h
 · refine run (P:=λ st=>True) (λ s tl=>trivial) (λ tl=>trivial) (.stat d.O) (λ hs=>?_) fun {Q st} h=>?_
   · unfold a1G at hb;simp only [e0d,e0b,or_false] at hb;rcases hb with rfl | rfl | rfl
     · exact absurd rfl hb0
     · exact (a9Q (d4M d hs)).2.1
     · exact (a9Q (d4M d hs)).2.2
   · rw [<- hO hb0] at h;exact Steps.stat h
end
theorem d0T (d) (Ps T O) (hs):(enter true (scK 143) [] [("deck",.loc 0),("data",a0B),("pieces",.lst Ps),("text",.lst T),("other",.lst O)] ⟨a8J d,hs⟩).map a0S=some (a1B,⟨dk2 (d.1.map .int) d.2++[.fr c3I (c2G Ps T O)],hs⟩,[],true):=by kernel_rfl
theorem d4b:fnB 143=[stm 143 0,stm 143 1]++([stm 143 2]++([stm 143 3,stm 143 4]++([stm 143 5]++[stm 143 6,stm 143 7]))):=by kernel_rfl
theorem d4c (p q r s):a2N (pmK 143) (dfK 143) [.loc 0,p,q,r,s]=(some [("deck",.loc 0),("data",p),("pieces",q),("text",r),("other",s)]:Option (List (Str×PV))):=by kernel_rfl
def d7s:List Hint:=emp++(emp++[.val (.lst []),.val (.lst []),.val (.lst []),.val (.lst []),.inl,.val (.bytes []),.inl])
def c8A (L:List PV)(sp:List Ob):List Ob:=[.nl (.lst L),.nl a0B,.nl (.lst []),.nl (.lst []),.nl (.lst []),.nl (.lst [])]++(sp++[.nl a0B,.nl a0U])
theorem d8Z (L) (M):(a0a (rk KP 260) a1B [stm 143 5,stm 143 6,stm 143 7] ⟨a6P L M [] [] [] [] 0 [] [] [] [],d7s⟩).map c3R=some (.ret (.bool true),dk2 L M,d6b++(c8A L []++(d6b++(c8A L [.nl (.lst [])]++[.fn 255 38 [.lst [],a0B] (.lst []),.fn 255 138 [.lst []] (.lst []),.fn 255 126 [.lst [],a0B] (.lst []),.fn 255 141 [.lst []] (.lst []),.fn 255 110 [.lst []] (.bytes [])]))),true):=by kernel_rfl
section
variable {B:Base}
theorem Run.addS {st:St}(h:m=Ev.bind (Ev.bind ml λ a=>Ev.bind mx λ b=>b7R .Add a b) k)
 (r:Run B (Ev.bind ml λ a=>Ev.bind mx λ b=>Ev.bind (b7R .Add a b) k) st Q):Run B m st Q:=by
 rw [h,a2s];simp only [a2s];exact r
structure HalfOK (B:Base):Prop where
 bo:BaseOK2 B
 kp:KOK B KP
 k2:KOK B K2
 t1:TabOK B 37 T1
 t8:TabOK B 101 T8
 t10:TabOK B 61 T10
 t11:TabOK B 101 T11
 st:StrmOK B
theorem b0n (h:∀ x∈xs,x∈a0d):∀ c∈a0M xs,c∈a0J:=λ c m=>by
 obtain ⟨x,hx,hc⟩:=e0j.mp m;obtain ⟨p1,_,p3,p4,_⟩:=a5A x (h x hx);rw [p1] at hc;rcases e0d.mp hc with rfl | hc
 · exact p3
 · exact (p4 c hc).2
theorem d2E:∀ k∈a0d,((a0L k).flatMap a3S).length<=5/\(a0L k).length<=3:=by decide
theorem b0m:∀ {xs:List Kd},(∀ x∈xs,x∈a0d)->((a0M xs).flatMap a3S).length <= 5 * xs.length /\ (a0M xs).length <= 3 * xs.length
 | [],_=>⟨e0i _,e0i _⟩
 | x::xs,h=>by obtain ⟨a,b⟩:=b0m (xs:=xs) λ y m=>h y (e0Z _ m);obtain ⟨c,e⟩:=d2E x (h x (e0X ..));have et:a0M (x::xs)=a0L x++a0M xs:=rfl;rw [et,e1g,e0a,e0a,e0n];lia
theorem d2b:∀ g∈a2u,((a0k g).flatMap a3S).length<=5:=by decide +kernel
theorem a8y:∀ {gs:List Grp},(∀ g∈gs,g∈a2u)->((a0K gs).flatMap a3S).length <= 5 * gs.length
 | [],_=>e0i _| g::gs,h=>by have a:=a8y (gs:=gs) λ y m=>h y (e0Z _ m);have c:=d2b g (h g (e0X ..));have et:a0K (g::gs)=a0k g++a0K gs:=rfl;rw [et,e1g,e0a,e0n];lia
theorem c4A:∀ g∈a2u,(a0k g).flatMap a4e=g.1::a0Y g.2/\a0Y (a0Y g.2)=a0Y g.2/\a0Y g.2∈a3A/\g.1∈a3Z:=by decide +kernel
theorem a6I (h:OkL gs):Apart (a0K gs) (gs.map λ g=>(g.1,a0Y g.2))/\a0F (gs.map λ g=>(g.1,a0Y g.2))=a0F gs:=by
 have:∀ {gs:List Grp},(∀ g∈gs,g∈a2u)->(a0K gs).flatMap a4e=a1E (gs.map λ g=>(g.1,a0Y g.2)) /\ (∀ g∈gs.map λ g=>(g.1,a0Y g.2),a8G g) /\ a0F (gs.map λ g=>(g.1,a0Y g.2))=a0F gs:=by
  intro gs;induction gs with
  | nil=>intro _; exact ⟨rfl,λ g m=>absurd m e0b,rfl⟩| cons g gs ih=>
    intro h;obtain ⟨a,b,c⟩:=ih λ y m=>h y (e0Z _ m);obtain ⟨e1,e2,e3,e4⟩:=c4A g (h g (e0X ..));refine ⟨?_,λ x m=>?_,?_⟩
    · show (a0k g++a0K gs).flatMap a4e=(g.1::a0Y g.2)++a1E (gs.map λ g=>(g.1,a0Y g.2));rw [e1g,e1,a]
    · rcases e0d.mp m with rfl | m
      · exact ⟨e4,e3⟩
      · exact b x m
    · show (g.1::a0Y (a0Y g.2))++a0F (gs.map λ g=>(g.1,a0Y g.2))=(g.1::a0Y g.2)++a0F gs;rw [e2,c]
 obtain ⟨a,b,c⟩:=this h.1;exact ⟨⟨a5o h.1,a,b,by rw [e0c]; exact h.2⟩,c⟩
theorem a9E {st:St}(h:(m st).map c3R=some (.ret (.bool true),a8J d',p,true))(O:OblE B p):Run B m st (d0C d' (.bool true)):=by obtain ⟨⟨f,s,ob⟩,e,hh⟩:=e1C.mp h;unfold c3R at hh;simp only [Prod.mk.injEq] at hh;obtain ⟨rfl,h2,rfl,h3⟩:=hh;refine ⟨_,s,ob.ps,⟨ob.sz,e,e0t h3⟩,O.ofD,_,s.H.drop 2,rfl,?_,rfl⟩;rw [<- h2,e1Y]
end
section
variable {B:Base}
theorem c7e (Z:HalfOK B)(hc:∀ c∈cs,c∈a0J)(h9:cs.length <= 9)(hw:(a0y cs).length <= 1000)(hcut:cut <= (a0y cs).length) (L Ps T O) (M) :
 ∃ (hs:List Hint) (a b:List Int),a++b=cs /\ ∀ tl,Run B ((rk KP 260).s (stm 143 2) a1B) ⟨a6Q L M Ps T O (a0y cs) cut [] 0 [],hs++tl⟩ (λ f s=>f=.next/\s=⟨c3w L M Ps T O (a0y cs) cut (a.map .int) (b.map .int) (cs.map .int),tl⟩):=by
 obtain ⟨a,b,P,e1,e2,e3,e4⟩:=b2V cs cut hcut;have ha:∀ c∈a,c∈a0J:=λ c m=>hc c (by rw [e1]; exact e1R _ m);have hb:∀ c∈b,c∈a0J:=λ c m=>hc c (by rw [e1]; exact e1i _ m);have la:a.length<=9:=by rw [e1,e0a] at h9; lia
 have lb:b.length<=9:=by rw [e1,e0a] at h9; lia
 have hA:b7b (a0y cs) cut=a0y a++P:=by rw [c1I hcut,e2]
 have hV:c2O (b7b (a0y cs) cut) (b0d (mO a) a.length)=P:=by rw [hA,a8W a a.length (e0i _),e2d,c2N]
 have hB:P++c9S (a0y cs) cut=a0y b:=by rw [c9R hcut,e3]
 have szA:(b7b (a0y cs) cut).length<=sizeLine:=by rw [c1I hcut,e1b];have:=a2Y;lia
 have szB:(P++c9S (a0y cs) cut).length <= sizeLine:=by
  have:=a2Y;have e:a0y cs=a0y a++a0y b:=by rw [e1,b7j]
  have:(a0y cs).length=(a0y a).length+(a0y b).length:=by rw [e,e0a]
  rw [hB];lia
 have second:∀ (Pl:Int) (tl:List Hint),Run B ((rk KP 258).e (bX (stm 143 2)) a1B) ⟨a6Q L M Ps T O (a0y cs) cut P Pl [.opq,.list (a.map .int)],[.inl,.big]++(a5r (mO b) (cO b) b.length++(.ans false::(.big::tl)))⟩ (λ v s=>v=.loc 9/\s=⟨a6Q L M Ps T O (a0y cs) cut [] 0 [.opq,.list (a.map .int),.opq,.list (b.map .int)],.big::tl⟩):=λ Pl tl=>by have e:=a0I (d4h L Ps T O (a.map .int) M Pl (a0y cs) P cut (mO b) (cO b) tl) (a2X lb);unfold d7d at e;rw [spC] at e;refine Run.ofF e (a0H szB (a1O (b0Q Z.bo (by decide) hb (R:=[]) (by rw [hB,e0k])) (a0H (λ H=>?_) a0m))) ⟨rfl,rfl⟩;rw [hB,a8W b b.length (e0i _),e2d];exact a8h H (e0i _)
 have whole:∀ {q:List Hint} {Pl:Int},(∀ tl,Run B ((rk KP 258).e (bL (stm 143 2)) a1B) ⟨a6Q L M Ps T O (a0y cs) cut [] 0 [],[.inl,.big]++(a5r (mO a) (cO a) a.length++(q++(.inl::tl)))⟩ (λ v s=>v=.loc 7 /\ s=⟨a6Q L M Ps T O (a0y cs) cut P Pl [.opq,.list (a.map .int)],.inl::tl⟩)) ->
  ∃ (hs:List Hint) (a b:List Int),a++b=cs /\ ∀ tl,Run B ((rk KP 260).s (stm 143 2) a1B) ⟨a6Q L M Ps T O (a0y cs) cut [] 0 [],hs++tl⟩ (λ f s=>f=.next/\s=⟨c3w L M Ps T O (a0y cs) cut (a.map .int) (b.map .int) (cs.map .int),tl⟩):=by
  intro q Pl first
  refine ⟨[.inl,.big]++(a5r (mO a) (cO a) a.length++(q++([.inl,.big]++(a5r (mO b) (cO b) b.length++[.ans false,.big])))),a,b,e1.symm,λ tl=>?_⟩;have eh:([.inl,.big]++(a5r (mO a) (cO a) a.length++(q++([.inl,.big]++(a5r (mO b) (cO b) b.length++[.ans false,.big])))))++tl=[.inl,.big]++(a5r (mO a) (cO a) a.length++(q++(.inl::([.big]++(a5r (mO b) (cO b) b.length++(.ans false::(.big::tl))))))):=by simp only [e0h,e1t,e1V]
  rw [eh];refine Run.addS (d0S.trans ((a9c _ _).trans d0R)) (Run.bind (first _) ?_);rintro v s ⟨rfl,rfl⟩;refine Run.bind (second Pl tl) ?_;rintro v s ⟨rfl,rfl⟩;refine Run.ofF (d4g L Ps T O (a.map .int) (b.map .int) M (a0y cs) cut tl) (a0H ?_ a0m) ⟨rfl,?_⟩
  · have:=a2Y;show (a.map PV.int++b.map PV.int).length<=sizeLine;rw [e0a,e0c,e0c];lia
  · rw [e1,e0o]
 have fobl:=b0Q (W:=b7b (a0y cs) cut) Z.bo (N:=250) (by decide) ha (R:=P) hA;have loff:b0d (mO a) a.length=(a0y a).length:=by rw [a8W a a.length (e0i _),e2d]
 rcases e4 with e4 | ⟨c,b',q,eb,eP,q1,q2⟩
 · refine whole (q:=[.ans false]) (Pl:=.ofNat (0+b0d (mO a) a.length)) λ tl=>?_;have e:=a0I (d4j L Ps T O M (a0y cs) cut (mO a) (cO a) .none tl) (a2X la);unfold d3k d3l at e;rw [spC,hV] at e;refine Run.ofF e (a0H szA (a1O fobl (a0H (λ H=>?_) a0m))) ⟨rfl,rfl⟩;rw [loff,hA,e4,e0k];exact a8h H (e0i _)
 · refine whole (q:=[.ans true,.val (b1D q),.ans true]) (Pl:=.ofNat (0 + b0d (mO a) a.length)) λ tl=>?_;have hcc:c∈a0J:=hb c (by rw [eb]; exact e0X ..);have hq:(c,q)∈d0A:=c9Q c hcc q (a1b (by have:=(b1X c hcc).1;unfold a3S at this;rw [e0c] at this;simp only [e0d,e0b,or_false] at this;lia)) q1 q2;have lP:P.length=q:=by rw [eP,e1b]; lia
   have e:=a0I (d4i L Ps T O M (a0y cs) cut q (mO a) (cO a) .none tl) (a2X la);unfold d3k d3l at e;rw [spC,hV] at e;refine Run.ofF e (a0H szA (a1O fobl (a0H (λ H=>?_) (a0H ?_ (a0H (λ H=>by kernel_rfl) a0m))))) ⟨rfl,rfl⟩
   · rw [loff,hA,e0a,lP];exact b3d H (by lia)
   · rw [loff];refine (b3S (W:=b7b (a0y cs) cut) Z.bo hq (λ t y lt hy=>?_) (by rw [hA,e0a,lP])).le (by decide);rw [hA,List.getElem?_append_right (e1M _ _),e2o,eP,List.getElem?_take,if_pos lt];exact hy
theorem c3N (Z:HalfOK B)(hg:OkL gs)(h0:gs ≠ [])(hx:Sp2 false gs xs)(hy:Sp2 false gs ys)(r:RdOK d)(hPs:d.Ps=gs.map pcT)(hF:d.F=I (a0K gs))(hR:d.R=(a0M xs).map .int)(hO:d.O=(a0M ys).map .int) :
 ∃ (hs:List Hint) (d':Rd) (b m:Nat),b∈[1,2]/\(∃ X Y c,d'=b6z d X Y c) /\ ∀ tl,Run B ((rk KP 260).s b2r a1B) ⟨a6P d.L d.M d.Ps d.T d.O d.w d.cut d.A d.C d.R d.F,hs++tl⟩ (λ f s=>f=.next/\s=⟨hE d' b (.lst d.O) m,tl⟩):=by
 obtain ⟨hs1,d1,b1,m1,k1,r1,⟨X,Y,c,rfl⟩,f1⟩:=b4w (b:=0) Z.bo Z.kp Z.st r (by decide) 0 hg h0 hPs hF hx (λ _=>hR) (λ e=>absurd rfl e);have hb1:b1∈a1G:=by simp only [e0d,e0b,or_false] at k1;rcases k1 with rfl | rfl <;> decide
 have ne1:b1≠0:=λ e=>by rw [e] at k1; revert k1; decide
 obtain ⟨hs2,d2,b2,m2,k2,r2,⟨X2,Y2,c2,rfl⟩,f2⟩:=b4w (d:=b6z d X Y c) (b:=b1) Z.bo Z.kp Z.st r1 hb1 m1 hg h0 hPs hF hy (λ e=>absurd e ne1) (λ _=>hO);have hB1:b0I (b6z d X Y c) b1 m1=hE (b6z d X Y c) b1 (.loc 10) m1:=by simp only [e0d,e0b,or_false] at k1;rcases k1 with rfl | rfl <;> rfl
 have hsp:spB (b6z d X Y c) b1=.lst d.O:=by simp only [e0d,e0b,or_false] at k1;rcases k1 with rfl | rfl <;> rfl
 refine ⟨hs1++hs2,_,b2,m2,k2,⟨X2,Y2,c2,rfl⟩,λ tl=>?_⟩;refine Run.forG tIn.2 (d8Y d _) a0V ?_;rw [show (a6P d.L d.M d.Ps d.T d.O d.w d.cut d.A d.C d.R d.F).length=11 by unfold a6P; rfl];show Run B (Ev.bind (a4j (rk KP 259) a1B b2r 11 (.loc 10)) _) _ _;rw [e0h];refine Run.bind (f1 (hs2++tl)) ?_;rintro f s ⟨rfl,rfl⟩;show Run B (Ev.bind (a4j (rk KP 259) a1B b2r 11 (.lst d.O)) _) _ _;have f2:=f2 tl;rw [hsp,hB1] at f2;refine Run.bind f2 ?_;rintro f s ⟨rfl,rfl⟩;exact Run.ret ⟨rfl,rfl⟩
end
section
variable {B:Base}
theorem c7B (Z:HalfOK B)(hg:OkL gs){d:Rd}{d1:a6S}(hL:d.L=d1.1.map .int)(hM:d.M=d1.2)(hPs:d.Ps=gs.map pcT)(hF:d.F=I (a0K gs)):∃ hs:List Hint,∀ (b m:Nat)(sp:List PV),b∈[1,2]->Run B (a0a (rk KP 260) a1B [stm 143 6,stm 143 7]) ⟨hE d b (.lst sp) m,hs⟩ (d0C d1 (.bool true)):=by
 have n9:=a5p hg;have hm:=a5o hg.1;have o15:((a0K gs).flatMap a3S).length<=15:=by have:=a8y hg.1;have:=hg.2;lia
 have w9:(a0y (a0K gs)).length<=15:=by have:((a0K gs).flatMap a3S).map PV.int=(a0y (a0K gs)).map λ n=>.int (.ofNat n):=b0h _;have:=congrArg e1k this;rw [e0c,e0c] at this;lia
 obtain ⟨ap,es⟩:=a6I hg;refine ⟨.val (.lst (I (a0F gs)))::.val (.lst (I (a0F gs)))::.ans false::.val (.lst (I (b8q 0 (bnd (a3X gs)))))::.val (.lst (I (b8q 0 (bnd (a3X gs)))))::.ans false::(.inl::.val (.bytes (a0y (a0K gs)))::.inl::.big::(a5r (mO (a0K gs)) (cO (a0K gs)) (a0K gs).length++[.ans false,.ans true])),λ b m sp hb=>?_⟩;have e6:=a0I (d4e d sp m (I (a0F gs)) (I (b8q 0 (bnd (a3X gs)))) (.inl::.val (.bytes (a0y (a0K gs)))::.inl::.big::(a5r (mO (a0K gs)) (cO (a0K gs)) (a0K gs).length++[.ans false,.ans true]))) hb;have neI:∀ (l:List Int) (H:List PO),a3U H .NotEq (.lst (I l)) (.lst (I l))=some false:=λ l H=>by have:=a7h H l l;rw [decide_eq_true rfl] at this;exact this
 have nfd:FnOK B 161 38 [.lst d.F,a0B] (.lst (I (a0F gs))):=by rw [hF,<- es];exact b5N Z.bo Z.k2 ap
 have tak:FnOK B 103 138 [.lst d.Ps] (.lst (I (a0F gs))):=by rw [hPs];exact a5V Z.bo hg
 have wb:FnOK B 153 126 [.lst d.F,a0B] (.lst (I (b8q 0 (bnd (a3X gs))))):=by rw [hF];exact b0f Z.bo Z.t1 Z.t10 hg
 have lw:FnOK B 101 141 [.lst d.F] (.lst (I (b8q 0 (bnd (a3X gs))))):=by rw [hF];exact b1l Z.bo hg
 refine Run.cons (Run.ofD e6 (a0H (nfd.le (by decide)) (a0H (tak.le (by decide)) (a0H (neI _) (a0H (wb.le (by decide)) (a0H (lw.le (by decide)) (a0H (neI _) a0m)))))) ⟨rfl,?_⟩);have e7:=a0I (d4d d sp m (a0y (a0K gs)) (mO (a0K gs)) (cO (a0K gs))) (x:=(b,(a0K gs).length)) (e0j.mpr ⟨_,hb,e0e.mpr ⟨_,a2X n9,rfl⟩⟩);dsimp only at e7;rw [hL,hM,spC] at e7;have enc:FnOK B 133 110 [.lst d.F] (.bytes (a0y (a0K gs))):=by rw [hF];exact c0v Z.bo Z.t8 hm n9 o15
 have loff:b0d (mO (a0K gs)) (a0K gs).length=(a0y (a0K gs)).length:=by rw [a8W _ _ (e0i _),e2d]
 have last:=a9E (d':=d1) e7 (a0H (enc.le (by decide)) (a0H (by
  have:=a2Y;show (([]:List Nat)++a0y (a0K gs)).length <= sizeLine;rw [e1V];lia)                                        (a1O (b0Q Z.bo (by decide) hm (R:=[]) (e0k _).symm) (a1O (a0H (λ H=>by
   rw [loff];exact a8h H (e0i _))                                           a0m) (a0H (λ H=>by
   rw [hF];have:=b0V H (a0K gs) (a0K gs);rw [decide_eq_true rfl] at this;exact this) a0m)))))
 refine Run.consR (last.mono λ f s q=>.inr ?_);obtain ⟨v,G,rfl,k⟩:=q;exact ⟨v,rfl,v,G,rfl,k⟩
theorem c8l (Z:HalfOK B) (d0)(hg:OkL gs)(hx:SpG false gs xs)(hy:SpG false gs ys):∃ d':a6S,b2o B 262 143 d0 [a0B,.lst (gs.map pcT),a0P (a0M xs),a0P (a0M ys)] (.bool true) d':=by
 have hc:=b0n hx.1;have l3:=hg.2;have lx:=hx.2.1;obtain ⟨ho,h9⟩:=b0m hx.1;have wl:(a0y (a0M xs)).length<=15:=by have:((a0M xs).flatMap a3S).map PV.int=(a0y (a0M xs)).map λ n=>.int (.ofNat n):=b0h _;have:=congrArg e1k this;rw [e0c,e0c] at this;lia
 obtain ⟨cut,d1,hcut,fd⟩:=a5s Z.bo d0 (a0y (a0M xs)).length;obtain ⟨hs2,a,b,eab,rd2⟩:=c7e Z hc (by lia) (by lia) hcut (d1.1.map .int) (gs.map pcT) ((a0M xs).map .int) ((a0M ys).map .int) d1.2;have enc:=c0v Z.bo Z.t8 hc (by lia) (by lia);have oct:=b9A Z.bo hc (by lia);have frm:=a7X Z.bo Z.kp hg;have nl:a0E [a0B,.lst (gs.map pcT),a0P (a0M xs),a0P (a0M ys)]=true:=by have:=b1i gs;show (a0e a0B&&(a0e (.lst (gs.map pcT))&&a0E [a0P (a0M xs),a0P (a0M ys)]))=true;rw [a6A,this,a0N,a0N];rfl
 let rd:Rd:=⟨d1.1.map .int,d1.2,gs.map pcT,(a0M xs).map .int,(a0M ys).map .int,a0y (a0M xs),cut,a.map .int,b.map .int,(a0M xs).map .int,I (a0K gs),[],[],0⟩
 have body:∀ (hs5:List Hint),Run B (a0a (rk KP 260) a1B ([stm 143 5]++[stm 143 6,stm 143 7])) ⟨a6P rd.L rd.M rd.Ps rd.T rd.O rd.w rd.cut rd.A rd.C rd.R rd.F,hs5⟩ (d0C d1 (.bool true))->b2o B 262 143 d0 [a0B,.lst (gs.map pcT),a0P (a0M xs),a0P (a0M ys)] (.bool true) d1:=by
  intro hs5 h5;refine b0N Z.bo Z.kp (n:=260) (hs:=.val (.bytes (a0y (a0M xs)))::.dk (i (.ofNat cut)) (d1.1.map .int) (i d1.2)::.inl::(hs2++(.val (.bytes (a0y (a0M xs)))::.ans false::.ans false::.val (.lst (I (a0K gs)))::hs5))) nl rfl (d4c _ _ _ _) (d0T d0 _ _ _ _) rfl a0V ?_;rw [d4b];refine Run.app (Run.ofF (d4k (d0.1.map .int) (d1.1.map .int) (gs.map pcT) ((a0M xs).map .int) ((a0M ys).map .int) d0.2 d1.2 (a0y (a0M xs)) cut _) (a0H (enc.le (by decide)) (a0H (a2t fd (by decide)) a0m)) ⟨rfl,?_⟩);refine Run.cons ((rd2 _).mono ?_);rintro f s ⟨rfl,rfl⟩;refine ⟨rfl,?_⟩;refine Run.app (a:=[stm 143 3,stm 143 4]) (b:=[stm 143 5]++[stm 143 6,stm 143 7]) (Run.ofD (d4f (d1.1.map .int) (gs.map pcT) ((a0M xs).map .int) ((a0M ys).map .int) (a.map .int) (b.map .int) ((a0M xs).map .int) (I (a0K gs)) d1.2 (a0y (a0M xs)) cut hs5) (a0H (oct.le (by decide)) (a0H (λ H=>?_) (a0H (λ H=>?_) (a0H (frm.le (by decide)) a0m)))) ⟨rfl,h5⟩)
  · show some (!a0q (a0y (a0M xs)) (a0y (a0M xs)))=some false;rw [a2D,decide_eq_true rfl];rfl
  · have:=a7h H (a0M xs) (a0M xs);rw [decide_eq_true rfl] at this;exact this
 refine ⟨d1,?_⟩;by_cases h0:gs=[]
 · have ex:xs=[]:=e2k.mp (by rw [lx,h0]; rfl);have ey:ys=[]:=e2k.mp (by rw [hy.2.1,h0]; rfl);have ew:a0y (a0M xs)=[]:=by rw [ex]; rfl
   have ec:cut=0:=by rw [ew] at hcut;exact Nat.le_zero.mp hcut
   have eab':a=[]/\b=[]:=by rw [ex] at eab;exact List.append_eq_nil_iff.mp eab
   have e:=d8Z (d1.1.map .int) d1.2;have hz:a6P rd.L rd.M rd.Ps rd.T rd.O rd.w rd.cut rd.A rd.C rd.R rd.F=a6P (d1.1.map .int) d1.2 [] [] [] [] 0 [] [] [] []:=by show a6P (d1.1.map .int) d1.2 (gs.map pcT) ((a0M xs).map .int) ((a0M ys).map .int) (a0y (a0M xs)) cut (a.map .int) (b.map .int) ((a0M xs).map .int) (I (a0K gs))=_;rw [ew,ec,eab'.1,eab'.2,h0,ex,ey];rfl
   refine body d7s ?_;rw [hz];have hg0:OkL []:=⟨λ g m=>absurd m e0b,e0q _⟩
   have f37:FnOK B 101 37 [.lst [],a0B,.str "nfc",a0U] (.lst []):=Z.t11 _ (e0X ..) ([.lst [],a0B,.str "nfc",a0U],.lst []) (e0X ..);have oe:OblE B d6b:=a0H ((b6A Z.st).le (by decide)) (a0H (f37.le (by decide)) a0m);have n0:a0e (.lst [])=true:=rfl;have ne:∀ {sp:List Ob},OblE B sp->OblE B (c8A (d1.1.map .int) sp):=λ h=>a1O (a0H (a0O d1.1) (a0H a6A (a0H n0 (a0H n0 (a0H n0 (a0H n0 a0m)))))) (a1O h (a0H a6A (a0H a9m a0m)));obtain ⟨ap,es⟩:=a6I hg0;have f38:=b5N Z.bo Z.k2 ap;have f138:=a5V Z.bo hg0;have f126:=b0f Z.bo Z.t1 Z.t10 hg0;have f141:=b1l Z.bo hg0;have f110:=c0v (cs:=[]) Z.bo Z.t8 (λ c m=>absurd m e0b) (e0q _) (e0q _);exact a9E (d':=d1) e (a1O oe (a1O (ne a0m) (a1O oe (a1O (ne (d6d [])) (a0H (f38.le (by decide)) (a0H (f138.le (by decide)) (a0H (f126.le (by decide)) (a0H (f141.le (by decide)) (a0H (f110.le (by decide)) a0m)))))))))
 · have r:RdOK rd:=⟨a0O _,b1i gs,a0O _,a0O _,a0O _,a0O _,a0O _,a0O _,rfl,rfl⟩
   obtain ⟨hs5,d',b',m',hb,⟨X,Y,c,rfl⟩,f5⟩:=c3N Z hg h0 hx.2.2.2 hy.2.2.2 r rfl rfl rfl rfl;obtain ⟨hs6,f6⟩:=c7B Z hg (d:=b6z rd X Y c) (d1:=d1) rfl rfl rfl rfl;refine body (hs5++hs6) (Run.cons ((f5 hs6).mono ?_));rintro f s ⟨rfl,rfl⟩;exact ⟨rfl,f6 b' m' _ hb⟩
end
def b2j:AEnv:=⟨scK 144,0,[("pieces",2),("deck",1)],true⟩
def c7Z (S L:List PV)(M:Int):List PO:=[.list S,.list L,.opq,.dict [kL,kM] [.loc 5,i M]]
def d6y (Sc S L:List PV)(M:Int):List PO:=[.fr ["script", "data"] [.lst Sc,a0B],.cell (some (.loc 7)),.cell none,.opq]++c7Z S L M
noncomputable def d1f (f:Nat->Int)(k:Nat):Int:=e1T (f k) 1000003
noncomputable def d3p (m:Int)(f:Nat->Int):Nat->Int
 | 0=>m| n+1=>d3p (e1T (m * 31+f 0+31) 1000003) (λ k=>f (k+1)) n
def b4z (f:Nat->Int)(R:List PV)(hs:List Hint)(n:Nat):OF:=some (.next,⟨d6y (spI f n++R) (spI f n) (spI (d1f f) n) (d3p 2323 (d1f f) n),hs⟩,[.fn 286 134 [] a0B],true)
theorem d4a (f) (hs):(e0f 20).map (λ n=>((rk KP 290).s (stm 144 0) b2j ⟨[.fr ["script"] [.lst (spI f n++[])],.cell none,.cell none],.inl::.val a0B::hs⟩).map a2R)=(e0f 20).map (b4z f [] hs):=by kernel_rfl
theorem d4Z (f) (R) (hs):((rk KP 290).s (stm 144 0) b2j ⟨[.fr ["script"] [.lst (spI f 20++R)],.cell none,.cell none],.inl::.val a0B::hs⟩).map a2R=b4z f R hs 20:=by kernel_rfl
noncomputable def nB:List Str:=["script", "data", "text", "other", "turned", "table", "options", "mates", "far"]
def opN:PO:=.ns ["factors", "how", "strength", "is_backwards", "case_first", "has_case_level", "is_numeric", "reorder"] [.tup [i 1,i 1,i 1],.str "non-ignorable",i 3,.bool false,.str "",.bool false,.bool false,.none]
def vB (Sc T O U Qs Fr:List PV):List PV:=[.lst Sc,a0B,.lst T,.lst O,.lst U,a0Z,.loc 11,.lst Qs,.lst Fr]
def hB (Sc S L:List PV)(M:Int)(Ps T O U Qs Fr:List PV):List PO:=[.fr nB (vB Sc T O U Qs Fr),.cell (some (.loc 7)),.cell (some (.lst Ps)),.opq]++(c7Z S L M++[.list [.lst T,.lst O,.lst U],.opq,opN,.inst 66 10,.opq])
def dkB (n k:Nat)(L:List PV)(M:Int)(a:List PV)(v:PV)(L':List PV)(M':Int):Ob:=.dk n k kL kM L (i M) a v L' (i M')
theorem d4Y (Sc S L L1 L2 L3 L4 L5 L6 L7 Ps T O U Qs Fr) (M M1 M2 M3 M4 M5 M6 M7) (hs):(a0a (rk KP 290) b2j [stm 144 1,stm 144 2,stm 144 3,stm 144 4,stm 144 5,stm 144 6] ⟨d6y Sc S L M,.dk (.lst Ps) L1 (i M1)::.dk (.lst T) L2 (i M2)::.dk (.lst O) L3 (i M3)::.dk (.lst U) L4 (i M4)::.dk (.bool true) L5 (i M5)::.val (.bool true)::.val (.bool true)::.val a0Z::.inl::.dk (.lst Qs) L6 (i M6)::.dk (.lst Fr) L7 (i M7)::hs⟩).map a2R =
 some (.next,⟨hB Sc S L7 M7 Ps T O U Qs Fr,hs⟩,[dkB 287 136 L M [] (.lst Ps) L1 M1,dkB 286 137 L1 M1 [.lst Ps,.bool false] (.lst T) L2 M2,dkB 286 137 L2 M2 [.lst Ps,.bool false] (.lst O) L3 M3,dkB 286 137 L3 M3 [.lst Ps,.bool true] (.lst U) L4 M4,dkB 285 143 L4 M4 [a0B,.lst Ps,.lst T,.lst O] (.bool true) L5 M5,
  .fn 284 101 [.lst T,.lst O,a0B] (.bool true),.fn 284 101 [.lst U,.lst T,a0B] (.bool true),.fn 286 135 [] a0Z,dkB 286 136 L5 M5 [] (.lst Qs) L6 M6,dkB 287 137 L6 M6 [.lst Qs,.bool false] (.lst Fr) L7 M7],true):=by kernel_rfl
def d6x (Sc S L:List PV)(M:Int)(Ps T O U Qs Fr A C:List PV):List PO:=[.fr (nB++(["low"]:List Str)) (vB Sc T O U Qs Fr++[.loc 13]),.cell (some (.loc 7)),.cell (some (.lst Ps)),.opq]++(c7Z S L M++[.list [.lst T,.lst O,.lst U],.opq,opN,.inst 66 10,.opq,.list [.loc 15,.loc 17],.opq,.list A,.opq,.list C,.opq])
def c9y (f g:Nat->Int)(n:Nat):List Hint:=.val (.lst (spI f n))::a1h (λ k=>.itm (i (g k))) n
def d3s (Ps:List PV)(f g:Nat->Int)(n:Nat):List Ob:=.fn 286 138 [.lst Ps] (.lst (spI f n))::a1h (λ k=>.dg [] b8H [i (f k),i (f k)] (i (g k))) n
theorem d4X (Sc S L Ps T O U Qs Fr) (M) (f g f' g') (v) (hs):a4u.map (λ x=>((rk KP 290).s (stm 144 7) b2j ⟨hB Sc S L M Ps T O U Qs Fr,c9y f g x.1++(c9y f' g' x.2++.val v::hs)⟩).map a2R) =
 a4u.map λ x=>some (.next,⟨d6x Sc S L M Ps T O U Qs Fr (spI g x.1) (spI g' x.2),.val v::hs⟩,d3s Ps f g x.1++d3s Qs f' g' x.2,true):=by kernel_rfl
def ltB (x:Int):Bool:=a0X x 0
def eqB (x:Int):Bool:=a3J x 0
def c0W (r:Bool)(x:Int)(kt ko kf N1 N2 Lv1 Lv2 c1 c2:PV):List Hint:=[.val (.bool r),.ans r,.val kt,.val ko,.ans false,.val N1,.val Lv1,.val N2,.val Lv2,.ans (eqB x)]++((match eqB x with | true=>[] | false=>[.ans (ltB x)])++[.val kt,.val kf,.val (i x),.val (i (0-x)),.ans false,.ans (ltB x),.ans (eqB x),.ans (ltB x),.ans (eqB x),.ans false,.val (.lst [c1,c2]),.ans (ltB x),.ans true])
def d1T (r:Bool)(x:Int)(T O Fr Ps Qs A C kt ko kf N1 N2 Lv1 Lv2 F1 F2:List PV):List Ob:=[.fn 286 101 [.lst T,.lst Fr,a0B] (.bool r),.cmp [] .Eq (.lst A) (.lst C) r,
 .fn 286 80 [.lst T,a0B,a0Z,a0f] (.lst kt),.fn 286 80 [.lst O,a0B,a0Z,a0f] (.lst ko),.cmp [] .NotEq (.lst kt) (.lst ko) false,
 .fn 285 138 [.lst Ps] (.lst N1),.fn 286 142 [.lst N1] (.lst Lv1),.fn 285 138 [.lst Qs] (.lst N2),.fn 286 142 [.lst N2] (.lst Lv2),.cmp [] .Eq (.lst Lv1) (.lst Lv2) (eqB x)]++((match eqB x with | true=>[] | false=>[.cmp [] .Lt (.lst Lv1) (.lst Lv2) (ltB x)]) ++
 [.fn 286 80 [.lst T,a0B,a0Z,a0f] (.lst kt),.fn 286 80 [.lst Fr,a0B,a0Z,a0f] (.lst kf),.fn 285 83 [.lst T,.lst Fr,a0B,a0Z,a0f] (i x),.fn 285 83 [.lst Fr,.lst T,a0B,a0Z,a0f] (i (0-x)),.cmp [] .NotEq (.lst [i x,i (0-x)]) (.lst [i x,i (0-x)]) false,
 .cmp [] .Lt (.lst kt) (.lst kf) (ltB x),.cmp [] .Eq (.lst kt) (.lst kf) (eqB x),.cmp [] .Lt (i x) (i 0) (ltB x),.cmp [] .Eq (i x) (i 0) (eqB x),.cmp [] .NotEq (.tup [.bool (ltB x),.bool (eqB x)]) (.tup [.bool (ltB x),.bool (eqB x)]) false,
 .fn 286 84 [.lst [.lst Fr,.lst T],a0B,a0Z,a0f] (.lst [.lst F1,.lst F2]),.cmp [] .Lt (i x) (i 0) (ltB x),.cmp [] .Eq (.lst [.lst F1,.lst F2]) (.lst (match ltB x with | true=>[.lst T,.lst Fr] | false=>[.lst Fr,.lst T])) true])
def d1s (y:Fl×St×Obs):Fl×List Ob×Bool:=(y.1,y.2.2.ps.map obD,e0m y.2.2.sz 1000)
noncomputable def d7I:List (Bool×Int):=[true,false].flatMap λ r=>[-1,0,1].map λ x=>(r,x)
def lastS:List Stmt:=[stm 144 8,stm 144 9,stm 144 10,stm 144 11,stm 144 12,stm 144 13,stm 144 14,stm 144 15]
theorem d4W (Sc S L Ps T O U Qs Fr A C kt ko kf N1 N2 Lv1 Lv2 F1 F2) (M):d7I.map (λ z=>(a0a (rk KP 290) b2j lastS ⟨d6x Sc S L M Ps T O U Qs Fr A C,c0W z.1 z.2 (.lst kt) (.lst ko) (.lst kf) (.lst N1) (.lst N2) (.lst Lv1) (.lst Lv2) (.lst F1) (.lst F2)⟩).map d1s) =
 d7I.map λ z=>some (.ret (.bool true),d1T z.1 z.2 T O Fr Ps Qs A C kt ko kf N1 N2 Lv1 Lv2 F1 F2,true):=by kernel_rfl
theorem b8V (r):ltB (sgn r)=r/\eqB (sgn r)=false:=by cases r <;> exact ⟨rfl,rfl⟩
theorem a2q:∀ a b:List Int,ltI a b=ltB (a1z a b) /\ decide (a=b)=eqB (a1z a b)
 | [],[]=>⟨rfl,rfl⟩
 | [],_::_=>⟨rfl,rfl⟩
 | _::_,[]=>⟨rfl,rfl⟩
 | x::a,y::b=>by
   obtain ⟨h1,h2⟩:=a2q a b;have e1:ltI (x::a) (y::b)=(match decide (x=y) with | true=>ltI a b | false=>a0X x y):=rfl;have e2:a1z (x::a) (y::b)=(match decide (x=y) with | true=>a1z a b | false=>sgn (a0X x y)):=rfl;rw [e1,e2];cases hd:decide (x=y) with
   | true=>
     have hxy:=of_decide_eq_true hd;subst hxy;refine ⟨h1,?_⟩
     try dsimp only
     rw [<- h2];exact decide_eq_decide.mpr ⟨λ h=>(List.cons.inj h).2,λ h=>by rw [h]⟩
   | false=>
     have hxy:=of_decide_eq_false hd;refine ⟨(b8V _).1.symm,?_⟩
     try dsimp only
     rw [(b8V _).2];exact decide_eq_false λ h=>hxy (List.cons.inj h).1
theorem c2e (h:x≠y):sgn (a0X y x)=0-sgn (a0X x y):=by
 rw [a0h,a0h];rcases Int.lt_or_gt_of_ne h with l | l
 · rw [decide_eq_true l,decide_eq_false (e1x.mpr (Int.le_of_lt l))]; rfl
 · rw [decide_eq_true l,decide_eq_false (e1x.mpr (Int.le_of_lt l))]; rfl
theorem a5N:∀ a b:List Int,a1z b a=0 - a1z a b
 | [],[]=>rfl| [],_::_=>rfl| _::_,[]=>rfl| x::a,y::b=>by
   have e1:a1z (y::b) (x::a)=(match decide (y=x) with | true=>a1z b a | false=>sgn (a0X y x)):=rfl;have e2:a1z (x::a) (y::b)=(match decide (x=y) with | true=>a1z a b | false=>sgn (a0X x y)):=rfl;rw [e1,e2];by_cases h:x=y
   · subst h;rw [decide_eq_true rfl];exact a5N a b
   · rw [decide_eq_false h,decide_eq_false λ e=>h e.symm];exact c2e h
def c5e (l:List Int):Prop:=∀ x∈l,a0X 0 x=true
theorem b0W:∀ {a b:List Int}{x y:List Int},c5e a->c5e b->a1z (a++0::x) (b++0::y)=(match a1z a b with | 0=>a1z x y | t=>t)
 | [],[],x,y,_,_=>rfl| [],c::b,x,y,_,hb=>by have hc:=hb c (e0X ..);have hc':(0:Int)<c:=of_decide_eq_true ((a0h _ _).symm.trans hc);have e1:a1z ([]++0::x) (c::b++0::y)=(match decide ((0:Int)=c) with | true=>a1z x (b++0::y) | false=>sgn (a0X 0 c)):=rfl;rw [e1,decide_eq_false (Int.ne_of_lt hc'),hc];rfl
 | c::a,[],x,y,ha,_=>by have hc:=ha c (e0X ..);have hc':(0:Int)<c:=of_decide_eq_true ((a0h _ _).symm.trans hc);have e1:a1z (c::a++0::x) ([]++0::y)=(match decide (c=(0:Int)) with | true=>a1z (a++0::x) y | false=>sgn (a0X c 0)):=rfl;have hn:a0X c 0=false:=(a0h _ _).trans (decide_eq_false (e1x.mpr (Int.le_of_lt hc')));rw [e1,decide_eq_false (λ h=>Int.ne_of_lt hc' h.symm),hn];rfl
 | c::a,e::b,x,y,ha,hb=>by
   have ih:=b0W (x:=x) (y:=y) (λ z m=>ha z (e0Z _ m)) (λ z m=>hb z (e0Z _ m));have e1:a1z (c::a++0::x) (e::b++0::y)=(match decide (c=e) with | true=>a1z (a++0::x) (b++0::y) | false=>sgn (a0X c e)):=rfl;have e2:a1z (c::a) (e::b)=(match decide (c=e) with | true=>a1z a b | false=>sgn (a0X c e)):=rfl;rw [e1,e2];cases hd:decide (c=e) with
   | true=>exact ih| false=>cases a0X c e <;> rfl
theorem c8Y {S T:List Int}(h1:c5e (L1 S))(h2:c5e (L1 T))(h3:c5e (L2 S))(h4:c5e (L2 T)):a1z (a1r S) (a1r T)=b2P S T:=by
 unfold a1r b2P;rw [b0W h1 h2,b0W h3 h4]
 try rfl
theorem c4V (S T):b2P T S=0-b2P S T:=by
 unfold b2P;rw [a5N (L1 S) (L1 T),a5N (L2 S) (L2 T),a5N (L3 S) (L3 T)];have g:∀ {t:Int},t=0\/t∈a2f->t=0\/t=-1\/t=1:=λ h=>by unfold a2f at h;simpa only [e0d,e0b,or_false] using h
 rcases g (a1Y (L1 S) (L1 T)) with e | e | e <;> rw [e]
 · rcases g (a1Y (L2 S) (L2 T)) with e | e | e <;> rw [e] <;> rfl
 · rfl
 · rfl
def b5R (S:List Int):List (List Int):=[L1 S,L2 S,L3 S]
theorem c8O (S T):decide (b5R S=b5R T)=eqB (b2P S T)/\d3r (b5R S) (b5R T)=ltB (b2P S T):=by
 obtain ⟨a1,a2⟩:=a2q (L1 S) (L1 T);obtain ⟨b1,b2⟩:=a2q (L2 S) (L2 T);obtain ⟨c1,c2⟩:=a2q (L3 S) (L3 T);have e1:d3r (b5R S) (b5R T)=(match decide (L1 S=L1 T) with | true=>(match decide (L2 S=L2 T) with | true=>(match decide (L3 S=L3 T) with | true=>false | false=>ltI (L3 S) (L3 T)) | false=>ltI (L2 S) (L2 T)) | false=>ltI (L1 S) (L1 T)):=rfl;have e2:decide (b5R S=b5R T)=(decide (L1 S=L1 T)&&(decide (L2 S=L2 T)&&decide (L3 S=L3 T))):=by rw [<- e2N,<- e2N];exact decide_eq_decide.mpr ⟨λ h=>by unfold b5R at h; injection h with h1 h; injection h with h2 h; injection h with h3 _; exact ⟨h1,h2,h3⟩,λ h=>by unfold b5R; rw [h.1,h.2.1,h.2.2]⟩
 rw [e1,e2,a1,a2,b1,b2,c1,c2];unfold b2P;have g:∀ {t:Int},t=0\/t∈a2f->t=0\/t=-1\/t=1:=λ h=>by unfold a2f at h;simpa only [e0d,e0b,or_false] using h
 rcases g (a1Y (L1 S) (L1 T)) with e | e | e <;> rw [e]
 · rcases g (a1Y (L2 S) (L2 T)) with e | e | e <;> rw [e]
   · rcases g (a1Y (L3 S) (L3 T)) with e | e | e <;> rw [e] <;> exact ⟨rfl,rfl⟩
   · exact ⟨rfl,rfl⟩
   · exact ⟨rfl,rfl⟩
 · exact ⟨rfl,rfl⟩
 · exact ⟨rfl,rfl⟩
theorem c6q {S:List Int}(h:∀ c∈S,c∈a4L):c5e (L1 S):=λ x m=>by obtain ⟨m1,m2⟩:=e2Y.mp m;obtain ⟨c,hc,rfl⟩:=e0e.mp m1;rw [(b0g c (h c hc)).1];exact m2
theorem c6o {S:List Int}(h:∀ c∈S,c∈a4L):c5e (L2 S):=λ x m=>by obtain ⟨c,hc,rfl⟩:=e0e.mp m;exact (b0g c (h c hc)).2.1
def b0J (k:Kd):Grp:=(((a0L k).flatMap a4e).headD 0,((a0L k).flatMap a4e).drop 1)
theorem c8q:∀ k∈a0d,(a0L k).flatMap a4e=(b0J k).1::(b0J k).2/\((b0J k).1∈a3Z/\(b0J k).2∈a3A)/\apK k=(b0J k).1::a0Y (b0J k).2/\a0T (b0J k).1::a0Y (a0Y (b0J k).2)=(apK k).map a0T:=by decide +kernel
theorem a6j (h:∀ x∈xs,x∈a0d)(hl:xs.length<=3):Apart (a0M xs) (xs.map b0J)/\a0F (b9m (xs.map b0J))=(a0C xs).map a0T:=by
 have:∀ {xs:List Kd},(∀ x∈xs,x∈a0d)->(a0M xs).flatMap a4e=a1E (xs.map b0J) /\ (∀ g∈xs.map b0J,a8G g) /\ a0F (b9m (xs.map b0J))=(a0C xs).map a0T:=by
  intro xs;induction xs with
  | nil=>intro _; exact ⟨rfl,λ g m=>absurd m e0b,rfl⟩| cons x xs ih=>
    intro h;obtain ⟨a,b,c⟩:=ih λ y m=>h y (e0Z _ m);obtain ⟨e1,e2,e3,e4⟩:=c8q x (h x (e0X ..));refine ⟨?_,λ y m=>?_,?_⟩
    · show (a0L x++a0M xs).flatMap a4e=((b0J x).1::(b0J x).2)++a1E (xs.map b0J);rw [e1g,e1,a]
    · rcases e0d.mp m with rfl | m
      · exact e2
      · exact b y m
    · show (a0T (b0J x).1::a0Y (a0Y (b0J x).2))++a0F (b9m (xs.map b0J))=(apK x++a0C xs).map a0T;rw [c,e4,e0o]
 obtain ⟨a,b,c⟩:=this h;exact ⟨⟨b0n h,a,b,by rw [e0c]; exact hl⟩,c⟩
theorem b6V:∀ g∈a2u,((a7v true g).1::a0Y (a7v true g).2).map a0T=(g.1::a0Y g.2).map a0T:=by decide
theorem a5x:∀ {gs:List Grp},(∀ g∈gs,g∈a2u)->(a0F (gs.map (a7v true))).map a0T=(a0F gs).map a0T
 | [],_=>rfl| g::gs,h=>by show (((a7v true g).1::a0Y (a7v true g).2)++a0F (gs.map (a7v true))).map a0T=((g.1::a0Y g.2)++a0F gs).map a0T;rw [e0o,e0o,b6V g (h g (e0X ..)),a5x λ y m=>h y (e0Z _ m)]
theorem a2d (gs:List Grp):gs.map (a7v false)=gs:=by
 have:(a7v false)=id:=by funext g;rfl
 rw [this,List.map_id]
theorem d5w (a b u v) (r):a2r K0 190 101 [.lst a,.lst b,a0B] [.val (.lst u),.val (.lst v),.ans r]=some (.bool r,[.fn 185 100 [.lst a,a0B,.bool false] (.lst u),.fn 185 100 [.lst b,a0B,.bool false] (.lst v),.cmp [] .Eq (.lst u) (.lst v) r],true):=by kernel_rfl
theorem d4T (t) (hs):(enter true (scK 144) [] [("script",t)] ⟨[],hs⟩).map a0S=some (b2j,⟨[.fr ["script"] [t],.cell none,.cell none],hs⟩,[],true):=by kernel_rfl
theorem d4U:fnB 144=[stm 144 0]++([stm 144 1,stm 144 2,stm 144 3,stm 144 4,stm 144 5,stm 144 6]++([stm 144 7]++lastS)):=by kernel_rfl
theorem d4V (t):a2N (pmK 144) (dfK 144) [t]=(some [("script",t)]:Option (List (Str×PV))):=by kernel_rfl
structure LawOK (B:Base):Prop where
 h:HalfOK B
 t7:TabOK B 151 T7
 kg:KOK B KG
 kf:KOK B KF
 dat:FnOK B 61 134 [] a0B
 tab:FnOK B 61 135 [] a0Z
theorem d6n (BO:BaseOK2 B):LawOK B:=by have t1:TabOK B 37 T1:=a0v BO (a0o B) c7M;have k1:KOK B K1:=b2m t1;have t2:TabOK B 61 T2:=a0v BO k1 c7L;have k2:KOK B K2:=b2m ((t1.le (by decide)).app t2);have t3:TabOK B 101 T3a:=a0v BO k2 c7K;have t4:TabOK B 101 T4:=a0v BO k2 c7J;have t5:TabOK B 101 T5:=a0v BO k2 c7I;have t6:TabOK B 101 T6:=a0v BO (a0o B) c7H;have t7:TabOK B 151 T7:=a0v BO k2 c7G;have t8:TabOK B 101 T8:=a0v BO (a0o B) c7F;have t9:TabOK B 61 T9:=a0v BO (a0o B) c7E;have t10:TabOK B 61 T10:=a0v BO (a0o B) c2R;have t11:TabOK B 101 T11:=a0v BO k2 c2Q;have kf:KOK B KF:=b2m ((((t1.le (by decide)).app (t2.le (by decide)))).app t5);exact ⟨⟨BO,b2m t9,k2,t1,t8,t10,t11,⟨t3,t4⟩⟩,t7,b2m t6,kf,a9a BO (a0o B) c1G,a9a BO (a0o B) b6Z⟩
section
variable {B:Base}
theorem LawOK.tabs (Z:LawOK B):Tabs B:=⟨Z.h.bo,Z.h.t1,Z.t7⟩
theorem SpG.txt (h:SpG t gs xs)(hg:OkL gs):Txt xs:=⟨h.1,by rw [h.2.1]; exact hg.2⟩
theorem a7D (Z:LawOK B)(h:Txt xs)(k:Txt ys):FnOK B 191 101 [a0P (a0M xs),a0P (a0M ys),a0B] (.bool (decide ((a0C xs).map a0T=(a0C ys).map a0T))):=by obtain ⟨a1,a2⟩:=a6j h.1 h.2;obtain ⟨b1,b2⟩:=a6j k.1 k.2;rw [<- a2,<- b2];exact a0W Z.h.bo (a0o B) (by rw [a0N,a0N]; rfl) (d5w _ _ _ _ _) (λ H=>rfl) (a0H ((b9x Z.h.bo Z.h.k2 Z.kg Z.kf a1).le (show 181<=185 by decide)) (a0H ((b9x Z.h.bo Z.h.k2 Z.kg Z.kf b1).le (show 181<=185 by decide)) (a0H (λ H=>b0V H _ _) a0m)))
theorem c2X (h:c∈a4L):okE B (.dg [] b8H [i c,i c] (i (a0T c))):=by unfold a4L at h;simp only [e0d,e0b,or_false] at h;rcases h with rfl | rfl | rfl | rfl | rfl | rfl | rfl <;> exact λ H=>⟨0,rfl,e0q _⟩
theorem b1e:∀ {n:Nat}{f:Nat->Ob},(∀ k,k < n->okE B (f k))->OblE B (a1h f n)
 | 0,_,_=>a0m| n+1,f,h=>a0H (h 0 (e1P _)) (b1e λ k l=>h (k+1) (e1Z l))
theorem c4Y (Z:LawOK B) (script):∃ (S:List PV)(d:a6S),∀ hs,((rk KP 290).s (stm 144 0) b2j ⟨[.fr ["script"] [a0P script],.cell none,.cell none],.inl::.val a0B::hs⟩).map a2R=some (.next,⟨d6y (script.map .int) S (d.1.map .int) d.2,hs⟩,[.fn 286 134 [] a0B],true):=by
 have fin:∀ (A:List Int),spI (d1f λ k=>A.getD k 0) A.length=(A.map λ x=>e1T x 1000003).map .int:=λ A=>b2x (λ x=>e1T x 1000003) A;rcases e1A script.length 20 with l | l
 · refine ⟨spI (λ k=>script.getD k 0) script.length,(script.map λ x=>e1T x 1000003,d3p 2323 (d1f λ k=>script.getD k 0) script.length),λ hs=>?_⟩;have e:=a0I (d4a (λ k=>script.getD k 0) hs) (a1b l);unfold b4z at e;have f2:spI (λ k=>script.getD k 0) script.length=script.map .int:=spC script;rw [e0k,fin,f2] at e;rw [f2];exact e
 · refine ⟨spI (λ k=>(script.take 20).getD k 0) 20,((script.take 20).map λ x=>e1T x 1000003,d3p 2323 (d1f λ k=>(script.take 20).getD k 0) 20),λ hs=>?_⟩;have lt:(script.take 20).length=20:=by rw [e1b]; lia
   have e:=d4Z (λ k=>(script.take 20).getD k 0) ((script.drop 20).map .int) hs;have f1:=fin (script.take 20);have f2:=spC (script.take 20);unfold cO at f2;rw [lt] at f1 f2;unfold b4z at e;rw [f1,f2,<- e0o,e1Y] at e;rw [f2];exact e
theorem c8V (Z:LawOK B)(hg:OkL gs)(hm:OkL ms)(hx:SpG false gs xs)(hy:SpG false gs ys)(hz:SpG false ms zs) (Sc S L) (M) (U) :
 ∃ (v:PV) (hs:List Hint),∀ (_:Unit),Run B (a0a (rk KP 290) b2j lastS) ⟨d6x Sc S L M (gs.map pcT) ((a0M xs).map .int) ((a0M ys).map .int) U (ms.map pcT) ((a0M zs).map .int) (((a0F gs).map a0T).map .int) (((a0F ms).map a0T).map .int),.val v::hs⟩ (a9O (.bool true)):=by
 have tx:=hx.txt hg;have ty:=hy.txt hg;have tz:=hz.txt hm;have cx:a0C xs=a0F gs:=by rw [hx.2.2.1,a2d]
 have cy:a0C ys=a0F gs:=by rw [hy.2.2.1,a2d]
 have cz:a0C zs=a0F ms:=by rw [hz.2.2.1,a2d]
 have wg:=a2K tx;have wz:=a2K tz;rw [cx] at wg;rw [cz] at wz;have kd:=c8Y (S:=a0F gs) (T:=a0F ms) (c6q wg) (c6q wz) (c6o wg) (c6o wz);obtain ⟨lv1,lv2⟩:=c8O (a0F gs) (a0F ms);have ks:=c4V (a0F gs) (a0F ms);obtain ⟨kf1,kf2⟩:=a2q (a1r (a0F gs)) (a1r (a0F ms));rw [kd] at kf1 kf2;have dm:=c0y (a0F gs) (a0F ms);have k1:=b1r Z.tabs tx;have k2:=b1r Z.tabs ty;have k3:=b1r Z.tabs tz;have c1:=a9F Z.tabs tx tz;have c2:=a9F Z.tabs tz tx;have co:=b4F Z.tabs tz tx;have mt:=a7D Z tx tz;rw [cx] at k1;rw [cy] at k2;rw [cz] at k3;rw [cx,cz] at c1 c2 co mt;rw [ks] at c2;rw [kf1] at co;have ap1:=a5V Z.h.bo hg;have ap2:=a5V Z.h.bo hm;have le1:=a8l Z.h.bo hg;have le2:=a8l Z.h.bo hm;generalize hxx:b2P (a0F gs) (a0F ms)=x at *;generalize hrr:decide ((a0F gs).map a0T=(a0F ms).map a0T)=r at *;have srt:∃ F1 F2:List PV,PV.lst (c9v (ltB x) (a0P (a0M zs)) (a0P (a0M xs)))=.lst [.lst F1,.lst F2] /\ ∀ H,a3U H .Eq (.lst [.lst F1,.lst F2]) (.lst (match ltB x with | true=>[a0P (a0M xs),a0P (a0M zs)] | false=>[a0P (a0M zs),a0P (a0M xs)]))=some true:=by
  have self:∀ (a b:List Int) (H:List PO),a3U H .Eq (.lst [a0P a,a0P b]) (.lst [a0P a,a0P b])=some true:=λ a b H=>by have:=c1P H [a,b] [a,b];rw [decide_eq_true rfl] at this;exact this
  cases ltB x with
  | true=>exact ⟨_,_,rfl,self _ _⟩| false=>exact ⟨_,_,rfl,self _ _⟩
 obtain ⟨F1,F2,e1,e2⟩:=srt;rw [e1] at co;have mem:(r,x)∈d7I:=e0j.mpr ⟨r,b4K r,e0e.mpr ⟨x,dm,rfl⟩⟩;have e:=a0I (d4W Sc S L (gs.map pcT) ((a0M xs).map .int) ((a0M ys).map .int) U (ms.map pcT) ((a0M zs).map .int) (((a0F gs).map a0T).map .int) (((a0F ms).map a0T).map .int)
  ((a1r (a0F gs)).map .int) ((a1r (a0F gs)).map .int) ((a1r (a0F ms)).map .int) ((a0F gs).map .int) ((a0F ms).map .int) [a0P (L1 (a0F gs)),a0P (L2 (a0F gs)),a0P (L3 (a0F gs))] [a0P (L1 (a0F ms)),a0P (L2 (a0F ms)),a0P (L3 (a0F ms))] F1 F2 M) mem
 refine ⟨.bool r,(c0W r x (.lst ((a1r (a0F gs)).map .int)) (.lst ((a1r (a0F gs)).map .int)) (.lst ((a1r (a0F ms)).map .int)) (.lst ((a0F gs).map .int)) (.lst ((a0F ms).map .int)) (.lst [a0P (L1 (a0F gs)),a0P (L2 (a0F gs)),a0P (L3 (a0F gs))]) (.lst [a0P (L1 (a0F ms)),a0P (L2 (a0F ms)),a0P (L3 (a0F ms))]) (.lst F1) (.lst F2)).drop 1,λ _=>?_⟩;obtain ⟨⟨f,s,ob⟩,e3,hh⟩:=e1C.mp e;unfold d1s at hh;simp only [Prod.mk.injEq] at hh;obtain ⟨rfl,h2,h3⟩:=hh;refine ⟨_,s,ob.ps,⟨ob.sz,e3,e0t h3⟩,OblE.ofD ?_,_,rfl,rfl⟩;rw [h2];have neI:∀ (l:List Int) (H:List PO),a3U H .NotEq (a0P l) (a0P l)=some false:=λ l H=>by have:=a7h H l l;rw [decide_eq_true rfl] at this;exact this
 have ltx:∀ H,a3U H .Lt (i x) (i 0)=some (ltB x):=λ H=>rfl;refine a1O (a0H (mt.le (by decide)) (a0H (λ H=>by rw [<- hrr]; exact b0V H _ _) (a0H (k1.le (by decide)) (a0H (k2.le (by decide)) (a0H (neI _) (a0H (ap1.le (by decide)) (a0H (le1.le (by decide)) (a0H (ap2.le (by decide)) (a0H (le2.le (by decide)) (a0H (λ H=>by rw [<- lv1]; exact c1P H (b5R (a0F gs)) (b5R (a0F ms))) a0m)))))))))) (a1O ?_ ?_)
 · cases eqB x with
   | true=>exact a0m| false=>exact a0H (λ H=>by rw [<- lv2]; exact c9W H (b5R (a0F gs)) (b5R (a0F ms))) a0m
 · refine a0H (k1.le (by decide)) (a0H (k3.le (by decide)) (a0H (c1.le (by decide)) (a0H (c2.le (by decide)) (a0H (neI [x,0-x]) (a0H (λ H=>by rw [<- kf1]; exact c9X H _ _) (a0H (λ H=>by rw [<- kf2]; exact b0V H _ _) (a0H ltx (a0H (λ H=>rfl) (a0H (λ H=>?_) (a0H (co.le (by decide)) (a0H ltx (a0H e2 a0m))))))))))));generalize ltB x=a;generalize eqB x=b;cases a <;> cases b <;> rfl
end
def c3q (d1 d2 d3 d4 d5 d6 d7:a6S)(Ps T O U Qs Fr:List PV)(hs:List Hint):List Hint:=.dk (.lst Ps) (d1.1.map .int) (i d1.2)::.dk (.lst T) (d2.1.map .int) (i d2.2)::.dk (.lst O) (d3.1.map .int) (i d3.2)::.dk (.lst U) (d4.1.map .int) (i d4.2)::.dk (.bool true) (d5.1.map .int) (i d5.2)::.val (.bool true)::.val (.bool true)::.val a0Z::.inl::.dk (.lst Qs) (d6.1.map .int) (i d6.2)::.dk (.lst Fr) (d7.1.map .int) (i d7.2)::hs
section
variable {B:Base}
theorem c5v (hg:OkL gs)(BO:BaseOK2 B):OblE B (d3s (gs.map pcT) (λ k=>(a0F gs).getD k 0) (λ k=>a0T ((a0F gs).getD k 0)) (a0F gs).length):=by have tx:=a4t hg;have cx:=a2C hg.1;have wg:=a2K tx;rw [cx] at wg;have ap1:=a5V BO hg;have sp:spI (λ k=>(a0F gs).getD k 0) (a0F gs).length=(a0F gs).map .int:=spC (a0F gs);unfold d3s;rw [sp];exact a0H (ap1.le (by decide)) (b1e λ k l=>c2X (wg _ (a4d l)))
theorem d1x (BO:BaseOK2 B)(script:List Int):FnOK B 292 144 [.lst (script.map .int)] (.bool true):=by
 have Z:=d6n BO;obtain ⟨S,d0,f0⟩:=c4Y Z script;obtain ⟨gs,d1,hg,f1⟩:=b8A BO d0;obtain ⟨xs,d2,hx,f2⟩:=a3t BO Z.h.kp d1 hg false;obtain ⟨ys,d3,hy,f3⟩:=a3t BO Z.h.kp d2 hg false;obtain ⟨us,d4,hu,f4⟩:=a3t BO Z.h.kp d3 hg true;obtain ⟨d5,f5⟩:=c8l Z.h d4 hg hx hy;obtain ⟨ms,d6,hm,f6⟩:=b8A BO d5;obtain ⟨zs,d7,hz,f7⟩:=a3t BO Z.h.kp d6 hm false;have cx:a0C xs=a0F gs:=by rw [hx.2.2.1,a2d]
 have cy:a0C ys=a0F gs:=by rw [hy.2.2.1,a2d]
 have m1:=a7D Z (hx.txt hg) (hy.txt hg);have m2:=a7D Z (hu.txt hg) (hx.txt hg);rw [cx,cy,decide_eq_true rfl] at m1;rw [cx,hu.2.2.1,a5x hg.1,decide_eq_true rfl] at m2;obtain ⟨v,hs,fl⟩:=c8V Z hg hm hx hy hz (script.map .int) S (d7.1.map .int) d7.2 ((a0M us).map .int);have lg:(a0F gs).length<10:=by have:=a1R (a4t hg);rw [a2C hg.1] at this;lia
 have lm:(a0F ms).length<10:=by have:=a1R (a4t hm);rw [a2C hm.1] at this;lia
 have eB:=d4Y (script.map .int) S (d0.1.map .int) (d1.1.map .int) (d2.1.map .int) (d3.1.map .int) (d4.1.map .int) (d5.1.map .int) (d6.1.map .int) (d7.1.map .int) (gs.map pcT) ((a0M xs).map .int) ((a0M ys).map .int) ((a0M us).map .int) (ms.map pcT) ((a0M zs).map .int) d0.2 d1.2 d2.2 d3.2 d4.2 d5.2 d6.2 d7.2
  (c9y (λ k=>(a0F gs).getD k 0) (λ k=>a0T ((a0F gs).getD k 0)) (a0F gs).length++(c9y (λ k=>(a0F ms).getD k 0) (λ k=>a0T ((a0F ms).getD k 0)) (a0F ms).length++.val v::hs))
 have eL:=a0I (d4X (script.map .int) S (d7.1.map .int) (gs.map pcT) ((a0M xs).map .int) ((a0M ys).map .int) ((a0M us).map .int) (ms.map pcT) ((a0M zs).map .int) d7.2 (λ k=>(a0F gs).getD k 0) (λ k=>a0T ((a0F gs).getD k 0)) (λ k=>(a0F ms).getD k 0) (λ k=>a0T ((a0F ms).getD k 0)) v hs) (x:=((a0F gs).length,(a0F ms).length)) (e0j.mpr ⟨_,a1b lg,e0e.mpr ⟨_,a1b lm,rfl⟩⟩);dsimp only at eL;rw [b2x a0T (a0F gs),b2x a0T (a0F ms)] at eL;refine a0t BO Z.h.kp (n:=290) (hs:=.inl::.val a0B::c3q d1 d2 d3 d4 d5 d6 d7 (gs.map pcT) ((a0M xs).map .int) ((a0M ys).map .int) ((a0M us).map .int) (ms.map pcT) ((a0M zs).map .int) (c9y (λ k=>(a0F gs).getD k 0) (λ k=>a0T ((a0F gs).getD k 0)) (a0F gs).length++(c9y (λ k=>(a0F ms).getD k 0) (λ k=>a0T ((a0F ms).getD k 0)) (a0F ms).length++.val v::hs))) (by rw [show [PV.lst (script.map .int)]=[a0P script] from rfl,a0N]; rfl) rfl (d4V _) (d4T _ _) a0V ?_;rw [d4U];refine Run.cons (Run.ofD (f0 _) (a0H (Z.dat.le (by decide)) a0m) ⟨rfl,?_⟩);refine Run.app (a:=[stm 144 1,stm 144 2,stm 144 3,stm 144 4,stm 144 5,stm 144 6]) (b:=[stm 144 7]++lastS) (Run.ofD eB ?_ ⟨rfl,?_⟩)
 · exact a0H (a2t f1 (by decide)) (a0H (a2t f2 (by decide)) (a0H (a2t f3 (by decide)) (a0H (a2t f4 (by decide)) (a0H (a2t f5 (by decide)) (a0H (m1.le (by decide)) (a0H (m2.le (by decide)) (a0H (Z.tab.le (by decide)) (a0H (a2t f6 (by decide)) (a0H (a2t f7 (by decide)) a0m)))))))))
 · exact Run.cons (Run.ofD eL (a1O (c5v hg BO) (c5v hm BO)) ⟨rfl,fl ()⟩)
theorem c8T:∀ B,BaseOK2 B->∀ script:List Int,script.length<=63->FnOK B 292 144 [.lst (script.map .int)] (.bool true):=λ B BO script _=>d1x BO script
end
end
section
theorem the_claim:PySem.Challenge.rw_nt0086_01.Holds:=c3p (by decide) c8T
end
end
end Mine.Internal
theorem PySem.Challenge.cw_nt0086_01_holds : PySem.Challenge.rw_nt0086_01.Holds :=
 Mine.Internal.the_claim
