/- Part 1 of the walk and of the plain law. -/
import Derived.Below
import Derived.Laws.OwnMore
import Derived.Orders
import Derived.OpenShut
import Derived.Laws.StructEq
import Derived.Laws.Tables
import Derived.OrdersIn
import Derived.Sort.LoopGhostIn
import Derived.RangeFuncCalls
set_option linter.unusedSimpArgs false
set_option linter.unusedVariables false
namespace Go.Proofs.YtlfdidaeachpoaaGreat
open Go Go.RowKit
inductive Ty where
 | int (k : IntKind)
 | bool
 | str
 | sl (t : Ty)
 | pair (a b : Ty)
 deriving DecidableEq
@[reducible] def Ty.den : Ty → Type
 | .int _ => Int
 | .bool => Bool
 | .str => ByteArray
 | .sl t => List t.den
 | .pair a b => a.den × b.den
def Ty.dflt : (t : Ty) → t.den
 | .int _ => (0 : Int)
 | .bool => false
 | .str => ByteArray.empty
 | .sl _ => []
 | .pair a b => (a.dflt,b.dflt)
def Ty.size : Ty → Nat
 | .pair a b => a.size + b.size
 | _ => 1
theorem Ty.size_pos : (t : Ty) → 0 < t.size
 | .int _ => Nat.one_pos
 | .bool => Nat.one_pos
 | .str => Nat.one_pos
 | .sl _ => Nat.one_pos
 | .pair a _ => Nat.add_pos_left a.size_pos _
inductive zcp where
 | undef
 | int (k : IntKind) (n : Int)
 | bool (q : Bool)
 | str (s : ByteArray)
 | dat (t : Ty) (xs : List t.den)
 | nil
 | ref (id : Nat)
 | ptr (id off : Nat)
 | nilp
 | fn (f : Nat) (caps : List Nat)
inductive TV where
 | lf (l : zcp)
 | agg (cs : List zcp)
 | tup (cs : List (Bool × List zcp))
 | rptr (cs : List zcp)
 | eptr (id i off sz : Nat)
def flat : (t : Ty) → t.den → List zcp
 | .int k,n => [.int k n]
 | .bool,b => [.bool b]
 | .str,s => [.str s]
 | .sl t,xs => [.dat t xs]
 | .pair a b,x => flat a x.1 ++ flat b x.2
def unflat : (t : Ty) → List zcp → Option (t.den × List zcp)
 | .int k,ls => match ls with
  | .int k' n :: r => if k' = k then some (n,r) else none
  | _ => none
 | .bool,ls => match ls with
  | .bool b :: r => some (b,r)
  | _ => none
 | .str,ls => match ls with
  | .str s :: r => some (s,r)
  | _ => none
 | .sl t,ls => match ls with
  | .dat t' xs :: r => if h : t' = t then some (h ▸ xs,r) else none
  | .nil :: r => some ([],r)
  | _ => none
 | .pair a b,ls =>
  match unflat a ls with
  | some (x,r) => match unflat b r with
   | some (y,r') => some ((x,y),r')
   | none => none
  | none => none
def toDen (t : Ty) (ls : List zcp) : Option t.den :=
 match unflat t ls with
 | some (x,[]) => some x
 | _ => none
def Mem (w : World) (b o : Nat) (us : List Value) : Prop := ∀ j u,us[j]? = some u → w.cell? ⟨b,o + j,none⟩ = some u
theorem Mem.heap {w w' : World} {b o : Nat} {us : List Value} (h : Mem w b o us) (hh : w'.heap[b]? = w.heap[b]?) : Mem w' b o us :=
 fun j u hu => (World.cell?_of_block (w := w) (a := ⟨b,o + j,none⟩) hh).trans (h j u hu)
theorem Mem.sub {w : World} {b o : Nat} {us : List Value} (h : Mem w b o us) (k n : Nat) : Mem w b (o + k) ((us.drop k).take n) := by
 intro j u hu
 rw [List.getElem?_take] at hu
 split at hu
 ·rw [List.getElem?_drop] at hu
  rw [Nat.add_assoc]
  exact h _ _ hu
 ·cases hu
def zcM (w : World) (ok : Nat → Prop) : (t : Ty) → List Value → t.den → Prop
 | .int k,vs,n => vs = [.int k n] ∧ (Lit.int k n).wf = true
 | .bool,vs,b => vs = [.bool b]
 | .str,vs,s => vs = [.string s] ∧ s.size ≤ maxLen
 | .sl t,vs,xs => ∃ A cap,vs = [.slice A xs.length cap] ∧ xs.length ≤ cap ∧ cap ≤ maxLen ∧ (A = none → cap = 0) ∧
   ∀ i (h : i < xs.length),∃ b o us,A = some ⟨b,o,none⟩ ∧ ok b ∧ us.length = t.size ∧ Mem w b (o + i * t.size) us ∧ zcM w ok t us xs[i]
 | .pair a b,vs,x => ∃ us us',vs = us ++ us' ∧ zcM w ok a us x.1 ∧ zcM w ok b us' x.2
theorem zcM.length {w : World} {ok : Nat → Prop} : (t : Ty) → {vs : List Value} → {x : t.den} → zcM w ok t vs x → vs.length = t.size
 | .int _,_,_,h => by rw [h.1]; rfl
 | .bool,_,_,h => by rw [show _ = _ from h]; rfl
 | .str,_,_,h => by rw [h.1]; rfl
 | .sl _,_,_,h => by obtain ⟨A,cap,e,_⟩ := h; rw [e]; rfl
 | .pair a b,_,_,h => by
  obtain ⟨us,us',e,h1,h2⟩ := h
  rw [e,List.length_append,zcM.length a h1,zcM.length b h2]; rfl
theorem zcM.mono {w w' : World} {ok ok' : Nat → Prop} (hh : ∀ b,ok b → w'.heap[b]? = w.heap[b]?) (hk : ∀ b,ok b → ok' b) :
  (t : Ty) → {vs : List Value} → {x : t.den} → zcM w ok t vs x → zcM w' ok' t vs x
 | .int _,_,_,h => h
 | .bool,_,_,h => h
 | .str,_,_,h => h
 | .sl t,_,_,h => by
  obtain ⟨A,cap,e,h1,h2,h0,h3⟩ := h
  refine ⟨A,cap,e,h1,h2,h0,fun i hi => ?_⟩
  obtain ⟨b,o,us,hA,hb,hl,hm,hr⟩ := h3 i hi
  exact ⟨b,o,us,hA,hk b hb,hl,hm.heap (hh b hb),zcM.mono hh hk t hr⟩
 | .pair a b,_,_,h => by
  obtain ⟨us,us',e,h1,h2⟩ := h
  exact ⟨us,us',e,zcM.mono hh hk a h1,zcM.mono hh hk b h2⟩
def zeE (β : Nat → Option Value) : List Value → List Nat → Prop
 | [],[] => True
 | v :: vs,c :: cs => (∃ b,β c = some (.pointer (some ⟨b,0,none⟩)) ∧ v = .pointer (some ⟨b,0,none⟩)) ∧ zeE β vs cs
 | _,_ => False
def zdh (w : World) (ok : Nat → Prop) (β : Nat → Option Value) (v : Value) : zcp → Prop
 | .undef => True
 | .int k n => v = .int k n ∧ (Lit.int k n).wf = true
 | .bool b => v = .bool b
 | .str s => v = .string s ∧ s.size ≤ maxLen
 | .dat t xs => zcM w ok (.sl t) [v] xs
 | .nil => v = .slice none 0 0
 | .ref id => β id = some v ∧ ∃ A n c,v = .slice A n c
 | .ptr id off => ∃ b,β id = some (.pointer (some ⟨b,0,none⟩)) ∧ v = .pointer (some ⟨b,off,none⟩)
 | .nilp => v = .pointer none
 | .fn f caps => ∃ vs : List Value,v = .func (.func f) #[] vs.toArray ∧ zeE β vs caps
def zcA (w : World) (ok : Nat → Prop) (β : Nat → Option Value) : List Value → List zcp → Prop
 | [],[] => True
 | v :: vs,l :: ls => zdh w ok β v l ∧ zcA w ok β vs ls
 | _,_ => False
def RepC (w : World) (ok : Nat → Prop) (β : Nat → Option Value) (v : Value) : Bool × List zcp → Prop
 | (true,ls) => ∃ vs : List Value,v = .agg vs.toArray ∧ zcA w ok β vs ls
 | (false,ls) => zcA w ok β [v] ls
def zdN (w : World) (ok : Nat → Prop) (β : Nat → Option Value) : List Value → List (Bool × List zcp) → Prop
 | [],[] => True
 | v :: vs,l :: ls => RepC w ok β v l ∧ zdN w ok β vs ls
 | _,_ => False
def zcE (w : World) (ok : Nat → Prop) (β : Nat → Option Value) (v : Value) : TV → Prop
 | .lf l => zdh w ok β v l
 | .agg cs => ∃ vs : List Value,v = .agg vs.toArray ∧ zcA w ok β vs cs
 | .tup cs => ∃ vs : List Value,v = .tuple vs.toArray ∧ zdN w ok β vs cs
 | .rptr cs => ∃ b o us,v = .pointer (some ⟨b,o,none⟩) ∧ ok b ∧ Mem w b o us ∧ zcA w ok β us cs
 | .eptr id i off sz => ∃ b n cap,β id = some (.slice (some ⟨b,0,none⟩) n cap) ∧ i < n ∧ v = .pointer (some ⟨b,i * sz + off,none⟩)
section mono
variable {w w' : World} {ok ok' : Nat → Prop} {β β' : Nat → Option Value}
theorem zeE.mono (hβ : ∀ id v,β id = some v → β' id = some v) : ∀ {vs : List Value} {cs : List Nat},zeE β vs cs → zeE β' vs cs
 | [],[],_ => trivial
 | _ :: _,_ :: _,⟨⟨b,h1,h2⟩,h⟩ => ⟨⟨b,hβ _ _ h1,h2⟩,zeE.mono hβ h⟩
 | [],_ :: _,h => h.elim
 | _ :: _,[],h => h.elim
variable (hh : ∀ b,ok b → w'.heap[b]? = w.heap[b]?) (hk : ∀ b,ok b → ok' b) (hβ : ∀ id v,β id = some v → β' id = some v)
include hh hk hβ
theorem zdh.mono {v : Value} {l : zcp} (h : zdh w ok β v l) : zdh w' ok' β' v l := by
 cases l with
 | dat t xs => exact zcM.mono hh hk (.sl t) h
 | ref id => exact ⟨hβ _ _ h.1,h.2⟩
 | ptr id off => obtain ⟨b,h1,h2⟩ := h; exact ⟨b,hβ _ _ h1,h2⟩
 | fn f caps => obtain ⟨vs,h1,h2⟩ := h; exact ⟨vs,h1,h2.mono hβ⟩
 | _ => exact h
theorem zcA.mono : ∀ {vs : List Value} {ls : List zcp},zcA w ok β vs ls → zcA w' ok' β' vs ls
 | [],[],_ => trivial
 | _ :: _,_ :: _,⟨h1,h2⟩ => ⟨zdh.mono hh hk hβ h1,zcA.mono h2⟩
 | [],_ :: _,h => h.elim
 | _ :: _,[],h => h.elim
theorem RepC.mono {v : Value} {c : Bool × List zcp} (h : RepC w ok β v c) : RepC w' ok' β' v c := by
 obtain ⟨b,ls⟩ := c
 cases b with
 | true => obtain ⟨vs,e,h⟩ := h; exact ⟨vs,e,zcA.mono hh hk hβ h⟩
 | false => exact zcA.mono hh hk hβ (vs := [v]) h
theorem zdN.mono : ∀ {vs : List Value} {ls : List (Bool × List zcp)},zdN w ok β vs ls → zdN w' ok' β' vs ls
 | [],[],_ => trivial
 | _ :: _,_ :: _,⟨h1,h2⟩ => ⟨RepC.mono hh hk hβ h1,zdN.mono h2⟩
 | [],_ :: _,h => h.elim
 | _ :: _,[],h => h.elim
theorem zcE.mono {v : Value} {t : TV} (h : zcE w ok β v t) : zcE w' ok' β' v t := by
 cases t with
 | lf l => exact zdh.mono hh hk hβ h
 | agg cs => obtain ⟨vs,e,h⟩ := h; exact ⟨vs,e,zcA.mono hh hk hβ h⟩
 | tup cs => obtain ⟨vs,e,h⟩ := h; exact ⟨vs,e,zdN.mono hh hk hβ h⟩
 | rptr cs => obtain ⟨b,o,us,e,hb,hm,h⟩ := h; exact ⟨b,o,us,e,hk b hb,hm.heap (hh b hb),zcA.mono hh hk hβ h⟩
 | eptr id i off sz => obtain ⟨b,n,cap,h1,h2,h3⟩ := h; exact ⟨b,n,cap,hβ _ _ h1,h2,h3⟩
end mono
section lists
variable {w : World} {ok : Nat → Prop} {β : Nat → Option Value}
theorem zcA.length : ∀ {vs : List Value} {ls : List zcp},zcA w ok β vs ls → vs.length = ls.length
 | [],[],_ => rfl
 | _ :: _,_ :: _,⟨_,h⟩ => congrArg (· + 1) h.length
 | [],_ :: _,h => h.elim
 | _ :: _,[],h => h.elim
theorem zcA.append : ∀ {vs vs' : List Value} {ls ls' : List zcp},zcA w ok β vs ls → zcA w ok β vs' ls' → zcA w ok β (vs ++ vs') (ls ++ ls')
 | [],_,[],_,_,h => h
 | _ :: _,_,_ :: _,_,⟨h1,h2⟩,h => ⟨h1,h2.append h⟩
 | [],_,_ :: _,_,h,_ => h.elim
 | _ :: _,_,[],_,h,_ => h.elim
theorem zcA.drop : ∀ (n : Nat) {vs : List Value} {ls : List zcp},zcA w ok β vs ls → zcA w ok β (vs.drop n) (ls.drop n)
 | 0,_,_,h => h
 | _ + 1,[],[],h => h
 | n + 1,_ :: _,_ :: _,⟨_,h⟩ => zcA.drop n h
 | _ + 1,[],_ :: _,h => h.elim
 | _ + 1,_ :: _,[],h => h.elim
theorem zcA.take : ∀ (n : Nat) {vs : List Value} {ls : List zcp},zcA w ok β vs ls → zcA w ok β (vs.take n) (ls.take n)
 | 0,_,_,_ => trivial
 | _ + 1,[],[],h => h
 | n + 1,_ :: _,_ :: _,⟨h1,h⟩ => ⟨h1,zcA.take n h⟩
 | _ + 1,[],_ :: _,h => h.elim
 | _ + 1,_ :: _,[],h => h.elim
theorem zcA.get : ∀ {vs : List Value} {ls : List zcp} {n : Nat} {l : zcp},zcA w ok β vs ls → ls[n]? = some l → ∃ v,vs[n]? = some v ∧ zdh w ok β v l
 | v :: _,_ :: _,0,_,⟨h,_⟩,e => ⟨v,rfl,by simpa using (Option.some.inj e) ▸ h⟩
 | _ :: _,_ :: _,n + 1,_,⟨_,h⟩,e => zcA.get (n := n) h (by simpa using e)
 | [],[],_,_,_,e => by cases e
 | [],_ :: _,_,_,h,_ => h.elim
 | _ :: _,[],_,_,h,_ => h.elim
theorem zdN.get : ∀ {vs : List Value} {ls : List (Bool × List zcp)} {n : Nat} {l : Bool × List zcp},zdN w ok β vs ls → ls[n]? = some l → ∃ v,vs[n]? = some v ∧ RepC w ok β v l
 | v :: _,_ :: _,0,_,⟨h,_⟩,e => ⟨v,rfl,by simpa using (Option.some.inj e) ▸ h⟩
 | _ :: _,_ :: _,n + 1,_,⟨_,h⟩,e => zdN.get (n := n) h (by simpa using e)
 | [],[],_,_,_,e => by cases e
 | [],_ :: _,_,_,h,_ => h.elim
 | _ :: _,[],_,_,h,_ => h.elim
theorem zcM.flat : (t : Ty) → {vs : List Value} → {x : t.den} → zcM w ok t vs x → zcA w ok β vs (flat t x)
 | .int _,_,_,h => by rw [h.1]; exact ⟨⟨rfl,h.2⟩,trivial⟩
 | .bool,_,_,h => by rw [show _ = _ from h]; exact ⟨rfl,trivial⟩
 | .str,_,_,h => by rw [h.1]; exact ⟨⟨rfl,h.2⟩,trivial⟩
 | .sl t,_,xs,h => by
  obtain ⟨A,cap,e,r⟩ := h
  rw [e]
  exact ⟨⟨A,cap,rfl,r⟩,trivial⟩
 | .pair a b,_,_,h => by
  obtain ⟨us,us',e,h1,h2⟩ := h
  rw [e]
  exact (zcM.flat a h1).append (zcM.flat b h2)
theorem zjr : (t : Ty) → {vs : List Value} → {ls : List zcp} → {x : t.den} → {r : List zcp} → zcA w ok β vs ls → unflat t ls = some (x,r) →
  ∃ us us',vs = us ++ us' ∧ zcM w ok t us x ∧ zcA w ok β us' r
 | .int k,vs,ls,x,r,h,e => by
  unfold unflat at e
  split at e
  ·rename_i k' n r'
   split at e
   ·rename_i hk
    subst hk
    cases vs with
    | nil => exact h.elim
    | cons v vs =>
     obtain ⟨⟨hv,hw⟩,h⟩ := h
     cases e
     exact ⟨[v],vs,rfl,⟨by rw [hv],hw⟩,h⟩
   ·cases e
  ·cases e
 | .bool,vs,ls,x,r,h,e => by
  unfold unflat at e
  split at e
  ·cases vs with
   | nil => exact h.elim
   | cons v vs =>
    obtain ⟨hv,h⟩ := h
    cases e
    exact ⟨[v],vs,rfl,congrArg (fun z => [z]) hv,h⟩
  ·cases e
 | .str,vs,ls,x,r,h,e => by
  unfold unflat at e
  split at e
  ·cases vs with
   | nil => exact h.elim
   | cons v vs =>
    obtain ⟨⟨hv,hw⟩,h⟩ := h
    cases e
    exact ⟨[v],vs,rfl,⟨by rw [hv],hw⟩,h⟩
  ·cases e
 | .sl t,vs,ls,x,r,h,e => by
  unfold unflat at e
  split at e
  ·rename_i t' xs r'
   split at e
   ·rename_i ht
    subst ht
    cases vs with
    | nil => exact h.elim
    | cons v vs =>
     obtain ⟨hv,h⟩ := h
     cases e
     exact ⟨[v],vs,rfl,hv,h⟩
   ·cases e
  ·cases vs with
   | nil => exact h.elim
   | cons v vs =>
    obtain ⟨hv,h⟩ := h
    cases e
    refine ⟨[v],vs,rfl,⟨none,0,by rw [show v = _ from hv]; rfl,Nat.le_refl _,Nat.zero_le _,fun _ => rfl,fun i hi => absurd hi (Nat.not_lt_zero i)⟩,h⟩
  ·cases e
 | .pair a b,vs,ls,x,r,h,e => by
  unfold unflat at e
  split at e
  ·rename_i y r1 e1
   split at e
   ·rename_i z r2 e2
    cases e
    obtain ⟨us,us',rfl,h1,h2⟩ := zjr a h e1
    obtain ⟨vs,vs',rfl,h3,h4⟩ := zjr b h2 e2
    exact ⟨us ++ vs,vs',(List.append_assoc _ _ _).symm,⟨us,vs,rfl,h1,h3⟩,h4⟩
   ·cases e
  ·cases e
theorem RepD_toDen {t : Ty} {vs : List Value} {ls : List zcp} {x : t.den} (h : zcA w ok β vs ls) (e : toDen t ls = some x) : zcM w ok t vs x := by
 unfold toDen at e
 split at e
 ·rename_i y e1
  cases e
  obtain ⟨us,us',rfl,h1,h2⟩ := zjr t h e1
  cases us' with
  | nil => simpa using h1
  | cons _ _ => exact h2.elim
 ·cases e
end lists
theorem zjx : (t : Ty) → (x : t.den) → (flat t x).length = t.size
 | .int _,_ => rfl
 | .bool,_ => rfl
 | .str,_ => rfl
 | .sl _,_ => rfl
 | .pair a b,x => by show (flat a x.1 ++ flat b x.2).length = _; rw [List.length_append,zjx a,zjx b]; rfl
end Go.Proofs.YtlfdidaeachpoaaGreat
namespace Go.Proofs.YtlfdidaeachpoaaGreat
open Go Go.RowKit
inductive EB where
 | cells (ls : List zcp)
 | arr (e : TypeId) (t : Ty) (xs : List t.den)
 | raw (e : TypeId) (us : List Value) (o : Option (Nat × zcp))
 | dead
structure Ent where
 w : Bool
 b : EB
structure zdP where
 vc : Bool
 val : TV
 ents : List Ent := []
 fresh : List Ent := []
 shares : Bool := false
def Ent.live (e : Ent) : Bool := match e.b with
 | .dead => false
 | _ => true
abbrev zcl := Nat → List TV → List Ent → Option zdP
abbrev zcJ := Nat → Option Ent
structure zcF where
 vc : Bool
 val : TV
 upd : List (Nat × Ent)
 touch : Bool
 anch : Bool
def zcF.pur (v : TV) : zcF := ⟨true,v,[],false,false⟩
def zcF.if (c : Bool) (v : TV) : zcF := ⟨c,v,[],false,false⟩
def zcF.rd (c : Bool) (v : TV) : zcF := ⟨c,v,[],true,false⟩
def leafOfVal : Value → Option zcp
 | .int k n => if (Lit.int k n).wf then some (.int k n) else none
 | .bool b => some (.bool b)
 | .string s => if s.size ≤ maxLen then some (.str s) else none
 | .slice none 0 0 => some .nil
 | .pointer none => some .nilp
 | _ => none
def zif : List Value → Option (List zcp)
 | [] => some []
 | v :: vs => match leafOfVal v,zif vs with
  | some l,some ls => some (l :: ls)
  | _,_ => none
def tvOfVal : Value → Option TV
 | .agg cs => (zif cs.toList).map .agg
 | .tuple _ => none
 | .nilFunc => some (.lf .undef)
 | v => (leafOfVal v).map .lf
def tyFs (P : Program) (g : TypeId → Option Ty) : List Field → Nat → Option Ty
 | [],_ => none
 | f :: fs,off => match g f.type with
  | none => none
  | some a =>
   if f.offset = off ∧ P.cellsOf f.type = a.size then
    match fs with
    | [] => some a
    | _ :: _ => match tyFs P g fs (off + a.size) with
     | some b => some (.pair a b)
     | none => none
   else none
def tyOf (P : Program) : Nat → TypeId → Option Ty
 | 0,_ => none
 | n + 1,t => match P.underlying t with
  | some (.int k) => some (.int k)
  | some .bool => some .bool
  | some .string => some .str
  | some (.slice e) => match tyOf P n e with
   | some a => if P.cellsOf e = a.size then some (.sl a) else none
   | none => none
  | some (.struct fs) => tyFs P (tyOf P n) fs.toList 0
  | _ => none
def zfx (P : Program) (t : TypeId) : Bool := match P.underlying t with
 | some (.struct _) | some (.array _ _) => true
 | _ => false
def zfY (P : Program) (t : TypeId) : Option (List zcp) :=
 match P.info? t with
 | some i => match i.zero with
  | some z => if z.cells.size = i.size then zif z.cells.toList else none
  | none => none
 | none => none
def TV.leaves : TV → Option (List zcp)
 | .lf .undef => none
 | .lf l => some [l]
 | .agg cs => some cs
 | _ => none
def zcp.solid : zcp → Bool
 | .undef => false
 | _ => true
def zdX (look : zcJ) : zcp → Option (zcp × List Nat)
 | .ref id => match look id with
  | some ⟨_,.arr _ t xs⟩ => some (.dat t xs,[id])
  | _ => none
 | l => some (l,[])
def zdt (look : zcJ) : List zcp → Option (List zcp × List Nat)
 | [] => some ([],[])
 | l :: ls => match zdX look l,zdt look ls with
  | some (l',a),some (ls',b) => some (l' :: ls',a ++ b)
  | _,_ => none
def freezes (look : zcJ) : List Nat → List (Nat × Ent)
 | [] => []
 | id :: ids => match look id with
  | some e => (id,{ e with w := false }) :: freezes look ids
  | none => freezes look ids
def zdy (op : BinOp) (k : IntKind) (x y : Int) : Int :=
 match op with
 | .and => k.wrap (BitVec.ofInt k.bits x &&& BitVec.ofInt k.bits y).toNat
 | .or => k.wrap (BitVec.ofInt k.bits x ||| BitVec.ofInt k.bits y).toNat
 | .xor => k.wrap (BitVec.ofInt k.bits x ^^^ BitVec.ofInt k.bits y).toNat
 | _ => k.wrap (BitVec.ofInt k.bits x &&& ~~~ BitVec.ofInt k.bits y).toNat
def evInt (op : BinOp) (k : IntKind) (x y : Int) : zcF :=
 match op with
 | .add => .pur (.lf (.int k (k.wrap (x + y))))
 | .sub => .pur (.lf (.int k (k.wrap (x - y))))
 | .mul => .pur (.lf (.int k (k.wrap (x * y))))
 | .quo => .if (y != 0) (.lf (.int k (k.wrap (x.tdiv y))))
 | .rem => .if (y != 0) (.lf (.int k (x.tmod y)))
 | .and | .or | .xor | .andNot => .pur (.lf (.int k (zdy op k x y)))
 | .eql => .pur (.lf (.bool (x == y)))
 | .neq => .pur (.lf (.bool (x != y)))
 | .lss => .pur (.lf (.bool (decide (x < y))))
 | .leq => .pur (.lf (.bool (decide (x ≤ y))))
 | .gtr => .pur (.lf (.bool (decide (y < x))))
 | .geq => .pur (.lf (.bool (decide (y ≤ x))))
 | .shl | .shr => .if false (.lf .undef)
def evShift (op : BinOp) (k : IntKind) (x y : Int) : zcF :=
 match op with
 | .shl => .if (decide (0 ≤ y)) (.lf (.int k (k.wrap (x * 2 ^ (min y.toNat k.bits)))))
 | _ => .if (decide (0 ≤ y)) (.lf (.int k (x.fdiv (2 ^ (min y.toNat k.bits)))))
def evStr (op : BinOp) (x y : ByteArray) : Option zcF :=
 match op with
 | .add => some (.if (decide (x.size + y.size ≤ maxLen)) (.lf (.str (x ++ y))))
 | .eql => some (.pur (.lf (.bool (x.toList == y.toList))))
 | .neq => some (.pur (.lf (.bool (!(x.toList == y.toList)))))
 | .lss => some (.pur (.lf (.bool (Op.bytesLess x.toList y.toList))))
 | .leq => some (.pur (.lf (.bool (Op.bytesLess x.toList y.toList || x.toList == y.toList))))
 | .gtr => some (.pur (.lf (.bool (!(Op.bytesLess x.toList y.toList || x.toList == y.toList)))))
 | .geq => some (.pur (.lf (.bool (!Op.bytesLess x.toList y.toList))))
 | _ => none
def leafEq : zcp → zcp → Option Bool
 | .int k a,.int k' b => if k = k' then some (a == b) else none
 | .bool a,.bool b => some (a == b)
 | .str a,.str b => some (a == b)
 | _,_ => none
def zdU : List zcp → List zcp → Option Bool
 | [],[] => some true
 | l :: ls,m :: ms => match leafEq l m,zdU ls ms with
  | some x,some y => some (x && y)
  | _,_ => none
 | _,_ => none
def eqTy (P : Program) : Nat → TypeId → Bool
 | 0,_ => false
 | d + 1,t => match P.underlying t with
  | some .bool | some (.int _) | some .string => true
  | some (.struct fs) => !P.stoodInHeld t && fs.toList.all fun f => f.name != "_" && eqTy P d f.type
  | _ => false
def zex : Ty → List Ty
 | .pair a b => zex a ++ zex b
 | t => [t]
def fit1 : Ty → zcp → Bool
 | .int k,.int k' _ => decide (k = k')
 | .bool,.bool _ => true
 | .str,.str _ => true
 | _,_ => false
def fitL : List Ty → List zcp → Bool
 | [],[] => true
 | t :: ts,l :: ls => fit1 t l && fitL ts ls
 | _,_ => false
def evEq (P : Program) (neg : Bool) (t : TypeId) (x y : TV) : Option zcF :=
 match x,y with
 | .lf (.bool a),.lf (.bool b) => match P.underlying t with
  | some .bool => some (.pur (.lf (.bool ((a == b) != neg))))
  | _ => none
 | .agg xs,.agg ys => match zdU xs ys with
  | some b => match tyOf P 20 t with
   | some ty => if fitL (zex ty) xs && fitL (zex ty) ys && eqTy P 20 t && zfx P t && !(P.eqGuardType P.depth t) then some (.pur (.lf (.bool (b != neg)))) else none
   | none => none
  | none => none
 | .lf .nil,.lf .nil => match P.underlying t with
  | some (.slice _) => some (.pur (.lf (.bool (true != neg))))
  | _ => none
 | .lf (.ptr _ _),.lf .nilp => match P.underlying t with
  | some (.pointer _) => some (.pur (.lf (.bool (false != neg))))
  | _ => none
 | .lf .nilp,.lf .nilp => match P.underlying t with
  | some (.pointer _) => some (.pur (.lf (.bool (true != neg))))
  | _ => none
 | _,_ => none
def evBin (P : Program) (op : BinOp) (t : TypeId) (x y : TV) : Option zcF :=
 match op,x,y with
 | .shl,.lf (.int k a),.lf (.int _ b) | .shr,.lf (.int k a),.lf (.int _ b) => some (evShift op k a b)
 | _,.lf (.int k a),.lf (.int k' b) => if k = k' then some (evInt op k a b) else none
 | _,.lf (.str a),.lf (.str b) => evStr op a b
 | .eql,x,y => evEq P false t x y
 | .neq,x,y => evEq P true t x y
 | _,_,_ => none
def zgq (look : zcJ) : TV → Option (List zcp × Bool)
 | .lf (.ptr id off) => match look id with
  | some ⟨_,.cells ls⟩ => some (ls.drop off,true)
  | _ => none
 | .eptr id i off sz => match look id with
  | some ⟨_,.arr _ t xs⟩ => if t.size = sz then some ((flat t (xs.getD i t.dflt)).drop off,true) else none
  | _ => none
 | .rptr cs => some (cs,false)
 | _ => none
def zgT (P : Program) (look : zcJ) (t : TypeId) (a : TV) : Option zcF :=
 match zgq look a with
 | none => none
 | some (ls,q) => match P.underlying t with
  | none => none
  | some _ =>
   if zfx P t then
    if P.cellsOf t ≤ ls.length then some ⟨true,.agg (ls.take (P.cellsOf t)),[],q,false⟩ else none
   else match ls with
    | l :: _ => some ⟨true,.lf l,[],q,false⟩
    | [] => none
def zfo (look : zcJ) : TV → Option (Nat × Nat × TypeId × List Value × Nat × zcp)
 | .eptr id i 0 1 => match look id with
  | some ⟨true,.raw e us (some (j,l))⟩ => some (id,i,e,us,j,l)
  | _ => none
 | _ => none
def evLoadX (P : Program) (look : zcJ) (t : TypeId) (a : TV) : Option zcF :=
 match zfo look a with
 | none => zgT P look t a
 | some (_,i,_,_,j,l) => match P.underlying t with
  | none => none
  | some _ => if zfx P t then none else some ⟨decide (i = j),.lf l,[],true,false⟩
def splice (old new : List zcp) (off : Nat) : List zcp := old.take off ++ (new ++ old.drop (off + new.length))
def evStore (P : Program) (look : zcJ) (t : TypeId) (a v : TV) : Option zcF :=
 match v.leaves with
 | none => none
 | some ls =>
  if ls.length = P.cellsOf t ∧ ls.all zcp.solid = true ∧ (P.underlying t).isSome = true then
   match a with
   | .lf (.ptr id off) => match look id with
    | some ⟨true,.cells old⟩ => if off + ls.length ≤ old.length then some ⟨true,.lf .undef,[(id,⟨true,.cells (splice old ls off)⟩)],true,true⟩ else none
    | _ => none
   | .eptr id i off sz => match look id,zdt look ls with
    | some ⟨true,.arr e ty xs⟩,some (ls',ids) =>
     if ty.size = sz ∧ off + ls'.length ≤ ty.size ∧ ids.contains id = false then
      match toDen ty (splice (flat ty (xs.getD i ty.dflt)) ls' off) with
      | some y => some ⟨true,.lf .undef,freezes look ids ++ [(id,⟨true,.arr e ty (xs.set i y)⟩)],true,true⟩
      | none => none
     else none
    | _,_ => none
   | _ => none
  else none
def evStoreX (P : Program) (look : zcJ) (t : TypeId) (a v : TV) : Option zcF :=
 match zfo look a with
 | none => evStore P look t a v
 | some (id,i,e,us,j,_) => match v.leaves with
  | some [l] => if P.cellsOf t = 1 ∧ l.solid = true ∧ (P.underlying t).isSome = true then some ⟨decide (i = j),.lf .undef,[(id,⟨true,.raw e us (some (j,l))⟩)],true,true⟩ else none
  | _ => none
def zdv (d : Nat) : Nat := (d % 65536) * 16
def zco : Nat := 1048576
theorem zgy (d i : Nat) (h : i < 16) : zdv d + i < zco := by
 unfold zdv zco
 have := Nat.mod_lt d (show 0 < 65536 by decide)
 omega
def zgL (look : zcJ) (dst : Option Nat) (ls : List zcp) : Option zcF :=
 match dst with
 | none => none
 | some d => match look (zdv d) with
  | some _ => none
  | none => some ⟨true,.lf (.ptr (zdv d) 0),[(zdv d,⟨true,.cells ls⟩)],false,false⟩
def fillL (place : Nat → Option (Nat × Nat)) (cells : List zcp) : List (Nat × List zcp) → Option (List zcp)
 | [] => some cells
 | (i,ls) :: rest => match place i with
  | none => none
  | some (off,size) => if ls.length = size ∧ off + ls.length ≤ cells.length then fillL place (splice cells ls off) rest else none
def zij (ρ : Operand → Option TV) : List (Nat × Operand) → Option (List (Nat × List zcp))
 | [] => some []
 | (i,x) :: r => match (ρ x).bind TV.leaves,zij ρ r with
  | some ls,some r' => some ((i,ls) :: r')
  | _,_ => none
def evBuild (P : Program) (t : TypeId) (parts : List (Nat × List zcp)) : Option zcF :=
 match P.underlying t,zfY P t with
 | some (.struct fs),some z => match fs.toList.mapM (fun f => (P.info? f.type).map fun i => (f.offset,i.size)) with
  | some places => match fillL (fun i => places[i]?) z parts with
   | some ls => some (.pur (.agg ls))
   | none => none
  | none => none
 | _,_ => none
def elemsOf (t : Ty) (z : t.den) : List (Nat × List zcp) → List t.den → Option (List t.den)
 | [],xs => some xs
 | (i,ls) :: r,xs => match toDen t ls with
  | some y => if i < xs.length then elemsOf t z r (xs.set i y) else none
  | none => none
def zfi (look : zcJ) : List (Nat × List zcp) → Option (List (Nat × List zcp) × List Nat)
 | [] => some ([],[])
 | (i,ls) :: r => match zdt look ls,zfi look r with
  | some (ls',a),some (r',b) => some ((i,ls') :: r',a ++ b)
  | _,_ => none
def zeroOf (P : Program) (e : TypeId) : Option ((t : Ty) × t.den) :=
 match tyOf P 20 e,zfY P e with
 | some t,some z => match toDen t z with
  | some d => if t.size = P.cellsOf e then some ⟨t,d⟩ else none
  | none => none
 | _,_ => none
def zfM (P : Program) (look : zcJ) (dst : Option Nat) (t : TypeId) (len : Nat) (parts : List (Nat × List zcp)) : Option zcF :=
 match dst,P.underlying t,zfi look parts with
 | some d,some (.slice e),some (parts',ids) => match zeroOf P e,look (zdv d) with
  | some ⟨ty,z⟩,none =>
   if len * ty.size ≤ 2 ^ 24 then
    match elemsOf ty z parts' (List.replicate len z) with
    | some xs => some ⟨true,.lf (.ref (zdv d)),freezes look ids ++ [(zdv d,⟨true,.arr e ty xs⟩)],!ids.isEmpty,!ids.isEmpty⟩
    | none => none
   else none
  | _,_ => none
 | _,_,_ => none
def zgi (P : Program) (look : zcJ) (dst : Option Nat) (t : TypeId) (l c : TV) : Option zcF :=
 match dst,P.underlying t,l,c with
 | some d,some (.slice e),.lf (.int _ n),.lf (.int _ m) => match zeroOf P e,look (zdv d) with
  | some ⟨.sl _,_⟩,none => match zfY P e with
   | some [.nil] =>
    some ⟨decide (0 ≤ n) && decide (n = m) && decide ((P.bytesOf e : Int) * n ≤ 281474976710656) && decide (n ≤ 9223372036854775807),.lf (.ref (zdv d)),
     [(zdv d,⟨true,.raw e (List.replicate n.toNat (.slice none 0 0)) none⟩)],false,false⟩
   | _ => none
  | some ⟨ty,z⟩,none =>
   some ⟨decide (0 ≤ n) && decide (n = m) && decide ((P.bytesOf e : Int) * n ≤ 281474976710656) && decide (n ≤ 9223372036854775807),.lf (.ref (zdv d)),
    [(zdv d,⟨true,.arr e ty (List.replicate n.toNat z)⟩)],false,false⟩
  | _,_ => none
 | _,_,_,_ => none
def listOf (look : zcJ) : TV → Option ((t : Ty) × List t.den × Bool)
 | .lf (.dat t xs) => some ⟨t,xs,false⟩
 | .lf (.ref id) => match look id with
  | some ⟨_,.arr _ t xs⟩ => some ⟨t,xs,true⟩
  | _ => none
 | _ => none
def zii (P : Program) (look : zcJ) (dst : Option Nat) (ts : Array TypeId) (s x : TV) : Option zcF :=
 match dst,ts.toList with
 | some d,[st,st'] =>
  if st' = st then
   match P.underlying st with
   | some (.slice e) => match zeroOf P e,look (zdv d) with
    | some ⟨ty,_⟩,none => match s,listOf look x with
     | .lf .nil,some ⟨ty',ys,q⟩ =>
      if h : ty' = ty then
       some ⟨decide (ys.length * P.bytesOf e ≤ 140737488355328) && decide (ys.length ≤ maxLen),.lf (.ref (zdv d)),[(zdv d,⟨true,.arr e ty (h ▸ ys)⟩)],q,false⟩
      else none
     | .lf .nil,none => match x with
      | .lf .nil => some ⟨true,.lf .nil,[],false,false⟩
      | _ => none
     | .lf (.ref id),some ⟨ty',ys,_⟩ => match look id with
      | some ⟨true,.arr e' ty0 xs⟩ =>
       if h : ty' = ty0 then
        if e' = e ∧ ty0 = ty then
         some ⟨decide ((xs.length + ys.length) * P.bytesOf e ≤ 140737488355328) && decide (xs.length + ys.length ≤ maxLen),.lf (.ref (zdv d)),[(id,⟨false,.dead⟩),(zdv d,⟨true,.arr e ty0 (xs ++ h ▸ ys)⟩)],true,true⟩
        else none
       else none
      | _ => none
     | .lf (.ref id),none => match x,look id with
      | .lf .nil,some ⟨true,.arr e' ty0 xs⟩ =>
       if e' = e ∧ ty0 = ty then some ⟨true,.lf (.ref (zdv d)),[(id,⟨false,.dead⟩),(zdv d,⟨true,.arr e ty0 xs⟩)],true,true⟩ else none
      | _,_ => none
     | _,_ => none
    | _,_ => none
   | _ => none
  else none
 | _,_ => none
def evSlice (P : Program) (t : TypeId) (x : TV) (lo hi mx : Option TV) : Option zcF :=
 match x,mx with
 | .lf (.dat ty xs),none => match P.underlying t with
  | some (.slice e) => if P.cellsOf e = ty.size then
    match lo,hi with
    | none,none => some (.pur (.lf (.dat ty xs)))
    | some (.lf (.int _ l)),none => some (.if (decide (0 ≤ l) && decide (l ≤ (xs.length : Int))) (.lf (.dat ty (xs.drop l.toNat))))
    | none,some (.lf (.int _ h)) => some (.if (decide (0 ≤ h) && decide (h ≤ (xs.length : Int))) (.lf (.dat ty (xs.take h.toNat))))
    | some (.lf (.int _ l)),some (.lf (.int _ h)) =>
     some (.if (decide (0 ≤ l) && decide (l ≤ h) && decide (h ≤ (xs.length : Int))) (.lf (.dat ty ((xs.drop l.toNat).take (h.toNat - l.toNat)))))
    | _,_ => none
   else none
  | _ => none
 | .lf (.str s),none => match P.underlying t with
  | some .string => match lo,hi with
   | none,none => some (.pur (.lf (.str (s.extract 0 s.size))))
   | some (.lf (.int _ l)),none => some (.if (decide (0 ≤ l) && decide (l ≤ (s.size : Int))) (.lf (.str (s.extract l.toNat s.size))))
   | none,some (.lf (.int _ h)) => some (.if (decide (0 ≤ h) && decide (h ≤ (s.size : Int))) (.lf (.str (s.extract 0 h.toNat))))
   | some (.lf (.int _ l)),some (.lf (.int _ h)) =>
    some (.if (decide (0 ≤ l) && decide (l ≤ h) && decide (h ≤ (s.size : Int))) (.lf (.str (s.extract l.toNat h.toNat))))
   | _,_ => none
  | _ => none
 | _,_ => none
def zim (P : Program) (look : zcJ) (t : TypeId) (x : TV) (lo hi mx : Option TV) : Option zcF :=
 match x with
 | .lf (.ref id) => match look id with
  | some ⟨_,.arr e ty xs⟩ => match evSlice P t (.lf (.dat ty xs)) lo hi mx with
   | some r => some { r with upd := [(id,⟨false,.arr e ty xs⟩)],touch := true,anch := true }
   | none => none
  | _ => none
 | _ => evSlice P t x lo hi mx
def zjo (P : Program) (t : TypeId) (x : TV) (f : Nat) : Option zcF :=
 match P.underlying t with
 | some (.struct fs) => match fs[f]? with
  | some fd =>
   if P.cellsOf fd.type = 0 then none else
   match x with
   | .lf (.ptr id off) => some (.pur (.lf (.ptr id (off + fd.offset))))
   | .eptr id i off sz => some (.pur (.eptr id i (off + fd.offset) sz))
   | .rptr cs => some (.pur (.rptr (cs.drop fd.offset)))
   | _ => none
  | none => none
 | _ => none
def evField (P : Program) (t : TypeId) (x : TV) (f : Nat) : Option zcF :=
 match P.underlying t,x with
 | some (.struct fs),.agg cs => match fs[f]? with
  | some fd => match P.underlying fd.type with
   | none => none
   | some _ =>
    if zfx P fd.type then some (.pur (.agg ((cs.drop fd.offset).take (P.cellsOf fd.type))))
    else match cs.drop fd.offset with
     | l :: _ => some (.pur (.lf l))
     | [] => none
  | none => none
 | _,_ => none
def zgg (P : Program) (look : zcJ) (t : TypeId) (x ix : TV) : Option zcF :=
 match P.underlying t,ix with
 | some (.slice e),.lf (.int _ i) => match x with
  | .lf (.dat ty xs) =>
   if P.cellsOf e = ty.size then some (.if (decide (0 ≤ i) && decide (i < (xs.length : Int))) (.rptr (flat ty (xs.getD i.toNat ty.dflt)))) else none
  | .lf (.ref id) => match look id with
   | some ⟨_,.arr _ ty xs⟩ =>
    if P.cellsOf e = ty.size then some (.rd (decide (0 ≤ i) && decide (i < (xs.length : Int))) (.eptr id i.toNat 0 ty.size)) else none
   | some ⟨_,.raw _ us _⟩ =>
    if P.cellsOf e = 1 then some (.rd (decide (0 ≤ i) && decide (i < (us.length : Int))) (.eptr id i.toNat 0 1)) else none
   | _ => none
  | _ => none
 | _,_ => none
def byteAt (s : ByteArray) (i : Nat) : Int := ((s.data.toList.getD i 0).toNat : Int)
def evIndex (P : Program) (t : TypeId) (x ix : TV) : Option zcF :=
 match P.underlying t,x,ix with
 | some .string,.lf (.str s),.lf (.int _ i) => some (.if (decide (0 ≤ i) && decide (i < (s.size : Int))) (.lf (.int .u8 (byteAt s i.toNat))))
 | _,_,_ => none
def evConvert (P : Program) (src dst : TypeId) (x : TV) : Option zcF :=
 match P.underlying src,P.underlying dst,x with
 | some _,some (.int k),.lf (.int _ n) => some (.pur (.lf (.int k (k.wrap n))))
 | some .string,some .string,.lf (.str s) => some (.pur (.lf (.str s)))
 | _,_,_ => none
def evExtract (x : TV) (i : Nat) : Option zcF :=
 match x with
 | .tup cs => match cs[i]? with
  | some (true,ls) => some (.pur (.agg ls))
  | some (false,[l]) => some (.pur (.lf l))
  | _ => none
 | _ => none
def evLen (P : Program) (look : zcJ) (ts : Array TypeId) (x : TV) : Option zcF :=
 match ts[0]? with
 | none => none
 | some t => match P.underlying t,x with
  | some (.slice _),.lf (.dat _ xs) => some (.pur (.lf (.int .i64 xs.length)))
  | some (.slice _),.lf .nil => some (.pur (.lf (.int .i64 0)))
  | some (.slice _),.lf (.ref id) => match look id with
   | some ⟨_,.arr _ _ xs⟩ => some (.rd true (.lf (.int .i64 xs.length)))
   | some ⟨_,.raw _ us _⟩ => some (.rd true (.lf (.int .i64 us.length)))
   | _ => none
  | some .string,.lf (.str s) => some (.pur (.lf (.int .i64 s.size)))
  | _,_ => none
def evMinMax (mx : Bool) : List TV → Option zcF
 | [.lf (.int k a),.lf (.int k' b)] => if k = k' then some (.pur (.lf (.int k (if mx then (if b > a then b else a) else (if b < a then b else a))))) else none
 | _ => none
def zfw : List Nat → List Nat → List Nat
 | [],acc => acc
 | id :: ids,acc => zfw ids (if acc.contains id then acc else acc ++ [id])
def zdb : zcp → List Nat
 | .ptr id _ => [id]
 | .ref id => [id]
 | .fn _ caps => caps
 | _ => []
def tvLeaves : TV → Option (List zcp)
 | .lf l => some [l]
 | .agg cs => some cs
 | _ => none
def zeA : List TV → Option (List zcp)
 | [] => some []
 | t :: ts => match tvLeaves t,zeA ts with
  | some a,some b => some (a ++ b)
  | _,_ => none
def idxOf : List Nat → Nat → Nat
 | [],_ => 0
 | j :: js,id => if j = id then 0 else idxOf js id + 1
def zdB (g : Nat → Nat) : zcp → zcp
 | .ptr id off => .ptr (g id) off
 | .ref id => .ref (g id)
 | .fn f caps => .fn f (caps.map g)
 | l => l
def renTV (g : Nat → Nat) : TV → TV
 | .lf l => .lf (zdB g l)
 | .agg cs => .agg (cs.map (zdB g))
 | .tup cs => .tup (cs.map fun c => (c.1,c.2.map (zdB g)))
 | .rptr cs => .rptr (cs.map (zdB g))
 | .eptr id i off sz => .eptr (g id) i off sz
def zdw (g : Nat → Nat) : EB → EB
 | .cells ls => .cells (ls.map (zdB g))
 | .raw e us (some (i,l)) => .raw e us (some (i,zdB g l))
 | b => b
def zdV (look : zcJ) : TV → Option (TV × List Nat)
 | .lf l => match zdX look l with
  | some (l',a) => some (.lf l',a)
  | none => none
 | .agg cs => match zdt look cs with
  | some (cs',a) => some (.agg cs',a)
  | none => none
 | _ => none
def zdz (look : zcJ) : List TV → Option (List TV × List Nat)
 | [] => some ([],[])
 | t :: ts => match zdV look t,zdz look ts with
  | some (t',a),some (ts',b) => some (t' :: ts',a ++ b)
  | _,_ => none
def zey : EB → List Nat
 | .cells ls => ls.flatMap zdb
 | .raw _ _ (some (_,l)) => zdb l
 | _ => []
def zdW (look : zcJ) : Nat → List Nat → List Nat
 | 0,ids => ids
 | n + 1,ids => zdW look n (zfw (ids.flatMap fun id => match look id with
  | some e => zey e.b
  | none => []) ids)
def zfQ (look : zcJ) (all : List Nat) : List Nat → Option (List Ent)
 | [] => some []
 | id :: ids => match look id,zfQ look all ids with
  | some e,some es => if e.w && e.live && (zey e.b).all (fun j => all.contains j) then some (⟨true,zdw (idxOf all) e.b⟩ :: es) else none
  | _,_ => none
def zipUpd (g : Nat → Nat) : List Nat → List Ent → List (Nat × Ent)
 | id :: ids,e :: es => (id,⟨e.w,zdw g e.b⟩) :: zipUpd g ids es
 | _,_ => []
def zgB (g : Nat → Nat) (k : Nat) : List Ent → List (Nat × Ent)
 | [] => []
 | e :: es => (k,⟨e.w,zdw g e.b⟩) :: zgB g (k + 1) es
def zfr (look : zcJ) (k : Nat) : Nat → Bool
 | 0 => true
 | n + 1 => (look k).isNone && zfr look (k + 1) n
def zef (ids : List Nat) (k0 k : Nat) : Nat := if k < ids.length then ids.getD k 0 else k0 + (k - ids.length)
def zfT : List Nat → Bool
 | [] => true
 | x :: xs => !xs.contains x && zfT xs
def zdI (T : zcl) (look : zcJ) (dst : Option Nat) (f : Nat) (args : List TV) (lent : List Nat) : Option zcF :=
 match zeA args with
 | none => none
 | some ls =>
  let roots := ls.flatMap zdb
  let ids := zdW look 3 (zfw roots [])
  match zfQ look ids ids with
  | none => none
  | some es =>
   match T f (args.map (renTV (idxOf ids))) es with
   | none => none
   | some r =>
    let k0 := zdv (dst.getD 0) + 1
    if r.ents.length = ids.length ∧ zfr look k0 r.fresh.length = true ∧ r.fresh.length < 15 ∧ zfT ids = true ∧ roots.all (fun j => ids.contains j) = true ∧ lent.all (fun j => !ids.contains j) = true then
     let fr := if r.shares then freezes look lent else []
     some ⟨r.vc,renTV (zef ids k0) r.val,fr ++ (zipUpd (zef ids k0) ids r.ents ++ zgB (zef ids k0) k0 r.fresh),!ids.isEmpty || !lent.isEmpty,!ids.isEmpty || !fr.isEmpty⟩
    else none
def evCall (T : zcl) (look : zcJ) (dst : Option Nat) (f : Nat) (args : List TV) : Option zcF :=
 match zdz look args with
 | none => zdI T look dst f args []
 | some (args',lent) => match zdI T look dst f args' lent with
  | some r => some r
  | none => zdI T look dst f args []
def tvsOf (ρ : Operand → Option TV) : List Operand → Option (List TV)
 | [] => some []
 | x :: xs => match ρ x,tvsOf ρ xs with
  | some v,some vs => some (v :: vs)
  | _,_ => none
def capsOf : List TV → Option (List Nat)
 | [] => some []
 | .lf (.ptr id 0) :: r => match capsOf r with
  | some ids => some (id :: ids)
  | none => none
 | _ => none
def optTV (ρ : Operand → Option TV) : Option Operand → Option (Option TV)
 | none => some none
 | some x => (ρ x).map some
def zeD (P : Program) (T : zcl) (look : zcJ) (ρ : Operand → Option TV) (o : Oper) : Option zcF :=
 match o.op with
 | .move x | .assign x => (ρ x).map .pur
 | .pick c a b => match ρ c,ρ a,ρ b with
  | some (.lf (.bool true)),some v,_ => some (.pur v)
  | some (.lf (.bool false)),_,some v => some (.pur v)
  | _,_,_ => none
 | .alloc elem => match zfY P elem with
  | some ls => zgL look o.dst ls
  | none => none
 | .box _ x => match (ρ x).bind TV.leaves with
  | some ls => zgL look o.dst ls
  | none => none
 | .build t parts => match zij ρ parts.toList with
  | some ps => evBuild P t ps
  | none => none
 | .buildSlice t len parts => match zij ρ parts.toList with
  | some ps => zfM P look o.dst t len ps
  | none => none
 | .load t a => (ρ a).bind (evLoadX P look t)
 | .store t a x => match ρ a,ρ x with
  | some a,some v => evStoreX P look t a v
  | _,_ => none
 | .nilCheck x => match ρ x with
  | some (.lf (.ptr id off)) => some (.pur (.lf (.ptr id off)))
  | some (.eptr id i off sz) => some (.pur (.eptr id i off sz))
  | some (.rptr cs) => some (.pur (.rptr cs))
  | some (.lf (.fn f caps)) => some (.pur (.lf (.fn f caps)))
  | _ => none
 | .binOp op t x y _ => match ρ x,ρ y with
  | some x,some y => evBin P op t x y
  | _,_ => none
 | .unOp op _ x => match op,ρ x with
  | .not,some (.lf (.bool b)) => some (.pur (.lf (.bool !b)))
  | .neg,some (.lf (.int k n)) => some (.pur (.lf (.int k (k.wrap (0 - n)))))
  | .xor,some (.lf (.int k n)) => some (.pur (.lf (.int k (zdy .xor k (if k.signed = true then -1 else k.max) n))))
  | _,_ => none
 | .convert src dst x => (ρ x).bind (evConvert P src dst)
 | .makeFunc fn first captured => match fn,first.toList,(tvsOf ρ captured.toList).bind capsOf with
  | .func f,[],some ids => some (.pur (.lf (.fn f ids)))
  | _,_,_ => none
 | .makeSlice t l c => match ρ l,ρ c with
  | some l,some c => zgi P look o.dst t l c
  | _,_ => none
 | .slice t x lo hi mx => match ρ x,optTV ρ lo,optTV ρ hi,optTV ρ mx with
  | some x,some lo,some hi,some mx => zim P look t x lo hi mx
  | _,_,_,_ => none
 | .fieldAddr t x f => (ρ x).bind fun x => zjo P t x f
 | .field t x f => (ρ x).bind fun x => evField P t x f
 | .indexAddr t x i => match ρ x,ρ i with
  | some x,some i => zgg P look t x i
  | _,_ => none
 | .index t x i => match ρ x,ρ i with
  | some x,some i => evIndex P t x i
  | _,_ => none
 | .extract x i => (ρ x).bind fun x => evExtract x i
 | .call c => match tvsOf ρ c.args.toList with
  | none => none
  | some args => match c.callee with
   | .value f => match ρ f with
    | some (.lf (.fn f caps)) => evCall T look o.dst f (args ++ caps.map fun id => .lf (.ptr id 0))
    | _ => none
   | .builtin .append => match args with
    | [s,x] => zii P look o.dst c.argTypes s x
    | _ => none
   | .builtin .len => match args with
    | [x] => evLen P look c.argTypes x
    | _ => none
   | .builtin .max => evMinMax true args
   | .builtin .min => evMinMax false args
   | _ => none
 | _ => none
end Go.Proofs.YtlfdidaeachpoaaGreat
namespace Go.Proofs.YtlfdidaeachpoaaGreat
open Go Go.RowKit
def blk : Value → Option Nat
 | .pointer (some a) => some a.block
 | .slice (some a) _ _ => some a.block
 | _ => none
def zcX (w : World) (ok : Nat → Prop) (t : Ty) (us : List Value) (xs : List t.den) : Prop :=
 ∀ i (h : i < xs.length),zcM w ok t ((us.drop (i * t.size)).take t.size) xs[i]
def RawRep (w : World) (ok : Nat → Prop) (β : Nat → Option Value) (us vs : List Value) : Option (Nat × zcp) → Prop
 | none => vs = us
 | some (i,l) => ∃ u,i < us.length ∧ vs = us.set i u ∧ zdh w ok β u l
theorem RawRep.to {w : World} {ok : Nat → Prop} {β : Nat → Option Value} {w' : World} {ok' : Nat → Prop} {β' : Nat → Option Value} {us vs : List Value} {o : Option (Nat × zcp)}
  (f : ∀ u i l,o = some (i,l) → zdh w ok β u l → zdh w' ok' β' u l) (h : RawRep w ok β us vs o) : RawRep w' ok' β' us vs o := by
 match o,h with
 | none,h => exact h
 | some (i,l),⟨u,h1,h2,h3⟩ => exact ⟨u,h1,h2,f u i l rfl h3⟩
def zdo (w : World) (ok : Nat → Prop) (β : Nat → Option Value) (id : Nat) : EB → Prop
 | .dead => True
 | .cells ls => ∃ g cs e,β id = some (.pointer (some ⟨g,0,none⟩)) ∧ w.heap[g]? = some (.cells cs e (0,0)) ∧ zcA w ok β cs.toList ls
 | .arr e t xs => ∃ v us,β id = some v ∧ w.ownsRow 0 e t.size v xs.length us ∧ zcX w ok t us xs
 | .raw e us o => ∃ v vs,β id = some v ∧ w.ownsRow 0 e 1 v us.length vs ∧ RawRep w ok β us vs o
structure Fr (w0 : World) (own : Nat → Prop) (w : World) : Prop where
 os : w.os = w0.os
 tape : w.tape = w0.tape
 output : w.output = w0.output
 size : w0.heap.size ≤ w.heap.size
 block : ∀ b,b < w0.heap.size → ¬ own b → w.heap[b]? = w0.heap[b]?
theorem Fr.refl (w : World) (own : Nat → Prop) : Fr w own w := ⟨rfl,rfl,rfl,Nat.le_refl _,fun _ _ _ => rfl⟩
structure Inv (w0 : World) (own : Nat → Prop) (w : World) (β : Nat → Option Value) (ok : Nat → Prop) (h : zcJ) : Prop where
 fr : Fr w0 own w
 okLt : ∀ b,ok b → b < w.heap.size
 dom : ∀ id v,β id = some v → ∃ e,h id = some e
 ent : ∀ id e,h id = some e → zdo w ok β id e.b
 dw : ∀ id e,h id = some e → e.w = true → e.live = true
 wr : ∀ id e v g,h id = some e → e.w = true → β id = some v → blk v = some g → ¬ ok g ∧ (own g ∨ w0.heap.size ≤ g)
 ro : ∀ id e v g,h id = some e → e.w = false → e.live = true → β id = some v → blk v = some g → ok g
 sep : ∀ i e v j e' v' g,i ≠ j → h i = some e → h j = some e' → e.w = true → e'.live = true → β i = some v → β j = some v' → blk v = some g → blk v' = some g → False
def zcR (h : zcJ) (id : Nat) (e : Ent) : zcJ := fun j => if j = id then some e else h j
def zcU (h : zcJ) : List (Nat × Ent) → zcJ
 | [] => h
 | x :: r => zcU (zcR h x.1 x.2) r
theorem zhd (h : zcJ) : ∀ (l r : List (Nat × Ent)),zcU h (l ++ r) = zcU (zcU h l) r
 | [],_ => rfl
 | _ :: l,r => zhd _ l r
theorem zgX {w : World} {e : TypeId} {size n : Nat} {v : Value} {us : List Value} (h : w.ownsRow 0 e size v n us) : blk v = v.ownBlock := by
 rcases h.2 with ⟨rfl,_⟩ | ⟨g,cap,cur,rfl,_⟩ <;> rfl
theorem zjf {w w' : World} {e : TypeId} {size n : Nat} {v : Value} {us : List Value} (h : w.ownsRow 0 e size v n us)
  (hb : ∀ g,blk v = some g → w'.heap[g]? = w.heap[g]?) : w'.ownsRow 0 e size v n us := by
 refine ⟨h.1,?_⟩
 rcases h.2 with hn | ⟨g,cap,cur,rfl,hb0,hg,r⟩
 ·exact .inl hn
 ·exact .inr ⟨g,cap,cur,rfl,hb0,by rw [hb g rfl]; exact hg,r⟩
theorem zcX.mono {w w' : World} {ok ok' : Nat → Prop} {t : Ty} {us : List Value} {xs : List t.den} (hh : ∀ b,ok b → w'.heap[b]? = w.heap[b]?) (hk : ∀ b,ok b → ok' b)
  (h : zcX w ok t us xs) : zcX w' ok' t us xs := fun i hi => (h i hi).mono hh hk t
theorem zdo.mono {w w' : World} {ok ok' : Nat → Prop} {β β' : Nat → Option Value} {id : Nat} {b : EB} (hh : ∀ b,ok b → w'.heap[b]? = w.heap[b]?) (hk : ∀ b,ok b → ok' b)
  (hβ : ∀ id v,β id = some v → β' id = some v) (hb : ∀ v g,β id = some v → blk v = some g → w'.heap[g]? = w.heap[g]?) (h : zdo w ok β id b) : zdo w' ok' β' id b := by
 cases b with
 | dead => trivial
 | cells ls =>
  obtain ⟨g,cs,e,h1,h2,h3⟩ := h
  exact ⟨g,cs,e,hβ _ _ h1,by rw [hb _ g h1 rfl]; exact h2,zcA.mono hh hk hβ h3⟩
 | arr e t xs =>
  obtain ⟨v,us,h1,h2,h3⟩ := h
  exact ⟨v,us,hβ _ _ h1,zjf h2 (fun g hg => hb _ g h1 hg),h3.mono hh hk⟩
 | raw e us o =>
  obtain ⟨v,vs,h1,h2,h3⟩ := h
  exact ⟨v,vs,hβ _ _ h1,zjf h2 (fun g hg => hb _ g h1 hg),h3.to fun _ _ _ _ h => h.mono hh hk hβ⟩
section
variable {w0 : World} {own : Nat → Prop} {w w' : World} {β : Nat → Option Value} {ok : Nat → Prop} {h : zcJ}
theorem Inv.lt (I : Inv w0 own w β ok h) {id : Nat} {e : Ent} {v : Value} {g : Nat} (he : h id = some e) (hl : e.live = true) (hv : β id = some v) (hg : blk v = some g) : g < w.heap.size := by
 have hr := I.ent id e he
 obtain ⟨ew,eb⟩ := e
 cases eb with
 | dead => cases hl
 | cells ls =>
  obtain ⟨g',cs,e',h1,h2,_⟩ := hr
  rw [hv] at h1
  cases h1
  cases hg
  exact (Array.getElem?_eq_some_iff.1 h2).1
 | arr e' t xs =>
  obtain ⟨v',us,h1,h2,_⟩ := hr
  rw [hv] at h1
  cases h1
  rw [zgX h2] at hg
  exact (h2.lt g hg).2
 | raw e' us o =>
  obtain ⟨v',vs,h1,h2,_⟩ := hr
  rw [hv] at h1
  cases h1
  rw [zgX h2] at hg
  exact (h2.lt g hg).2
theorem Inv.heap (I : Inv w0 own w β ok h) (hh : w'.heap = w.heap) (h1 : w'.os = w.os) (h2 : w'.tape = w.tape) (h3 : w'.output = w.output) : Inv w0 own w' β ok h := by
 obtain ⟨f,a,d,b,dw,c,r,s⟩ := I
 refine ⟨⟨h1.trans f.os,h2.trans f.tape,h3.trans f.output,by rw [hh]; exact f.size,by rw [hh]; exact f.block⟩,by rw [hh]; exact a,d,fun id e he => ?_,dw,c,r,s⟩
 exact (b id e he).mono (fun _ _ => by rw [hh]) (fun _ h => h) (fun _ _ h => h) (fun _ _ _ _ => by rw [hh])
theorem Inv.put (I : Inv w0 own w β ok h) (id : Nat) (b : EB) (v : Value) (ok' : Nat → Prop)
  (hos : w'.os = w.os) (htape : w'.tape = w.tape) (hout : w'.output = w.output) (hsize : w.heap.size ≤ w'.heap.size)
  (hblock : ∀ g,g < w.heap.size → blk v ≠ some g → w'.heap[g]? = w.heap[g]?)
  (hk : ∀ g,ok g → ok' g) (hkn : ∀ g,ok' g → ok g ∨ (w.heap.size ≤ g ∧ g < w'.heap.size ∧ blk v ≠ some g))
  (hid : β id = none ∨ β id = some v)
  (hmine : ∀ g,blk v = some g → (¬ ok g ∧ (own g ∨ w0.heap.size ≤ g) ∧ ∀ j e v',j ≠ id → h j = some e → e.live = true → β j = some v' → blk v' ≠ some g))
  (hlive : (⟨true,b⟩ : Ent).live = true)
  (hrep : zdo w' ok' (fun j => if j = id then some v else β j) id b) :
  Inv w0 own w' (fun j => if j = id then some v else β j) ok' (zcR h id ⟨true,b⟩) := by
 have hβ : ∀ j u,β j = some u → (fun j => if j = id then some v else β j) j = some u := fun j u hj => by
  by_cases e : j = id
  ·subst e
   rcases hid with hi | hi
   ·rw [hi] at hj; cases hj
   ·rw [hi] at hj; simpa using hj
  ·simpa [e] using hj
 have hokh : ∀ g,ok g → w'.heap[g]? = w.heap[g]? := fun g hg => hblock g (I.okLt g hg) fun e => (hmine g e).1 hg
 refine ⟨⟨hos.trans I.fr.os,htape.trans I.fr.tape,hout.trans I.fr.output,Nat.le_trans I.fr.size hsize,fun g hg hn => ?_⟩,?_,?_,?_,?_,?_,?_,?_⟩
 ·rw [hblock g (Nat.lt_of_lt_of_le hg I.fr.size) fun e => ?_]
  ·exact I.fr.block g hg hn
  ·rcases (hmine g e).2.1 with h1 | h1
   ·exact hn h1
   ·omega
 ·intro g hg
  rcases hkn g hg with h1 | h1
  ·exact Nat.lt_of_lt_of_le (I.okLt g h1) hsize
  ·exact h1.2.1
 ·intro j u hj
  by_cases e : j = id
  ·exact ⟨⟨true,b⟩,by simp [zcR,e]⟩
  ·simp only [e,if_false] at hj
   obtain ⟨e',he'⟩ := I.dom j u hj
   exact ⟨e',by simpa [zcR,e] using he'⟩
 ·intro j e he
  by_cases ej : j = id
  ·subst ej
   simp [zcR] at he
   subst he
   exact hrep
  ·simp [zcR,ej] at he
   by_cases hl : e.live = true
   ·refine (I.ent j e he).mono hokh hk hβ fun u g hu hg => ?_
    exact hblock g (I.lt he hl hu hg) fun hv => (hmine g hv).2.2 j e u ej he hl hu hg
   ·obtain ⟨ew,eb⟩ := e
    cases eb with
    | dead => trivial
    | _ => exact absurd rfl hl
 ·intro j e he hw
  by_cases ej : j = id
  ·subst ej
   simp [zcR] at he
   subst he
   exact hlive
  ·simp [zcR,ej] at he
   exact I.dw j e he hw
 ·intro j e u g he hw hu hg
  by_cases ej : j = id
  ·subst ej
   simp at hu
   subst hu
   have := hmine g hg
   refine ⟨fun hg' => ?_,this.2.1⟩
   rcases hkn g hg' with h1 | h1
   ·exact this.1 h1
   ·exact h1.2.2 hg
  ·simp [zcR,ej] at he
   simp only [ej,if_false] at hu
   have h1 := I.wr j e u g he hw hu hg
   refine ⟨fun hg' => ?_,h1.2⟩
   rcases hkn g hg' with h2 | h2
   ·exact h1.1 h2
   ·exact Nat.lt_irrefl _ (Nat.lt_of_lt_of_le (I.lt he (I.dw j e he hw) hu hg) h2.1)
 ·intro j e u g he hw hl hu hg
  by_cases ej : j = id
  ·subst ej
   simp [zcR] at he
   subst he
   cases hw
  ·simp [zcR,ej] at he
   simp only [ej,if_false] at hu
   exact hk g (I.ro j e u g he hw hl hu hg)
 ·intro i e u j e' u' g hij hi hj hw hl hu hu' hg hg'
  by_cases ei : i = id
  ·subst ei
   have ej : j ≠ i := fun e => hij e.symm
   simp [zcR,ej] at hj
   simp only [ej,if_false] at hu'
   simp at hu
   subst hu
   exact (hmine g hg).2.2 j e' u' ej hj hl hu' hg'
  ·simp [zcR,ei] at hi
   simp only [ei,if_false] at hu
   by_cases ej : j = id
   ·subst ej
    simp at hu'
    subst hu'
    exact (hmine g hg').2.2 i e u ei hi (I.dw i e hi hw) hu hg
   ·simp [zcR,ej] at hj
    simp only [ej,if_false] at hu'
    exact I.sep i e u j e' u' g hij hi hj hw hl hu hu' hg hg'
theorem Inv.freeze (I : Inv w0 own w β ok h) (id : Nat) (e : Ent) (he : h id = some e) (hl : e.live = true) :
  ∃ ok' : Nat → Prop,(∀ g,ok g → ok' g) ∧ Inv w0 own w β ok' (zcR h id { e with w := false }) ∧ (∀ g,ok' g → ok g ∨ own g ∨ w0.heap.size ≤ g) := by
 by_cases hw : e.w = true
 ·have hk : ∀ g,ok g → ok g ∨ ∃ v,β id = some v ∧ blk v = some g := fun g hg => .inl hg
  have hlook : ∀ j e',zcR h id { e with w := false } j = some e' → ∃ e'',h j = some e'' ∧ e''.b = e'.b ∧ (e'.w = true → e''.w = true ∧ j ≠ id) ∧ (e'.live = e''.live) := by
   intro j e' hj
   by_cases ej : j = id
   ·subst ej
    simp [zcR] at hj
    subst hj
    exact ⟨e,he,rfl,(fun h => nomatch h),rfl⟩
   ·simp [zcR,ej] at hj
    exact ⟨e',hj,rfl,fun h => ⟨h,ej⟩,rfl⟩
  refine ⟨fun g => ok g ∨ ∃ v,β id = some v ∧ blk v = some g,hk,⟨I.fr,?_,?_,?_,?_,?_,?_,?_⟩,?_⟩
  rotate_right
  ·rintro g (hg | ⟨v,hv,hg⟩)
   ·exact .inl hg
   ·exact .inr (I.wr id e v g he hw hv hg).2
  ·rintro g (hg | ⟨v,hv,hg⟩)
   ·exact I.okLt g hg
   ·exact I.lt he hl hv hg
  ·intro j v hj
   by_cases ej : j = id
   ·exact ⟨{ e with w := false },by simp [zcR,ej]⟩
   ·obtain ⟨e',he'⟩ := I.dom j v hj
    exact ⟨e',by simpa [zcR,ej] using he'⟩
  ·intro j e' hj
   obtain ⟨e'',h1,h2,_⟩ := hlook j e' hj
   rw [← h2]
   exact (I.ent j e'' h1).mono (fun _ _ => rfl) hk (fun _ _ h => h) (fun _ _ _ _ => rfl)
  ·intro j e' hj hw'
   obtain ⟨e'',h1,h2,h3,h4⟩ := hlook j e' hj
   rw [h4]
   exact I.dw j e'' h1 (h3 hw').1
  ·intro j e' v g hj hw' hv hg
   obtain ⟨e'',h1,h2,h3,h4⟩ := hlook j e' hj
   have h5 := I.wr j e'' v g h1 (h3 hw').1 hv hg
   refine ⟨?_,h5.2⟩
   rintro (h6 | ⟨v',hv',hg'⟩)
   ·exact h5.1 h6
   ·exact I.sep j e'' v id e v' g (h3 hw').2 h1 he (h3 hw').1 hl hv hv' hg hg'
  ·intro j e' v g hj hw' hl' hv hg
   by_cases ej : j = id
   ·subst ej
    exact .inr ⟨v,hv,hg⟩
   ·simp [zcR,ej] at hj
    exact .inl (I.ro j e' v g hj hw' hl' hv hg)
  ·intro i e' v j e'' v' g hij hi hj hw' hl' hv hv' hg hg'
   obtain ⟨x,h1,h2,h3,h4⟩ := hlook i e' hi
   obtain ⟨y,k1,k2,k3,k4⟩ := hlook j e'' hj
   exact I.sep i x v j y v' g hij h1 k1 (h3 hw').1 (k4 ▸ hl') hv hv' hg hg'
 ·have hsame : zcR h id { e with w := false } = h := by
   funext j
   by_cases ej : j = id
   ·subst ej
    obtain ⟨ew,eb⟩ := e
    cases ew with
    | true => exact absurd rfl hw
    | false => simp [zcR,he]
   ·simp [zcR,ej]
  exact ⟨ok,fun _ h => h,by rw [hsame]; exact I,fun _ h => .inl h⟩
theorem Inv.kill (I : Inv w0 own w β ok h) (id : Nat) : Inv w0 own w β ok (zcR h id ⟨false,.dead⟩) := by
 have hlook : ∀ j e',zcR h id ⟨false,.dead⟩ j = some e' → (e' = ⟨false,.dead⟩ ∨ (h j = some e' ∧ j ≠ id)) := by
  intro j e' hj
  by_cases ej : j = id
  ·simp [zcR,ej] at hj
   exact .inl hj.symm
  ·simp [zcR,ej] at hj
   exact .inr ⟨hj,ej⟩
 refine ⟨I.fr,I.okLt,?_,?_,?_,?_,?_,?_⟩
 ·intro j v hj
  by_cases ej : j = id
  ·exact ⟨⟨false,.dead⟩,by simp [zcR,ej]⟩
  ·obtain ⟨e',he'⟩ := I.dom j v hj
   exact ⟨e',by simpa [zcR,ej] using he'⟩
 ·intro j e' hj
  rcases hlook j e' hj with rfl | ⟨h1,_⟩
  ·trivial
  ·exact I.ent j e' h1
 ·intro j e' hj hw
  rcases hlook j e' hj with rfl | ⟨h1,_⟩
  ·cases hw
  ·exact I.dw j e' h1 hw
 ·intro j e' v g hj hw hv hg
  rcases hlook j e' hj with rfl | ⟨h1,_⟩
  ·cases hw
  ·exact I.wr j e' v g h1 hw hv hg
 ·intro j e' v g hj hw hl hv hg
  rcases hlook j e' hj with rfl | ⟨h1,_⟩
  ·cases hl
  ·exact I.ro j e' v g h1 hw hl hv hg
 ·intro i e' v j e'' v' g hij hi hj hw hl hv hv' hg hg'
  rcases hlook i e' hi with rfl | ⟨h1,_⟩
  ·cases hw
  rcases hlook j e'' hj with rfl | ⟨h2,_⟩
  ·cases hl
  exact I.sep i e' v j e'' v' g hij h1 h2 hw hl hv hv' hg hg'
theorem Inv.data (I : Inv w0 own w β ok h) {id : Nat} {e : TypeId} {t : Ty} {xs : List t.den} {v : Value} (he : h id = some ⟨false,.arr e t xs⟩) (hv : β id = some v) :
  zcM w ok (.sl t) [v] xs := by
 obtain ⟨v',us,h1,h2,h3⟩ := I.ent id _ he
 rw [hv] at h1
 cases h1
 rcases h2.2 with ⟨rfl,hn⟩ | ⟨g,cap,cur,rfl,_,hg,hnc,hcm,hcs,htake⟩
 ·exact ⟨none,0,by rw [hn],by omega,Nat.zero_le _,fun _ => rfl,fun i hi => by omega⟩
 ·refine ⟨some ⟨g,0,none⟩,cap,rfl,hnc,hcm,(fun e => by cases e),fun i hi => ⟨g,0,(us.drop (i * t.size)).take t.size,rfl,I.ro id _ _ g he rfl rfl hv rfl,?_,?_,h3 i hi⟩⟩
  ·have hl := h2.1
   have : (i + 1) * t.size ≤ xs.length * t.size := Nat.mul_le_mul_right _ hi
   rw [Nat.add_mul] at this
   simp only [List.length_take,List.length_drop]
   omega
  ·have hm : Mem w g 0 us := by
    intro j u hu
    rw [cell_of_row w g (0 + j) cur e (0,0) hg,Nat.zero_add]
    rw [← htake,List.getElem?_take] at hu
    split at hu
    ·simpa using hu
    ·cases hu
   exact hm.sub (i * t.size) t.size
end
end Go.Proofs.YtlfdidaeachpoaaGreat
namespace Go.Proofs.YtlfdidaeachpoaaGreat
open Go Go.RowKit
theorem halloc_old (w : World) (o : Obj) (i : Nat) (h : i < w.heap.size) : (w.alloc o).heap[i]? = w.heap[i]? := by
 show (w.heap.push o)[i]? = w.heap[i]?
 rw [Array.getElem?_push,if_neg (Nat.ne_of_lt h)]
structure zdm (w0 : World) (own : Nat → Prop) (w : World) (β : Nat → Option Value) (ok : Nat → Prop) (h : zcJ) (val : TV) (upd : List (Nat × Ent)) (v : Value) (w' : World)
  (β' : Nat → Option Value) (ok' : Nat → Prop) : Prop where
 hh : ∀ b,ok b → w'.heap[b]? = w.heap[b]?
 hk : ∀ b,ok b → ok' b
 hβ : ∀ id v,β id = some v → β' id = some v
 rep : zcE w' ok' β' v val
 inv : Inv w0 own w' β' ok' (zcU h upd)
 pin : ∀ id v,zco ≤ id → β' id = some v → β id = some v
 okB : ∀ b,ok' b → ok b ∨ own b ∨ w0.heap.size ≤ b
theorem zgO {β : Nat → Option Value} {nid : Nat} {u : Value} (hn : nid < zco) : ∀ id v,zco ≤ id → (fun j => if j = nid then some u else β j) id = some v → β id = some v := fun id v h1 h2 => by
 have : id ≠ nid := by omega
 simpa [this] using h2
theorem pin_old {β : Nat → Option Value} {nid : Nat} {u : Value} (hn : β nid = some u) : ∀ id v,zco ≤ id → (fun j => if j = nid then some u else β j) id = some v → β id = some v := fun id v _ h2 => by
 by_cases h : id = nid
 ·subst h; simpa [hn] using h2
 ·simpa [h] using h2
section
variable {P : Program} {w0 : World} {own : Nat → Prop} {w : World} {β : Nat → Option Value} {ok : Nat → Prop} {h : zcJ}
theorem zdm.same (I : Inv w0 own w β ok h) {val : TV} {v : Value} (hr : zcE w ok β v val) : zdm w0 own w β ok h val [] v w β ok :=
 ⟨fun _ _ => rfl,fun _ h => h,fun _ _ h => h,hr,I,fun _ _ _ h => h,fun _ h => .inl h⟩
def zcH (P : Program) (o : Oper) (ρ : Operand → Value) (w : World) (R : Value → World → Prop) : Prop :=
 ∃ v w',((execOp ρ o).run P w = .ok (.value v) w' ∨ ((execOp ρ o).run P w = .ok .skip w' ∧ v = undef)) ∧ R v w'
theorem leafOfVal_rep {v : Value} {l : zcp} (e : leafOfVal v = some l) : zdh w ok β v l := by
 unfold leafOfVal at e
 split at e
 ·split at e
  ·cases e; exact ⟨rfl,by assumption⟩
  ·cases e
 ·cases e; rfl
 ·split at e
  ·cases e; exact ⟨rfl,by assumption⟩
  ·cases e
 ·cases e; rfl
 ·cases e; rfl
 ·cases e
theorem zfP : ∀ {vs : List Value} {ls : List zcp},zif vs = some ls → zcA w ok β vs ls
 | [],ls,e => by cases e; trivial
 | v :: vs,ls,e => by
  unfold zif at e
  split at e
  ·rename_i l ls' h1 h2
   cases e
   exact ⟨leafOfVal_rep h1,zfP h2⟩
  ·cases e
theorem tvOfVal_rep {v : Value} {t : TV} (e : tvOfVal v = some t) : zcE w ok β v t := by
 unfold tvOfVal at e
 split at e
 ·rename_i cs
  simp only [Option.map_eq_some_iff] at e
  obtain ⟨ls,h1,rfl⟩ := e
  exact ⟨cs.toList,by simp,zfP h1⟩
 ·cases e
 ·cases e; trivial
 ·simp only [Option.map_eq_some_iff] at e
  obtain ⟨l,h1,rfl⟩ := e
  exact leafOfVal_rep h1
theorem zcE.cells {v : Value} {t : TV} {ls : List zcp} (hr : zcE w ok β v t) (e : t.leaves = some ls) : zcA w ok β v.cells.toList ls := by
 cases t with
 | lf l =>
  have hl : ls = [l] := by cases l <;> simp [TV.leaves] at e <;> exact e.symm
  subst hl
  have hc : v.cells.toList = [v] := by
   cases l <;> simp [TV.leaves] at e <;> simp only [zcE,zdh] at hr
   ·rw [hr.1]; rfl
   ·rw [hr]; rfl
   ·rw [hr.1]; rfl
   ·obtain ⟨A,cap,he,_⟩ := hr; cases he; rfl
   ·rw [hr]; rfl
   ·obtain ⟨_,A,n,c,rfl⟩ := hr; rfl
   ·obtain ⟨b,_,rfl⟩ := hr; rfl
   ·rw [hr]; rfl
   ·obtain ⟨vs,rfl,_⟩ := hr; rfl
  rw [hc]
  exact ⟨hr,trivial⟩
 | agg cs =>
  cases e
  obtain ⟨vs,rfl,h⟩ := hr
  simpa [Value.cells] using h
 | tup _ => cases e
 | rptr _ => cases e
 | eptr _ _ _ _ => cases e
theorem zdh.oneCell {v : Value} {l : zcp} (hr : zdh w ok β v l) (hs : l.solid = true) : v.oneCell' = true := by
 cases l <;> simp only [zdh] at hr
 ·cases hs
 ·rw [hr.1]; rfl
 ·rw [hr]; rfl
 ·rw [hr.1]; rfl
 ·obtain ⟨A,cap,he,_⟩ := hr; cases he; rfl
 ·rw [hr]; rfl
 ·obtain ⟨_,A,n,c,rfl⟩ := hr; rfl
 ·obtain ⟨b,_,rfl⟩ := hr; rfl
 ·rw [hr]; rfl
 ·obtain ⟨vs,rfl,_⟩ := hr; rfl
theorem zcA.oneCell : ∀ {vs : List Value} {ls : List zcp},zcA w ok β vs ls → ls.all zcp.solid = true → ∀ v ∈ vs,v.oneCell' = true
 | [],_,_,_,_,hv => by cases hv
 | v :: vs,l :: ls,⟨h1,h2⟩,hs,u,hu => by
  simp only [List.all_cons,Bool.and_eq_true] at hs
  rcases List.mem_cons.1 hu with rfl | hu
  ·exact h1.oneCell hs.1
  ·exact zcA.oneCell h2 hs.2 u hu
 | _ :: _,[],h,_,_,_ => h.elim
theorem addrCells_rep (I : Inv w0 own w β ok h) {v : Value} {t : TV} {ls : List zcp} {q : Bool} (hr : zcE w ok β v t) (e : zgq h t = some (ls,q)) :
  ∃ b o us,v = .pointer (some ⟨b,o,none⟩) ∧ Mem w b o us ∧ zcA w ok β us ls := by
 unfold zgq at e
 split at e
 ·rename_i id off
  obtain ⟨b,hb,rfl⟩ := hr
  split at e
  ·rename_i ew cs he
   cases e
   obtain ⟨g,cur,et,h1,h2,h3⟩ := I.ent id _ he
   rw [hb] at h1
   cases h1
   refine ⟨b,off,cur.toList.drop off,rfl,fun j u hu => ?_,h3.drop off⟩
   rw [cell_of_row w b (off + j) cur et (0,0) h2]
   rw [List.getElem?_drop] at hu
   simpa using hu
  ·cases e
 ·rename_i id i off sz
  obtain ⟨b,n,cap,hb,hi,rfl⟩ := hr
  split at e
  ·rename_i ew et t xs he
   split at e
   ·rename_i hsz
    subst hsz
    cases e
    obtain ⟨v',us,h1,h2,h3⟩ := I.ent id _ he
    rw [hb] at h1
    cases h1
    rcases h2.2 with ⟨h',_⟩ | ⟨g,cap',cur,h',_,hg,hnc,_,hcs,htake⟩
    ·cases h'
    ·cases h'
     have hx : xs.getD i t.dflt = xs[i] := by simp [List.getD,hi]
     have hd := (h3 i hi).flat (β := β)
     rw [← hx] at hd
     refine ⟨b,i * t.size + off,((us.drop (i * t.size)).take t.size).drop off,rfl,?_,hd.drop off⟩
     have hm : Mem w b 0 us := by
      intro j u hu
      rw [cell_of_row w b (0 + j) cur et (0,0) hg,Nat.zero_add]
      rw [← htake,List.getElem?_take] at hu
      split at hu
      ·simpa using hu
      ·cases hu
     intro j u hu
     rw [List.getElem?_drop] at hu
     have := hm.sub (i * t.size) t.size (off + j) u hu
     rw [← this]
     congr 2
     omega
   ·cases e
  ·cases e
 ·rename_i cs
  cases e
  obtain ⟨b,o,us,rfl,_,hm,hl⟩ := hr
  exact ⟨b,o,us,rfl,hm,hl⟩
 ·cases e
theorem ziv (b o n : Nat) : (⟨b,o,none⟩ : Addr).add n = ⟨b,o + n,none⟩ := by
 unfold Addr.add
 split
 ·rename_i hn; subst hn; rfl
 ·rfl
theorem ziR {b o n : Nat} {us : List Value} (hm : Mem w b o us) (hn : n ≤ us.length) :
  (loadCells ⟨b,o,none⟩ n).run P w = .ok (us.take n).toArray w := by
 have hl : (us.take n).length = n := by simp [hn]
 have := run_loadCells_list (P := P) w ⟨b,o,none⟩ (us.take n) (fun j v hv => by
  rw [ziv]
  rw [List.getElem?_take] at hv
  split at hv
  ·exact hm j v hv
  ·cases hv)
 rwa [hl] at this
theorem zfy {t : TypeId} {d : TypeDesc} (hu : P.underlying t = some d) : (isAgg t).run P w = .ok (zfx P t) w := by
 unfold isAgg zfx
 rw [hu]
 simp only [Sem.run_bind,run_underlying hu,Result.andThen]
 cases d <;> rfl
theorem zhV {t : TypeId} {d : TypeDesc} (hu : P.underlying t = some d) : (sizeOf t).run P w = .ok (P.cellsOf t) w := by
 unfold sizeOf typeInfo Program.cellsOf
 unfold Program.underlying at hu
 split at hu <;> simp_all
theorem evLoad_sound (I : Inv w0 own w β ok h) {o : Oper} {ρ : Operand → Value} {t : TypeId} {a : Operand} (ho : o.op = .load t a) {ta : TV} (hr : zcE w ok β (ρ a) ta)
  {r : zcF} (e : zgT P h t ta = some r) : zcH P o ρ w fun v w' => ∃ β' ok',zdm w0 own w β ok h r.val r.upd v w' β' ok' := by
 unfold zgT at e
 split at e
 ·cases e
 ·rename_i ls q ha
  obtain ⟨b,off,us,hv,hm,hl⟩ := addrCells_rep I hr ha
  split at e
  ·cases e
  ·rename_i d hu
   split at e
   ·rename_i hagg
    split at e
    ·rename_i hlen
     cases e
     have hle : P.cellsOf t ≤ us.length := by rw [hl.length]; exact hlen
     refine ⟨.agg (us.take (P.cellsOf t)).toArray,w,.inl ?_,β,ok,zdm.same I ⟨_,rfl,hl.take _⟩⟩
     simp [execOp,ho,Instr.loadAt,Instr.sureAddr,loadVar,hv,zfy hu,hagg,zhV hu,ziR hm hle]
    ·cases e
   ·rename_i hagg
    split at e
    ·rename_i l ls' 
     cases e
     cases us with
     | nil => exact hl.elim
     | cons u us =>
      refine ⟨u,w,.inl ?_,β,ok,zdm.same I hl.1⟩
      have hc : w.cell? ⟨b,off,none⟩ = some u := by simpa using hm 0 u rfl
      simp [execOp,ho,Instr.loadAt,Instr.sureAddr,loadVar,hv,zfy hu,hagg,run_load,hc]
    ·cases e
theorem zet (id : Nat) : ∀ (l : List (Nat × Ent)) (h : zcJ),(∀ x ∈ l,x.1 ≠ id) → zcU h l id = h id
 | [],_,_ => rfl
 | x :: l,h,hx => by
  show zcU (zcR h x.1 x.2) l id = h id
  rw [zet id l _ fun y hy => hx y (List.mem_cons_of_mem _ hy)]
  have := hx x (List.mem_cons_self ..)
  unfold zcR
  rw [if_neg fun e => this e.symm]
theorem zfJ {h : zcJ} : ∀ {ids : List Nat} {x : Nat × Ent},x ∈ freezes h ids → x.1 ∈ ids ∧ ∃ e,h x.1 = some e ∧ x.2 = { e with w := false }
 | [],_,hx => by cases hx
 | id :: ids,x,hx => by
  unfold freezes at hx
  split at hx
  ·rename_i e he
   rcases List.mem_cons.1 hx with rfl | hx
   ·exact ⟨List.mem_cons_self ..,e,he,rfl⟩
   ·exact ⟨List.mem_cons_of_mem _ (zfJ hx).1,(zfJ hx).2⟩
  ·exact ⟨List.mem_cons_of_mem _ (zfJ hx).1,(zfJ hx).2⟩
theorem zhg {h h' : zcJ} {ids : List Nat} {id : Nat} (hi : id ∉ ids) : zcU h' (freezes h ids) id = h' id :=
 zet id _ _ fun _ hx e => hi (e ▸ (zfJ hx).1)
def zeY (h h' : zcJ) : Prop := ∀ id,h' id = h id ∨ ∃ e,h id = some e ∧ h' id = some { e with w := false }
theorem zeY.refl (h : zcJ) : zeY h h := fun _ => .inl rfl
theorem zeY.step {h h' : zcJ} (hf : zeY h h') {id : Nat} {e : Ent} (he : h id = some e) : zeY h (zcR h' id { e with w := false }) := by
 intro j
 by_cases ej : j = id
 ·subst ej
  exact .inr ⟨e,he,by simp [zcR]⟩
 ·rcases hf j with h1 | ⟨e',h1,h2⟩
  ·exact .inl (by simp [zcR,ej,h1])
  ·exact .inr ⟨e',h1,by simp [zcR,ej,h2]⟩
theorem Inv.freezes {h : zcJ} : ∀ (ids : List Nat) {h' : zcJ} {ok : Nat → Prop},Inv w0 own w β ok h' → zeY h h' → (∀ id ∈ ids,∃ e,h id = some e ∧ e.live = true) →
  ∃ ok' : Nat → Prop,(∀ g,ok g → ok' g) ∧ Inv w0 own w β ok' (zcU h' (freezes h ids)) ∧ zeY h (zcU h' (freezes h ids)) ∧
   (∀ id ∈ ids,∀ e,h id = some e → zcU h' (freezes h ids) id = some { e with w := false }) ∧ (∀ g,ok' g → ok g ∨ own g ∨ w0.heap.size ≤ g)
 | [],_,ok,I,hf,_ => ⟨ok,fun _ h => h,I,hf,(fun _ h => by cases h),fun _ h => .inl h⟩
 | id :: ids,h',ok,I,hf,hl => by
  obtain ⟨e,he,hlive⟩ := hl id (List.mem_cons_self ..)
  have hstep : Go.Proofs.YtlfdidaeachpoaaGreat.freezes h (id :: ids) = (id,{ e with w := false }) :: Go.Proofs.YtlfdidaeachpoaaGreat.freezes h ids := by
   simp [Go.Proofs.YtlfdidaeachpoaaGreat.freezes,he]
  have hwhole : ∃ e',h' id = some e' ∧ e'.live = true ∧ { e' with w := false } = { e with w := false } := by
   rcases hf id with h1 | ⟨e2,h1,h2⟩
   ·exact ⟨e,h1.trans he,hlive,rfl⟩
   ·rw [he] at h1
    cases h1
    exact ⟨{ e with w := false },h2,hlive,rfl⟩
  obtain ⟨e',he',hl',heq⟩ := hwhole
  obtain ⟨ok1,hk1,I1,hB1⟩ := I.freeze id e' he' hl'
  rw [heq] at I1
  obtain ⟨ok2,hk2,I2,hf2,h2,hB2⟩ := Inv.freezes ids I1 (hf.step he) fun j hj => hl j (List.mem_cons_of_mem _ hj)
  refine ⟨ok2,fun g hg => hk2 g (hk1 g hg),by rw [hstep]; exact I2,by rw [hstep]; exact hf2,fun j hj e0 he0 => ?_,fun g hg => (hB2 g hg).elim (fun h => hB1 g h) .inr⟩
  rw [hstep]
  by_cases hji : j ∈ ids
  ·exact h2 j hji e0 he0
  ·rcases List.mem_cons.1 hj with rfl | hj'
   ·show zcU (zcR h' j _) (Go.Proofs.YtlfdidaeachpoaaGreat.freezes h ids) j = _
    rw [zhg hji]
    rw [he] at he0
    cases he0
    simp [zcR]
   ·exact absurd hj' hji
theorem resolve1_ids {h : zcJ} {l l' : zcp} {ids : List Nat} (e : zdX h l = some (l',ids)) : ∀ id ∈ ids,∃ e,h id = some e ∧ e.live = true := by
 unfold zdX at e
 split at e
 ·split at e
  ·rename_i id _ _ _ _ he
   cases e
   intro j hj
   simp at hj
   subst hj
   exact ⟨_,he,rfl⟩
  ·cases e
 ·cases e
  intro j hj
  cases hj
theorem resolve1_rep {h h' : zcJ} {l l' : zcp} {ids : List Nat} {v : Value} (e : zdX h l = some (l',ids)) (hr : zdh w ok β v l) (I : Inv w0 own w β ok h')
  (hz : ∀ id ∈ ids,∀ e,h id = some e → h' id = some { e with w := false }) : zdh w ok β v l' := by
 unfold zdX at e
 split at e
 ·rename_i id
  split at e
  ·rename_i ew et t xs he
   cases e
   exact I.data (hz id (List.mem_singleton.2 rfl) _ he) hr.1
  ·cases e
 ·cases e
  exact hr
theorem zgG {h : zcJ} : ∀ {ls ls' : List zcp} {ids : List Nat},zdt h ls = some (ls',ids) → ∀ id ∈ ids,∃ e,h id = some e ∧ e.live = true
 | [],_,_,e,id,hid => by cases e; cases hid
 | l :: ls,_,_,e,id,hid => by
  unfold zdt at e
  split at e
  ·rename_i l1 a ls1 b h1 h2
   cases e
   rcases List.mem_append.1 hid with h3 | h3
   ·exact resolve1_ids h1 id h3
   ·exact zgG h2 id h3
  ·cases e
theorem zgs {h h' : zcJ} (I : Inv w0 own w β ok h') : ∀ {ls ls' : List zcp} {ids : List Nat} {vs : List Value},zdt h ls = some (ls',ids) → zcA w ok β vs ls →
  (∀ id ∈ ids,∀ e,h id = some e → h' id = some { e with w := false }) → zcA w ok β vs ls'
 | [],_,_,vs,e,hr,_ => by cases e; exact hr
 | l :: ls,_,_,[],e,hr,_ => hr.elim
 | l :: ls,_,_,v :: vs,e,hr,hz => by
  unfold zdt at e
  split at e
  ·rename_i l1 a ls1 b h1 h2
   cases e
   exact ⟨resolve1_rep h1 hr.1 I fun id hid => hz id (List.mem_append_left _ hid),zgs I h2 hr.2 fun id hid => hz id (List.mem_append_right _ hid)⟩
  ·cases e
theorem zcA.splice {us vs : List Value} {old new : List zcp} {off : Nat} (h1 : zcA w ok β us old) (h2 : zcA w ok β vs new) :
  zcA w ok β (us.take off ++ (vs ++ us.drop (off + vs.length))) (splice old new off) := by
 unfold Go.Proofs.YtlfdidaeachpoaaGreat.splice
 rw [h2.length]
 exact (h1.take off).append (h2.append (h1.drop _))
theorem Inv.mine (I : Inv w0 own w β ok h) {id : Nat} {e : Ent} {v : Value} (he : h id = some e) (hw : e.w = true) (hv : β id = some v) :
  ∀ g,blk v = some g → (¬ ok g ∧ (own g ∨ w0.heap.size ≤ g) ∧ ∀ j e' v',j ≠ id → h j = some e' → e'.live = true → β j = some v' → blk v' ≠ some g) := by
 intro g hg
 have := I.wr id e v g he hw hv hg
 exact ⟨this.1,this.2,fun j e' v' hj he' hl hv' hg' => I.sep id e v j e' v' g (fun e => hj e.symm) he he' hw hl hv hv' hg hg'⟩
end
section
variable {P : Program} {w0 : World} {own : Nat → Prop} {w : World} {β : Nat → Option Value} {ok : Nat → Prop} {h : zcJ}
theorem zje {t : TypeId} {d : TypeDesc} (hu : P.underlying t = some d) {v : Value} (hs : v.cells.size = P.cellsOf t) (a : Addr) :
  (storeVar t a v).run P w = (storeCells a v.cells.toList).run P w := by
 unfold storeVar
 simp [zhV hu,hs]
theorem evStore_ptr (I : Inv w0 own w β ok h) {o : Oper} {ρ : Operand → Value} {t : TypeId} {a x : Operand} (ho : o.op = .store t a x) {id off : Nat} {tx : TV}
  (hra : zcE w ok β (ρ a) (.lf (.ptr id off))) (hrx : zcE w ok β (ρ x) tx) {ls old : List zcp} (hls : tx.leaves = some ls) (hlen : ls.length = P.cellsOf t) (hso : ls.all zcp.solid = true)
  {d : TypeDesc} (hu : P.underlying t = some d) (he : h id = some ⟨true,.cells old⟩) (hfit : off + ls.length ≤ old.length) :
  zcH P o ρ w fun v w' => ∃ β' ok',zdm w0 own w β ok h (.lf .undef) [(id,⟨true,.cells (splice old ls off)⟩)] v w' β' ok' := by
 obtain ⟨b,hb,hv⟩ := hra
 obtain ⟨g,cur,et,h1,h2,h3⟩ := I.ent id _ he
 rw [hb] at h1
 cases h1
 have hcl := hrx.cells hls
 have hco := hcl.oneCell hso
 have hsz : (ρ x).cells.size = P.cellsOf t := by rw [← hlen,← hcl.length]; simp
 have hfit' : off + 0 + (ρ x).cells.toList.length ≤ cur.size := by
  have := h3.length
  rw [hcl.length]
  simp at this
  omega
 obtain ⟨cs',hrun,hcs'⟩ : ∃ cs' : Array Value,(storeCells ⟨b,off,none⟩ (ρ x).cells.toList).run P w = .ok () (w.setRow b cs') ∧
   cs'.toList = cur.toList.take off ++ ((ρ x).cells.toList ++ cur.toList.drop (off + (ρ x).cells.toList.length)) :=
  ⟨_,run_storeCells_at P b off et (ρ x).cells.toList 0 cur w h2 hfit' hco,by simp⟩
 have hm := I.mine he rfl hb
 have hnb : ¬ ok b := (hm b rfl).1
 have hoth : ∀ k,k ≠ b → (w.setRow b cs').heap[k]? = w.heap[k]? := fun k hk => setRow_other w b k _ hk
 have hokh : ∀ k,ok k → (w.setRow b cs').heap[k]? = w.heap[k]? := fun k hk => hoth k fun e => hnb (e ▸ hk)
 have hββ : ∀ j u,β j = some u → (fun j => if j = id then some (Value.pointer (some ⟨b,0,none⟩)) else β j) j = some u := fun j u hj => by
  by_cases e : j = id
  ·subst e; rw [hb] at hj; simpa using hj
  ·simpa [e] using hj
 refine ⟨undef,w.setRow b cs',.inr ⟨?_,rfl⟩,fun j => if j = id then some (.pointer (some ⟨b,0,none⟩)) else β j,ok,hokh,fun _ h => h,hββ,trivial,?_,pin_old hb,fun _ h => .inl h⟩
 ·simp [execOp,ho,Instr.storeAt,Instr.sureAddr,hv,zje hu hsz,hrun]
 ·refine I.put id _ _ ok rfl rfl rfl (by simp [World.setRow]) (fun k _ hk => hoth k fun e => hk (by rw [e]; rfl)) (fun _ h => h) (fun _ h => .inl h) (.inr hb) hm rfl ?_
  refine ⟨b,cs',et,by simp,setRow_heap w b cur _ et _ h2,?_⟩
  rw [hcs']
  exact zcA.mono hokh (fun _ h => h) hββ (h3.splice hcl)
theorem zcX.set {t : Ty} {us : List Value} {xs : List t.den} (hr : zcX w ok t us xs) (hlen : us.length = xs.length * t.size) {i : Nat} (hi : i < xs.length) {vs : List Value} {y : t.den}
  (hy : zcM w ok t vs y) : zcX w ok t (us.take (i * t.size) ++ (vs ++ us.drop (i * t.size + vs.length))) (xs.set i y) := by
 have hvl := hy.length t
 have h2 : (i + 1) * t.size ≤ xs.length * t.size := Nat.mul_le_mul_right _ hi
 rw [Nat.add_mul] at h2
 intro j hj
 simp only [List.length_set] at hj
 have h3 : (j + 1) * t.size ≤ xs.length * t.size := Nat.mul_le_mul_right _ hj
 rw [Nat.add_mul] at h3
 by_cases hij : i = j
 ·subst hij
  have e : ((us.take (i * t.size) ++ (vs ++ us.drop (i * t.size + vs.length))).drop (i * t.size)).take t.size = vs := by
   rw [List.drop_append_of_le_length (by simp; omega),List.drop_of_length_le (by simp; omega),List.nil_append,List.take_append_of_le_length (by omega),List.take_of_length_le (by omega)]
  rw [e]
  simpa using hy
 ·have hne : i * t.size + t.size ≤ j * t.size ∨ j * t.size + t.size ≤ i * t.size := by
   rcases Nat.lt_or_gt_of_ne hij with h | h
   ·left
    have : (i + 1) * t.size ≤ j * t.size := Nat.mul_le_mul_right _ h
    rw [Nat.add_mul] at this
    omega
   ·right
    have : (j + 1) * t.size ≤ i * t.size := Nat.mul_le_mul_right _ h
    rw [Nat.add_mul] at this
    omega
  have e : ((us.take (i * t.size) ++ (vs ++ us.drop (i * t.size + vs.length))).drop (j * t.size)).take t.size = (us.drop (j * t.size)).take t.size := by
   apply List.ext_getElem?
   intro k
   simp only [List.getElem?_take,List.getElem?_drop,List.getElem?_append,List.length_take]
   by_cases hk : k < t.size
   ·simp only [hk,if_true]
    by_cases h5 : j * t.size + k < min (i * t.size) us.length
    ·simp [h5]; omega
    ·rw [if_neg h5]
     rw [if_neg (by omega)]
     congr 1
     omega
   ·simp [hk]
  rw [e]
  have := hr j hj
  simpa [List.getElem_set_ne hij] using this
theorem splice_rows (cur vs : List Value) {a s off N : Nat} (h1 : off + vs.length ≤ s) (h2 : a + s ≤ N) (h3 : N ≤ cur.length) :
  (cur.take (a + off) ++ (vs ++ cur.drop (a + off + vs.length))).take N =
   (cur.take N).take a ++ (((((cur.take N).drop a).take s).take off ++ (vs ++ (((cur.take N).drop a).take s).drop (off + vs.length))) ++ (cur.take N).drop (a + s)) := by
 have e1 : (((cur.take N).drop a).take s).take off = (cur.drop a).take off := by
  rw [List.take_take,List.drop_take,List.take_take]
  congr 1
  omega
 have e2 : (cur.take N).take a = cur.take a := by
  rw [List.take_take]
  congr 1
  omega
 have e3 : (((cur.take N).drop a).take s).drop (off + vs.length) ++ (cur.take N).drop (a + s) = (cur.drop (a + off + vs.length)).take (N - (a + off + vs.length)) := by
  have e4 : (cur.take N).drop (a + off + vs.length) = (cur.drop (a + off + vs.length)).take (N - (a + off + vs.length)) := List.drop_take ..
  rw [← e4]
  have e5 : (cur.take N).drop (a + off + vs.length) = ((cur.take N).drop a).drop (off + vs.length) := by rw [List.drop_drop]; congr 1; omega
  have e6 : (cur.take N).drop (a + s) = ((cur.take N).drop a).drop s := by rw [List.drop_drop]
  rw [e5,e6]
  generalize (cur.take N).drop a = q
  have e7 : (q.take s).drop (off + vs.length) = (q.drop (off + vs.length)).take (s - (off + vs.length)) := List.drop_take ..
  have e8 : q.drop s = (q.drop (off + vs.length)).drop (s - (off + vs.length)) := by rw [List.drop_drop]; congr 1; omega
  rw [e7,e8,List.take_append_drop]
 rw [e1,e2]
 simp only [List.append_assoc]
 rw [e3,← List.append_assoc (cur.take a),← List.take_add]
 rw [List.take_append,List.take_append]
 simp only [List.length_take]
 rw [List.take_of_length_le (l := cur.take (a + off)) (by simp; omega),List.take_of_length_le (l := vs) (by omega)]
 congr 3
 omega
theorem evStore_eptr (I : Inv w0 own w β ok h) {o : Oper} {ρ : Operand → Value} {t : TypeId} {a x : Operand} (ho : o.op = .store t a x) {id i off : Nat} {tx : TV} {e : TypeId} {ty : Ty} {xs : List ty.den}
  (hra : zcE w ok β (ρ a) (.eptr id i off ty.size)) (hrx : zcE w ok β (ρ x) tx) {ls ls' : List zcp} {ids : List Nat} {y : ty.den} (hls : tx.leaves = some ls) (hlen : ls.length = P.cellsOf t) (hso : ls.all zcp.solid = true)
  {d : TypeDesc} (hu : P.underlying t = some d) (he : h id = some ⟨true,.arr e ty xs⟩) (hres : zdt h ls = some (ls',ids)) (hfit : off + ls'.length ≤ ty.size) (hni : id ∉ ids)
  (hy : toDen ty (splice (flat ty (xs.getD i ty.dflt)) ls' off) = some y) :
  zcH P o ρ w fun v w' => ∃ β' ok',zdm w0 own w β ok h (.lf .undef) (freezes h ids ++ [(id,⟨true,.arr e ty (xs.set i y)⟩)]) v w' β' ok' := by
 obtain ⟨ok1,hk1,I1,_,hz,hB⟩ := I.freezes ids (zeY.refl h) (zgG hres)
 have he1 : zcU h (freezes h ids) id = some ⟨true,.arr e ty xs⟩ := by rw [zhg hni]; exact he
 obtain ⟨b,n,cap,hb,hi,hv⟩ := hra
 have hcl := zcA.mono (fun _ _ => rfl) hk1 (fun _ _ h => h) (hrx.cells hls)
 have hco := hcl.oneCell hso
 have hcl' := zgs I1 hres hcl hz
 have hsz : (ρ x).cells.size = P.cellsOf t := by rw [← hlen,← hcl.length]; simp
 obtain ⟨v',us,h1,h2,h3⟩ := I1.ent id _ he1
 rw [hb] at h1
 cases h1
 have hus := h2.1
 rcases h2.2 with ⟨h',_⟩ | ⟨g,cap',cur,h',hb0,hg,hnc,hcm,hcs,htake⟩
 ·cases h'
 cases h'
 have hmul : (i + 1) * ty.size ≤ xs.length * ty.size := Nat.mul_le_mul_right _ hi
 have hmul2 : xs.length * ty.size ≤ cap * ty.size := Nat.mul_le_mul_right _ hnc
 rw [Nat.add_mul] at hmul
 have hvl : (ρ x).cells.toList.length = ls'.length := by rw [hcl'.length]
 obtain ⟨cs',hrun,hcs'⟩ : ∃ cs' : Array Value,(storeCells ⟨b,i * ty.size + off,none⟩ (ρ x).cells.toList).run P w = .ok () (w.setRow b cs') ∧
   cs'.toList = cur.toList.take (i * ty.size + off) ++ ((ρ x).cells.toList ++ cur.toList.drop (i * ty.size + off + (ρ x).cells.toList.length)) :=
  ⟨_,run_storeCells_at P b (i * ty.size + off) e (ρ x).cells.toList 0 cur w hg (by omega) hco,by simp⟩
 have hm := I1.mine he1 rfl hb
 have hnb : ¬ ok1 b := (hm b rfl).1
 have hoth : ∀ k,k ≠ b → (w.setRow b cs').heap[k]? = w.heap[k]? := fun k hk => setRow_other w b k _ hk
 have hokh : ∀ k,ok1 k → (w.setRow b cs').heap[k]? = w.heap[k]? := fun k hk => hoth k fun e => hnb (e ▸ hk)
 have hββ : ∀ j u,β j = some u → (fun j => if j = id then some (Value.slice (some ⟨b,0,none⟩) xs.length cap) else β j) j = some u := fun j u hj => by
  by_cases e : j = id
  ·subst e; rw [hb] at hj; simpa using hj
  ·simpa [e] using hj
 refine ⟨undef,w.setRow b cs',.inr ⟨?_,rfl⟩,fun j => if j = id then some (.slice (some ⟨b,0,none⟩) xs.length cap) else β j,ok1,fun k hk => hokh k (hk1 k hk),hk1,hββ,trivial,?_,pin_old hb,hB⟩
 ·simp [execOp,ho,Instr.storeAt,Instr.sureAddr,hv,zje hu hsz,hrun]
 ·rw [zhd]
  have hcsz : cs'.toList.length = cur.size := by
   rw [hcs']; simp at hvl ⊢; omega
  refine I1.put id _ _ ok1 rfl rfl rfl (by simp [World.setRow]) (fun k _ hk => hoth k fun e => hk (by rw [e]; rfl)) (fun _ h => h) (fun _ h => .inl h) (.inr hb) hm rfl ?_
  have hxi : xs.getD i ty.dflt = xs[i] := by simp [List.getD,hi]
  have hel := zcM.flat (β := β) ty (h3 i hi)
  rw [hxi] at hy
  have hell := zjx ty xs[i]
  have hnew := RepD_toDen (zcA.splice (off := off) hel hcl') hy
  refine ⟨.slice (some ⟨b,0,none⟩) xs.length cap,us.take (i * ty.size) ++ ((((us.drop (i * ty.size)).take ty.size).take off ++ ((ρ x).cells.toList ++ ((us.drop (i * ty.size)).take ty.size).drop (off + (ρ x).cells.toList.length))) ++ us.drop (i * ty.size + ty.size)),by simp,⟨?_,.inr ⟨b,cap,cs',by simp,Nat.zero_le _,setRow_heap w b cur _ e _ hg,by simpa using hnc,hcm,?_,?_⟩⟩,?_⟩
  ·simp at hvl ⊢; omega
  ·simpa using hcsz.trans hcs
  ·-- the row's cells are the written ones
   rw [hcs',← htake]
   simp only [List.length_set]
   exact splice_rows cur.toList (ρ x).cells.toList (by omega) (by omega) (by simpa using (by omega : xs.length * ty.size ≤ cur.size))
  ·have hl0 := hnew.length ty
   have := zcX.set h3 hus hi hnew
   rw [hl0] at this
   exact this.mono hokh (fun _ h => h)
theorem rawCell_spec (I : Inv w0 own w β ok h) {a : TV} {id i j : Nat} {e : TypeId} {us : List Value} {l : zcp} {v : Value} (hr : zcE w ok β v a) (he : zfo h a = some (id,i,e,us,j,l)) (hij : i = j) :
  h id = some ⟨true,.raw e us (some (j,l))⟩ ∧ ∃ b cap cur u,β id = some (.slice (some ⟨b,0,none⟩) us.length cap) ∧ v = .pointer (some ⟨b,j,none⟩) ∧ j < us.length ∧ us.length ≤ cap ∧ cap ≤ maxLen ∧
   w.heap[b]? = some (.cells cur e (0,0)) ∧ cur.size = cap ∧ cur.toList.take us.length = us.set j u ∧ zdh w ok β u l := by
 unfold zfo at he
 split at he
 ·split at he
  ·rename_i id' i' _ _ e' us' j' l' hl
   cases he
   subst hij
   refine ⟨hl,?_⟩
   obtain ⟨b,n,cap,hb,hi,hv⟩ := hr
   obtain ⟨v',vs,h1,h2,h3⟩ := I.ent id _ hl
   rw [hb] at h1
   cases h1
   obtain ⟨u,h4,h5,h6⟩ := h3
   rcases h2.2 with ⟨h',_⟩ | ⟨g,cap',cur,h',_,hg,hnc,hcm,hcs,htake⟩
   ·cases h'
   ·cases h'
    simp only [Nat.mul_one] at htake hcs
    exact ⟨b,cap,cur,u,hb,by simpa using hv,h4,hnc,hcm,hg,hcs,by rw [← h5]; exact htake,h6⟩
  ·cases he
 ·cases he
theorem evLoadX_sound (I : Inv w0 own w β ok h) {o : Oper} {ρ : Operand → Value} {t : TypeId} {a : Operand} (ho : o.op = .load t a) {ta : TV} (hr : zcE w ok β (ρ a) ta)
  {r : zcF} (e : evLoadX P h t ta = some r) (hvc : r.vc = true) : zcH P o ρ w fun v w' => ∃ β' ok',zdm w0 own w β ok h r.val r.upd v w' β' ok' := by
 unfold evLoadX at e
 split at e
 ·exact evLoad_sound I ho hr e
 ·rename_i id i et us j l hra
  split at e
  ·cases e
  ·rename_i d hu
   split at e
   ·cases e
   ·rename_i hagg
    cases e
    obtain ⟨_,b,cap,cur,u,hb,hv,hj,hnc,_,hg,hcs,htake,hl⟩ := rawCell_spec I hr hra (of_decide_eq_true hvc)
    refine ⟨u,w,.inl ?_,β,ok,zdm.same I hl⟩
    have hc : w.cell? ⟨b,j,none⟩ = some u := by
     rw [cell_of_row w b j cur et (0,0) hg]
     have h1 : (cur.toList.take us.length)[j]? = some u := by rw [htake]; simp [hj]
     rw [List.getElem?_take,if_pos hj] at h1
     simpa using h1
    simp [execOp,ho,Instr.loadAt,Instr.sureAddr,loadVar,hv,zfy hu,hagg,run_load,hc]
theorem evStoreRaw_sound (I : Inv w0 own w β ok h) {o : Oper} {ρ : Operand → Value} {t : TypeId} {a x : Operand} (ho : o.op = .store t a x) {ta tx : TV} (hra : zcE w ok β (ρ a) ta) (hrx : zcE w ok β (ρ x) tx)
  {id i j : Nat} {et : TypeId} {us : List Value} {l l' : zcp} (hraw : zfo h ta = some (id,i,et,us,j,l)) (hls : tx.leaves = some [l']) (hlen : P.cellsOf t = 1) (hso : l'.solid = true)
  {d : TypeDesc} (hu : P.underlying t = some d) (hij : i = j) :
  zcH P o ρ w fun v w' => ∃ β' ok',zdm w0 own w β ok h (.lf .undef) [(id,⟨true,.raw et us (some (j,l'))⟩)] v w' β' ok' := by
 obtain ⟨he,b,cap,cur,u,hb,hv,hj,hnc,hcm,hg,hcs,htake,hl⟩ := rawCell_spec I hra hraw hij
 have hcl := hrx.cells hls
 have hco := hcl.oneCell (by simp [hso])
 have hvl : (ρ x).cells.toList.length = 1 := by rw [hcl.length]; rfl
 have hsz : (ρ x).cells.size = P.cellsOf t := by rw [hlen]; simpa using hvl
 obtain ⟨u',hu'⟩ : ∃ u',(ρ x).cells.toList = [u'] := List.length_eq_one_iff.1 hvl
 rw [hu'] at hcl
 obtain ⟨cs',hrun,hcs'⟩ : ∃ cs' : Array Value,(storeCells ⟨b,j,none⟩ (ρ x).cells.toList).run P w = .ok () (w.setRow b cs') ∧
   cs'.toList = cur.toList.take j ++ ((ρ x).cells.toList ++ cur.toList.drop (j + (ρ x).cells.toList.length)) :=
  ⟨_,run_storeCells_at P b j et (ρ x).cells.toList 0 cur w hg (by omega) hco,by simp⟩
 rw [hu'] at hcs'
 have hm := I.mine he rfl hb
 have hoth : ∀ k,k ≠ b → (w.setRow b cs').heap[k]? = w.heap[k]? := fun k hk => setRow_other w b k _ hk
 have hokh : ∀ k,ok k → (w.setRow b cs').heap[k]? = w.heap[k]? := fun k hk => hoth k fun e => (hm b rfl).1 (e ▸ hk)
 have hββ : ∀ k u,β k = some u → (fun k => if k = id then some (Value.slice (some ⟨b,0,none⟩) us.length cap) else β k) k = some u := fun k u hk => by
  by_cases e : k = id
  ·subst e; rw [hb] at hk; simpa using hk
  ·simpa [e] using hk
 refine ⟨undef,w.setRow b cs',.inr ⟨?_,rfl⟩,fun k => if k = id then some (.slice (some ⟨b,0,none⟩) us.length cap) else β k,ok,hokh,fun _ h => h,hββ,trivial,?_,pin_old hb,fun _ h => .inl h⟩
 ·simp [execOp,ho,Instr.storeAt,Instr.sureAddr,hv,zje hu hsz,hrun]
 ·have hcsz : cs'.toList.length = cur.size := by
   rw [hcs']; simp; omega
  refine I.put id _ _ ok rfl rfl rfl (by simp [World.setRow]) (fun k _ hk => hoth k fun e => hk (by rw [e]; rfl)) (fun _ h => h) (fun _ h => .inl h) (.inr hb) hm rfl ?_
  refine ⟨.slice (some ⟨b,0,none⟩) us.length cap,us.set j u',by simp,⟨by simp,.inr ⟨b,cap,cs',rfl,Nat.zero_le _,?_,hnc,hcm,by simp at hcsz; omega,?_⟩⟩,u',hj,rfl,zdh.mono hokh (fun _ h => h) hββ hcl.1⟩
  ·exact setRow_heap w b cur cs' et (0,0) hg
  ·rw [hcs',Nat.mul_one]
   have h1 : cur.toList.take us.length = us.set j u := htake
   apply List.ext_getElem?
   intro k
   have hk : (cur.toList.take us.length)[k]? = (us.set j u)[k]? := by rw [h1]
   by_cases hkl : k < us.length
   ·rw [List.getElem?_take,if_pos hkl] at hk ⊢
    by_cases hkj : k = j
    ·subst hkj
     rw [List.getElem?_append_right (by simp; omega)]
     simp only [List.length_take,Array.length_toList]
     rw [Nat.min_eq_left (by omega),Nat.sub_self,List.getElem?_set_self hkl]
     rfl
    ·rw [List.getElem?_set_ne (by omega)] at hk ⊢
     rw [← hk]
     by_cases hlt : k < j
     ·rw [List.getElem?_append_left (by simp; omega),List.getElem?_take,if_pos hlt]
     ·rw [List.getElem?_append_right (by simp; omega)]
      simp only [List.length_take,Array.length_toList]
      rw [Nat.min_eq_left (by omega)]
      obtain ⟨d,rfl⟩ : ∃ d,k = j + 1 + d := ⟨k - j - 1,by omega⟩
      rw [show j + 1 + d - j = d + 1 by omega]
      simp [Nat.add_comm,Nat.add_left_comm,Nat.add_assoc]
   ·rw [List.getElem?_eq_none (by simp; omega),List.getElem?_eq_none (by simp; omega)]
theorem Inv.new (I : Inv w0 own w β ok h) {w1 : World} (hheap : w1.heap = w.heap) (hos : w1.os = w.os) (htape : w1.tape = w.tape) (hout : w1.output = w.output) (id : Nat) (hid : h id = none) (ob : Obj) (v : Value) (b : EB)
  (hv : ∀ g,blk v = some g → g = w.heap.size) (hlive : (⟨true,b⟩ : Ent).live = true)
  (hrep : zdo (w1.alloc ob) ok (fun j => if j = id then some v else β j) id b) :
  Inv w0 own (w1.alloc ob) (fun j => if j = id then some v else β j) ok (zcR h id ⟨true,b⟩) := by
 have hβ : β id = none := by
  cases hb : β id with
  | none => rfl
  | some u => obtain ⟨e,he⟩ := I.dom id u hb; rw [hid] at he; cases he
 refine I.put id b v ok hos htape hout (by simp [hheap]) (fun g hg _ => ?_) (fun _ h => h) (fun _ h => .inl h) (.inl hβ) (fun g hg => ?_) hlive hrep
 ·rw [halloc_old w1 ob g (by rw [hheap]; exact hg),hheap]
 ·have := hv g hg
  subst this
  exact ⟨fun hk => Nat.lt_irrefl _ (I.okLt _ hk),.inr I.fr.size,fun j e v' _ he hl hv' hg' => Nat.lt_irrefl _ (I.lt he hl hv' hg')⟩
theorem zgF (I : Inv w0 own w β ok h) {w1 : World} (hheap : w1.heap = w.heap) (ob : Obj) : ∀ b,ok b → (w1.alloc ob).heap[b]? = w.heap[b]? := fun b hb => by
 rw [halloc_old w1 ob b (by rw [hheap]; exact I.okLt b hb),hheap]
theorem zfF (I : Inv w0 own w β ok h) (id : Nat) (hid : h id = none) (v : Value) : ∀ j u,β j = some u → (fun j => if j = id then some v else β j) j = some u := fun j u hj => by
 by_cases e : j = id
 ·subst e
  obtain ⟨e,he⟩ := I.dom j u hj
  rw [hid] at he
  cases he
 ·simpa [e] using hj
theorem evAlloc_sound (I : Inv w0 own w β ok h) {dst : Option Nat} {ls : List zcp} {r : zcF} (e : zgL h dst ls = some r) (t : TypeId) {v : Value} (hr : zcA w ok β v.cells.toList ls) :
  ∃ v' w',(newVar t v).run P w = .ok v' w' ∧ ∃ β' ok',zdm w0 own w β ok h r.val r.upd (.pointer (some v')) w' β' ok' := by
 unfold zgL at e
 split at e
 ·cases e
 ·rename_i d
  split at e
  ·cases e
  ·rename_i hid
   cases e
   refine ⟨⟨w.heap.size,0,none⟩,w.alloc (.cells v.cells t),by simp [newVar,newRow],_,ok,zgF I rfl _,fun _ h => h,zfF I _ hid (.pointer (some ⟨w.heap.size,0,none⟩)),?_,?_,zgO (zgy d 0 (by decide)),fun _ h => .inl h⟩
   ·exact ⟨w.heap.size,by simp,rfl⟩
   ·refine I.new rfl rfl rfl rfl _ hid _ _ _ (fun g hg => by cases hg; rfl) rfl ?_
    exact ⟨w.heap.size,v.cells,t,by simp,heap_alloc_new w _,zcA.mono (zgF I rfl _) (fun _ h => h) (zfF I _ hid _) hr⟩
theorem zgJ {t : TypeId} {ls : List zcp} (e : zfY P t = some ls) : ∃ i z,P.info? t = some i ∧ i.zero = some z ∧ z.cells.size = i.size ∧ zif z.cells.toList = some ls := by
 unfold zfY at e
 split at e
 ·rename_i i hi
  split at e
  ·rename_i z hz
   split at e
   ·exact ⟨i,z,hi,hz,by assumption,e⟩
   ·cases e
  ·cases e
 ·cases e
theorem alloc_sound (I : Inv w0 own w β ok h) {o : Oper} {ρ : Operand → Value} {t : TypeId} (ho : o.op = .alloc t) {ls : List zcp} (hz : zfY P t = some ls) {r : zcF} (e : zgL h o.dst ls = some r) :
  zcH P o ρ w fun v w' => ∃ β' ok',zdm w0 own w β ok h r.val r.upd v w' β' ok' := by
 obtain ⟨i,z,hi,hz',_,hl⟩ := zgJ hz
 obtain ⟨v',w',hrun,hd⟩ := evAlloc_sound (P := P) I e t (v := z) (zfP hl)
 refine ⟨_,w',.inl ?_,hd⟩
 simp [execOp,ho,Instr.alloc,zeroValue,typeInfo,hi,hz',hrun]
theorem box_sound (I : Inv w0 own w β ok h) {o : Oper} {ρ : Operand → Value} {t : TypeId} {x : Operand} (ho : o.op = .box t x) {tx : TV} (hrx : zcE w ok β (ρ x) tx) {ls : List zcp} (hls : tx.leaves = some ls) {r : zcF} (e : zgL h o.dst ls = some r) :
  zcH P o ρ w fun v w' => ∃ β' ok',zdm w0 own w β ok h r.val r.upd v w' β' ok' := by
 obtain ⟨v',w',hrun,hd⟩ := evAlloc_sound (P := P) I e t (v := ρ x) (hrx.cells hls)
 refine ⟨_,w',.inl ?_,hd⟩
 simp [execOp,ho,Instr.box,hrun]
theorem zcX.replicate {t : Ty} {z : t.den} {vs : List Value} (hz : zcM w ok t vs z) (n : Nat) : zcX w ok t (List.replicate n vs).flatten (List.replicate n z) := by
 have hl := hz.length t
 intro i hi0
 have e : ∀ (n i : Nat),i < n → ((List.replicate n vs).flatten.drop (i * t.size)).take t.size = vs := by
  intro n
  induction n with
  | zero => intro i hi; omega
  | succ n ih =>
   intro i hi
   rw [List.replicate_succ,List.flatten_cons]
   cases i with
   | zero => rw [Nat.zero_mul,List.drop_zero,← hl,List.take_left']; rfl
   | succ i =>
    rw [Nat.add_mul,Nat.one_mul,Nat.add_comm,← List.drop_drop,← hl,List.drop_left,hl]
    exact ih i (by omega)
 rw [e n i (by simpa using hi0)]
 simpa using hz
end
end Go.Proofs.YtlfdidaeachpoaaGreat
namespace Go.Proofs.YtlfdidaeachpoaaGreat
open Go Go.RowKit
theorem foldl_set_get (off : Nat) : ∀ (l : List Value) (k : Nat) (cs : Array Value) (m : Nat),
  ((l.zipIdx k).foldl (fun cs (c,j) => cs.setIfInBounds (off + j) c) cs)[m]? = if off + k ≤ m ∧ m < off + k + l.length ∧ m < cs.size then l[m - (off + k)]? else cs[m]?
 | [],k,cs,m => by
  simp
  intro h1 h2
  omega
 | c :: l,k,cs,m => by
  rw [List.zipIdx_cons,List.foldl_cons,foldl_set_get off l (k + 1)]
  simp only [Array.size_setIfInBounds,Array.getElem?_setIfInBounds,List.length_cons]
  by_cases h1 : off + (k + 1) ≤ m ∧ m < off + (k + 1) + l.length ∧ m < cs.size
  ·rw [if_pos h1,if_pos (by omega)]
   have : m - (off + k) = m - (off + (k + 1)) + 1 := by omega
   rw [this,List.getElem?_cons_succ]
  ·rw [if_neg h1]
   by_cases h2 : off + k = m
   ·subst h2
    by_cases h3 : off + k < cs.size
    ·simp [h3]
    ·simp [h3]
   ·rw [if_neg h2,if_neg (by omega)]
theorem foldl_set_toList (off : Nat) (l : List Value) (cs : Array Value) (h : off + l.length ≤ cs.size) :
  ((l.zipIdx).foldl (fun cs (c,j) => cs.setIfInBounds (off + j) c) cs).toList = cs.toList.take off ++ (l ++ cs.toList.drop (off + l.length)) := by
 apply List.ext_getElem?
 intro m
 rw [Array.getElem?_toList,foldl_set_get off l 0 cs m]
 simp only [Nat.add_zero,List.getElem?_append,List.length_take,Array.length_toList,List.getElem?_take,List.getElem?_drop,Array.getElem?_toList]
 by_cases h1 : m < off
 ·rw [if_neg (by omega),if_pos (by omega),if_pos h1]
 ·by_cases h2 : m < off + l.length
  ·rw [if_pos (by omega),if_neg (by omega),if_pos (by omega)]
   congr 1
   omega
  ·rw [if_neg (by omega),if_neg (by omega),if_neg (by omega)]
   congr 1
   omega
theorem arr_fill (off : Nat) (vc cs : Array Value) (h : off + vc.size ≤ cs.size) :
  (vc.zipIdx.foldl (fun cs (c,j) => cs.setIfInBounds (off + j) c) cs).toList = cs.toList.take off ++ (vc.toList ++ cs.toList.drop (off + vc.toList.length)) := by
 rw [← Array.foldl_toList,Array.toList_zipIdx]
 exact foldl_set_toList off vc.toList cs (by simpa using h)
section
variable {P : Program} {w0 : World} {own : Nat → Prop} {w : World} {β : Nat → Option Value} {ok : Nat → Prop} {h : zcJ}
def RepPs (w : World) (ok : Nat → Prop) (β : Nat → Option Value) : List (Nat × Value) → List (Nat × List zcp) → Prop
 | [],[] => True
 | (i,v) :: r,(j,ls) :: r' => i = j ∧ zcA w ok β v.cells.toList ls ∧ RepPs w ok β r r'
 | _,_ => False
theorem zjj {ρ : Operand → Value} {τ : Operand → Option TV} : ∀ {ps : List (Nat × Operand)} {qs : List (Nat × List zcp)},zij τ ps = some qs → (∀ x ∈ ps.map (·.2),∀ tv,τ x = some tv → zcE w ok β (ρ x) tv) →
  RepPs w ok β (ps.map fun (i,x) => (i,ρ x)) qs
 | [],_,e,_ => by cases e; trivial
 | (i,x) :: ps,qs,e,hr => by
  unfold zij at e
  split at e
  ·rename_i ls r' h1 h2
   cases e
   simp only [Option.bind_eq_some_iff] at h1
   obtain ⟨tv,h3,h4⟩ := h1
   exact ⟨rfl,(hr x (by simp) tv h3).cells h4,zjj h2 fun y hy => hr y (by simp at hy ⊢; exact .inr hy)⟩
  ·cases e
theorem fill_rep {place : Nat → Option (Nat × Nat)} : ∀ {ps : List (Nat × Value)} {qs : List (Nat × List zcp)} {cs : Array Value} {z ls : List zcp},RepPs w ok β ps qs → zcA w ok β cs.toList z → fillL place z qs = some ls →
  ∃ cs',Instr.fill place cs ps = some cs' ∧ zcA w ok β cs'.toList ls
 | [],[],cs,z,ls,_,hz,e => by cases e; exact ⟨cs,rfl,hz⟩
 | (i,v) :: ps,(j,l) :: qs,cs,z,ls,⟨hij,hv,hp⟩,hz,e => by
  subst hij
  unfold fillL at e
  unfold Instr.fill
  split at e
  ·cases e
  ·rename_i off size hpl
   rw [hpl]
   split at e
   ·rename_i hc
    have hl := hv.length
    have hzl := hz.length
    simp only [Array.length_toList] at hl hzl
    have h1 : (decide (v.cells.size ≠ size) || decide (off + v.cells.size > cs.size)) = false := by simp; omega
    simp only [h1,Bool.false_eq_true,if_false]
    refine fill_rep hp ?_ e
    rw [arr_fill off v.cells cs (by omega)]
    exact hz.splice hv
   ·cases e
 | [],_ :: _,_,_,_,h,_,_ => h.elim
 | _ :: _,[],_,_,_,h,_,_ => h.elim
theorem build_sound (I : Inv w0 own w β ok h) {o : Oper} {ρ : Operand → Value} {τ : Operand → Option TV} {t : TypeId} {parts : Array (Nat × Operand)} (ho : o.op = .build t parts)
  (hr : ∀ x ∈ parts.toList.map (·.2),∀ tv,τ x = some tv → zcE w ok β (ρ x) tv) {qs : List (Nat × List zcp)} (hq : zij τ parts.toList = some qs) {r : zcF} (e : evBuild P t qs = some r) :
  zcH P o ρ w fun v w' => ∃ β' ok',zdm w0 own w β ok h r.val r.upd v w' β' ok' := by
 unfold evBuild at e
 split at e
 ·rename_i fs z hu hz
  split at e
  ·rename_i places hp
   split at e
   ·rename_i ls hf
    cases e
    obtain ⟨i,zv,hi,hz',_,hl⟩ := zgJ hz
    obtain ⟨cs',h1,h2⟩ := fill_rep (zjj hq hr) (zfP (w := w) (ok := ok) (β := β) hl) hf
    have hb : P.built t ((parts.map fun (i,x) => (i,ρ x)).toList) = some cs' := by
     unfold Program.built
     simp only [hi,hu,hz',hp,Array.toList_map]
     rw [← h1]
     congr 1
     funext j
     simp
    refine ⟨.agg cs',w,.inl ?_,β,ok,zdm.same I ⟨cs'.toList,by simp,h2⟩⟩
    simp [execOp,ho,run_build w t _ cs' hb]
   ·cases e
  ·cases e
 ·cases e
theorem zfH {e : TypeId} {t : Ty} {z : t.den} (hz : zeroOf P e = some ⟨t,z⟩) : ∃ i zv,P.info? e = some i ∧ i.zero = some zv ∧ zv.cells.size = i.size ∧ i.size = t.size ∧
  ∀ (w : World) (ok : Nat → Prop),zcM w ok t zv.cells.toList z := by
 unfold zeroOf at hz
 split at hz
 ·rename_i t' zl _ hl
  split at hz
  ·rename_i d hd
   split at hz
   ·rename_i hs
    cases hz
    obtain ⟨i,zv,h1,h2,h3,h4⟩ := zgJ hl
    refine ⟨i,zv,h1,h2,h3,?_,fun w ok => RepD_toDen (β := fun _ => none) (zfP h4) hd⟩
    rw [hs]
    unfold Program.cellsOf
    rw [h1]
    rfl
   ·cases hz
  ·cases hz
 ·cases hz
theorem zhK (zc : Array Value) (hz : 0 < zc.size) : ∀ n,((Array.range (n * zc.size)).map fun j => zc[j % zc.size]!).toList = (List.replicate n zc.toList).flatten
 | 0 => by simp
 | n + 1 => by
  have ih := zhK zc hz n
  rw [List.replicate_succ',List.flatten_append,← ih]
  apply List.ext_getElem?
  intro m
  simp only [Array.toList_map,Array.toList_range,List.getElem?_map,List.flatten_cons,List.flatten_nil,List.append_nil,List.getElem?_append,List.length_map,List.length_range]
  have hmul : (n + 1) * zc.size = n * zc.size + zc.size := by rw [Nat.add_mul,Nat.one_mul]
  by_cases h1 : m < n * zc.size
  ·rw [if_pos h1,List.getElem?_range (by omega),List.getElem?_range h1]
  ·rw [if_neg h1]
   by_cases h2 : m < (n + 1) * zc.size
   ·rw [List.getElem?_range h2]
    have h3 : m % zc.size = m - n * zc.size := by
     have h4 : m = (m - n * zc.size) + zc.size * n := by rw [Nat.mul_comm zc.size n]; omega
     have h5 : (m - n * zc.size + zc.size * n) % zc.size = m - n * zc.size := by rw [Nat.add_mul_mod_self_left,Nat.mod_eq_of_lt (by omega)]
     rw [← h4] at h5
     exact h5
    simp only [Option.map_some,h3]
    rw [getElem!_pos zc _ (by omega)]
    simp [show m - n * zc.size < zc.size by omega]
   ·rw [List.getElem?_eq_none (by simp; omega),List.getElem?_eq_none (by simp; omega)]
    rfl
theorem elemsOf_rep {t : Ty} {z : t.den} {sz : Nat} (hsz : sz = t.size) : ∀ {ps : List (Nat × Value)} {qs : List (Nat × List zcp)} {cs : Array Value} {xs xs' : List t.den},RepPs w ok β ps qs → zcX w ok t cs.toList xs → cs.size = xs.length * t.size →
  elemsOf t z qs xs = some xs' → ∃ cs',Instr.fill (fun i => some (i * sz,sz)) cs ps = some cs' ∧ zcX w ok t cs'.toList xs' ∧ cs'.size = xs'.length * t.size ∧ xs'.length = xs.length
 | [],[],cs,xs,xs',_,hr,hl,e => by cases e; exact ⟨cs,rfl,hr,hl,rfl⟩
 | (i,v) :: ps,(j,l) :: qs,cs,xs,xs',⟨hij,hv,hp⟩,hr,hl,e => by
  subst hij
  subst hsz
  unfold elemsOf at e
  split at e
  ·rename_i y hy
   split at e
   ·rename_i hi
    have hd := RepD_toDen hv hy
    have hvl := hd.length t
    simp only [Array.length_toList] at hvl
    have hmul : (i + 1) * t.size ≤ xs.length * t.size := Nat.mul_le_mul_right _ hi
    rw [Nat.add_mul] at hmul
    unfold Instr.fill
    have h1 : (decide (v.cells.size ≠ t.size) || decide (i * t.size + v.cells.size > cs.size)) = false := by simp; omega
    simp only [h1,Bool.false_eq_true,if_false]
    have hfit : i * t.size + v.cells.size ≤ cs.size := by omega
    have ha := arr_fill (i * t.size) v.cells cs hfit
    obtain ⟨cs',h2,h3,h4,h5⟩ := elemsOf_rep (t := t) (z := z) rfl hp (cs := v.cells.zipIdx.foldl (fun cs (c,j) => cs.setIfInBounds (i * t.size + j) c) cs) (by
     rw [ha]
     exact zcX.set hr (by simpa using hl) hi hd) (by
     have := congrArg List.length ha
     simp only [Array.length_toList,List.length_append,List.length_take,List.length_drop] at this
     rw [this,List.length_set]
     omega) e
    exact ⟨cs',h2,h3,h4,by simpa using h5⟩
   ·cases e
  ·cases e
 | [],_ :: _,_,_,_,h,_,_,_ => h.elim
 | _ :: _,[],_,_,_,h,_,_,_ => h.elim
theorem resolveP_ids {h : zcJ} : ∀ {ls ls' : List (Nat × List zcp)} {ids : List Nat},zfi h ls = some (ls',ids) → ∀ id ∈ ids,∃ e,h id = some e ∧ e.live = true
 | [],_,_,e,id,hid => by cases e; cases hid
 | (i,l) :: ls,_,_,e,id,hid => by
  unfold zfi at e
  split at e
  ·rename_i l1 a ls1 b h1 h2
   cases e
   rcases List.mem_append.1 hid with h3 | h3
   ·exact zgG h1 id h3
   ·exact resolveP_ids h2 id h3
  ·cases e
theorem resolveP_rep {h h' : zcJ} (I : Inv w0 own w β ok h') : ∀ {ls ls' : List (Nat × List zcp)} {ids : List Nat} {vs : List (Nat × Value)},zfi h ls = some (ls',ids) → RepPs w ok β vs ls →
  (∀ id ∈ ids,∀ e,h id = some e → h' id = some { e with w := false }) → RepPs w ok β vs ls'
 | [],_,_,vs,e,hr,_ => by cases e; exact hr
 | (i,l) :: ls,_,_,[],e,hr,_ => hr.elim
 | (i,l) :: ls,_,_,(j,v) :: vs,e,hr,hz => by
  unfold zfi at e
  split at e
  ·rename_i l1 a ls1 b h1 h2
   cases e
   exact ⟨hr.1,zgs I h1 hr.2.1 fun id hid => hz id (List.mem_append_left _ hid),resolveP_rep I h2 hr.2.2 fun id hid => hz id (List.mem_append_right _ hid)⟩
  ·cases e
theorem RepPs.mono {w' : World} {ok' : Nat → Prop} {β' : Nat → Option Value} (hh : ∀ b,ok b → w'.heap[b]? = w.heap[b]?) (hk : ∀ b,ok b → ok' b) (hβ : ∀ id v,β id = some v → β' id = some v) :
  ∀ {vs : List (Nat × Value)} {ls : List (Nat × List zcp)},RepPs w ok β vs ls → RepPs w' ok' β' vs ls
 | [],[],_ => trivial
 | _ :: _,_ :: _,⟨h1,h2,h3⟩ => ⟨h1,zcA.mono hh hk hβ h2,RepPs.mono hh hk hβ h3⟩
 | [],_ :: _,h => h.elim
 | _ :: _,[],h => h.elim
theorem buildSlice_sound (I : Inv w0 own w β ok h) {o : Oper} {ρ : Operand → Value} {τ : Operand → Option TV} {t : TypeId} {len : Nat} {parts : Array (Nat × Operand)} (ho : o.op = .buildSlice t len parts)
  (hr : ∀ x ∈ parts.toList.map (·.2),∀ tv,τ x = some tv → zcE w ok β (ρ x) tv) {qs : List (Nat × List zcp)} (hq : zij τ parts.toList = some qs) {r : zcF} (e : zfM P h o.dst t len qs = some r) :
  zcH P o ρ w fun v w' => ∃ β' ok',zdm w0 own w β ok h r.val r.upd v w' β' ok' := by
 unfold zfM at e
 split at e
 ·rename_i d et qs' ids _ hu hres
  split at e
  ·rename_i ty z hz hid
   split at e
   ·rename_i hbig
    split at e
    ·rename_i xs hx
     cases e
     obtain ⟨i,zv,hi,hzv,hzs,his,hzr⟩ := zfH hz
     obtain ⟨ok1,hk1,I1,_,hfz,hB⟩ := I.freezes ids (zeY.refl h) (resolveP_ids hres)
     have hp := resolveP_rep I1 hres (RepPs.mono (fun _ _ => rfl) hk1 (fun _ _ h => h) (zjj hq hr)) hfz
     have hzsz : zv.cells.size = ty.size := hzs.trans his
     have hpos := ty.size_pos
     have hz0 : zcX w ok1 ty ((Array.range (len * zv.cells.size)).map fun j => zv.cells[j % zv.cells.size]!).toList (List.replicate len z) := by
      rw [zhK zv.cells (by omega)]
      exact zcX.replicate (hzr w ok1) len
     obtain ⟨cs',h2,h3,h4,h5⟩ := elemsOf_rep (sz := i.size) his hp hz0 (by simp [hzsz]) hx
     have hx0 : xs.length = len := by simpa using h5
     have hidd : zcU h (freezes h ids) (zdv d) = none := by
      rw [zet _ _ _ fun x hx2 e2 => ?_]
      ·exact hid
      ·obtain ⟨_,e3,he3,_⟩ := zfJ hx2
       rw [e2,hid] at he3
       cases he3
     refine ⟨.slice (some ⟨w.heap.size,0,none⟩) len len,w.alloc (.cells cs' et),.inl ?_,_,ok1,fun g hg => zgF I1 rfl _ g (hk1 g hg),hk1,zfF I1 _ hidd (.slice (some ⟨w.heap.size,0,none⟩) len len),?_,?_,zgO (zgy d 0 (by decide)),hB⟩
     ·have h6 : ¬ (2 ^ 24 < len * i.size) := by rw [his]; omega
      have hfill : Instr.fill (fun x => some (x * i.size,i.size)) ((Array.range (len * i.size)).map fun j => zv.cells[j % zv.cells.size]!) (parts.map fun (i,x) => (i,ρ x)).toList = some cs' := by
       rw [← h2,Array.toList_map,hzs]
      by_cases h0 : len * i.size = 0
      ·have hfill' := hfill
       rw [h0,show Array.range 0 = #[] from rfl] at hfill'
       simp [execOp,ho,Instr.buildSlice,run_underlying hu,sizeOf,typeInfo,hi,h0,show Array.range 0 = #[] from rfl]
       simp at hfill'
       rw [hfill']
       simp [newRow]
      ·simp [execOp,ho,Instr.buildSlice,run_underlying hu,sizeOf,typeInfo,zeroValue,hi,hzv,h6,h0]
       simp at hfill
       rw [hfill]
       simp [newRow]
     ·exact ⟨by simp,_,_,_,rfl⟩
     ·rw [zhd]
      refine I1.new rfl rfl rfl rfl _ hidd _ _ _ (fun g hg => by cases hg; rfl) rfl ?_
      refine ⟨.slice (some ⟨w.heap.size,0,none⟩) len len,cs'.toList,by simp,?_,h3.mono (zgF I1 rfl _) (fun _ h => h)⟩
      rw [hx0]
      exact World.ownsRow_lit w cs' len (Nat.zero_le _) (by simp only [maxLen]; have := Nat.le_mul_of_pos_right len hpos; omega) (by rw [h4,hx0])
    ·cases e
   ·cases e
  ·cases e
 ·cases e
end
end Go.Proofs.YtlfdidaeachpoaaGreat
namespace Go.Proofs.YtlfdidaeachpoaaGreat
open Go Go.RowKit
theorem zhT : (t : Ty) → (x : t.den) → (flat t x).all zcp.solid = true
 | .int _,_ => rfl
 | .bool,_ => rfl
 | .str,_ => rfl
 | .sl _,_ => rfl
 | .pair a b,x => by show (flat a x.1 ++ flat b x.2).all _ = true; rw [List.all_append,zhT a,zhT b]; rfl
section
variable {P : Program} {w0 : World} {own : Nat → Prop} {w : World} {β : Nat → Option Value} {ok : Nat → Prop} {h : zcJ}
theorem zgm {t : TypeId} {i : TypeInfo} (hi : P.info? t = some i) : P.cellsOf t = i.size := by
 unfold Program.cellsOf; rw [hi]; rfl
theorem zjb {t : TypeId} {i : TypeInfo} (hi : P.info? t = some i) : P.bytesOf t = i.bytes := by
 unfold Program.bytesOf; rw [hi]; rfl
theorem makeSlice_sound (I : Inv w0 own w β ok h) {o : Oper} {ρ : Operand → Value} {t : TypeId} {l c : Operand} (ho : o.op = .makeSlice t l c) {tl tc : TV} (hl : zcE w ok β (ρ l) tl) (hc : zcE w ok β (ρ c) tc)
  {r : zcF} (e : zgi P h o.dst t tl tc = some r) (hvc : r.vc = true) : zcH P o ρ w fun v w' => ∃ β' ok',zdm w0 own w β ok h r.val r.upd v w' β' ok' := by
 unfold zgi at e
 split at e
 ·rename_i d et kl n kc m _ hu
  split at e
  ·rename_i ty z hz hid
   split at e
   case h_2 => cases e
   rename_i hzl
   cases e
   simp only [Bool.and_eq_true,decide_eq_true_eq] at hvc
   obtain ⟨⟨⟨h0,hnm⟩,hb⟩,hmax⟩ := hvc
   subst hnm
   obtain ⟨i,zv,hi,hzv,hzs,his,hzr⟩ := zfH hz
   rw [zjb hi] at hb
   have hrun := run_make (P := P) w t et i zv hu hi hzv kl kc n n h0 (Int.le_refl _) hb hmax
   have hcells : (madeCells zv.cells (n.toNat * i.size)).toList = (List.replicate n.toNat zv.cells.toList).flatten := by
    rw [← hzs]
    have := (Ty.sl ty).size_pos
    exact zhK zv.cells (by omega) n.toNat
   have h1s : i.size = 1 := his
   have hzc : zv.cells.toList = [.slice none 0 0] := by
    obtain ⟨i2,z2,hi2,hz2,_,hl2⟩ := zgJ hzl
    rw [hi] at hi2
    cases hi2
    rw [hzv] at hz2
    cases hz2
    have := zfP (w := w) (ok := ok) (β := β) hl2
    generalize zv.cells.toList = q at this
    match q,this with
    | [u],⟨h,_⟩ => rw [show u = _ from h]
    | _ :: _ :: _,⟨_,h⟩ => exact h.elim
    | [],h => exact h.elim
   refine ⟨.slice (some ⟨w.heap.size,0,none⟩) n.toNat n.toNat,w.alloc (.cells (madeCells zv.cells (n.toNat * i.size)) et),.inl ?_,_,ok,zgF I rfl _,fun _ h => h,zfF I _ hid (.slice (some ⟨w.heap.size,0,none⟩) n.toNat n.toNat),?_,?_,zgO (zgy d 0 (by decide)),fun _ h => .inl h⟩
   ·have h1 := hl.1
    have h2 := hc.1
    simp only [execOp,ho,h1,h2,Sem.run_bind,hrun,Result.andThen]
    rfl
   ·exact ⟨by simp,_,_,_,rfl⟩
   ·refine I.new rfl rfl rfl rfl _ hid _ _ _ (fun g hg => by cases hg; rfl) rfl ?_
    refine ⟨.slice (some ⟨w.heap.size,0,none⟩) n.toNat n.toNat,(madeCells zv.cells (n.toNat * i.size)).toList,by simp,?_,?_⟩
    ·rw [List.length_replicate]
     have hm : n.toNat ≤ maxLen := by simp only [maxLen]; omega
     exact World.ownsRow_lit w (madeCells zv.cells (n.toNat * i.size)) n.toNat (Nat.zero_le _) hm (by rw [size_madeCells,h1s])
    ·rw [hcells,hzc]
     show (List.replicate n.toNat [Value.slice none 0 0]).flatten = List.replicate n.toNat (.slice none 0 0)
     generalize n.toNat = k
     induction k with
     | zero => rfl
     | succ k ih => rw [List.replicate_succ,List.flatten_cons,ih,List.replicate_succ]; rfl
  ·rename_i ty z hnosl hz hid
   cases e
   simp only [Bool.and_eq_true,decide_eq_true_eq] at hvc
   obtain ⟨⟨⟨h0,hnm⟩,hb⟩,hmax⟩ := hvc
   subst hnm
   obtain ⟨i,zv,hi,hzv,hzs,his,hzr⟩ := zfH hz
   have hpos := ty.size_pos
   rw [zjb hi] at hb
   have hrun := run_make (P := P) w t et i zv hu hi hzv kl kc n n h0 (Int.le_refl _) hb hmax
   have hcells : (madeCells zv.cells (n.toNat * i.size)).toList = (List.replicate n.toNat zv.cells.toList).flatten := by
    rw [← hzs]
    exact zhK zv.cells (by omega) n.toNat
   refine ⟨.slice (some ⟨w.heap.size,0,none⟩) n.toNat n.toNat,w.alloc (.cells (madeCells zv.cells (n.toNat * i.size)) et),.inl ?_,_,ok,zgF I rfl _,fun _ h => h,zfF I _ hid (.slice (some ⟨w.heap.size,0,none⟩) n.toNat n.toNat),?_,?_,zgO (zgy d 0 (by decide)),fun _ h => .inl h⟩
   ·have h1 := hl.1
    have h2 := hc.1
    simp only [execOp,ho,h1,h2,Sem.run_bind,hrun,Result.andThen]
    rfl
   ·exact ⟨by simp,_,_,_,rfl⟩
   ·refine I.new rfl rfl rfl rfl _ hid _ _ _ (fun g hg => by cases hg; rfl) rfl ?_
    refine ⟨.slice (some ⟨w.heap.size,0,none⟩) n.toNat n.toNat,(madeCells zv.cells (n.toNat * i.size)).toList,by simp,?_,?_⟩
    ·rw [List.length_replicate]
     have hm : n.toNat ≤ maxLen := by simp only [maxLen]; omega
     exact World.ownsRow_lit w (madeCells zv.cells (n.toNat * i.size)) n.toNat (Nat.zero_le _) hm (by rw [size_madeCells,his])
    ·rw [hcells]
     exact (zcX.replicate (hzr w ok) n.toNat).mono (zgF I rfl _) (fun _ h => h)
  ·cases e
 ·cases e
theorem zcM.mem {t : Ty} {xs : List t.den} {v : Value} (hr : zcM w ok (.sl t) [v] xs) : ∃ A cap,v = .slice A xs.length cap ∧ (A = none → cap = 0) ∧
  ∃ us : List Value,us.length = xs.length * t.size ∧ zcX w ok t us xs ∧ (∀ u ∈ us,u.oneCell' = true) ∧ ∀ ad,A = some ad → ∀ j u,us[j]? = some u → w.cell? (ad.add j) = some u := by
 obtain ⟨A,cap,e,h1,h2,h0,h3⟩ := hr
 cases e
 refine ⟨A,cap,rfl,h0,?_⟩
 have key : ∀ k,k ≤ xs.length → ∃ us : List Value,us.length = k * t.size ∧ (∀ i (hi : i < xs.length),i < k → zcM w ok t ((us.drop (i * t.size)).take t.size) xs[i]) ∧
   (∀ u ∈ us,u.oneCell' = true) ∧ (∀ ad,A = some ad → ∀ j u,us[j]? = some u → w.cell? (ad.add j) = some u) := by
  intro k
  induction k with
  | zero => exact fun _ => ⟨[],by simp,fun _ _ h => absurd h (Nat.not_lt_zero _),(fun _ h => by cases h),(fun _ _ j u h => by simp at h)⟩
  | succ k ih =>
   intro hk
   obtain ⟨us,hl,hd,ho,hm⟩ := ih (by omega)
   obtain ⟨b,o,vs,hA,_,hvl,hmem,hvd⟩ := h3 k (by omega)
   refine ⟨us ++ vs,by rw [List.length_append,hl,hvl,Nat.add_mul,Nat.one_mul],fun i hi hik => ?_,fun u hu => ?_,fun ad had j u hu => ?_⟩
   ·by_cases hik' : i < k
    ·have hmul : (i + 1) * t.size ≤ k * t.size := Nat.mul_le_mul_right _ hik'
     rw [Nat.add_mul,Nat.one_mul] at hmul
     rw [List.drop_append_of_le_length (by omega),List.take_append_of_le_length (by simp; omega)]
     exact hd i hi hik'
    ·have : i = k := by omega
     subst this
     rw [List.drop_append_of_le_length (by omega),List.drop_of_length_le (by omega),List.nil_append,List.take_of_length_le (by omega)]
     exact hvd
   ·rcases List.mem_append.1 hu with h4 | h4
    ·exact ho u h4
    ·exact (zcM.flat (β := fun _ => none) t hvd).oneCell (zhT t _) u h4
   ·rw [hA] at had
    cases had
    rw [List.getElem?_append] at hu
    split at hu
    ·exact hm _ hA j u hu
    ·rw [ziv]
     have := hmem _ u hu
     rw [← this]
     congr 2
     omega
 obtain ⟨us,hl,hd,ho,hm⟩ := key xs.length (Nat.le_refl _)
 exact ⟨us,hl,fun i hi => hd i hi hi,ho,hm⟩
theorem zcX.oneCell {t : Ty} {us : List Value} {xs : List t.den} (hr : zcX w ok t us xs) (hl : us.length = xs.length * t.size) : ∀ u ∈ us,u.oneCell' = true := by
 intro u hu
 obtain ⟨j,hj,rfl⟩ := List.getElem_of_mem hu
 have hpos := t.size_pos
 have hi : j / t.size < xs.length := by rw [Nat.div_lt_iff_lt_mul hpos]; omega
 have hd := zcM.flat (β := fun _ => none) t (hr (j / t.size) hi)
 refine hd.oneCell (zhT t _) _ ?_
 have hm := Nat.div_add_mod j t.size
 have hlt := Nat.mod_lt j hpos
 rw [Nat.mul_comm] at hm
 refine List.mem_iff_getElem?.2 ⟨j % t.size,?_⟩
 rw [List.getElem?_take,if_pos hlt,List.getElem?_drop,hm,List.getElem?_eq_getElem hj]
theorem ent_cells (I : Inv w0 own w β ok h) {id : Nat} {ew : Bool} {e : TypeId} {t : Ty} {xs : List t.den} {v : Value} (he : h id = some ⟨ew,.arr e t xs⟩) (hv : β id = some v) :
  ∃ A cap,v = .slice A xs.length cap ∧ (A = none → cap = 0) ∧
  ∃ us : List Value,us.length = xs.length * t.size ∧ zcX w ok t us xs ∧ (∀ u ∈ us,u.oneCell' = true) ∧ ∀ ad,A = some ad → ∀ j u,us[j]? = some u → w.cell? (ad.add j) = some u := by
 obtain ⟨v',us,h1,h2,h3⟩ := I.ent id _ he
 rw [hv] at h1
 cases h1
 have hone := h3.oneCell h2.1
 rcases h2.2 with ⟨rfl,hn⟩ | ⟨g,cap,cur,rfl,_,hg,hnc,hcm,hcs,htake⟩
 ·exact ⟨none,0,by rw [hn],fun _ => rfl,us,h2.1,h3,hone,fun ad h => by cases h⟩
 ·refine ⟨some ⟨g,0,none⟩,cap,rfl,(fun h => by cases h),us,h2.1,h3,hone,fun ad had j u hu => ?_⟩
  cases had
  exact h2.cells (g := g) rfl j u hu
theorem listOf_rep (I : Inv w0 own w β ok h) {v : Value} {tx : TV} (hr : zcE w ok β v tx) {t : Ty} {ys : List t.den} {q : Bool} (e : listOf h tx = some ⟨t,ys,q⟩) :
  ∃ A cap,v = .slice A ys.length cap ∧ (A = none → cap = 0 ∧ ys.length = 0) ∧
  ∃ us : List Value,us.length = ys.length * t.size ∧ zcX w ok t us ys ∧ (∀ u ∈ us,u.oneCell' = true) ∧ ∀ ad,A = some ad → ∀ j u,us[j]? = some u → w.cell? (ad.add j) = some u := by
 unfold listOf at e
 split at e
 ·cases e
  have hle : ∀ A cap,v = .slice A ys.length cap → ys.length ≤ cap := fun A cap hv => by
   obtain ⟨A',cap',e',h1,_⟩ := hr
   rw [hv] at e'
   cases e'
   exact h1
  obtain ⟨A,cap,hv,h0,rest⟩ := zcM.mem hr
  exact ⟨A,cap,hv,fun hA => ⟨h0 hA,by have := hle A cap hv; rw [h0 hA] at this; omega⟩,rest⟩
 ·rename_i id
  split at e
  ·rename_i ew et t' xs he
   cases e
   have hle : ∀ A cap,v = .slice A ys.length cap → ys.length ≤ cap := fun A cap hv => by
    obtain ⟨v',us,h1,h2,_⟩ := I.ent id _ he
    rw [hr.1] at h1
    cases h1
    rcases h2.2 with ⟨h',hn⟩ | ⟨g,cap',cur,h',_,_,hnc,_⟩
    ·rw [hv] at h'; injection h' with _ h5 h6; omega
    ·rw [hv] at h'; injection h' with _ h5 h6; omega
   obtain ⟨A,cap,hv,h0,rest⟩ := ent_cells I he hr.1
   exact ⟨A,cap,hv,fun hA => ⟨h0 hA,by have := hle A cap hv; rw [h0 hA] at this; omega⟩,rest⟩
  ·cases e
 ·cases e
theorem append_run (t ty e : TypeId) (i : TypeInfo) (z : Value) (ht : P.underlying t = some (.slice e)) (hi : P.info? e = some i) (hz : i.zero = some z) (hzs : z.cells.size = i.size) (hsz : 0 < i.size)
  (v : Value) (n : Nat) (xs : List Value) (hown : w.ownsRow 0 e i.size v n xs) (a : Addr) (m c : Nat) (news : List Value) (hl : news.length = m * i.size)
  (hnews : ∀ j u,news[j]? = some u → w.cell? (a.add j) = some u) (h1 : ∀ u ∈ news,u.oneCell' = true) (h63 : n + m ≤ maxLen) (hbytes : (n + m) * i.bytes ≤ 140737488355328) :
  ∃ v' w',(Builtin.append_ #[t,t] ty #[v,.slice (some a) m c]).run P w = .ok v' w' ∧ w'.ownsRow 0 e i.size v' (n + m) (xs ++ news) ∧ w.grownBy w' v.ownBlock ∧
   (v'.ownBlock = v.ownBlock ∨ v'.ownBlock = some w.heap.size) := by
 obtain ⟨v',w',hr,ho,hg,_⟩ := run_append_own (P := P) w 0 t ty e i z i.size i.bytes ht hi hz rfl rfl hzs hsz v n xs hown a m c news hl hnews h1 h63 hbytes (Nat.zero_le _)
 refine ⟨v',w',hr,ho,hg,?_⟩
 have hsmall : n + m ≤ 9223372036854775807 := by simp only [maxLen] at h63; omega
 rcases hown.2 with ⟨rfl,rfl⟩ | ⟨g,cap,cur,rfl,hbg,hgg,hnc,hcm,hcs,htake⟩
 ·by_cases hm : m = 0
  ·subst hm
   have : (Builtin.append_ #[t,t] ty #[.slice none 0 0,.slice (some a) 0 c]).run P w = .ok (.slice none 0 0) w := by
    simp [Builtin.append_,run_underlying ht,sizeOf,typeInfo,hi,Builtin.lenOf,Builtin.firstCells,loadCells,loadCellsFrom]
   rw [this] at hr
   cases hr
   exact .inl rfl
  ·have := run_append_nil (P := P) w t ty e i z ht hi hz a m c news hl hnews (by omega) (by omega) (by have hb := hbytes; simp only [Nat.zero_add] at hb; omega)
   rw [this] at hr
   cases hr
   exact .inr rfl
 ·by_cases hroom : n + m ≤ cap
  ·have hfit : n * i.size + news.length ≤ cur.size := by rw [hl,hcs,← Nat.add_mul]; exact Nat.mul_le_mul_right _ hroom
   have := run_append_room (P := P) w t ty e i ht hi g n cap cur hgg a m c news hl hnews h1 hroom hfit
   rw [this] at hr
   cases hr
   exact .inl rfl
  ·have holds : ∀ j u,xs[j]? = some u → w.cell? ((⟨g,0,none⟩ : Addr).add j) = some u := hown.cells (g := g) rfl
   have := run_append_grow (P := P) w t ty e i z ht hi hz ⟨g,0,none⟩ n cap xs hown.1 holds a m c news hl hnews (by omega) (by omega) (growslice_fits (by omega) hbytes)
   rw [this] at hr
   cases hr
   exact .inr rfl
theorem zcX.append {t : Ty} {us vs : List Value} {xs ys : List t.den} (h1 : zcX w ok t us xs) (h2 : zcX w ok t vs ys) (hl : us.length = xs.length * t.size) : zcX w ok t (us ++ vs) (xs ++ ys) := by
 intro i hi
 simp only [List.length_append] at hi
 by_cases h3 : i < xs.length
 ·have hmul : (i + 1) * t.size ≤ xs.length * t.size := Nat.mul_le_mul_right _ h3
  rw [Nat.add_mul,Nat.one_mul] at hmul
  rw [List.drop_append_of_le_length (by omega),List.take_append_of_le_length (by simp; omega),List.getElem_append_left h3]
  exact h1 i h3
 ·have hmul : xs.length * t.size ≤ i * t.size := Nat.mul_le_mul_right _ (by omega)
  rw [List.getElem_append_right (by omega)]
  have := h2 (i - xs.length) (by omega)
  have e : (us ++ vs).drop (i * t.size) = vs.drop ((i - xs.length) * t.size) := by
   rw [List.drop_append,List.drop_of_length_le (by omega),List.nil_append,hl,Nat.sub_mul]
  rw [e]
  exact this
theorem append_core (I : Inv w0 own w β ok h) {nid : Nat} (hnl : nid < zco) (hid : h nid = none) {st ty' e : TypeId} {t : Ty} {z : t.den} (hu : P.underlying st = some (.slice e)) (hz : zeroOf P e = some ⟨t,z⟩)
  {v vx : Value} {xs ys : List t.den} {us : List Value} (hown : w.ownsRow 0 e t.size v xs.length us) (hes : zcX w ok t us xs)
  (hmine : ∀ g,blk v = some g → (¬ ok g ∧ (own g ∨ w0.heap.size ≤ g) ∧ ∀ j e' v',h j = some e' → e'.live = true → β j = some v' → blk v' ≠ some g))
  {A : Option Addr} {c : Nat} (hx : vx = .slice A ys.length c) (hA : A = none → c = 0 ∧ ys.length = 0) {vs : List Value} (hvl : vs.length = ys.length * t.size) (hvs : zcX w ok t vs ys) (hvo : ∀ u ∈ vs,u.oneCell' = true)
  (hva : ∀ ad,A = some ad → ∀ j u,vs[j]? = some u → w.cell? (ad.add j) = some u)
  (hb : (xs.length + ys.length) * P.bytesOf e ≤ 140737488355328) (hm : xs.length + ys.length ≤ maxLen) :
  ∃ v' w',(Builtin.append_ #[st,st] ty' #[v,vx]).run P w = .ok v' w' ∧ ∃ β' ok',zdm w0 own w β ok h (.lf (.ref nid)) [(nid,⟨true,.arr e t (xs ++ ys)⟩)] v' w' β' ok' := by
 subst hx
 obtain ⟨i,zv,hi,hzv,hzs,his,_⟩ := zfH hz
 have hpos := t.size_pos
 rw [zjb hi] at hb
 have hslice : ∀ {w' : World} {v' : Value} {us' : List Value} {n : Nat},w'.ownsRow 0 e t.size v' n us' → ∃ A n c,v' = .slice A n c := fun ho => by
  rcases ho.2 with ⟨rfl,_⟩ | ⟨g,cap,cur,rfl,_⟩ <;> exact ⟨_,_,_,rfl⟩
 cases A with
 | none =>
  obtain ⟨hc0,hy0⟩ := hA rfl
  subst hc0
  have hys : ys = [] := List.eq_nil_of_length_eq_zero hy0
  subst hys
  have hrun : (Builtin.append_ #[st,st] ty' #[v,.slice none 0 0]).run P w = .ok v w := run_append_owned_none (P := P) w 0 st ty' e i t.size hu hi v xs.length us hown
  refine ⟨v,w,hrun,fun j => if j = nid then some v else β j,ok,fun _ _ => rfl,fun _ h => h,zfF I nid hid v,⟨by simp,hslice hown⟩,?_,zgO hnl,fun _ h => .inl h⟩
  have hβ : β nid = none := by
   cases hb : β nid with
   | none => rfl
   | some u => obtain ⟨e',he⟩ := I.dom nid u hb; rw [hid] at he; cases he
  refine I.put nid _ v ok rfl rfl rfl (Nat.le_refl _) (fun _ _ _ => rfl) (fun _ h => h) (fun _ h => .inl h) (.inl hβ) (fun g hg => ?_) rfl ?_
  ·exact ⟨(hmine g hg).1,(hmine g hg).2.1,fun j e' v' _ => (hmine g hg).2.2 j e' v'⟩
  ·exact ⟨v,us,by simp,by simpa using hown,by simpa using hes⟩
 | some ad =>
  have hown' : w.ownsRow 0 e i.size v xs.length us := by rw [his]; exact hown
  obtain ⟨v',w',hrun,ho,hg,hblk⟩ := append_run (P := P) st ty' e i zv hu hi hzv hzs (by omega) v xs.length us hown' ad ys.length c vs (by rw [his]; exact hvl) (hva ad rfl) hvo hm hb
  rw [his] at ho
  have hvb := zgX hown
  have hvb' := zgX ho
  have hoth : ∀ g,g < w.heap.size → blk v ≠ some g → w'.heap[g]? = w.heap[g]? := fun g hg1 hg2 => hg.block g hg1 fun e => hg2 (by rw [hvb,← e])
  have hokh : ∀ g,ok g → w'.heap[g]? = w.heap[g]? := fun g hk => hoth g (I.okLt g hk) fun e => (hmine g e).1 hk
  refine ⟨v',w',hrun,fun j => if j = nid then some v' else β j,ok,hokh,fun _ h => h,zfF I nid hid v',⟨by simp,hslice ho⟩,?_,zgO hnl,fun _ h => .inl h⟩
  have hβ : β nid = none := by
   cases hb : β nid with
   | none => rfl
   | some u => obtain ⟨e',he⟩ := I.dom nid u hb; rw [hid] at he; cases he
  have hnew : ∀ g,blk v' = some g → (¬ ok g ∧ (own g ∨ w0.heap.size ≤ g) ∧ ∀ j e' u,h j = some e' → e'.live = true → β j = some u → blk u ≠ some g) := by
   intro g hg1
   rcases hblk with h1 | h1
   ·exact hmine g (by rw [hvb,← h1,← hvb']; exact hg1)
   ·rw [hvb',h1] at hg1
    cases hg1
    exact ⟨fun hk => Nat.lt_irrefl _ (I.okLt _ hk),.inr I.fr.size,fun j e' u he hl hu' hg' => Nat.lt_irrefl _ (I.lt he hl hu' hg')⟩
  have J : Inv w0 own w' β ok h := by
   refine ⟨⟨hg.os.trans I.fr.os,hg.tape.trans I.fr.tape,hg.output.trans I.fr.output,Nat.le_trans I.fr.size hg.size,fun b hb1 hb2 => ?_⟩,fun b hb1 => Nat.lt_of_lt_of_le (I.okLt b hb1) hg.size,I.dom,fun j e' he => ?_,I.dw,I.wr,I.ro,I.sep⟩
   ·rw [hoth b (Nat.lt_of_lt_of_le hb1 I.fr.size) fun e => ?_]
    ·exact I.fr.block b hb1 hb2
    ·rcases (hmine b e).2.1 with h1 | h1
     ·exact hb2 h1
     ·omega
   ·by_cases hl : e'.live = true
    ·refine (I.ent j e' he).mono hokh (fun _ h => h) (fun _ _ h => h) fun u g hu1 hg1 => ?_
     exact hoth g (I.lt he hl hu1 hg1) fun hv1 => (hmine g hv1).2.2 j e' u he hl hu1 hg1
    ·obtain ⟨ew,eb⟩ := e'
     cases eb with
     | dead => trivial
     | _ => exact absurd rfl hl
  refine J.put nid _ v' ok rfl rfl rfl (Nat.le_refl _) (fun _ _ _ => rfl) (fun _ h => h) (fun _ h => .inl h) (.inl hβ) (fun g hg1 => ?_) rfl ?_
  ·exact ⟨(hnew g hg1).1,(hnew g hg1).2.1,fun j e' u _ => (hnew g hg1).2.2 j e' u⟩
  ·refine ⟨v',us ++ vs,by simp,by rw [List.length_append]; exact ho,?_⟩
   exact (zcX.append hes hvs hown.1).mono hokh (fun _ h => h)
theorem append_sound (I : Inv w0 own w β ok h) {o : Oper} {ρ : Operand → Value} {ts : Array TypeId} {s x : Operand} (ho : o.op = .call { callee := .builtin .append,args := #[s,x],argTypes := ts })
  {t1 t2 : TV} (hs : zcE w ok β (ρ s) t1) (hx : zcE w ok β (ρ x) t2) {r : zcF} (e : zii P h o.dst ts t1 t2 = some r) (hvc : r.vc = true) :
  zcH P o ρ w fun v w' => ∃ β' ok',zdm w0 own w β ok h r.val r.upd v w' β' ok' := by
 have hexec : ∀ st,ts = #[st,st] → execOp ρ o = (do let v ← Builtin.append_ #[st,st] o.type #[ρ s,ρ x]; pure (.value v)) := by
  intro st hst
  simp [execOp,ho,resolve,invoke,builtin,hst]
 have done : ∀ st,ts = #[st,st] → (∃ v' w',(Builtin.append_ #[st,st] o.type #[ρ s,ρ x]).run P w = .ok v' w' ∧ ∃ β' ok',zdm w0 own w β ok h r.val r.upd v' w' β' ok') →
   zcH P o ρ w fun v w' => ∃ β' ok',zdm w0 own w β ok h r.val r.upd v w' β' ok' := by
  rintro st hst ⟨v',w',h1,h2⟩
  exact ⟨v',w',.inl (by rw [hexec st hst]; simp [h1]),h2⟩
 unfold zii at e
 split at e
 case h_2 => cases e
 rename_i d st st' _ hts
 split at e
 case isFalse => cases e
 rename_i hst
 subst hst
 have hts' : ts = #[st',st'] := by cases ts; simpa using hts
 refine done st' hts' ?_
 split at e
 case h_2 => cases e
 rename_i et hu
 split at e
 case h_2 => cases e
 rename_i ty z hz hid
 split at e
 ·-- nil,and a list
  rename_i ty1 ys q hl
  split at e
  case isFalse => cases e
  rename_i hty
  subst hty
  cases e
  simp only [Bool.and_eq_true,decide_eq_true_eq] at hvc
  obtain ⟨A,c,hv,hA,vs,h1,h2,h3,h4⟩ := listOf_rep I hx hl
  rw [show ρ s = .slice none 0 0 from hs]
  have := append_core (P := P) (ty' := o.type) I (zgy d 0 (by decide)) hid hu hz (xs := []) (us := []) (World.ownsRow_nil w 0 et ty1.size) (fun i hi => absurd hi (Nat.not_lt_zero i)) (fun g hg => by cases hg) hv hA h1 h2 h3 h4 (by simpa using hvc.1) (by simpa using hvc.2)
  simpa using this
 ·-- nil,and nil
  split at e
  case h_2 => cases e
  cases e
  rw [show ρ s = .slice none 0 0 from hs,show ρ x = .slice none 0 0 from hx]
  obtain ⟨i,zv,hi,_⟩ := zfH hz
  exact ⟨.slice none 0 0,w,run_append_owned_none (P := P) w 0 st' o.type et i i.size hu hi _ 0 [] (World.ownsRow_nil w 0 et i.size),β,ok,zdm.same I rfl⟩
 ·-- a row,and a list
  rename_i id ty1 ys q hl
  split at e
  case h_2 => cases e
  rename_i e' ty0 xs he
  split at e
  case isFalse => cases e
  rename_i hty
  split at e
  case isFalse => cases e
  rename_i hee
  obtain ⟨rfl,rfl⟩ := hee
  subst hty
  cases e
  simp only [Bool.and_eq_true,decide_eq_true_eq] at hvc
  obtain ⟨A,c,hv,hA,vs,h1,h2,h3,h4⟩ := listOf_rep I hx hl
  obtain ⟨v,us,hb,h5,h6⟩ := I.ent id _ he
  have hsv : ρ s = v := Option.some.inj (hs.1.symm.trans hb)
  have hid' : zcR h id ⟨false,.dead⟩ (zdv d) = none := by
   unfold zcR
   rw [if_neg (fun e => by rw [e,he] at hid; cases hid)]
   exact hid
  have := append_core (P := P) (ty' := o.type) (I.kill id) (zgy d 0 (by decide)) hid' hu hz h5 h6 (fun g hg => ?_) hv hA h1 h2 h3 h4 hvc.1 hvc.2
  ·rw [hsv]
   obtain ⟨v',w',hr,β',ok',D⟩ := this
   exact ⟨v',w',hr,β',ok',D.hh,D.hk,D.hβ,D.rep,D.inv,D.pin,D.okB⟩
  ·have hm := I.mine he rfl hb g hg
   refine ⟨hm.1,hm.2.1,fun j e' v' hj hl' hv' => ?_⟩
   by_cases ej : j = id
   ·subst ej
    simp [zcR] at hj
    subst hj
    cases hl'
   ·simp [zcR,ej] at hj
    exact hm.2.2 j e' v' ej hj hl' hv'
 ·-- a row,and nil
  rename_i id hl
  split at e
  case h_2 => cases e
  rename_i e' ty0 xs he
  split at e
  case isFalse => cases e
  rename_i hee
  obtain ⟨rfl,rfl⟩ := hee
  cases e
  obtain ⟨v,us,hb,h5,h6⟩ := I.ent id _ he
  have hsv : ρ s = v := Option.some.inj (hs.1.symm.trans hb)
  have hid' : zcR h id ⟨false,.dead⟩ (zdv d) = none := by
   unfold zcR
   rw [if_neg (fun e => by rw [e,he] at hid; cases hid)]
   exact hid
  rw [hsv,show ρ x = .slice none 0 0 from hx]
  obtain ⟨i,zv,hi,_,_,his,_⟩ := zfH hz
  have hrun := run_append_owned_none (P := P) w 0 st' o.type e' i ty0.size hu hi v xs.length us h5
  have I' := I.kill id
  have hβ : β (zdv d) = none := by
   cases hb' : β (zdv d) with
   | none => rfl
   | some u => obtain ⟨e2,he2⟩ := I.dom _ u hb'; rw [hid] at he2; cases he2
  refine ⟨v,w,hrun,fun j => if j = zdv d then some v else β j,ok,fun _ _ => rfl,fun _ h => h,zfF I _ hid v,⟨by simp,hsv ▸ hs.2⟩,?_,zgO (zgy d 0 (by decide)),fun _ h => .inl h⟩
  refine I'.put (zdv d) _ v ok rfl rfl rfl (Nat.le_refl _) (fun _ _ _ => rfl) (fun _ h => h) (fun _ h => .inl h) (.inl hβ) (fun g hg => ?_) rfl ⟨v,us,by simp,h5,h6⟩
  have hm := I.mine he rfl hb g hg
  refine ⟨hm.1,hm.2.1,fun j e' v' _ hj hl' hv' => ?_⟩
  by_cases ej : j = id
  ·subst ej
   simp [zcR] at hj
   subst hj
   cases hl'
  ·simp [zcR,ej] at hj
   exact hm.2.2 j e' v' ej hj hl' hv'
 ·cases e
end
end Go.Proofs.YtlfdidaeachpoaaGreat
namespace Go.Proofs.YtlfdidaeachpoaaGreat
open Go Go.RowKit
theorem zeV (k : IntKind) (n : Int) : (Lit.int k (k.wrap n)).wf = true := by
 cases k <;> simp [Lit.wf,IntKind.wrap,IntKind.min,IntKind.max,IntKind.signed,IntKind.bits] <;> (try split) <;> omega
section
variable {P : Program} {w0 : World} {own : Nat → Prop} {w : World} {β : Nat → Option Value} {ok : Nat → Prop} {h : zcJ}
theorem zcH.pure (I : Inv w0 own w β ok h) {o : Oper} {ρ : Operand → Value} {val : TV} {v : Value} (hr : (execOp ρ o).run P w = .ok (.value v) w) (hv : zcE w ok β v val) :
  zcH P o ρ w fun v w' => ∃ β' ok',zdm w0 own w β ok h val [] v w' β' ok' := ⟨v,w,.inl hr,β,ok,zdm.same I hv⟩
theorem wf_iff {k : IntKind} {n : Int} : (Lit.int k n).wf = true ↔ k.min ≤ n ∧ n ≤ k.max := by
 simp [Lit.wf]
theorem evInt_sound (I : Inv w0 own w β ok h) {o : Oper} {ρ : Operand → Value} {op : BinOp} {t yt : TypeId} {x y : Operand} (ho : o.op = .binOp op t x y yt) {k : IntKind} {a b : Int}
  (hx : zcE w ok β (ρ x) (.lf (.int k a))) (hy : zcE w ok β (ρ y) (.lf (.int k b))) (hsh : op ≠ .shl ∧ op ≠ .shr) (hvc : (evInt op k a b).vc = true) :
  zcH P o ρ w fun v w' => ∃ β' ok',zdm w0 own w β ok h (evInt op k a b).val (evInt op k a b).upd v w' β' ok' := by
 obtain ⟨hx,hwx⟩ := hx
 obtain ⟨hy,_⟩ := hy
 have hg : (eqGuard op t x y (ρ x) (ρ y)).run P w = .ok () w := by
  rw [hx,hy]
  unfold eqGuard
  split <;> simp
 have hexec : (execOp ρ o).run P w = ((binOp op t (.int k a) (.int k b)).run P w).andThen fun v w' => .ok (.value v) w' := by
  simp only [execOp,ho,Sem.run_bind,hg,Result.andThen]
  rw [hx,hy]
  rfl
 have go : ∀ v,(binOp op t (.int k a) (.int k b)).run P w = .ok v w → (execOp ρ o).run P w = .ok (.value v) w := fun v hv => by rw [hexec,hv]; rfl
 cases op
 case shl => exact absurd rfl hsh.1
 case shr => exact absurd rfl hsh.2
 case quo =>
  simp [evInt,zcF.if] at hvc
  exact zcH.pure I (go (.int k (k.wrap (a.tdiv b))) (by simp [binOp,Op.intDiv,hvc])) ⟨rfl,zeV _ _⟩
 case rem =>
  simp [evInt,zcF.if] at hvc
  refine zcH.pure I (go (.int k (a.tmod b)) (by simp [binOp,Op.intDiv,hvc])) ⟨rfl,?_⟩
  rw [wf_iff] at hwx ⊢
  have h0 : k.min ≤ 0 ∧ 0 ≤ k.max := by cases k <;> decide
  have h3 := Int.natAbs_tmod a b
  have h4 := Nat.mod_le a.natAbs b.natAbs
  rcases Int.le_total 0 a with ha | ha
  ·have h1 := Int.tmod_nonneg b ha
   omega
  ·have h1 : a.tmod b ≤ 0 := by
    have := Int.tmod_nonneg b (show 0 ≤ -a by omega)
    rw [Int.neg_tmod] at this
    omega
   omega
 case add => exact zcH.pure I (go (.int k (k.wrap (a + b))) (by simp [binOp,Op.intArith])) ⟨rfl,zeV _ _⟩
 case sub => exact zcH.pure I (go (.int k (k.wrap (a - b))) (by simp [binOp,Op.intArith])) ⟨rfl,zeV _ _⟩
 case mul => exact zcH.pure I (go (.int k (k.wrap (a * b))) (by simp [binOp,Op.intArith])) ⟨rfl,zeV _ _⟩
 case and => exact zcH.pure I (go (.int k (zdy .and k a b)) (by simp [binOp,Op.intBits,zdy])) ⟨rfl,zeV _ _⟩
 case or => exact zcH.pure I (go (.int k (zdy .or k a b)) (by simp [binOp,Op.intBits,zdy])) ⟨rfl,zeV _ _⟩
 case xor => exact zcH.pure I (go (.int k (zdy .xor k a b)) (by simp [binOp,Op.intBits,zdy])) ⟨rfl,zeV _ _⟩
 case andNot => exact zcH.pure I (go (.int k (zdy .andNot k a b)) (by simp [binOp,Op.intBits,zdy])) ⟨rfl,zeV _ _⟩
 case eql => exact zcH.pure I (go (.bool (a == b)) (by simp [binOp,Op.intCmp])) rfl
 case neq => exact zcH.pure I (go (.bool (a != b)) (by simp [binOp,Op.intCmp])) rfl
 case lss => exact zcH.pure I (go (.bool (decide (a < b))) (by simp [binOp,Op.intCmp])) rfl
 case leq => exact zcH.pure I (go (.bool (decide (a ≤ b))) (by simp [binOp,Op.intCmp])) rfl
 case gtr => exact zcH.pure I (go (.bool (decide (b < a))) (by simp [binOp,Op.intCmp])) rfl
 case geq => exact zcH.pure I (go (.bool (decide (b ≤ a))) (by simp [binOp,Op.intCmp])) rfl
theorem evShift_sound (I : Inv w0 own w β ok h) {o : Oper} {ρ : Operand → Value} {op : BinOp} {t yt : TypeId} {x y : Operand} (ho : o.op = .binOp op t x y yt) {k k' : IntKind} {a b : Int}
  (hx : zcE w ok β (ρ x) (.lf (.int k a))) (hy : zcE w ok β (ρ y) (.lf (.int k' b))) (hsh : op = .shl ∨ op = .shr) (hvc : (evShift op k a b).vc = true) :
  zcH P o ρ w fun v w' => ∃ β' ok',zdm w0 own w β ok h (evShift op k a b).val (evShift op k a b).upd v w' β' ok' := by
 obtain ⟨hx,hwx⟩ := hx
 obtain ⟨hy,_⟩ := hy
 rcases hsh with rfl | rfl
 ·simp [evShift,zcF.if] at hvc
  have hb : ¬ b < 0 := by omega
  exact zcH.pure I (v := .int k (k.wrap (a * 2 ^ (min b.toNat k.bits)))) (by simp [execOp,ho,hx,hy,eqGuard,binOp,Op.shift,hb]) ⟨rfl,zeV _ _⟩
 ·simp [evShift,zcF.if] at hvc
  have hb : ¬ b < 0 := by omega
  refine zcH.pure I (v := .int k (a.fdiv (2 ^ (min b.toNat k.bits)))) (by simp [execOp,ho,hx,hy,eqGuard,binOp,Op.shift,hb]) ⟨rfl,?_⟩
  rw [wf_iff] at hwx ⊢
  have h0 : k.min ≤ 0 ∧ 0 ≤ k.max := by cases k <;> decide
  have hpos : (0 : Int) < 2 ^ (min b.toNat k.bits) := Int.pow_pos (by omega)
  generalize (2 : Int) ^ (min b.toNat k.bits) = d at *
  rw [Int.fdiv_eq_ediv_of_nonneg _ (by omega)]
  rcases Int.le_total 0 a with ha | ha
  ·have h1 : 0 ≤ a / d := Int.ediv_nonneg ha (by omega)
   have h2 : a / d ≤ a := Int.ediv_le_self d ha
   omega
  ·have h1 : a / d ≤ 0 := by
    have := Int.ediv_le_ediv (a := a) (b := 0) hpos ha
    simpa using this
   have h2 : a ≤ a / d := by
    rw [Int.le_ediv_iff_mul_le hpos]
    have h5 : (-a) * 1 ≤ (-a) * d := Int.mul_le_mul_of_nonneg_left (by omega) (by omega)
    rw [Int.mul_one,Int.neg_mul] at h5
    omega
   omega
theorem evStr_sound (I : Inv w0 own w β ok h) {o : Oper} {ρ : Operand → Value} {op : BinOp} {t yt : TypeId} {x y : Operand} (ho : o.op = .binOp op t x y yt) {a b : ByteArray}
  (hx : zcE w ok β (ρ x) (.lf (.str a))) (hy : zcE w ok β (ρ y) (.lf (.str b))) {r : zcF} (e : evStr op a b = some r) (hvc : r.vc = true) :
  zcH P o ρ w fun v w' => ∃ β' ok',zdm w0 own w β ok h r.val r.upd v w' β' ok' := by
 obtain ⟨hx,_⟩ := hx
 obtain ⟨hy,_⟩ := hy
 have hg : (eqGuard op t x y (ρ x) (ρ y)).run P w = .ok () w := by
  rw [hx,hy]
  unfold eqGuard
  split <;> simp
 have go : ∀ v,(Op.stringOp op a b).run P w = .ok v w → (execOp ρ o).run P w = .ok (.value v) w := fun v hv => by
  have hb : binOp op t (.string a) (.string b) = Op.stringOp op a b := by cases op <;> rfl
  simp only [execOp,ho,Sem.run_bind,hg,Result.andThen]
  rw [hx,hy,hb,hv]
  rfl
 cases op <;> simp only [evStr] at e <;> try (cases e; done)
 case add =>
  cases e
  simp [zcF.if] at hvc
  refine zcH.pure I (go (.string (a ++ b)) ?_) ⟨rfl,by simpa using hvc⟩
  simp only [maxLen] at hvc
  simp [Op.stringOp]
  omega
 case eql => cases e; exact zcH.pure I (go (.bool (a.toList == b.toList)) (by simp [Op.stringOp])) rfl
 case neq => cases e; exact zcH.pure I (go (.bool (!(a.toList == b.toList))) (by simp [Op.stringOp])) rfl
 case lss => cases e; exact zcH.pure I (go (.bool (Op.bytesLess a.toList b.toList)) (by simp [Op.stringOp])) rfl
 case leq => cases e; exact zcH.pure I (go (.bool (Op.bytesLess a.toList b.toList || a.toList == b.toList)) (by simp [Op.stringOp])) rfl
 case gtr => cases e; exact zcH.pure I (go (.bool (!(Op.bytesLess a.toList b.toList || a.toList == b.toList))) (by simp [Op.stringOp])) rfl
 case geq => cases e; exact zcH.pure I (go (.bool (!Op.bytesLess a.toList b.toList)) (by simp [Op.stringOp])) rfl
theorem evFieldAddr_sound (I : Inv w0 own w β ok h) {o : Oper} {ρ : Operand → Value} {t : TypeId} {x : Operand} {f : Nat} (ho : o.op = .fieldAddr t x f) {tx : TV}
  (hx : zcE w ok β (ρ x) tx) {r : zcF} (e : zjo P t tx f = some r) : zcH P o ρ w fun v w' => ∃ β' ok',zdm w0 own w β ok h r.val r.upd v w' β' ok' := by
 unfold zjo at e
 split at e
 case h_2 => cases e
 rename_i fs hu
 split at e
 case h_2 => cases e
 rename_i fd hf
 split at e
 case isTrue => cases e
 rename_i hsz
 have hinfo : ∃ i,P.info? fd.type = some i := by
  unfold Program.cellsOf at hsz
  cases hi : P.info? fd.type with
  | none => simp [hi] at hsz
  | some i => exact ⟨i,rfl⟩
 obtain ⟨i,hi⟩ := hinfo
 rw [zgm hi] at hsz
 have go : ∀ b off,ρ x = .pointer (some ⟨b,off,none⟩) → (execOp ρ o).run P w = .ok (.value (.pointer (some ⟨b,off + fd.offset,none⟩))) w := fun b off hv => by
  simp [execOp,ho,Instr.fieldAt,run_underlying hu,hf,Instr.sureAddr,hv,fieldPlace,sizeOf,typeInfo,hi,hsz,ziv]
 split at e
 ·cases e
  obtain ⟨b,hb,hv⟩ := hx
  exact zcH.pure I (go b _ hv) ⟨b,hb,rfl⟩
 ·cases e
  obtain ⟨b,n,cap,hb,hlt,hv⟩ := hx
  exact zcH.pure I (go b _ hv) ⟨b,n,cap,hb,hlt,by rw [Nat.add_assoc]⟩
 ·cases e
  obtain ⟨b,off,us,hv,hb,hm,hl⟩ := hx
  refine zcH.pure I (go b _ hv) ⟨b,off + fd.offset,us.drop fd.offset,rfl,hb,fun j u hu => ?_,hl.drop _⟩
  rw [List.getElem?_drop] at hu
  rw [Nat.add_assoc]
  exact hm _ _ hu
 ·cases e
theorem evField_sound (I : Inv w0 own w β ok h) {o : Oper} {ρ : Operand → Value} {t : TypeId} {x : Operand} {f : Nat} (ho : o.op = .field t x f) {tx : TV}
  (hx : zcE w ok β (ρ x) tx) {r : zcF} (e : evField P t tx f = some r) : zcH P o ρ w fun v w' => ∃ β' ok',zdm w0 own w β ok h r.val r.upd v w' β' ok' := by
 unfold evField at e
 split at e
 case h_2 => cases e
 rename_i fs cs hu
 obtain ⟨vs,hv,hl⟩ := hx
 split at e
 case h_2 => cases e
 rename_i fd hf
 split at e
 case h_1 => cases e
 rename_i d hd
 split at e
 ·rename_i hagg
  cases e
  refine zcH.pure I (v := .agg ((vs.drop fd.offset).take (P.cellsOf fd.type)).toArray) ?_ ⟨_,rfl,(hl.drop _).take _⟩
  simp [execOp,ho,Instr.field,run_underlying hu,hf,hv,asAgg,part,zfy hd,hagg,zhV hd]
 ·rename_i hagg
  split at e
  case h_2 => cases e
  rename_i l ls hls
  cases e
  have h1 := hl.drop fd.offset
  rw [hls] at h1
  cases hd2 : vs.drop fd.offset with
  | nil => rw [hd2] at h1; exact h1.elim
  | cons u us =>
   rw [hd2] at h1
   have hu2 : vs[fd.offset]? = some u := by
    have : (vs.drop fd.offset)[0]? = some u := by rw [hd2]; rfl
    simpa using this
   refine zcH.pure I (v := u) ?_ h1.1
   simp [execOp,ho,Instr.field,run_underlying hu,hf,hv,asAgg,part,zfy hd,hagg,hu2]
theorem evIndexAddr_sound (I : Inv w0 own w β ok h) {o : Oper} {ρ : Operand → Value} {t : TypeId} {x y : Operand} (ho : o.op = .indexAddr t x y) {tx ty : TV}
  (hx : zcE w ok β (ρ x) tx) (hy : zcE w ok β (ρ y) ty) {r : zcF} (e : zgg P h t tx ty = some r) (hvc : r.vc = true) :
  zcH P o ρ w fun v w' => ∃ β' ok',zdm w0 own w β ok h r.val r.upd v w' β' ok' := by
 unfold zgg at e
 split at e
 case h_2 => cases e
 rename_i et k i hu
 obtain ⟨hy,_⟩ := hy
 have go : ∀ b off n cap (i' : TypeInfo),P.info? et = some i' → ρ x = .slice (some ⟨b,off,none⟩) n cap → 0 ≤ i → i < n → (execOp ρ o).run P w = .ok (.value (.pointer (some ⟨b,off + i.toNat * i'.size,none⟩))) w := fun b off n cap i' hi' hv h0 h1 => by
  simp [execOp,ho,Instr.indexAt,hv,hy,asIntOf,run_underlying hu,h0,h1,sizeOf,typeInfo,hi',ziv]
 split at e
 ·rename_i t' xs
  split at e
  case isFalse => cases e
  rename_i hsz
  cases e
  simp [zcF.if] at hvc
  obtain ⟨A,cap,hv,h1,h2,h0,h3⟩ := hx
  have hlt : i.toNat < xs.length := by omega
  obtain ⟨b,off,us,rfl,hb,hul,hm,hd⟩ := h3 i.toNat hlt
  have hinfo : ∃ i',P.info? et = some i' := by
   have := t'.size_pos
   unfold Program.cellsOf at hsz
   cases hi : P.info? et with
   | none => simp [hi] at hsz; omega
   | some i => exact ⟨i,rfl⟩
  obtain ⟨i',hi'⟩ := hinfo
  rw [zgm hi'] at hsz
  refine zcH.pure I (go b off _ _ i' hi' (List.cons.inj hv).1 hvc.1 hvc.2) ⟨b,_,us,rfl,hb,by rw [hsz]; exact hm,?_⟩
  have : xs.getD i.toNat t'.dflt = xs[i.toNat] := by simp [List.getD,hlt]
  rw [this]
  exact hd.flat t'
 ·rename_i id
  split at e
  case h_3 => cases e
  case h_2 =>
   rename_i ew e' us o he
   split at e
   case isFalse => cases e
   rename_i hsz
   cases e
   simp [zcF.rd] at hvc
   obtain ⟨v',vs,hb,h2,h3⟩ := I.ent id _ he
   have hv : ρ x = v' := Option.some.inj (hx.1.symm.trans hb)
   have hlt : i.toNat < us.length := by omega
   have hinfo : ∃ i',P.info? et = some i' := by
    unfold Program.cellsOf at hsz
    cases hi : P.info? et with
    | none => simp [hi] at hsz
    | some i => exact ⟨i,rfl⟩
   obtain ⟨i',hi'⟩ := hinfo
   rw [zgm hi'] at hsz
   rcases h2.2 with ⟨_,hn⟩ | ⟨g,cap,cur,rfl,_,hg,hnc,_⟩
   ·omega
   ·exact zcH.pure I (go g 0 _ _ i' hi' hv hvc.1 hvc.2) ⟨g,_,cap,hb,hlt,by rw [hsz]; simp⟩
  rename_i ew e' t' xs he
  split at e
  case isFalse => cases e
  rename_i hsz
  cases e
  simp [zcF.rd] at hvc
  obtain ⟨v',us,hb,h2,h3⟩ := I.ent id _ he
  have hv : ρ x = v' := Option.some.inj (hx.1.symm.trans hb)
  have hlt : i.toNat < xs.length := by omega
  have hinfo : ∃ i',P.info? et = some i' := by
   have := t'.size_pos
   unfold Program.cellsOf at hsz
   cases hi : P.info? et with
   | none => simp [hi] at hsz; omega
   | some i => exact ⟨i,rfl⟩
  obtain ⟨i',hi'⟩ := hinfo
  rw [zgm hi'] at hsz
  rcases h2.2 with ⟨_,hn⟩ | ⟨g,cap,cur,rfl,_,hg,hnc,_⟩
  ·omega
  ·exact zcH.pure I (go g 0 _ _ i' hi' hv hvc.1 hvc.2) ⟨g,_,cap,hb,hlt,by rw [hsz]; simp⟩
 ·cases e
theorem evIndex_sound (I : Inv w0 own w β ok h) {o : Oper} {ρ : Operand → Value} {t : TypeId} {x y : Operand} (ho : o.op = .index t x y) {tx ty : TV}
  (hx : zcE w ok β (ρ x) tx) (hy : zcE w ok β (ρ y) ty) {r : zcF} (e : evIndex P t tx ty = some r) (hvc : r.vc = true) :
  zcH P o ρ w fun v w' => ∃ β' ok',zdm w0 own w β ok h r.val r.upd v w' β' ok' := by
 unfold evIndex at e
 split at e
 case h_2 => cases e
 rename_i s k i hu
 cases e
 obtain ⟨hx,_⟩ := hx
 obtain ⟨hy,_⟩ := hy
 simp [zcF.if] at hvc
 have hlt : i.toNat < s.size := by omega
 have hb : byteAt s i.toNat = ((s[i.toNat]).toNat : Int) := by
  unfold byteAt
  have h2 : i.toNat < s.data.toList.length := by simpa using hlt
  rw [List.getD,List.getElem?_eq_getElem h2]
  rfl
 refine zcH.pure I (v := .int .u8 (byteAt s i.toNat)) ?_ ⟨rfl,?_⟩
 ·have hs : s[i.toNat]? = some s[i.toNat] := getElem?_pos s i.toNat hlt
  simp [execOp,ho,Instr.index,hx,hy,asIntOf,run_underlying hu,hvc.1,hs,hb]
 ·rw [hb,wf_iff]
  have := (s[i.toNat]).toNat_lt
  have h1 : IntKind.u8.min = 0 := rfl
  have h2 : IntKind.u8.max = 255 := rfl
  rw [h1,h2]
  omega
theorem evConvert_sound (I : Inv w0 own w β ok h) {o : Oper} {ρ : Operand → Value} {s d : TypeId} {x : Operand} (ho : o.op = .convert s d x) {tx : TV}
  (hx : zcE w ok β (ρ x) tx) {r : zcF} (e : evConvert P s d tx = some r) : zcH P o ρ w fun v w' => ∃ β' ok',zdm w0 own w β ok h r.val r.upd v w' β' ok' := by
 unfold evConvert at e
 split at e
 ·rename_i sd k _ n hs hd
  cases e
  refine zcH.pure I (v := .int k (k.wrap n)) ?_ ⟨rfl,zeV _ _⟩
  simp [execOp,ho,convert,hx.1,run_underlying hs,run_underlying hd,Conv.intToInt]
 ·rename_i s' hs hd
  cases e
  refine zcH.pure I (v := .string s') ?_ ⟨rfl,hx.2⟩
  simp [execOp,ho,convert,hx.1,run_underlying hs,run_underlying hd]
 ·cases e
theorem evExtract_sound (I : Inv w0 own w β ok h) {o : Oper} {ρ : Operand → Value} {x : Operand} {i : Nat} (ho : o.op = .extract x i) {tx : TV}
  (hx : zcE w ok β (ρ x) tx) {r : zcF} (e : evExtract tx i = some r) : zcH P o ρ w fun v w' => ∃ β' ok',zdm w0 own w β ok h r.val r.upd v w' β' ok' := by
 unfold evExtract at e
 split at e
 case h_2 => cases e
 obtain ⟨vs,hv,hl⟩ := hx
 split at e
 ·rename_i ls hc
  cases e
  obtain ⟨u,hu,hr⟩ := hl.get hc
  exact zcH.pure I (v := u) (by simp [execOp,ho,Instr.extract,hv,hu]) hr
 ·rename_i l hc
  cases e
  obtain ⟨u,hu,hr⟩ := hl.get hc
  exact zcH.pure I (v := u) (by simp [execOp,ho,Instr.extract,hv,hu]) hr.1
 ·cases e
theorem evLen_sound (I : Inv w0 own w β ok h) {o : Oper} {ρ : Operand → Value} {ts : Array TypeId} {x : Operand} (ho : o.op = .call { callee := .builtin .len,args := #[x],argTypes := ts }) {tx : TV}
  (hx : zcE w ok β (ρ x) tx) {r : zcF} (e : evLen P h ts tx = some r) : zcH P o ρ w fun v w' => ∃ β' ok',zdm w0 own w β ok h r.val r.upd v w' β' ok' := by
 unfold evLen at e
 split at e
 ·cases e
 rename_i t ht
 have go : ∀ v,(Builtin.len_ ts o.type #[ρ x]).run P w = .ok v w → (execOp ρ o).run P w = .ok (.value v) w := fun v hv => by
  simp [execOp,ho,resolve,invoke,builtin,hv]
 have wf64 : ∀ n : Nat,n ≤ maxLen → (Lit.int .i64 (n : Int)).wf = true := fun n hn => by
  rw [wf_iff]
  have h1 : IntKind.i64.min = -9223372036854775808 := by decide
  have h2 : IntKind.i64.max = 9223372036854775807 := by decide
  simp only [maxLen] at hn
  rw [h1,h2]
  omega
 split at e
 ·rename_i et t' xs hu
  cases e
  obtain ⟨A,cap,hv,h1,h2,_⟩ := hx
  exact zcH.pure I (go (.int .i64 xs.length) (by rw [(List.cons.inj hv).1]; simp [Builtin.len_,ht,run_underlying hu,goInt])) ⟨rfl,wf64 _ (Nat.le_trans h1 h2)⟩
 ·rename_i et hu
  cases e
  exact zcH.pure I (go (.int .i64 0) (by rw [show ρ x = _ from hx]; simp [Builtin.len_,ht,run_underlying hu,goInt])) ⟨rfl,by decide⟩
 ·rename_i et id hu
  split at e
  case h_3 => cases e
  case h_2 =>
   rename_i ew e' us o he
   cases e
   obtain ⟨v',vs,hb,h2,h3⟩ := I.ent id _ he
   have hv : ρ x = v' := Option.some.inj (hx.1.symm.trans hb)
   rcases h2.2 with ⟨rfl,hn⟩ | ⟨g,cap,cur,rfl,_,hg,hnc,hcm,_⟩
   ·exact zcH.pure I (go (.int .i64 us.length) (by rw [hv,hn]; simp [Builtin.len_,ht,run_underlying hu,goInt])) ⟨rfl,by rw [hn]; decide⟩
   ·exact zcH.pure I (go (.int .i64 us.length) (by rw [hv]; simp [Builtin.len_,ht,run_underlying hu,goInt])) ⟨rfl,wf64 _ (Nat.le_trans hnc hcm)⟩
  rename_i ew e' t' xs he
  cases e
  obtain ⟨v',us,hb,h2,h3⟩ := I.ent id _ he
  have hv : ρ x = v' := Option.some.inj (hx.1.symm.trans hb)
  rcases h2.2 with ⟨rfl,hn⟩ | ⟨g,cap,cur,rfl,_,hg,hnc,hcm,_⟩
  ·exact zcH.pure I (go (.int .i64 xs.length) (by rw [hv,hn]; simp [Builtin.len_,ht,run_underlying hu,goInt])) ⟨rfl,by rw [hn]; decide⟩
  ·exact zcH.pure I (go (.int .i64 xs.length) (by rw [hv]; simp [Builtin.len_,ht,run_underlying hu,goInt])) ⟨rfl,wf64 _ (Nat.le_trans hnc hcm)⟩
 ·rename_i s hu
  cases e
  exact zcH.pure I (go (.int .i64 s.size) (by rw [hx.1]; simp [Builtin.len_,ht,run_underlying hu,goInt])) ⟨rfl,wf64 _ hx.2⟩
 ·cases e
theorem zjB (I : Inv w0 own w β ok h) {o : Oper} {ρ : Operand → Value} {ts : Array TypeId} {x y : Operand} {mx : Bool} (ho : o.op = .call { callee := .builtin (if mx then .max else .min),args := #[x,y],argTypes := ts }) {k : IntKind} {a b : Int}
  (hx : zcE w ok β (ρ x) (.lf (.int k a))) (hy : zcE w ok β (ρ y) (.lf (.int k b))) :
  zcH P o ρ w fun v w' => ∃ β' ok',zdm w0 own w β ok h (.lf (.int k (if mx then (if b > a then b else a) else (if b < a then b else a)))) [] v w' β' ok' := by
 obtain ⟨hx,hwx⟩ := hx
 obtain ⟨hy,hwy⟩ := hy
 cases mx
 ·refine zcH.pure I (v := .int k (if b < a then b else a)) ?_ ⟨rfl,?_⟩
  ·simp [execOp,ho,resolve,invoke,builtin,Builtin.min_,Builtin.min2,hx,hy]
  ·simp only [Bool.false_eq_true,if_false]
   split <;> assumption
 ·refine zcH.pure I (v := .int k (if b > a then b else a)) ?_ ⟨rfl,?_⟩
  ·simp [execOp,ho,resolve,invoke,builtin,Builtin.max_,Builtin.max2,hx,hy]
  ·simp only [if_true]
   split <;> assumption
end
end Go.Proofs.YtlfdidaeachpoaaGreat
namespace Go.Proofs.YtlfdidaeachpoaaGreat
open Go Go.RowKit
section
variable {P : Program} {w0 : World} {own : Nat → Prop} {w : World} {β : Nat → Option Value} {ok : Nat → Prop} {h : zcJ}
theorem zjh : ∀ {a a' b b' : List zcp},a.length = a'.length → zdU (a ++ b) (a' ++ b') = match zdU a a',zdU b b' with
  | some x,some y => some (x && y)
  | _,_ => none
 | [],[],b,b',_ => by simp only [List.nil_append,zdU]; cases zdU b b' <;> rfl
 | l :: a,l' :: a',b,b',hl => by
  simp only [List.cons_append,zdU]
  rw [zjh (by simpa using hl)]
  cases leafEq l l' <;> cases zdU a a' <;> cases zdU b b' <;> simp [Bool.and_assoc]
 | [],_ :: _,_,_,hl => by cases hl
 | _ :: _,[],_,_,hl => by cases hl
theorem zjm : ∀ {a b : List Ty} {ls : List zcp},fitL (a ++ b) ls = true → fitL a (ls.take a.length) = true ∧ fitL b (ls.drop a.length) = true
 | [],_,_,h => ⟨by simp [fitL],by simpa using h⟩
 | t :: a,b,[],h => by cases h
 | t :: a,b,l :: ls,h => by
  simp only [List.cons_append,fitL,Bool.and_eq_true] at h
  obtain ⟨h1,h2⟩ := zjm h.2
  exact ⟨by simp [fitL,h.1,h1],by simpa using h2⟩
theorem zfG : ∀ {a : List Ty} {ls : List zcp},fitL a ls = true → ls.length = a.length
 | [],[],_ => rfl
 | _ :: a,_ :: ls,h => by
  simp only [fitL,Bool.and_eq_true] at h
  simp [zfG h.2]
 | [],_ :: _,h => by cases h
 | _ :: _,[],h => by cases h
theorem zeQ : (t : Ty) → (zex t).length = t.size
 | .int _ => rfl
 | .bool => rfl
 | .str => rfl
 | .sl _ => rfl
 | .pair a b => by simp [zex,zeQ a,zeQ b,Ty.size]
def mkVal (P : Program) (t : TypeId) (us : List Value) : Value := if zfx P t then .agg us.toArray else us.getD 0 undef
def EqOk (P : Program) (w : World) (d : Nat) (t : TypeId) (ty : Ty) : Prop :=
 ∀ (us vs : List Value) (ls ms : List zcp) (b : Bool),zcA w (fun _ => False) (fun _ => none) us ls → zcA w (fun _ => False) (fun _ => none) vs ms → fitL (zex ty) ls = true → fitL (zex ty) ms = true → zdU ls ms = some b →
  (Op.equalIn d t (mkVal P t us) (mkVal P t vs)).run P w = .ok b w
theorem part_run {t : TypeId} {d : TypeDesc} (hu : P.underlying t = some d) {us : List Value} {off : Nat} (hfit : off + P.cellsOf t ≤ us.length) (hpos : 0 < P.cellsOf t) :
  (part t us.toArray off).run P w = .ok (mkVal P t ((us.drop off).take (P.cellsOf t))) w := by
 unfold part mkVal
 by_cases hagg : zfx P t = true
 ·simp [zfy hu,hagg,zhV hu]
 ·have h1 : off < us.length := by omega
  have h2 : ((us.drop off).take (P.cellsOf t))[0]? = some us[off] := by
   rw [List.getElem?_take,if_pos hpos,List.getElem?_drop,Nat.add_zero,List.getElem?_eq_getElem h1]
  simp [zfy hu,hagg,h1,List.getD,h2]
theorem eqFields_run {n d : Nat} (ih : ∀ t ty,tyOf P n t = some ty → eqTy P n t = true → EqOk P w d t ty) : ∀ (fs : List Field) (off : Nat) (ty : Ty) (us vs : List Value) (ls ms : List zcp) (b : Bool),
  tyFs P (tyOf P n) fs off = some ty → (fs.all fun f => f.name != "_" && eqTy P n f.type) = true → zcA w (fun _ => False) (fun _ => none) (us.drop off) ls → zcA w (fun _ => False) (fun _ => none) (vs.drop off) ms →
  fitL (zex ty) ls = true → fitL (zex ty) ms = true → zdU ls ms = some b → (Op.eqFields d us.toArray vs.toArray fs).run P w = .ok b w
 | [],_,_,_,_,_,_,_,e,_,_,_,_,_,_ => by cases e
 | f :: fs,off,ty,us,vs,ls,ms,b,e,ha,hu,hv,fl,fm,hb => by
  unfold tyFs at e
  split at e
  ·cases e
  rename_i a hfa
  split at e
  case isFalse => cases e
  rename_i hoff
  simp only [List.all_cons,Bool.and_eq_true,bne_iff_ne,ne_eq] at ha
  obtain ⟨⟨hname,heq⟩,hrest⟩ := ha
  have hpos := a.size_pos
  have hul := hu.length
  have hvl := hv.length
  simp only [List.length_drop] at hul hvl
  have hund : ∃ d',P.underlying f.type = some d' := by
   cases n with
   | zero => cases hfa
   | succ n =>
    unfold tyOf at hfa
    cases hq : P.underlying f.type with
    | none => simp [hq] at hfa
    | some d' => exact ⟨d',rfl⟩
  obtain ⟨d',hund⟩ := hund
  have first : ∀ (l1 m1 : List zcp) (b1 : Bool),ls.take a.size = l1 → ms.take a.size = m1 → a.size ≤ ls.length → a.size ≤ ms.length → fitL (zex a) l1 = true → fitL (zex a) m1 = true → zdU l1 m1 = some b1 →
    (Op.eqFields d us.toArray vs.toArray (f :: fs)).run P w = if b1 = true then (Op.eqFields d us.toArray vs.toArray fs).run P w else .ok false w := by
   intro l1 m1 b1 e1 e2 hla hma f1 f2 hb1
   have r1 : zcA w (fun _ => False) (fun _ => none) ((us.drop off).take a.size) l1 := e1 ▸ hu.take _
   have r2 : zcA w (fun _ => False) (fun _ => none) ((vs.drop off).take a.size) m1 := e2 ▸ hv.take _
   have h1 := ih f.type a hfa heq _ _ _ _ _ r1 r2 f1 f2 hb1
   have p1 := part_run (P := P) (w := w) hund (us := us) (off := off) (by rw [hoff.2]; omega) (by omega)
   have p2 := part_run (P := P) (w := w) hund (us := vs) (off := off) (by rw [hoff.2]; omega) (by omega)
   rw [hoff.2] at p1 p2
   simp only [Op.eqFields,hname,ne_eq,not_false_eq_true,if_true,Sem.run_bind,hoff.1,p1,p2,Result.andThen_ok,h1]
   cases b1 <;> simp
  split at e
  ·-- the last field
   cases e
   have hl := zfG fl
   have hm := zfG fm
   rw [zeQ] at hl hm
   rw [first ls ms b (List.take_of_length_le (by omega)) (List.take_of_length_le (by omega)) (by omega) (by omega) fl fm hb]
   cases b <;> simp [Op.eqFields]
  ·rename_i f' fs' 
   split at e
   case h_2 => cases e
   rename_i c hc
   cases e
   simp only [zex] at fl fm
   have hl := zfG fl
   have hm := zfG fm
   rw [List.length_append,zeQ,zeQ] at hl hm
   obtain ⟨fl1,fl2⟩ := zjm fl
   obtain ⟨fm1,fm2⟩ := zjm fm
   rw [zeQ] at fl1 fl2 fm1 fm2
   rw [← List.take_append_drop a.size ls,← List.take_append_drop a.size ms,zjh (by simp; omega)] at hb
   cases h1 : zdU (ls.take a.size) (ms.take a.size) with
   | none => rw [h1] at hb; cases hb
   | some b1 =>
    cases h2 : zdU (ls.drop a.size) (ms.drop a.size) with
    | none => rw [h1,h2] at hb; cases hb
    | some b2 =>
     rw [h1,h2] at hb
     cases hb
     rw [first _ _ b1 rfl rfl (by omega) (by omega) fl1 fm1 h1]
     have hu2 := hu.drop a.size
     have hv2 := hv.drop a.size
     rw [List.drop_drop] at hu2 hv2
     rw [eqFields_run ih (f' :: fs') (off + a.size) c us vs _ _ b2 hc (by simpa using hrest) hu2 hv2 fl2 fm2 h2]
     cases b1 <;> simp
theorem eqVal : ∀ (n : Nat) (D : Nat) (t : TypeId) (ty : Ty),tyOf P n t = some ty → eqTy P n t = true → EqOk P w (D + n) t ty
 | 0,_,_,_,e,_ => by cases e
 | n + 1,D,t,ty,e,he => by
  intro us vs ls ms b hu hv fl fm hb
  unfold tyOf at e
  unfold eqTy at he
  have leaf : zfx P t = false → zex ty = [ty] → (∀ l m x,fit1 ty l = true → fit1 ty m = true → leafEq l m = some x → ∀ u v,zdh w (fun _ => False) (fun _ => none) u l → zdh w (fun _ => False) (fun _ => none) v m →
    (Op.equalIn (D + (n + 1)) t u v).run P w = .ok x w) → (Op.equalIn (D + (n + 1)) t (mkVal P t us) (mkVal P t vs)).run P w = .ok b w := by
   intro hagg ht hl
   rw [ht] at fl fm
   have h1 := zfG fl
   have h2 := zfG fm
   cases ls with
   | nil => cases h1
   | cons l ls =>
    cases ms with
    | nil => cases h2
    | cons m ms =>
     cases ls with
     | cons _ _ => cases h1
     | nil =>
      cases ms with
      | cons _ _ => cases h2
      | nil =>
       cases us with
       | nil => exact hu.elim
       | cons u us =>
        cases vs with
        | nil => exact hv.elim
        | cons v vs =>
         simp only [fitL,Bool.and_true] at fl fm
         simp only [zdU] at hb
         cases hx : leafEq l m with
         | none => rw [hx] at hb; cases hb
         | some x =>
          rw [hx] at hb
          cases hb
          have := hl l m x fl fm hx u v hu.1 hv.1
          simpa [mkVal,hagg] using this
  cases hd : P.underlying t with
  | none => simp [hd] at e
  | some d =>
   rw [hd] at e he
   have hund := hd
   cases d <;> simp only at e he <;> try (cases e; done)
   ·-- bool
    cases e
    refine leaf (by simp [zfx,hd]) rfl fun l m x f1 f2 hx u v h1 h2 => ?_
    cases l <;> simp [fit1] at f1
    cases m <;> simp [fit1] at f2
    simp only [zdh] at h1 h2
    subst h1 h2
    cases hx
    exact run_equalIn_bool' w _ t _ _ hund
   ·cases e
    refine leaf (by simp [zfx,hd]) rfl fun l m x f1 f2 hx u v h1 h2 => ?_
    cases l <;> simp [fit1] at f1
    cases m <;> simp [fit1] at f2
    subst f1 f2
    obtain ⟨h1,_⟩ := h1
    obtain ⟨h2,_⟩ := h2
    subst h1 h2
    simp [leafEq] at hx
    subst hx
    exact run_equalIn_int w _ t _ _ _ _ hund
   ·cases e
    refine leaf (by simp [zfx,hd]) rfl fun l m x f1 f2 hx u v h1 h2 => ?_
    cases l <;> simp [fit1] at f1
    cases m <;> simp [fit1] at f2
    obtain ⟨h1,_⟩ := h1
    obtain ⟨h2,_⟩ := h2
    subst h1 h2
    simp [leafEq] at hx
    subst hx
    rw [beq_toListBytes]
    exact run_equalIn_string w _ t _ _ hund
   ·cases he
   ·rename_i fs
    simp only [Bool.and_eq_true,Bool.not_eq_true'] at he
    have hf : P.fieldsOf t = fs := by simp [Program.fieldsOf,hd]
    have hagg : zfx P t = true := by simp [zfx,hd]
    have := run_equalIn_struct (P := P) w (D + n) t us.toArray vs.toArray (by rw [hf]; exact hd) he.1
    simp only [mkVal,hagg,if_true]
    rw [show D + (n + 1) = D + n + 1 from rfl,this,hf]
    exact eqFields_run (fun t ty => eqVal n D t ty) fs.toList 0 ty us vs ls ms b e he.2 (by simpa using hu) (by simpa using hv) fl fm hb
theorem zcA.plain {ok' : Nat → Prop} {β' : Nat → Option Value} : ∀ {ts : List Ty} {us : List Value} {ls : List zcp},fitL ts ls = true → zcA w ok β us ls → zcA w ok' β' us ls
 | [],[],[],_,_ => trivial
 | [],_ :: _,[],_,h => h.elim
 | t :: ts,u :: us,l :: ls,hf,⟨h1,h2⟩ => by
  simp only [fitL,Bool.and_eq_true] at hf
  refine ⟨?_,zcA.plain hf.2 h2⟩
  cases t <;> cases l <;> simp [fit1] at hf <;> exact h1
 | _ :: _,[],_ :: _,_,h => h.elim
 | [],_,_ :: _,hf,_ => by cases hf
 | _ :: _,_,[],hf,_ => by cases hf
theorem nil_run {o : Oper} {ρ : Operand → Value} {op : BinOp} {neg : Bool} (hop : op = if neg then .neq else .eql) {t yt et : TypeId} {x y : Operand} (ho : o.op = .binOp op t x y yt) (hu : P.underlying t = some (.slice et))
  {A : Option Addr} {n c : Nat} (hx : ρ x = .slice A n c) (hA : A = none → n = 0 ∧ c = 0) (hy : ρ y = .slice none 0 0) : (execOp ρ o).run P w = .ok (.value (.bool (A.isNone != neg))) w := by
 have hgd : (eqGuard op t x y (ρ x) (ρ y)).run P w = .ok () w := by
  rw [hx,hy]
  have hop' : op = .eql ∨ op = .neq := by cases neg <;> simp [hop]
  clear hop ho
  rcases hop' with rfl | rfl
  all_goals
   unfold eqGuard
   simp only [Bool.not_true,Bool.false_eq_true,if_false]
   first | (simp; done) | (split <;> simp_all)
 have key : (Op.equal t (ρ x) (ρ y)).run P w = .ok A.isNone w := by
  rw [hx,hy]
  have key : ∀ d,(Op.equalIn (d + 1) t (.slice A n c) (.slice none 0 0)).run P w = .ok A.isNone w := fun d => by
   cases A with
   | none =>
    obtain ⟨rfl,rfl⟩ := hA rfl
    simp [Op.equalIn,run_underlying hu]
   | some a => simp [Op.equalIn,run_underlying hu]
  exact key 9999
 have hb : binOp op t (ρ x) (ρ y) = (do let r ← Op.equal t (ρ x) (ρ y); pure (.bool (r != neg))) := by
  rw [hx,hy]
  cases neg
  ·subst hop
   simp [binOp]
  ·subst hop
   simp [binOp]
 simp [execOp,ho,hgd,hb,key]
theorem evEq_sound (I : Inv w0 own w β ok h) {o : Oper} {ρ : Operand → Value} {op : BinOp} {neg : Bool} (hop : op = if neg then .neq else .eql) {t yt : TypeId} {x y : Operand} (ho : o.op = .binOp op t x y yt) {tx ty : TV}
  (hx : zcE w ok β (ρ x) tx) (hy : zcE w ok β (ρ y) ty) {r : zcF} (e : evEq P neg t tx ty = some r) : zcH P o ρ w fun v w' => ∃ β' ok',zdm w0 own w β ok h r.val r.upd v w' β' ok' := by
 have go : ∀ b,(eqGuard op t x y (ρ x) (ρ y)).run P w = .ok () w → (Op.equal t (ρ x) (ρ y)).run P w = .ok b w → (∀ k a k' c,¬ (ρ x = .int k a ∧ ρ y = .int k' c)) → (∀ a c,¬ (ρ x = .string a ∧ ρ y = .string c)) →
   (∀ k a k' c,¬ (ρ x = .float k a ∧ ρ y = .float k' c)) → (∀ k a b k' c d,¬ (ρ x = .complex k a b ∧ ρ y = .complex k' c d)) →
   (execOp ρ o).run P w = .ok (.value (.bool (b != neg))) w := by
  intro b h1 h2 n1 n2 n3 n4
  have hb : binOp op t (ρ x) (ρ y) = (do let r ← Op.equal t (ρ x) (ρ y); pure (.bool (r != neg))) := by
   cases neg
   ·subst hop
    simp only [Bool.false_eq_true,if_false]
    unfold binOp
    split <;> first | (exfalso; first | exact n1 _ _ _ _ ⟨by assumption,by assumption⟩ | exact n2 _ _ ⟨by assumption,by assumption⟩ | exact n3 _ _ _ _ ⟨by assumption,by assumption⟩ | exact n4 _ _ _ _ _ _ ⟨by assumption,by assumption⟩) | skip
    all_goals first | (simp; done) | simp_all
   ·subst hop
    simp only [if_true]
    unfold binOp
    split <;> first | (exfalso; first | exact n1 _ _ _ _ ⟨by assumption,by assumption⟩ | exact n2 _ _ ⟨by assumption,by assumption⟩ | exact n3 _ _ _ _ ⟨by assumption,by assumption⟩ | exact n4 _ _ _ _ _ _ ⟨by assumption,by assumption⟩) | skip
    all_goals first | (simp; done) | simp_all
  simp [execOp,ho,h1,hb,h2]
 have hgd : ∀ a b,ρ x = a → ρ y = b → (∀ cs ds,¬ (a = .agg cs ∧ b = .agg ds)) → ¬ (a = .nilIface ∧ b = .nilIface) → (eqGuard op t x y (ρ x) (ρ y)).run P w = .ok () w := by
  intro a b ha hb h1 h2
  rw [ha,hb]
  have hop' : op = .eql ∨ op = .neq := by cases neg <;> simp [hop]
  clear hop ho go
  rcases hop' with rfl | rfl
  all_goals
   unfold eqGuard
   simp only [Bool.not_true,Bool.false_eq_true,if_false]
   split
   ·exact absurd ⟨rfl,rfl⟩ h2
   ·exact absurd ⟨rfl,rfl⟩ (h1 _ _)
   ·simp
 unfold evEq at e
 split at e
 ·rename_i a b
  split at e
  ·rename_i hu
   cases e
   refine zcH.pure I (go (a == b) (hgd _ _ hx hy (by simp) (by simp)) ?_ ?_ ?_ ?_ ?_) rfl
   ·rw [show ρ x = _ from hx,show ρ y = _ from hy]
    exact run_equalIn_bool w 9999 t a b hu
   all_goals (intros; rw [show ρ x = _ from hx]; simp)
  ·cases e
 ·rename_i xs ys
  split at e
  case h_2 => cases e
  rename_i b hb
  split at e
  case h_2 => cases e
  rename_i tt htt
  split at e
  case isFalse => cases e
  rename_i hc
  cases e
  simp only [Bool.and_eq_true,Bool.not_eq_true'] at hc
  obtain ⟨⟨⟨⟨f1,f2⟩,he⟩,hagg⟩,hg⟩ := hc
  obtain ⟨us,hv,hu⟩ := hx
  obtain ⟨vs,hv',hu'⟩ := hy
  have := eqVal (P := P) (w := w) 20 9980 t tt htt he us vs xs ys b (hu.plain f1) (hu'.plain f2) f1 f2 hb
  simp only [mkVal,hagg,if_true] at this
  refine zcH.pure I (go b ?_ (by rw [hv,hv']; exact this) ?_ ?_ ?_ ?_) rfl
  ·rw [hv,hv']
   exact run_eqGuard_agg w op t x y _ _ hg
  all_goals (intros; rw [hv]; simp)
 ·split at e
  ·rename_i et hu
   cases e
   have h1 : ρ x = .slice none 0 0 := hx
   have h2 : ρ y = .slice none 0 0 := hy
   refine zcH.pure I (go true (hgd _ _ h1 h2 (by simp) (by simp)) ?_ ?_ ?_ ?_ ?_) rfl
   ·rw [h1,h2]
    have key : ∀ d,(Op.equalIn (d + 1) t (.slice none 0 0) (.slice none 0 0)).run P w = .ok true w := fun d => by simp [Op.equalIn,run_underlying hu]
    exact key 9999
   all_goals (intros; rw [h1]; simp)
  ·cases e
 ·rename_i id off
  split at e
  ·rename_i et hu
   cases e
   obtain ⟨b,_,h1⟩ := hx
   have h2 : ρ y = .pointer none := hy
   refine zcH.pure I (go false (hgd _ _ h1 h2 (by simp) (by simp)) ?_ ?_ ?_ ?_ ?_) rfl
   ·rw [h1,h2]
    have key : ∀ d,(Op.equalIn (d + 1) t (.pointer (some ⟨b,off,none⟩)) (.pointer none)).run P w = .ok false w := fun d => by simp [Op.equalIn,run_underlying hu]
    exact key 9999
   all_goals (intros; rw [h1]; simp)
  ·cases e
 ·split at e
  ·rename_i et hu
   cases e
   have h1 : ρ x = .pointer none := hx
   have h2 : ρ y = .pointer none := hy
   refine zcH.pure I (go true (hgd _ _ h1 h2 (by simp) (by simp)) ?_ ?_ ?_ ?_ ?_) rfl
   ·rw [h1,h2]
    have key : ∀ d,(Op.equalIn (d + 1) t (.pointer none) (.pointer none)).run P w = .ok true w := fun d => by simp [Op.equalIn,run_underlying hu]
    exact key 9999
   all_goals (intros; rw [h1]; simp)
  ·cases e
 ·cases e
theorem zcM.slice {t : Ty} {xs : List t.den} {A : Option Addr} {n cap l hi : Nat} (hr : zcM w ok (.sl t) [.slice A n cap] xs) (h1 : l ≤ hi) (h2 : hi ≤ xs.length) :
  zcM w ok (.sl t) [.slice (if cap = l then A else A.map (·.add (l * t.size))) (hi - l) (cap - l)] ((xs.drop l).take (hi - l)) := by
 obtain ⟨A',cap',e,k1,k2,k0,k3⟩ := hr
 cases e
 have hlen : ((xs.drop l).take (hi - l)).length = hi - l := by simp; omega
 refine ⟨_,cap - l,by rw [hlen],by omega,by omega,fun hA => ?_,fun i hi' => ?_⟩
 ·by_cases hc : cap = l
  ·omega
  ·rw [if_neg hc] at hA
   have : A = none := by cases A <;> simp_all
   have := k0 this
   omega
 ·rw [hlen] at hi'
  obtain ⟨b,o,us,hA,hb,hl,hm,hd⟩ := k3 (l + i) (by omega)
  refine ⟨b,o + l * t.size,us,?_,hb,hl,?_,?_⟩
  ·rw [if_neg (by omega),hA]
   simp [ziv]
  ·rw [show o + l * t.size + i * t.size = o + (l + i) * t.size by rw [Nat.add_mul]; omega]
   exact hm
  ·have : ((xs.drop l).take (hi - l))[i]'(by rw [hlen]; exact hi') = xs[l + i] := by simp
   rw [this]
   exact hd
def RepB (w : World) (ok : Nat → Prop) (β : Nat → Option Value) : Option Value → Option TV → Prop
 | none,none => True
 | some v,some t => zcE w ok β v t
 | _,_ => False
theorem RepB.okmono {ok' : Nat → Prop} (hk : ∀ b,ok b → ok' b) : ∀ {v : Option Value} {t : Option TV},RepB w ok β v t → RepB w ok' β v t
 | none,none,_ => trivial
 | some _,some _,h => zcE.mono (fun _ _ => rfl) hk (fun _ _ h => h) h
 | none,some _,h => h.elim
 | some _,none,h => h.elim
theorem zdR {v : Value} {k : IntKind} {i : Int} (hv : v = .int k i) {y : Nat} (h0 : 0 ≤ i) (h1 : i ≤ y) (c : BoundsCode) : (Instr.sliceBound v y c).run P w = .ok i.toNat w := by
 subst hv
 simp [Instr.sliceBound,asIntOf,h0,h1]
theorem evSlice_run {t : TypeId} {v : Value} {tx : TV} {lo hi : Option Value} {tlo thi : Option TV} (hx : zcE w ok β v tx) (hlo : RepB w ok β lo tlo) (hhi : RepB w ok β hi thi)
  {r : zcF} (e : evSlice P t tx tlo thi none = some r) (hvc : r.vc = true) : r.upd = [] ∧ ∃ v',(Instr.sliceAt t v lo hi none).run P w = .ok v' w ∧ zcE w ok β v' r.val := by
 unfold evSlice at e
 split at e
 ·rename_i ty xs _
  split at e
  case h_2 => cases e
  rename_i et hu
  split at e
  case isFalse => cases e
  rename_i hsz
  have hinfo : ∃ i',P.info? et = some i' := by
   have := ty.size_pos
   unfold Program.cellsOf at hsz
   cases hi : P.info? et with
   | none => simp [hi] at hsz; omega
   | some i => exact ⟨i,rfl⟩
  obtain ⟨i',hi'⟩ := hinfo
  rw [zgm hi'] at hsz
  obtain ⟨A,cap,hv,k1,k2,k0,k3⟩ := id hx
  have hv : v = .slice A xs.length cap := (List.cons.inj hv).1
  subst hv
  have fin : ∀ l h' : Nat,l ≤ h' → h' ≤ xs.length → (Instr.sliceBounds true xs.length cap lo hi none).run P w = .ok (l,h',cap) w → ∀ ys,ys = (xs.drop l).take (h' - l) →
    ∃ v',(Instr.sliceAt t (.slice A xs.length cap) lo hi none).run P w = .ok v' w ∧ zcE w ok β v' (.lf (.dat ty ys)) := by
   intro l h' h1 h2 hb ys hys
   subst hys
   refine ⟨_,?_,zcM.slice hx h1 h2⟩
   simp [Instr.sliceAt,run_underlying hu,Instr.slice,hb,sizeOf,typeInfo,hi',hsz]
  split at e
  ·cases e
   cases lo with
   | some _ => exact hlo.elim
   | none =>
    cases hi with
    | some _ => exact hhi.elim
    | none => exact ⟨rfl,fin 0 xs.length (Nat.zero_le _) (Nat.le_refl _) (by simp [Instr.sliceBounds]) _ (by simp)⟩
  ·rename_i k l
   cases e
   simp [zcF.if] at hvc
   cases lo with
   | none => exact hlo.elim
   | some vl =>
    cases hi with
    | some _ => exact hhi.elim
    | none =>
     refine ⟨rfl,fin l.toNat xs.length (by omega) (Nat.le_refl _) ?_ _ (by rw [List.take_of_length_le (by simp)])⟩
     simp [Instr.sliceBounds,zdR hlo.1 hvc.1 (by omega : l ≤ (xs.length : Nat))]
  ·rename_i k hh
   cases e
   simp [zcF.if] at hvc
   cases lo with
   | some _ => exact hlo.elim
   | none =>
    cases hi with
    | none => exact hhi.elim
    | some vh =>
     refine ⟨rfl,fin 0 hh.toNat (Nat.zero_le _) (by omega) ?_ _ (by simp)⟩
     simp [Instr.sliceBounds,zdR hhi.1 hvc.1 (by omega : hh ≤ (cap : Nat))]
  ·rename_i k l k' hh
   cases e
   simp [zcF.if] at hvc
   cases lo with
   | none => exact hlo.elim
   | some vl =>
    cases hi with
    | none => exact hhi.elim
    | some vh =>
     refine ⟨rfl,fin l.toNat hh.toNat (by omega) (by omega) ?_ _ rfl⟩
     simp [Instr.sliceBounds,zdR hhi.1 (by omega : 0 ≤ hh) (by omega : hh ≤ (cap : Nat)),zdR hlo.1 hvc.1.1 (by omega : l ≤ (hh.toNat : Nat))]
  ·cases e
 ·rename_i s _
  split at e
  case h_2 => cases e
  rename_i hu
  obtain ⟨hv,hsz⟩ := id hx
  subst hv
  have fin : ∀ l h' : Nat,l ≤ h' → h' ≤ s.size → (Instr.sliceBounds false s.size s.size lo hi none).run P w = .ok (l,h',s.size) w →
    ∃ v',(Instr.sliceAt t (.string s) lo hi none).run P w = .ok v' w ∧ zcE w ok β v' (.lf (.str (s.extract l h'))) := by
   intro l h' h1 h2 hb
   refine ⟨.string (s.extract l h'),?_,rfl,?_⟩
   ·simp [Instr.sliceAt,run_underlying hu,Instr.slice,hb]
   ·simp; omega
  split at e
  ·cases e
   cases lo with
   | some _ => exact hlo.elim
   | none =>
    cases hi with
    | some _ => exact hhi.elim
    | none => exact ⟨rfl,fin 0 s.size (Nat.zero_le _) (Nat.le_refl _) (by simp [Instr.sliceBounds])⟩
  ·rename_i k l
   cases e
   simp [zcF.if] at hvc
   cases lo with
   | none => exact hlo.elim
   | some vl =>
    cases hi with
    | some _ => exact hhi.elim
    | none =>
     refine ⟨rfl,fin l.toNat s.size (by omega) (Nat.le_refl _) ?_⟩
     simp [Instr.sliceBounds,zdR hlo.1 hvc.1 (by omega : l ≤ (s.size : Nat))]
  ·rename_i k hh
   cases e
   simp [zcF.if] at hvc
   cases lo with
   | some _ => exact hlo.elim
   | none =>
    cases hi with
    | none => exact hhi.elim
    | some vh =>
     refine ⟨rfl,fin 0 hh.toNat (Nat.zero_le _) (by omega) ?_⟩
     simp [Instr.sliceBounds,zdR hhi.1 hvc.1 (by omega : hh ≤ (s.size : Nat))]
  ·rename_i k l k' hh
   cases e
   simp [zcF.if] at hvc
   cases lo with
   | none => exact hlo.elim
   | some vl =>
    cases hi with
    | none => exact hhi.elim
    | some vh =>
     refine ⟨rfl,fin l.toNat hh.toNat (by omega) (by omega) ?_⟩
     simp [Instr.sliceBounds,zdR hhi.1 (by omega : 0 ≤ hh) (by omega : hh ≤ (s.size : Nat)),zdR hlo.1 hvc.1.1 (by omega : l ≤ (hh.toNat : Nat))]
  ·cases e
 ·cases e
theorem evSliceR_sound (I : Inv w0 own w β ok h) {o : Oper} {ρ : Operand → Value} {t : TypeId} {x : Operand} {lo hi mx : Option Operand} (ho : o.op = .slice t x lo hi mx) {tx : TV} {tlo thi tmx : Option TV}
  (hx : zcE w ok β (ρ x) tx) (hlo : RepB w ok β (lo.map ρ) tlo) (hhi : RepB w ok β (hi.map ρ) thi) (hmx : RepB w ok β (mx.map ρ) tmx)
  {r : zcF} (e : zim P h t tx tlo thi tmx = some r) (hvc : r.vc = true) : zcH P o ρ w fun v w' => ∃ β' ok',zdm w0 own w β ok h r.val r.upd v w' β' ok' := by
 have hm : tmx = none → mx = none := by
  rintro rfl
  cases mx with
  | none => rfl
  | some _ => exact hmx.elim
 have hnone : ∀ tx' r',evSlice P t tx' tlo thi tmx = some r' → tmx = none := by
  intro tx' r' h'
  unfold evSlice at h'
  split at h'
  ·rfl
  ·rfl
  ·cases h'
 unfold zim at e
 split at e
 ·rename_i id
  split at e
  case h_2 => cases e
  rename_i ew et ty xs he
  split at e
  case h_2 => cases e
  rename_i r' hr'
  cases e
  obtain ⟨ok1,hk1,I1,hB⟩ := I.freeze id _ he rfl
  have he1 : zcR h id ⟨false,.arr et ty xs⟩ id = some ⟨false,.arr et ty xs⟩ := by simp [zcR]
  have hd := I1.data he1 hx.1
  have ht := hnone _ _ hr'
  subst ht
  have hmx' := hm rfl
  subst hmx'
  obtain ⟨_,v',hrun,hv'⟩ := evSlice_run (P := P) (β := β) (v := ρ x) (tx := .lf (.dat ty xs)) hd (RepB.okmono hk1 hlo) (RepB.okmono hk1 hhi) hr' hvc
  refine ⟨v',w,.inl ?_,β,ok1,fun _ _ => rfl,hk1,fun _ _ h => h,hv',I1,(fun _ _ _ h => h),hB⟩
  simp [execOp,ho,hrun]
 ·have ht := hnone _ _ e
  subst ht
  have hmx' := hm rfl
  subst hmx'
  obtain ⟨hupd,v',hrun,hv'⟩ := evSlice_run (P := P) hx hlo hhi e hvc
  rw [hupd]
  exact zcH.pure I (by simp [execOp,ho,hrun]) hv'
end
end Go.Proofs.YtlfdidaeachpoaaGreat
namespace Go.Proofs.YtlfdidaeachpoaaGreat
open Go Go.RowKit
def zdn (w : World) (ok : Nat → Prop) (β : Nat → Option Value) : List Value → List TV → Prop
 | [],[] => True
 | v :: vs,t :: ts => zcE w ok β v t ∧ zdn w ok β vs ts
 | _,_ => False
structure zhu (w : World) (β : Nat → Option Value) (ok : Nat → Prop) (n : Nat) (r : zdP) (v : Value) (w' : World) (β' : Nat → Option Value) (ok' : Nat → Prop) : Prop where
 os : w'.os = w.os
 tape : w'.tape = w.tape
 output : w'.output = w.output
 size : w.heap.size ≤ w'.heap.size
 block : ∀ b,b < w.heap.size → (∀ k u,k < n → β k = some u → blk u ≠ some b) → w'.heap[b]? = w.heap[b]?
 okNew : ∀ b,ok' b → (r.shares = true ∧ ok b) ∨ (w.heap.size ≤ b ∧ b < w'.heap.size) ∨ ∃ k u,k < n ∧ β k = some u ∧ blk u = some b ∧ r.ents[k]? = some ⟨false,.dead⟩
 same : ∀ k u,k < n → β k = some u → β' k = some u
 dom : ∀ k u,β' k = some u → k < n + r.fresh.length
 old : ∀ k u,k < n → β' k = some u → β k = some u
 rep : zcE w' ok' β' v r.val
 len : r.ents.length = n
 ents : ∀ k e,r.ents[k]? = some e → e.w = e.live ∧ zdo w' ok' β' k e.b
 fresh : ∀ j e,r.fresh[j]? = some e → e.w = true ∧ e.live = true ∧ zdo w' ok' β' (n + j) e.b
 place : ∀ j u g,j < r.fresh.length → β' (n + j) = some u → blk u = some g → w.heap.size ≤ g ∧ ¬ ok' g
 apart : ∀ i j u u' g,i < r.fresh.length → j < r.fresh.length → i ≠ j → β' (n + i) = some u → β' (n + j) = some u' → blk u = some g → blk u' = some g → False
def zeC (P : Program) (f : Nat) (args : List TV) (es : List Ent) (r : zdP) : Prop :=
 ∀ (w : World) (vals : List Value) (β : Nat → Option Value) (ok : Nat → Prop),(∀ b,ok b → b < w.heap.size) → zdn w ok β vals args →
  (∀ k u,β k = some u → k < es.length) →
  (∀ k e,es[k]? = some e → e.w = true ∧ e.live = true ∧ zdo w ok β k e.b) →
  (∀ k u g,β k = some u → blk u = some g → ¬ ok g) →
  (∀ i j u u' g,i ≠ j → β i = some u → β j = some u' → blk u = some g → blk u' = some g → False) →
  Calls P f vals.toArray w fun e w' => ∃ v β' ok',e = .returned v ∧ zhu w β ok es.length r v w' β' ok'
def Enters (P : Program) (f : Nat) : Prop := ∃ fn,P.funcs[f]? = some fn ∧ fn.body.isSome = true ∧ (fn.name == "runtime.NumGoroutine") = false
def zck (P : Program) (T : zcl) : Prop := ∀ f args es r,T f args es = some r → r.vc = true → Enters P f ∧ zeC P f args es r
section
variable {P : Program} {w0 : World} {own : Nat → Prop} {w : World} {β : Nat → Option Value} {ok : Nat → Prop} {h : zcJ}
theorem zeE.ren {β2 : Nat → Option Value} {g : Nat → Nat} : ∀ {vs : List Value} {cs : List Nat},(∀ id ∈ cs,∀ u,β id = some u → β2 (g id) = some u) → zeE β vs cs → zeE β2 vs (cs.map g)
 | [],[],_,_ => trivial
 | _ :: _,c :: _,hg,⟨⟨b,h1,h2⟩,h⟩ => ⟨⟨b,hg c (List.mem_cons_self ..) _ h1,h2⟩,zeE.ren (fun id hid => hg id (List.mem_cons_of_mem _ hid)) h⟩
 | [],_ :: _,_,h => h.elim
 | _ :: _,[],_,h => h.elim
theorem zdh.ren {β2 : Nat → Option Value} {g : Nat → Nat} {v : Value} {l : zcp} (hg : ∀ id ∈ zdb l,∀ u,β id = some u → β2 (g id) = some u) (h : zdh w ok β v l) : zdh w ok β2 v (zdB g l) := by
 cases l with
 | ref id => exact ⟨hg id (List.mem_singleton.2 rfl) _ h.1,h.2⟩
 | ptr id off => obtain ⟨b,h1,h2⟩ := h; exact ⟨b,hg id (List.mem_singleton.2 rfl) _ h1,h2⟩
 | fn f caps => obtain ⟨vs,h1,h2⟩ := h; exact ⟨vs,h1,h2.ren hg⟩
 | _ => exact h
theorem zcA.ren {β2 : Nat → Option Value} {g : Nat → Nat} : ∀ {vs : List Value} {ls : List zcp},(∀ id ∈ ls.flatMap zdb,∀ u,β id = some u → β2 (g id) = some u) → zcA w ok β vs ls → zcA w ok β2 vs (ls.map (zdB g))
 | [],[],_,_ => trivial
 | _ :: _,l :: ls,hg,⟨h1,h2⟩ => ⟨h1.ren fun id hid => hg id (List.mem_flatMap.2 ⟨l,List.mem_cons_self ..,hid⟩),zcA.ren (fun id hid => hg id (by
   obtain ⟨x,hx,hi⟩ := List.mem_flatMap.1 hid
   exact List.mem_flatMap.2 ⟨x,List.mem_cons_of_mem _ hx,hi⟩)) h2⟩
 | [],_ :: _,_,h => h.elim
 | _ :: _,[],_,h => h.elim
theorem RepC.ren {β2 : Nat → Option Value} {g : Nat → Nat} (hg : ∀ id u,β id = some u → β2 (g id) = some u) {v : Value} : ∀ {c : Bool × List zcp},RepC w ok β v c → RepC w ok β2 v (c.1,c.2.map (zdB g))
 | (true,_),⟨vs,e,h⟩ => ⟨vs,e,h.ren fun id _ => hg id⟩
 | (false,_),h => zcA.ren (vs := [v]) (fun id _ => hg id) h
theorem zdN.ren {β2 : Nat → Option Value} {g : Nat → Nat} (hg : ∀ id u,β id = some u → β2 (g id) = some u) : ∀ {vs : List Value} {cs : List (Bool × List zcp)},zdN w ok β vs cs → zdN w ok β2 vs (cs.map fun c => (c.1,c.2.map (zdB g)))
 | [],[],_ => trivial
 | _ :: _,_ :: _,⟨h1,h2⟩ => ⟨h1.ren hg,zdN.ren hg h2⟩
 | [],_ :: _,h => h.elim
 | _ :: _,[],h => h.elim
theorem zcE.ren {β2 : Nat → Option Value} {g : Nat → Nat} (hg : ∀ id u,β id = some u → β2 (g id) = some u) {v : Value} {t : TV} (h : zcE w ok β v t) : zcE w ok β2 v (renTV g t) := by
 cases t with
 | lf l => exact zdh.ren (fun id _ => hg id) h
 | agg cs => obtain ⟨vs,e,h⟩ := h; exact ⟨vs,e,h.ren fun id _ => hg id⟩
 | tup cs => obtain ⟨vs,e,h⟩ := h; exact ⟨vs,e,h.ren hg⟩
 | rptr cs => obtain ⟨b,o,us,e,hb,hm,h⟩ := h; exact ⟨b,o,us,e,hb,hm,h.ren fun id _ => hg id⟩
 | eptr id i off sz => obtain ⟨b,n,cap,h1,h2,h3⟩ := h; exact ⟨b,n,cap,hg _ _ h1,h2,h3⟩
theorem zdo.ren {β2 : Nat → Option Value} {g : Nat → Nat} {id id2 : Nat} {b : EB} (hg : ∀ j ∈ zey b,∀ u,β j = some u → β2 (g j) = some u) (hid : ∀ u,β id = some u → β2 id2 = some u) (h : zdo w ok β id b) :
  zdo w ok β2 id2 (zdw g b) := by
 cases b with
 | dead => trivial
 | cells ls =>
  obtain ⟨q,cs,e,h1,h2,h3⟩ := h
  exact ⟨q,cs,e,hid _ h1,h2,h3.ren hg⟩
 | arr e t xs =>
  obtain ⟨v,us,h1,h2,h3⟩ := h
  exact ⟨v,us,hid _ h1,h2,h3⟩
 | raw e us o =>
  obtain ⟨v,vs,h1,h2,h3⟩ := h
  match o,hg,h3 with
  | none,_,h3 => exact ⟨v,vs,hid _ h1,h2,h3⟩
  | some (i,l),hg,⟨u,h3,h4,h5⟩ => exact ⟨v,vs,hid _ h1,h2,u,h3,h4,h5.ren hg⟩
theorem idxOf_get : ∀ {ids : List Nat} {id : Nat},id ∈ ids → ids[idxOf ids id]? = some id
 | [],_,h => by cases h
 | j :: js,id,h => by
  unfold idxOf
  by_cases e : j = id
  ·simp [e]
  ·rw [if_neg e]
   simpa using idxOf_get (by rcases List.mem_cons.1 h with h1 | h1; exact absurd h1.symm e; exact h1)
theorem zhF : ∀ {ids : List Nat},zfT ids = true → ∀ {i j : Nat} {x : Nat},ids[i]? = some x → ids[j]? = some x → i = j
 | [],_,_,_,_,h,_ => by cases h
 | y :: ys,hn,i,j,x,hi,hj => by
  simp only [zfT,Bool.and_eq_true,Bool.not_eq_true'] at hn
  have hy : y ∉ ys := by simpa using hn.1
  cases i with
  | zero =>
   cases j with
   | zero => rfl
   | succ j =>
    simp at hi hj
    subst hi
    exact absurd (List.mem_of_getElem? hj) hy
  | succ i =>
   cases j with
   | zero =>
    simp at hi hj
    subst hj
    exact absurd (List.mem_of_getElem? hi) hy
   | succ j =>
    simp at hi hj
    rw [zhF hn.2 hi hj]
theorem zjn {all : List Nat} : ∀ {ids : List Nat} {es : List Ent},zfQ h all ids = some es → es.length = ids.length ∧
  ∀ (k : Nat) (id : Nat),ids[k]? = some id → ∃ e,h id = some e ∧ e.w = true ∧ e.live = true ∧ (∀ j ∈ zey e.b,j ∈ all) ∧ es[k]? = some ⟨true,zdw (idxOf all) e.b⟩
 | [],_,e => by cases e; exact ⟨rfl,fun k id h => by simp at h⟩
 | id :: ids,es,e => by
  unfold zfQ at e
  split at e
  ·rename_i e1 es1 h1 h2
   split at e
   ·rename_i hc
    cases e
    obtain ⟨hl,hr⟩ := zjn h2
    simp only [Bool.and_eq_true] at hc
    refine ⟨by simp [hl],fun k j hk => ?_⟩
    cases k with
    | zero =>
     simp at hk
     subst hk
     exact ⟨e1,h1,hc.1.1,hc.1.2,fun j hj => by have := List.all_eq_true.1 hc.2 j hj; simpa using this,rfl⟩
    | succ k =>
     simp at hk
     simpa using hr k j hk
   ·cases e
  ·cases e
theorem zju : ∀ {k n : Nat},zfr h k n = true → ∀ i,i < n → h (k + i) = none
 | _,0,_,i,hi => by omega
 | k,n + 1,hn,i,hi => by
  simp only [zfr,Bool.and_eq_true,Option.isNone_iff_eq_none] at hn
  cases i with
  | zero => exact hn.1
  | succ i =>
   have := zju hn.2 i (by omega)
   rw [show k + (i + 1) = k + 1 + i by omega]
   exact this
theorem updAll_get {id : Nat} {e : Ent} : ∀ (l : List (Nat × Ent)) (h : zcJ),(id,e) ∈ l → (∀ e',(id,e') ∈ l → e' = e) → zcU h l id = some e
 | [],_,hm,_ => by cases hm
 | x :: l,h,hm,hu => by
  show zcU (zcR h x.1 x.2) l id = some e
  by_cases hl : ∃ e',(id,e') ∈ l
  ·obtain ⟨e',he'⟩ := hl
   have := hu e' (List.mem_cons_of_mem _ he')
   subst this
   exact updAll_get l _ he' fun e'' h'' => hu e'' (List.mem_cons_of_mem _ h'')
  ·rcases List.mem_cons.1 hm with hx | hx
   ·subst hx
    rw [zet id l _ fun y hy e => hl ⟨y.2,by rw [← e]; exact hy⟩]
    simp [zcR]
   ·exact absurd ⟨e,hx⟩ hl
theorem zhN {g : Nat → Nat} : ∀ {ids : List Nat} {es : List Ent} {x : Nat × Ent},x ∈ zipUpd g ids es → ∃ (k : Nat) (e : Ent),ids[k]? = some x.1 ∧ es[k]? = some e ∧ x.2 = ⟨e.w,zdw g e.b⟩
 | id :: ids,e :: es,x,hx => by
  rcases List.mem_cons.1 hx with rfl | hx
  ·exact ⟨0,e,rfl,rfl,rfl⟩
  ·obtain ⟨k,e',h1,h2,h3⟩ := zhN hx
   exact ⟨k + 1,e',by simpa using h1,by simpa using h2,h3⟩
 | [],[],_,hx => by cases hx
 | [],_ :: _,_,hx => by cases hx
 | _ :: _,[],_,hx => by cases hx
theorem zipUpd_mem {g : Nat → Nat} : ∀ {ids : List Nat} {es : List Ent} {k : Nat} {id : Nat} {e : Ent},ids[k]? = some id → es[k]? = some e → (id,(⟨e.w,zdw g e.b⟩ : Ent)) ∈ zipUpd g ids es
 | i :: ids,x :: es,0,_,_,h1,h2 => by
  simp at h1 h2
  subst h1 h2
  exact List.mem_cons_self ..
 | i :: ids,x :: es,k + 1,_,_,h1,h2 => List.mem_cons_of_mem _ (zipUpd_mem (k := k) (by simpa using h1) (by simpa using h2))
 | [],_,_,_,_,h1,_ => by simp at h1
 | _ :: _,[],_,_,_,_,h2 => by simp at h2
theorem zgA {g : Nat → Nat} : ∀ {es : List Ent} {k : Nat} {x : Nat × Ent},x ∈ zgB g k es → ∃ (j : Nat) (e : Ent),x.1 = k + j ∧ es[j]? = some e ∧ x.2 = ⟨e.w,zdw g e.b⟩
 | [],_,_,hx => by cases hx
 | e :: es,k,x,hx => by
  rcases List.mem_cons.1 hx with rfl | hx
  ·exact ⟨0,e,rfl,rfl,rfl⟩
  ·obtain ⟨j,e',h1,h2,h3⟩ := zgA hx
   exact ⟨j + 1,e',by omega,by simpa using h2,h3⟩
theorem zjd {g : Nat → Nat} : ∀ {es : List Ent} {k j : Nat} {e : Ent},es[j]? = some e → (k + j,(⟨e.w,zdw g e.b⟩ : Ent)) ∈ zgB g k es
 | x :: es,k,0,e,h1 => by
  simp at h1
  subst h1
  exact List.mem_cons_self ..
 | x :: es,k,j + 1,e,h1 => by
  have := zjd (k := k + 1) (j := j) (e := e) (g := g) (es := es) (by simpa using h1)
  rw [show k + (j + 1) = k + 1 + j by omega]
  exact List.mem_cons_of_mem _ this
 | [],_,_,_,h1 => by simp at h1
theorem zeH {g : Nat → Nat} {q q' : Bool} {b : EB} : (⟨q,zdw g b⟩ : Ent).live = (⟨q',b⟩ : Ent).live := by
 cases b with
 | raw e us o => rcases o with _ | ⟨i,l⟩ <;> rfl
 | _ => rfl
theorem Inv.call (I : Inv w0 own w β ok h) {ids : List Nat} {es : List Ent} (hes : zfQ h ids ids = some es) (hnd : zfT ids = true) {k0 : Nat} {r : zdP} (hnew : zfr h k0 r.fresh.length = true) (hk0 : k0 + r.fresh.length ≤ zco)
  {βc : Nat → Option Value} (hβc : ∀ k,βc k = (ids[k]?).bind β) {v : Value} {w' : World} {β' : Nat → Option Value} {ok' okc : Nat → Prop} (C : zhu w βc okc es.length r v w' β' ok')
  (hokc : r.shares = true → ∀ b,okc b → ok b) :
  zdm w0 own w β ok h (renTV (zef ids k0) r.val) (zipUpd (zef ids k0) ids r.ents ++ zgB (zef ids k0) k0 r.fresh) v w'
   (fun j => if k0 ≤ j ∧ j < k0 + r.fresh.length then β' (ids.length + (j - k0)) else β j) (fun b => ok b ∨ ok' b) := by
 obtain ⟨hel,hsp⟩ := zjn hes
 have hn := zju hnew
 have hlen : r.ents.length = ids.length := C.len.trans hel
 have hold : ∀ id ∈ ids,∃ e,h id = some e ∧ e.w = true ∧ e.live = true := fun id hid => by
  obtain ⟨k,hk⟩ := List.mem_iff_getElem?.1 hid
  obtain ⟨e,h1,h2,h3,_⟩ := hsp k id hk
  exact ⟨e,h1,h2,h3⟩
 have hdisj : ∀ id ∈ ids,¬ (k0 ≤ id ∧ id < k0 + r.fresh.length) := fun id hid hc => by
  obtain ⟨e,h1,_⟩ := hold id hid
  have := hn (id - k0) (by omega)
  rw [show k0 + (id - k0) = id by omega,h1] at this
  cases this
 have hβn : ∀ j,k0 ≤ j → j < k0 + r.fresh.length → β j = none := fun j h1 h2 => by
  cases hb : β j with
  | none => rfl
  | some u =>
   obtain ⟨e,he⟩ := I.dom j u hb
   have := hn (j - k0) (by omega)
   rw [show k0 + (j - k0) = j by omega,he] at this
   cases this
 have hββ : ∀ j u,β j = some u → (if k0 ≤ j ∧ j < k0 + r.fresh.length then β' (ids.length + (j - k0)) else β j) = some u := fun j u hj => by
  rw [if_neg]
  ·exact hj
  ·rintro ⟨h1,h2⟩
   rw [hβn j h1 h2] at hj
   cases hj
 have hback : ∀ k u,β' k = some u → (if k0 ≤ zef ids k0 k ∧ zef ids k0 k < k0 + r.fresh.length then β' (ids.length + (zef ids k0 k - k0)) else β (zef ids k0 k)) = some u := by
  intro k u hk
  have hd := C.dom k u hk
  rw [hel] at hd
  unfold zef
  by_cases hkl : k < ids.length
  ·have h1 := C.old k u (by rw [hel]; exact hkl) hk
   have hk' : ids[k]? = some ids[k] := List.getElem?_eq_getElem hkl
   rw [hβc,hk'] at h1
   rw [if_pos hkl]
   have : ids.getD k 0 = ids[k] := by simp [List.getD,hkl]
   rw [this,if_neg (hdisj _ (List.getElem_mem hkl))]
   exact h1
  ·rw [if_neg hkl]
   rw [if_pos (by omega)]
   rw [show ids.length + (k0 + (k - ids.length) - k0) = k by omega]
   exact hk
 have hnot : ∀ b,(∀ id ∈ ids,∀ u,β id = some u → blk u ≠ some b) → b < w.heap.size → w'.heap[b]? = w.heap[b]? := fun b hb hlt => C.block b hlt fun k u hk hu => by
  rw [hel] at hk
  rw [hβc,List.getElem?_eq_getElem hk] at hu
  exact hb _ (List.getElem_mem hk) u hu
 have hokh : ∀ b,ok b → w'.heap[b]? = w.heap[b]? := fun b hb => hnot b (fun id hid u hu hg => by
  obtain ⟨e,h1,h2,h3⟩ := hold id hid
  exact (I.wr id e u b h1 h2 hu hg).1 hb) (I.okLt b hb)
 have hok2 : ∀ b,ok' b → ok b ∨ (w.heap.size ≤ b ∧ b < w'.heap.size) ∨ ∃ (k id : Nat) (u : Value),ids[k]? = some id ∧ β id = some u ∧ blk u = some b ∧ r.ents[k]? = some ⟨false,.dead⟩ := fun b hb => by
  rcases C.okNew b hb with ⟨h1,h2⟩ | h1 | ⟨k,u,h1,h2,h3,h4⟩
  ·exact .inl (hokc h1 b h2)
  ·exact .inr (.inl h1)
  ·rw [hβc] at h2
   obtain ⟨id,h5,h6⟩ := Option.bind_eq_some_iff.1 h2
   exact .inr (.inr ⟨k,id,u,h5,h6,h3,h4⟩)
 let upd := zipUpd (zef ids k0) ids r.ents ++ zgB (zef ids k0) k0 r.fresh
 have look : ∀ j e,zcU h upd j = some e →
   (∃ (k : Nat) (e' : Ent),ids[k]? = some j ∧ r.ents[k]? = some e' ∧ e = ⟨e'.w,zdw (zef ids k0) e'.b⟩) ∨
   (∃ (i : Nat) (e' : Ent),j = k0 + i ∧ i < r.fresh.length ∧ r.fresh[i]? = some e' ∧ e = ⟨e'.w,zdw (zef ids k0) e'.b⟩) ∨
   (j ∉ ids ∧ ¬ (k0 ≤ j ∧ j < k0 + r.fresh.length) ∧ h j = some e) := by
  intro j e hj
  by_cases h1 : j ∈ ids
  ·obtain ⟨k,hk⟩ := List.mem_iff_getElem?.1 h1
   have hk2 : k < r.ents.length := by rw [hlen]; exact (List.getElem?_eq_some_iff.1 hk).1
   have he := List.getElem?_eq_getElem hk2
   have hu : zcU h upd j = some ⟨r.ents[k].w,zdw (zef ids k0) r.ents[k].b⟩ := by
    refine updAll_get upd h (List.mem_append_left _ (zipUpd_mem hk he)) fun e' he' => ?_
    rcases List.mem_append.1 he' with hz | hf
    ·obtain ⟨k',e'',h3,h4,h5⟩ := zhN hz
     have := zhF hnd hk h3
     subst this
     rw [he] at h4
     cases h4
     exact h5
    ·obtain ⟨i,e'',h3,h4,_⟩ := zgA hf
     have hi := (List.getElem?_eq_some_iff.1 h4).1
     simp only at h3
     exact absurd ⟨by omega,by omega⟩ (hdisj j h1)
   rw [hu] at hj
   cases hj
   exact .inl ⟨k,_,hk,he,rfl⟩
  ·by_cases h2 : k0 ≤ j ∧ j < k0 + r.fresh.length
   ·have hi : j - k0 < r.fresh.length := by omega
    have he := List.getElem?_eq_getElem hi
    have hj0 : k0 + (j - k0) = j := by omega
    have hu : zcU h upd j = some ⟨r.fresh[j - k0].w,zdw (zef ids k0) r.fresh[j - k0].b⟩ := by
     have hm := zjd (g := zef ids k0) (k := k0) he
     rw [hj0] at hm
     refine updAll_get upd h (List.mem_append_right _ hm) fun e' he' => ?_
     rcases List.mem_append.1 he' with hz | hf
     ·obtain ⟨k',e'',h3,h4,h5⟩ := zhN hz
      exact absurd (List.mem_of_getElem? h3) h1
     ·obtain ⟨i,e'',h3,h4,h5⟩ := zgA hf
      simp only at h3
      have : i = j - k0 := by omega
      subst this
      rw [he] at h4
      cases h4
      exact h5
    rw [hu] at hj
    cases hj
    exact .inr (.inl ⟨j - k0,_,hj0.symm,hi,he,rfl⟩)
   ·refine .inr (.inr ⟨h1,h2,?_⟩)
    rwa [zet j upd h fun x hx e => ?_] at hj
    rcases List.mem_append.1 hx with hz | hf
    ·obtain ⟨k',e'',h3,_⟩ := zhN hz
     exact h1 (e ▸ List.mem_of_getElem? h3)
    ·obtain ⟨i,e'',h3,h4,_⟩ := zgA hf
     have := (List.getElem?_eq_some_iff.1 h4).1
     exact h2 ⟨by omega,by omega⟩
 have dom2 : ∀ j,j ∈ ids ∨ (k0 ≤ j ∧ j < k0 + r.fresh.length) → ∃ e,zcU h upd j = some e := by
  intro j hj
  cases hu : zcU h upd j with
  | some e => exact ⟨e,rfl⟩
  | none =>
   exfalso
   rcases hj with h1 | h1
   ·obtain ⟨k,hk⟩ := List.mem_iff_getElem?.1 h1
    have hk2 : k < r.ents.length := by rw [hlen]; exact (List.getElem?_eq_some_iff.1 hk).1
    have hm := zipUpd_mem (g := zef ids k0) hk (List.getElem?_eq_getElem hk2)
    have : ∀ (l : List (Nat × Ent)) (h : zcJ) (e : Ent),(j,e) ∈ l → zcU h l j ≠ none := by
     intro l
     induction l with
     | nil => intro h e hm; cases hm
     | cons x l ih =>
      intro h e hm
      by_cases hl : ∃ e',(j,e') ∈ l
      ·obtain ⟨e',he'⟩ := hl
       exact ih _ e' he'
      ·rcases List.mem_cons.1 hm with hx | hx
       ·subst hx
        show zcU (zcR h j e) l j ≠ none
        rw [zet j l _ fun y hy e => hl ⟨y.2,by rw [← e]; exact hy⟩]
        simp [zcR]
       ·exact absurd ⟨e,hx⟩ hl
    exact this upd h _ (List.mem_append_left _ hm) hu
   ·have hi : j - k0 < r.fresh.length := by omega
    have hm := zjd (g := zef ids k0) (k := k0) (List.getElem?_eq_getElem hi)
    rw [show k0 + (j - k0) = j by omega] at hm
    have : ∀ (l : List (Nat × Ent)) (h : zcJ) (e : Ent),(j,e) ∈ l → zcU h l j ≠ none := by
     intro l
     induction l with
     | nil => intro h e hm; cases hm
     | cons x l ih =>
      intro h e hm
      by_cases hl : ∃ e',(j,e') ∈ l
      ·obtain ⟨e',he'⟩ := hl
       exact ih _ e' he'
      ·rcases List.mem_cons.1 hm with hx | hx
       ·subst hx
        show zcU (zcR h j e) l j ≠ none
        rw [zet j l _ fun y hy e => hl ⟨y.2,by rw [← e]; exact hy⟩]
        simp [zcR]
       ·exact absurd ⟨e,hx⟩ hl
    exact this upd h _ (List.mem_append_right _ hm) hu
 refine ⟨hokh,fun _ h => .inl h,hββ,?_,?_,fun id v h1 h2 => by
  have : ¬ (k0 ≤ id ∧ id < k0 + r.fresh.length) := by omega
  rwa [if_neg this] at h2,fun b hb => ?_⟩
 rotate_right
 ·rcases hb with hb | hb
  ·exact .inl hb
  ·rcases hok2 b hb with h1 | h1 | ⟨k,id,u,h1,h2,h3,_⟩
   ·exact .inl h1
   ·exact .inr (.inr (Nat.le_trans I.fr.size h1.1))
   ·obtain ⟨e,h5,h6,_⟩ := hold id (List.mem_of_getElem? h1)
    exact .inr (I.wr id e u b h5 h6 h2 h3).2
 ·exact (zcE.mono (fun _ _ => rfl) (fun b hb => .inr hb) (fun _ _ h => h) C.rep).ren hback
 ·refine ⟨⟨C.os.trans I.fr.os,C.tape.trans I.fr.tape,C.output.trans I.fr.output,Nat.le_trans I.fr.size C.size,fun b hb hnb => ?_⟩,?_,?_,?_,?_,?_,?_,?_⟩
  ·rw [hnot b (fun id hid u hu hg => ?_) (Nat.lt_of_lt_of_le hb I.fr.size)]
   ·exact I.fr.block b hb hnb
   ·obtain ⟨e,h1,h2,h3⟩ := hold id hid
    rcases (I.wr id e u b h1 h2 hu hg).2 with h4 | h4
    ·exact hnb h4
    ·omega
  ·rintro b (hb | hb)
   ·exact Nat.lt_of_lt_of_le (I.okLt b hb) C.size
   ·rcases hok2 b hb with h1 | h1 | ⟨k,id,u,h1,h2,h3,_⟩
    ·exact Nat.lt_of_lt_of_le (I.okLt b h1) C.size
    ·exact h1.2
    ·obtain ⟨e,h5,_,h6⟩ := hold id (List.mem_of_getElem? h1)
     exact Nat.lt_of_lt_of_le (I.lt h5 h6 h2 h3) C.size
  ·intro j u hj
   by_cases h1 : j ∈ ids
   ·exact dom2 j (.inl h1)
   ·by_cases h2 : k0 ≤ j ∧ j < k0 + r.fresh.length
    ·exact dom2 j (.inr h2)
    ·rw [if_neg h2] at hj
     obtain ⟨e,he⟩ := I.dom j u hj
     refine ⟨e,?_⟩
     show zcU h upd j = some e
     rw [zet j upd h fun x hx e' => ?_]
     ·exact he
     ·rcases List.mem_append.1 hx with hz | hf
      ·obtain ⟨k',e'',h3,_⟩ := zhN hz
       exact h1 (e' ▸ List.mem_of_getElem? h3)
      ·obtain ⟨i,e'',h3,h4,_⟩ := zgA hf
       have := (List.getElem?_eq_some_iff.1 h4).1
       exact h2 ⟨by omega,by omega⟩
  ·intro j e hj
   rcases look j e hj with ⟨k,e',hk,he',rfl⟩ | ⟨i,e',rfl,hi,he',rfl⟩ | ⟨h1,h2,h3⟩
   ·have := (C.ents k e' he').2
    refine ((zdo.mono (fun _ _ => rfl) (fun b hb => .inr hb) (fun _ _ h => h) (fun _ _ _ _ => rfl) this).ren (fun _ _ u hu => hback _ u hu) fun u hu => ?_)
    have h4 := hback k u hu
    unfold zef at h4
    have hkl := (List.getElem?_eq_some_iff.1 hk).1
    rw [if_pos hkl] at h4
    have : ids.getD k 0 = j := by simp [List.getD,hk]
    rwa [this] at h4
   ·have := (C.fresh i e' he').2.2
    refine ((zdo.mono (fun _ _ => rfl) (fun b hb => .inr hb) (fun _ _ h => h) (fun _ _ _ _ => rfl) this).ren (fun _ _ u hu => hback _ u hu) fun u hu => ?_)
    rw [if_pos (by omega)]
    rw [show ids.length + (k0 + i - k0) = es.length + i by rw [hel]; omega]
    exact hu
   ·by_cases hl : e.live = true
    ·refine (I.ent j e h3).mono hokh (fun _ h => .inl h) hββ fun u g hu hg => ?_
     refine hnot g (fun id hid u' hu' hg' => ?_) (I.lt h3 hl hu hg)
     obtain ⟨e2,h4,h5,h6⟩ := hold id hid
     exact I.sep id e2 u' j e u g (fun e => h1 (e ▸ hid)) h4 h3 h5 hl hu' hu hg' hg
    ·obtain ⟨ew,eb⟩ := e
     cases eb with
     | dead => trivial
     | _ => exact absurd rfl hl
  ·intro j e hj hw
   rcases look j e hj with ⟨k,e',hk,he',rfl⟩ | ⟨i,e',rfl,hi,he',rfl⟩ | ⟨h1,h2,h3⟩
   ·have := (C.ents k e' he').1
    rw [zeH (q' := e'.w)]
    exact this ▸ hw
   ·rw [zeH (q' := e'.w)]
    exact (C.fresh i e' he').2.1
   ·exact I.dw j e h3 hw
  ·intro j e u g hj hw hu hg
   rcases look j e hj with ⟨k,e',hk,he',rfl⟩ | ⟨i,e',rfl,hi,he',rfl⟩ | ⟨h1,h2,h3⟩
   ·have hid := List.mem_of_getElem? hk
    rw [if_neg (hdisj j hid)] at hu
    obtain ⟨e2,h4,h5,h6⟩ := hold j hid
    have h7 := I.wr j e2 u g h4 h5 hu hg
    refine ⟨?_,h7.2⟩
    rintro (h8 | h8)
    ·exact h7.1 h8
    ·rcases hok2 g h8 with h9 | h9 | ⟨k2,id2,u2,g1,g2,g3,g4⟩
     ·exact h7.1 h9
     ·have := I.lt h4 h6 hu hg
      omega
     ·obtain ⟨e3,g5,_,g6⟩ := hold id2 (List.mem_of_getElem? g1)
      refine I.sep j e2 u id2 e3 u2 g (fun e => ?_) h4 g5 h5 g6 hu g2 hg g3
      subst e
      have : k2 = k := zhF hnd g1 hk
      subst this
      rw [he'] at g4
      cases g4
      cases hw
   ·rw [if_pos (by omega),show ids.length + (k0 + i - k0) = es.length + i by rw [hel]; omega] at hu
    have h7 := C.place i u g hi hu hg
    refine ⟨?_,.inr (Nat.le_trans I.fr.size h7.1)⟩
    rintro (h8 | h8)
    ·have := I.okLt g h8
     omega
    ·exact h7.2 h8
   ·rw [if_neg h2] at hu
    have h7 := I.wr j e u g h3 hw hu hg
    refine ⟨?_,h7.2⟩
    rintro (h8 | h8)
    ·exact h7.1 h8
    ·rcases hok2 g h8 with h9 | h9 | ⟨k2,id2,u2,g1,g2,g3,_⟩
     ·exact h7.1 h9
     ·have := I.lt h3 (I.dw j e h3 hw) hu hg
      omega
     ·obtain ⟨e3,g5,_,g6⟩ := hold id2 (List.mem_of_getElem? g1)
      exact I.sep j e u id2 e3 u2 g (fun e => h1 (e ▸ List.mem_of_getElem? g1)) h3 g5 hw g6 hu g2 hg g3
  ·intro j e u g hj hw hl hu hg
   rcases look j e hj with ⟨k,e',hk,he',rfl⟩ | ⟨i,e',rfl,hi,he',rfl⟩ | ⟨h1,h2,h3⟩
   ·have := (C.ents k e' he').1
    rw [zeH (q' := e'.w)] at hl
    have h4 : e'.live = true := hl
    rw [← this] at h4
    simp only at hw
    rw [h4] at hw
    cases hw
   ·simp only at hw
    rw [(C.fresh i e' he').1] at hw
    cases hw
   ·rw [if_neg h2] at hu
    exact .inl (I.ro j e u g h3 hw hl hu hg)
  ·intro i e u j e' u' g hij hi hj hw hl hu hu' hg hg'
   have cls : ∀ j e u g,zcU h upd j = some e → e.live = true → (if k0 ≤ j ∧ j < k0 + r.fresh.length then β' (ids.length + (j - k0)) else β j) = some u → blk u = some g →
     (∃ i,j = k0 + i ∧ i < r.fresh.length ∧ β' (es.length + i) = some u ∧ w.heap.size ≤ g) ∨ (g < w.heap.size ∧ β j = some u ∧ ∃ e0,h j = some e0 ∧ e0.live = true ∧ (e.w = true → e0.w = true)) := by
    intro j e u g hj hl hu hg
    rcases look j e hj with ⟨k,e',hk,he',rfl⟩ | ⟨i,e',rfl,hi,he',rfl⟩ | ⟨h1,h2,h3⟩
    ·have hid := List.mem_of_getElem? hk
     rw [if_neg (hdisj j hid)] at hu
     obtain ⟨e2,h4,h5,h6⟩ := hold j hid
     exact .inr ⟨I.lt h4 h6 hu hg,hu,e2,h4,h6,fun _ => h5⟩
    ·rw [if_pos (by omega),show ids.length + (k0 + i - k0) = es.length + i by rw [hel]; omega] at hu
     exact .inl ⟨i,rfl,hi,hu,(C.place i u g hi hu hg).1⟩
    ·rw [if_neg h2] at hu
     exact .inr ⟨I.lt h3 hl hu hg,hu,e,h3,hl,fun h => h⟩
   have hlw : e.live = true := by
    rcases look i e hi with ⟨k,e',hk,he',rfl⟩ | ⟨i',e',rfl,hi',he',rfl⟩ | ⟨h1,h2,h3⟩
    ·have := (C.ents k e' he').1
     rw [zeH (q' := e'.w)]
     exact this ▸ hw
    ·rw [zeH (q' := e'.w)]
     exact (C.fresh i' e' he').2.1
    ·exact I.dw i e h3 hw
   rcases cls i e u g hi hlw hu hg with ⟨a,rfl,ha,hua,hga⟩ | ⟨hga,hua,ea,h3,h4,h5⟩
   ·rcases cls j e' u' g hj hl hu' hg' with ⟨b,rfl,hb,hub,hgb⟩ | ⟨hgb,_⟩
    ·exact C.apart a b u u' g ha hb (fun e => hij (by rw [e])) hua hub hg hg'
    ·omega
   ·rcases cls j e' u' g hj hl hu' hg' with ⟨b,rfl,hb,hub,hgb⟩ | ⟨hgb,hub,eb,h6,h7,h8⟩
    ·omega
    ·exact I.sep i ea u j eb u' g hij h3 h6 (h5 hw) h7 hua hub hg hg'
end
end Go.Proofs.YtlfdidaeachpoaaGreat
namespace Go.Proofs.YtlfdidaeachpoaaGreat
open Go Go.RowKit
section
variable {P : Program} {T : zcl} {w0 : World} {own : Nat → Prop} {w : World} {β : Nat → Option Value} {ok : Nat → Prop} {h : zcJ}
theorem zdn.ren {β2 : Nat → Option Value} {g : Nat → Nat} : ∀ {vs : List Value} {ts : List TV} {ls : List zcp},zeA ts = some ls → (∀ id ∈ ls.flatMap zdb,∀ u,β id = some u → β2 (g id) = some u) → zdn w ok β vs ts → zdn w ok β2 vs (ts.map (renTV g))
 | [],[],_,_,_,_ => trivial
 | v :: vs,t :: ts,ls,e,hg,⟨h1,h2⟩ => by
  unfold zeA at e
  split at e
  ·rename_i a b ha hb
   cases e
   refine ⟨?_,zdn.ren hb (fun id hid => hg id (by rw [List.flatMap_append]; exact List.mem_append_right _ hid)) h2⟩
   have hg' : ∀ id ∈ a.flatMap zdb,∀ u,β id = some u → β2 (g id) = some u := fun id hid => hg id (by rw [List.flatMap_append]; exact List.mem_append_left _ hid)
   cases t with
   | lf l => cases ha; exact zdh.ren (fun id hid => hg' id (by simpa using hid)) h1
   | agg cs => cases ha; obtain ⟨us,e,h3⟩ := h1; exact ⟨us,e,h3.ren hg'⟩
   | tup _ => cases ha
   | rptr _ => cases ha
   | eptr _ _ _ _ => cases ha
  ·cases e
 | [],_ :: _,_,_,_,h => h.elim
 | _ :: _,[],_,_,_,h => h.elim
theorem zdn.mono {w' : World} {ok' : Nat → Prop} {β' : Nat → Option Value} (hh : ∀ b,ok b → w'.heap[b]? = w.heap[b]?) (hk : ∀ b,ok b → ok' b) (hβ : ∀ id v,β id = some v → β' id = some v) :
  ∀ {vs : List Value} {ts : List TV},zdn w ok β vs ts → zdn w' ok' β' vs ts
 | [],[],_ => trivial
 | _ :: _,_ :: _,⟨h1,h2⟩ => ⟨h1.mono hh hk hβ,zdn.mono hh hk hβ h2⟩
 | [],_ :: _,h => h.elim
 | _ :: _,[],h => h.elim
theorem zdn.append : ∀ {vs vs' : List Value} {ts ts' : List TV},zdn w ok β vs ts → zdn w ok β vs' ts' → zdn w ok β (vs ++ vs') (ts ++ ts')
 | [],_,[],_,_,h => h
 | _ :: _,_,_ :: _,_,⟨h1,h2⟩,h => ⟨h1,h2.append h⟩
 | [],_,_ :: _,_,h,_ => h.elim
 | _ :: _,_,[],_,h,_ => h.elim
theorem entsAt_congr {h1 : zcJ} {all : List Nat} : ∀ {ids : List Nat},(∀ id ∈ ids,h1 id = h id) → zfQ h1 all ids = zfQ h all ids
 | [],_ => rfl
 | id :: ids,hc => by
  unfold zfQ
  rw [hc id (List.mem_cons_self ..),entsAt_congr fun j hj => hc j (List.mem_cons_of_mem _ hj)]
theorem ziZ (I : Inv w0 own w β ok h) (hT : zck P T) {dst : Option Nat} {f : Nat} {args : List TV} {lent : List Nat} {vals : List Value}
  {ok1 : Nat → Prop} (hk1 : ∀ g,ok g → ok1 g) (hB : ∀ g,ok1 g → ok g ∨ own g ∨ w0.heap.size ≤ g) (I1 : Inv w0 own w β ok1 (zcU h (freezes h lent))) (hv : zdn w ok1 β vals args) {r : zcF} (e : zdI T h dst f args lent = some r) (hvc : r.vc = true) :
  Enters P f ∧ Calls P f vals.toArray w fun e w' => ∃ v β' ok',e = .returned v ∧ zdm w0 own w β ok h r.val r.upd v w' β' ok' := by
 unfold zdI at e
 split at e
 ·cases e
 rename_i ls hls
 simp only at e
 split at e
 ·cases e
 rename_i es hes
 split at e
 ·cases e
 rename_i r0 hr0
 split at e
 case isFalse => cases e
 rename_i hc
 obtain ⟨hlen,hnew,hf15,hnd,hroots,hlent⟩ := hc
 have hk0 : zdv (dst.getD 0) + 1 + r0.fresh.length ≤ zco := by
  have := zgy (dst.getD 0) r0.fresh.length (by omega)
  omega
 cases e
 generalize hids : zdW h 3 (zfw (ls.flatMap zdb) []) = ids at *
 have hmem : ∀ id ∈ ls.flatMap zdb,id ∈ ids := fun id hid => by simpa using List.all_eq_true.1 hroots id hid
 have hnl : ∀ id ∈ ids,id ∉ lent := fun id hid hl => by
  have := List.all_eq_true.1 hlent id hl
  simp at this
  exact this hid
 obtain ⟨hel,hsp⟩ := zjn hes
 let βc : Nat → Option Value := fun k => (ids[k]?).bind β
 have hβc : ∀ k,βc k = (ids[k]?).bind β := fun _ => rfl
 have hren : ∀ id ∈ ids,∀ u,β id = some u → βc (idxOf ids id) = some u := fun id hid u hu => by
  rw [hβc,idxOf_get hid]
  exact hu
 have hsame : ∀ id ∈ ids,zcU h (freezes h lent) id = h id := fun id hid => zhg (hnl id hid)
 have hkv : ∀ k u,βc k = some u → ∃ id,ids[k]? = some id ∧ β id = some u := fun k u hu => by
  rw [hβc] at hu
  simpa [Option.bind_eq_some_iff] using hu
 obtain ⟨hent,hok⟩ := hT f _ es r0 hr0 hvc
 refine ⟨hent,?_⟩
 have := hok w vals βc ok1 I1.okLt (hv.ren hls fun id hid => hren id (hmem id hid)) (fun k u hu => ?_) (fun k e' he' => ?_) (fun k u g hu hg => ?_) (fun i j u u' g hij hu hu' hg hg' => ?_)
 ·refine this.mono fun e w' hp => ?_
  obtain ⟨v,β',ok',rfl,C⟩ := hp
  by_cases hsh : r0.shares = true
  ·have hnew1 : zfr (zcU h (freezes h lent)) (zdv (dst.getD 0) + 1) r0.fresh.length = true := by
    have h3 := zju hnew
    have key : ∀ n k,(∀ i,i < n → h (k + i) = none) → zfr (zcU h (freezes h lent)) k n = true := by
     intro n
     induction n with
     | zero => intros; rfl
     | succ n ih =>
      intro k hk
      simp only [zfr,Bool.and_eq_true,Option.isNone_iff_eq_none]
      refine ⟨?_,ih (k + 1) fun i hi => by rw [show k + 1 + i = k + (i + 1) by omega]; exact hk (i + 1) (by omega)⟩
      rw [zet _ _ _ fun x hx e2 => ?_]
      ·exact hk 0 (by omega)
      ·obtain ⟨_,e3,he3,_⟩ := zfJ hx
       rw [e2] at he3
       have := hk 0 (by omega)
       rw [Nat.add_zero] at this
       rw [this] at he3
       cases he3
    exact key _ _ h3
   have D := Inv.call I1 (by rw [entsAt_congr hsame]; exact hes) hnd hnew1 hk0 hβc C (fun _ b hb => hb)
   refine ⟨v,_,_,rfl,fun b hb => D.hh b (hk1 b hb),fun b hb => D.hk b (hk1 b hb),D.hβ,D.rep,?_,D.pin,fun b hb => (D.okB b hb).elim (fun h => hB b h) .inr⟩
   simp only [hsh,if_true]
   rw [zhd]
   exact D.inv
  ·have D := Inv.call I hes hnd hnew hk0 hβc C (fun h => absurd h hsh)
   refine ⟨v,_,_,rfl,D.hh,D.hk,D.hβ,D.rep,?_,D.pin,D.okB⟩
   simp only [hsh,Bool.false_eq_true,if_false,List.nil_append]
   exact D.inv
 ·obtain ⟨id,h1,_⟩ := hkv k u hu
  rw [hel]
  exact (List.getElem?_eq_some_iff.1 h1).1
 ·have hk : k < ids.length := by rw [← hel]; exact (List.getElem?_eq_some_iff.1 he').1
  obtain ⟨e2,h1,h2,h3,h4,h5⟩ := hsp k _ (List.getElem?_eq_getElem hk)
  rw [he'] at h5
  cases h5
  have hid := List.getElem_mem hk
  refine ⟨rfl,?_,(I1.ent ids[k] e2 (by rw [hsame _ hid]; exact h1)).ren (fun j hj => hren j (h4 j hj)) fun u hu => ?_⟩
  ·rw [zeH (q' := e2.w)]
   exact h3
  ·rw [hβc,List.getElem?_eq_getElem hk]
   exact hu
 ·obtain ⟨id,h1,h2⟩ := hkv k u hu
  have hid := List.mem_of_getElem? h1
  obtain ⟨e2,h3,h4,h5,_⟩ := hsp k id h1
  exact (I1.wr id e2 u g (by rw [hsame _ hid]; exact h3) h4 h2 hg).1
 ·obtain ⟨id,h1,h2⟩ := hkv i u hu
  obtain ⟨id',h1',h2'⟩ := hkv j u' hu'
  have hid := List.mem_of_getElem? h1
  have hid' := List.mem_of_getElem? h1'
  obtain ⟨e2,h3,h4,h5,_⟩ := hsp i id h1
  obtain ⟨e2',h3',h4',h5',_⟩ := hsp j id' h1'
  refine I.sep id e2 u id' e2' u' g (fun e => ?_) h3 h3' h4 h5' h2 h2' hg hg'
  subst e
  exact hij (zhF hnd h1 h1')
theorem resolveT_ids {t t' : TV} {ids : List Nat} (e : zdV h t = some (t',ids)) : ∀ id ∈ ids,∃ e,h id = some e ∧ e.live = true := by
 unfold zdV at e
 split at e
 ·split at e
  ·rename_i h1; cases e; exact resolve1_ids h1
  ·cases e
 ·split at e
  ·rename_i h1; cases e; exact zgG h1
  ·cases e
 ·cases e
theorem resolveTs_ids : ∀ {ts ts' : List TV} {ids : List Nat},zdz h ts = some (ts',ids) → ∀ id ∈ ids,∃ e,h id = some e ∧ e.live = true
 | [],_,_,e,id,hid => by cases e; cases hid
 | t :: ts,_,_,e,id,hid => by
  unfold zdz at e
  split at e
  ·rename_i t1 a ts1 b h1 h2
   cases e
   rcases List.mem_append.1 hid with h3 | h3
   ·exact resolveT_ids h1 id h3
   ·exact resolveTs_ids h2 id h3
  ·cases e
theorem ziL {h' : zcJ} (I : Inv w0 own w β ok h') : ∀ {ts ts' : List TV} {ids : List Nat} {vs : List Value},zdz h ts = some (ts',ids) → zdn w ok β vs ts →
  (∀ id ∈ ids,∀ e,h id = some e → h' id = some { e with w := false }) → zdn w ok β vs ts'
 | [],_,_,vs,e,hr,_ => by cases e; exact hr
 | t :: ts,_,_,[],e,hr,_ => hr.elim
 | t :: ts,_,_,v :: vs,e,hr,hz => by
  unfold zdz at e
  split at e
  ·rename_i t1 a ts1 b h1 h2
   cases e
   refine ⟨?_,ziL I h2 hr.2 fun id hid => hz id (List.mem_append_right _ hid)⟩
   unfold zdV at h1
   split at h1
   ·split at h1
    ·rename_i h3; cases h1; exact resolve1_rep h3 hr.1 I fun id hid => hz id (List.mem_append_left _ hid)
    ·cases h1
   ·split at h1
    ·rename_i h3
     cases h1
     obtain ⟨us,e,h4⟩ := hr.1
     exact ⟨us,e,zgs I h3 h4 fun id hid => hz id (List.mem_append_left _ hid)⟩
    ·cases h1
   ·cases h1
  ·cases e
theorem evCall_sound (I : Inv w0 own w β ok h) (hT : zck P T) {dst : Option Nat} {f : Nat} {args : List TV} {vals : List Value} (hv : zdn w ok β vals args) {r : zcF} (e : evCall T h dst f args = some r) (hvc : r.vc = true) :
  Enters P f ∧ Calls P f vals.toArray w fun e w' => ∃ v β' ok',e = .returned v ∧ zdm w0 own w β ok h r.val r.upd v w' β' ok' := by
 have plain : ∀ {r},zdI T h dst f args [] = some r → r.vc = true → Enters P f ∧ Calls P f vals.toArray w fun e w' => ∃ v β' ok',e = .returned v ∧ zdm w0 own w β ok h r.val r.upd v w' β' ok' :=
  fun e hvc => ziZ (lent := []) I hT (fun _ h => h) (fun _ h => .inl h) I hv e hvc
 unfold evCall at e
 split at e
 ·exact plain e hvc
 ·rename_i args' lent hres
  split at e
  ·rename_i r' hr'
   cases e
   obtain ⟨ok1,hk1,I1,_,hz,hB⟩ := I.freezes lent (zeY.refl h) (resolveTs_ids hres)
   exact ziZ I hT hk1 hB I1 (ziL I1 hres (hv.mono (fun _ _ => rfl) hk1 (fun _ _ h => h)) hz) hr' hvc
  ·exact plain e hvc
theorem zea {ρ : Operand → Value} {τ : Operand → Option TV} : ∀ {xs : List Operand} {ts : List TV},tvsOf τ xs = some ts → (∀ x ∈ xs,∀ tv,τ x = some tv → zcE w ok β (ρ x) tv) → zdn w ok β (xs.map ρ) ts
 | [],_,e,_ => by cases e; trivial
 | x :: xs,_,e,hr => by
  unfold tvsOf at e
  split at e
  ·rename_i v vs h1 h2
   cases e
   exact ⟨hr x (List.mem_cons_self ..) v h1,zea h2 fun y hy => hr y (List.mem_cons_of_mem _ hy)⟩
  ·cases e
theorem capsOf_rep : ∀ {vs : List Value} {ts : List TV} {ids : List Nat},capsOf ts = some ids → zdn w ok β vs ts → zeE β vs ids
 | [],[],_,e,_ => by cases e; trivial
 | v :: vs,t :: ts,ids,e,⟨h1,h2⟩ => by
  unfold capsOf at e
  split at e
  ·rename_i ht; cases ht
  ·rename_i id r ht
   cases ht
   split at e
   ·rename_i ids' h3
    cases e
    exact ⟨h1,capsOf_rep h3 h2⟩
   ·cases e
  ·cases e
 | [],_ :: _,_,_,h => h.elim
 | _ :: _,[],_,_,h => h.elim
theorem zeE.args : ∀ {vs : List Value} {ids : List Nat},zeE β vs ids → zdn w ok β vs (ids.map fun id => .lf (.ptr id 0))
 | [],[],_ => trivial
 | _ :: _,_ :: _,⟨h1,h2⟩ => ⟨h1,zeE.args h2⟩
 | [],_ :: _,h => h.elim
 | _ :: _,[],h => h.elim
theorem optTV_rep {ρ : Operand → Value} {τ : Operand → Option TV} {x : Option Operand} {t : Option TV} (e : optTV τ x = some t) (hr : ∀ y,x = some y → ∀ tv,τ y = some tv → zcE w ok β (ρ y) tv) : RepB w ok β (x.map ρ) t := by
 cases x with
 | none => cases e; trivial
 | some y =>
  simp only [optTV,Option.map_eq_some_iff] at e
  obtain ⟨tv,h1,rfl⟩ := e
  exact hr y rfl tv h1
def Fw (rd : Option Nat) : Fence := { Fence.wide with round := rd }
theorem callsR {rd : Option Nat} {n : Nat} {f : FuncId} {args : Array Value} {w : World} {R : Ending → World → Prop} (h : Calls P f args w R) : CallsIn (Fw rd) n P f args w R := by
 cases rd with
 | none => exact callsIn_wide.2 h
 | some l => exact CallsIn.inRound l (callsIn_wide.2 h)
theorem zcH.wp {rd : Option Nat} {o : Oper} {a : Act} {R : Value → World → Prop} (hr : zcH P o a.eval w R) {K : Act → World → Prop} {Q : Exit → Act → World → Prop} (hK : ∀ v w',R v w' → K (a.put o.dst v) w') : (∀ c,o.op ≠ .defer c) → o.wpIn (Fw rd) 0 P a w K Q := by
 intro hnd
 obtain ⟨v,w',h1,h2⟩ := hr
 unfold Oper.wpIn
 refine ⟨fun _ _ => trivial,?_⟩
 rw [Oper.semAt_eq _ _ _ hnd]
 rcases h1 with h1 | ⟨h1,rfl⟩
 ·rw [h1]; exact hK _ _ h2
 ·rw [h1]; exact hK _ _ h2
theorem opSound {rd : Option Nat} (I : Inv w0 own w β ok h) (hT : zck P T) {o : Oper} {a : Act} {τ : Operand → Option TV} (hr : ∀ x ∈ o.op.operands.toList,∀ tv,τ x = some tv → zcE w ok β (a.eval x) tv)
  {r : zcF} (e : zeD P T h τ o = some r) (hvc : r.vc = true) {K : Act → World → Prop} {Q : Exit → Act → World → Prop}
  (hK : ∀ v w' β' ok',zdm w0 own w β ok h r.val r.upd v w' β' ok' → K (a.put o.dst v) w') : o.wpIn (Fw rd) 0 P a w K Q := by
 have hnd : ∀ c,o.op ≠ .defer c := fun c hc => by
  unfold zeD at e
  rw [hc] at e
  cases e
 have fin : (zcH P o a.eval w fun v w' => ∃ β' ok',zdm w0 own w β ok h r.val r.upd v w' β' ok') → o.wpIn (Fw rd) 0 P a w K Q :=
  fun h1 => h1.wp (fun v w' ⟨β',ok',D⟩ => hK v w' β' ok' D) hnd
 have cont : ∀ x,x ∈ o.op.operands → x ∈ o.op.operands.toList := fun x hx => Array.mem_toList_iff.2 hx
 unfold zeD at e
 split at e
 ·rename_i x ho
  simp only [Option.map_eq_some_iff] at e
  obtain ⟨tv,h1,rfl⟩ := e
  exact fin (zcH.pure I (v := a.eval x) (by simp [execOp,ho]) (hr x (by simp [ho,Op.operands]) tv h1))
 ·rename_i x ho
  simp only [Option.map_eq_some_iff] at e
  obtain ⟨tv,h1,rfl⟩ := e
  exact fin (zcH.pure I (v := a.eval x) (by simp [execOp,ho]) (hr x (by simp [ho,Op.operands]) tv h1))
 ·rename_i c x y ho
  split at e
  ·rename_i v h1 h2
   cases e
   have hc := hr c (by simp [ho,Op.operands]) _ h1
   exact fin (zcH.pure I (v := a.eval x) (by simp [execOp,ho,show a.eval c = .bool true from hc,asBool]) (hr x (by simp [ho,Op.operands]) v h2))
  ·rename_i v h1 h2
   cases e
   have hc := hr c (by simp [ho,Op.operands]) _ h1
   exact fin (zcH.pure I (v := a.eval y) (by simp [execOp,ho,show a.eval c = .bool false from hc,asBool]) (hr y (by simp [ho,Op.operands]) v h2))
  ·cases e
 ·rename_i t ho
  split at e
  ·rename_i ls hz; exact fin (alloc_sound I ho hz e)
  ·cases e
 ·rename_i t x ho
  split at e
  ·rename_i ls hz
   simp only [Option.bind_eq_some_iff] at hz
   obtain ⟨tv,h1,h2⟩ := hz
   exact fin (box_sound I ho (hr x (by simp [ho,Op.operands]) tv h1) h2 e)
  ·cases e
 ·rename_i t parts ho
  split at e
  ·rename_i ps hps
   exact fin (build_sound I ho (fun x hx tv htv => hr x (by simpa [ho,Op.operands] using hx) tv htv) hps e)
  ·cases e
 ·rename_i t len parts ho
  split at e
  ·rename_i ps hps
   exact fin (buildSlice_sound I ho (fun x hx tv htv => hr x (by simpa [ho,Op.operands] using hx) tv htv) hps e)
  ·cases e
 ·rename_i t x ho
  simp only [Option.bind_eq_some_iff] at e
  obtain ⟨tv,h1,h2⟩ := e
  exact fin (evLoadX_sound I ho (hr x (by simp [ho,Op.operands]) tv h1) h2 hvc)
 ·rename_i t x y ho
  split at e
  ·rename_i ta tv h1 h2
   have hra := hr x (by simp [ho,Op.operands]) ta h1
   have hrv := hr y (by simp [ho,Op.operands]) tv h2
   unfold evStoreX at e
   split at e
   case h_2 =>
    rename_i id i et us j l hraw
    split at e
    ·rename_i l' hls
     split at e
     ·rename_i hc
      cases e
      obtain ⟨d,hu⟩ := Option.isSome_iff_exists.1 hc.2.2
      exact fin (evStoreRaw_sound I ho hra hrv hraw hls hc.1 hc.2.1 hu (of_decide_eq_true hvc))
     ·cases e
    ·cases e
   unfold evStore at e
   split at e
   ·cases e
   rename_i ls hls
   split at e
   case isFalse => cases e
   rename_i hc
   obtain ⟨hlen,hso,hund⟩ := hc
   obtain ⟨d,hu⟩ := Option.isSome_iff_exists.1 hund
   split at e
   ·split at e
    ·rename_i id off old he
     split at e
     case isFalse => cases e
     rename_i hfit
     cases e
     exact fin (evStore_ptr I ho hra hrv hls hlen hso hu he hfit)
    ·cases e
   ·split at e
    ·rename_i id i off sz e' ty xs ls' ids he hres
     split at e
     case isFalse => cases e
     rename_i hc
     obtain ⟨hsz,hfit,hni⟩ := hc
     subst hsz
     split at e
     ·rename_i y' hy'
      cases e
      exact fin (evStore_eptr I ho hra hrv hls hlen hso hu he hres hfit (by simpa using hni) hy')
     ·cases e
    ·cases e
   ·cases e
  ·cases e
 ·rename_i x ho
  split at e
  ·rename_i id off h1
   cases e
   have h2 := hr x (by simp [ho,Op.operands]) _ h1
   obtain ⟨b,h3,h4⟩ := (show _ ∧ _ from ⟨h2,h2⟩).1
   exact fin (zcH.pure I (v := a.eval x) (by simp [execOp,ho,h4]) h2)
  ·rename_i id i off sz h1
   cases e
   have h2 := hr x (by simp [ho,Op.operands]) _ h1
   obtain ⟨b,n,cap,h3,h5,h4⟩ := (show _ ∧ _ from ⟨h2,h2⟩).1
   exact fin (zcH.pure I (v := a.eval x) (by simp [execOp,ho,h4]) h2)
  ·rename_i cs h1
   cases e
   have h2 := hr x (by simp [ho,Op.operands]) _ h1
   obtain ⟨b,off,us,h4,_⟩ := (show _ ∧ _ from ⟨h2,h2⟩).1
   exact fin (zcH.pure I (v := a.eval x) (by simp [execOp,ho,h4]) h2)
  ·rename_i f caps h1
   cases e
   have h2 := hr x (by simp [ho,Op.operands]) _ h1
   obtain ⟨vs,h4,_⟩ := (show _ ∧ _ from ⟨h2,h2⟩).1
   exact fin (zcH.pure I (v := a.eval x) (by simp [execOp,ho,h4]) h2)
  ·cases e
 ·rename_i op t x y yt ho
  split at e
  case h_2 => cases e
  rename_i tx ty h1 h2
  have hx := hr x (by simp [ho,Op.operands]) tx h1
  have hy := hr y (by simp [ho,Op.operands]) ty h2
  unfold evBin at e
  split at e
  ·cases e; exact fin (evShift_sound I ho hx hy (.inl rfl) hvc)
  ·cases e; exact fin (evShift_sound I ho hx hy (.inr rfl) hvc)
  ·rename_i k n k' m n1 n2
   split at e
   case isFalse => cases e
   rename_i hk
   subst hk
   cases e
   exact fin (evInt_sound I ho hx hy ⟨fun e => n1 e,fun e => n2 e⟩ hvc)
  ·exact fin (evStr_sound I ho hx hy e hvc)
  ·exact fin (evEq_sound I (neg := false) rfl ho hx hy e)
  ·exact fin (evEq_sound I (neg := true) rfl ho hx hy e)
  ·cases e
 ·rename_i op t x ho
  split at e
  ·rename_i b h1
   cases e
   have h2 := hr x (by simp [ho,Op.operands]) _ h1
   exact fin (zcH.pure I (v := .bool !b) (by simp [execOp,ho,show a.eval x = .bool b from h2,Op.unary]) rfl)
  ·rename_i k n h1
   cases e
   have h2 := hr x (by simp [ho,Op.operands]) _ h1
   exact fin (zcH.pure I (v := .int k (k.wrap (0 - n))) (by simp [execOp,ho,h2.1,Op.unary,Op.intArith]) ⟨rfl,zeV _ _⟩)
  ·rename_i k n h1
   cases e
   have h2 := hr x (by simp [ho,Op.operands]) _ h1
   exact fin (zcH.pure I (v := .int k (zdy .xor k (if k.signed = true then -1 else k.max) n)) (by simp [execOp,ho,h2.1,Op.unary,Op.intBits,zdy]) ⟨rfl,zeV _ _⟩)
  ·cases e
 ·rename_i s d x ho
  simp only [Option.bind_eq_some_iff] at e
  obtain ⟨tv,h1,h2⟩ := e
  exact fin (evConvert_sound I ho (hr x (by simp [ho,Op.operands]) tv h1) h2)
 ·rename_i fn first captured ho
  split at e
  ·rename_i f ids hf hcap
   cases e
   simp only [Option.bind_eq_some_iff] at hcap
   obtain ⟨ts,h1,h2⟩ := hcap
   have hfe : first = #[] := by cases first; simpa using hf
   subst hfe
   have hc := capsOf_rep h2 (zea (ρ := a.eval) h1 fun x hx => hr x (by simpa [ho,Op.operands] using hx))
   exact fin (zcH.pure I (v := .func (.func f) #[] (captured.toList.map a.eval).toArray) (by
    have harr : (captured.toList.map a.eval).toArray = captured.map a.eval := by apply Array.ext'; simp
    simp [execOp,ho,Instr.makeFunc,harr]) ⟨_,rfl,hc⟩)
  ·cases e
 ·rename_i t l c ho
  split at e
  ·rename_i tl tc h1 h2
   exact fin (makeSlice_sound I ho (hr l (by simp [ho,Op.operands]) tl h1) (hr c (by simp [ho,Op.operands]) tc h2) e hvc)
  ·cases e
 ·rename_i t x lo hi mx ho
  split at e
  ·rename_i tx tlo thi tmx h1 h2 h3 h4
   exact fin (evSliceR_sound I ho (hr x (by simp [ho,Op.operands]) tx h1) (optTV_rep h2 fun y hy => hr y (by subst hy; simp [ho,Op.operands])) (optTV_rep h3 fun y hy => hr y (by subst hy; simp [ho,Op.operands]))
    (optTV_rep h4 fun y hy => hr y (by subst hy; simp [ho,Op.operands])) e hvc)
  ·cases e
 ·rename_i t x f ho
  simp only [Option.bind_eq_some_iff] at e
  obtain ⟨tv,h1,h2⟩ := e
  exact fin (evFieldAddr_sound I ho (hr x (by simp [ho,Op.operands]) tv h1) h2)
 ·rename_i t x f ho
  simp only [Option.bind_eq_some_iff] at e
  obtain ⟨tv,h1,h2⟩ := e
  exact fin (evField_sound I ho (hr x (by simp [ho,Op.operands]) tv h1) h2)
 ·rename_i t x i ho
  split at e
  ·rename_i tx ti h1 h2
   exact fin (evIndexAddr_sound I ho (hr x (by simp [ho,Op.operands]) tx h1) (hr i (by simp [ho,Op.operands]) ti h2) e hvc)
  ·cases e
 ·rename_i t x i ho
  split at e
  ·rename_i tx ti h1 h2
   exact fin (evIndex_sound I ho (hr x (by simp [ho,Op.operands]) tx h1) (hr i (by simp [ho,Op.operands]) ti h2) e hvc)
  ·cases e
 ·rename_i x i ho
  simp only [Option.bind_eq_some_iff] at e
  obtain ⟨tv,h1,h2⟩ := e
  exact fin (evExtract_sound I ho (hr x (by simp [ho,Op.operands]) tv h1) h2)
 ·rename_i c ho
  obtain ⟨callee,cargs,cts⟩ := c
  split at e
  ·cases e
  rename_i args hargs
  simp only at hargs
  split at e
  ·rename_i fo hcal
   simp only at hcal
   subst hcal
   split at e
   ·rename_i f caps hf
    have hcargs : ∀ x ∈ cargs.toList,∀ tv,τ x = some tv → zcE w ok β (a.eval x) tv := fun x hx => hr x (by simp [ho,Op.operands,Call.operands]; exact .inr (by simpa using hx))
    obtain ⟨vs,hfv,hcaps⟩ := hr fo (by simp [ho,Op.operands,Call.operands]) _ hf
    have hv := (zea hargs hcargs).append (zeE.args (w := w) (ok := ok) hcaps)
    obtain ⟨⟨fn,hfn,hbody,hname⟩,hcalls⟩ := evCall_sound I hT hv e hvc
    unfold Oper.wpIn
    refine ⟨fun _ _ => trivial,?_⟩
    rw [Oper.semAt_eq _ _ _ hnd]
    have hexec : (execOp a.eval o).run P w = .ok (.enter f (cargs.toList.map a.eval ++ vs).toArray) w := by
     have hb2 : fn.body ≠ none := by cases hq : fn.body <;> simp_all
     have hn2 : fn.name ≠ "runtime.NumGoroutine" := by simpa using hname
     simp [execOp,ho,resolve,hfv,Deferred.ofValue,invoke,callFunc,hfn,hn2,hb2]
    rw [hexec]
    refine ⟨fun h => (by cases h),callsR (Calls.mono hcalls fun e w' hp => ?_)⟩
    obtain ⟨v,β',ok',rfl,D⟩ := hp
    exact hK v w' β' ok' D
   ·cases e
  ·rename_i hcal
   simp only at hcal
   subst hcal
   split at e
   ·rename_i s x
    cases cargs with
    | mk l =>
     match l,hargs with
     | [y,z],hargs =>
      have h1 := zea (ρ := a.eval) (w := w) (ok := ok) (β := β) hargs fun q hq => hr q (by simp [ho,Op.operands,Call.operands]; simpa using hq)
      exact fin (append_sound I ho h1.1 h1.2.1 e hvc)
     | [],hargs => simp [tvsOf] at hargs
     | [y],hargs =>
      have := (zea (ρ := a.eval) (w := w) (ok := ok) (β := β) hargs fun q hq => hr q (by simp [ho,Op.operands,Call.operands]; simpa using hq))
      exact this.2.elim
     | y :: z :: q :: l,hargs =>
      have := (zea (ρ := a.eval) (w := w) (ok := ok) (β := β) hargs fun q hq => hr q (by simp [ho,Op.operands,Call.operands]; simpa using hq))
      exact this.2.2.elim
   ·cases e
  ·rename_i hcal
   simp only at hcal
   subst hcal
   split at e
   ·rename_i x
    cases cargs with
    | mk l =>
     match l,hargs with
     | [y],hargs =>
      have h1 := zea (ρ := a.eval) (w := w) (ok := ok) (β := β) hargs fun q hq => hr q (by simp [ho,Op.operands,Call.operands]; simpa using hq)
      exact fin (evLen_sound I ho h1.1 e)
     | [],hargs => simp [tvsOf] at hargs
     | y :: z :: l,hargs =>
      have := (zea (ρ := a.eval) (w := w) (ok := ok) (β := β) hargs fun q hq => hr q (by simp [ho,Op.operands,Call.operands]; simpa using hq))
      exact this.2.elim
   ·cases e
  ·rename_i hcal
   simp only at hcal
   subst hcal
   unfold evMinMax at e
   split at e
   ·rename_i k n k' m
    split at e
    case isFalse => cases e
    rename_i hk
    subst hk
    cases e
    cases cargs with
    | mk l =>
     match l,hargs with
     | [y,z],hargs =>
      have h1 := zea (ρ := a.eval) (w := w) (ok := ok) (β := β) hargs fun q hq => hr q (by simp [ho,Op.operands,Call.operands]; simpa using hq)
      exact fin (zjB I (mx := true) ho h1.1 h1.2.1)
     | [],hargs => simp [tvsOf] at hargs
     | [y],hargs =>
      have := (zea (ρ := a.eval) (w := w) (ok := ok) (β := β) hargs fun q hq => hr q (by simp [ho,Op.operands,Call.operands]; simpa using hq))
      exact this.2.elim
     | y :: z :: q :: l,hargs =>
      have := (zea (ρ := a.eval) (w := w) (ok := ok) (β := β) hargs fun q hq => hr q (by simp [ho,Op.operands,Call.operands]; simpa using hq))
      exact this.2.2.elim
   ·cases e
  ·rename_i hcal
   simp only at hcal
   subst hcal
   unfold evMinMax at e
   split at e
   ·rename_i k n k' m
    split at e
    case isFalse => cases e
    rename_i hk
    subst hk
    cases e
    cases cargs with
    | mk l =>
     match l,hargs with
     | [y,z],hargs =>
      have h1 := zea (ρ := a.eval) (w := w) (ok := ok) (β := β) hargs fun q hq => hr q (by simp [ho,Op.operands,Call.operands]; simpa using hq)
      exact fin (zjB I (mx := false) ho h1.1 h1.2.1)
     | [],hargs => simp [tvsOf] at hargs
     | [y],hargs =>
      have := (zea (ρ := a.eval) (w := w) (ok := ok) (β := β) hargs fun q hq => hr q (by simp [ho,Op.operands,Call.operands]; simpa using hq))
      exact this.2.elim
     | y :: z :: q :: l,hargs =>
      have := (zea (ρ := a.eval) (w := w) (ok := ok) (β := β) hargs fun q hq => hr q (by simp [ho,Op.operands,Call.operands]; simpa using hq))
      exact this.2.2.elim
   ·cases e
  ·cases e
 ·cases e
end
end Go.Proofs.YtlfdidaeachpoaaGreat
namespace Go.Proofs.YtlfdidaeachpoaaGreat
open Go Go.RowKit
def Sub (look look' : zcJ) : Prop := ∀ id e,look id = some e → look' id = some e
section
variable {P : Program} {T : zcl} {look look' : zcJ} (hs : Sub look look')
include hs
theorem resolve1_mono {l : zcp} {r : zcp × List Nat} (h : zdX look l = some r) : zdX look' l = some r := by
 unfold zdX at h ⊢
 split at h
 ·split at h
  ·rename_i id w e t xs hid
   rw [hs _ _ hid]
   exact h
  ·cases h
 ·exact h
theorem zhe : ∀ {ls : List zcp} {r : List zcp × List Nat},zdt look ls = some r → zdt look' ls = some r
 | [],_,h => h
 | l :: ls,r,h => by
  unfold zdt at h ⊢
  split at h
  ·rename_i h1 h2
   rw [resolve1_mono hs h1,zhe h2]
   exact h
  ·cases h
theorem resolveP_mono : ∀ {ls : List (Nat × List zcp)} {r : List (Nat × List zcp) × List Nat},zfi look ls = some r → zfi look' ls = some r
 | [],_,h => h
 | l :: ls,r,h => by
  unfold zfi at h ⊢
  split at h
  ·rename_i h1 h2
   rw [zhe hs h1,resolveP_mono h2]
   exact h
  ·cases h
theorem resolveT_mono {t : TV} {r : TV × List Nat} (h : zdV look t = some r) : zdV look' t = some r := by
 unfold zdV at h ⊢
 split at h
 ·split at h
  ·rename_i h1
   rw [resolve1_mono hs h1]
   exact h
  ·cases h
 ·split at h
  ·rename_i h1
   rw [zhe hs h1]
   exact h
  ·cases h
 ·cases h
theorem zjC : ∀ {ts : List TV} {r : List TV × List Nat},zdz look ts = some r → zdz look' ts = some r
 | [],_,h => h
 | t :: ts,r,h => by
  unfold zdz at h ⊢
  split at h
  ·rename_i h1 h2
   rw [resolveT_mono hs h1,zjC h2]
   exact h
  ·cases h
theorem addrCells_mono {a : TV} {r : List zcp × Bool} (h : zgq look a = some r) : zgq look' a = some r := by
 unfold zgq at h ⊢
 split at h
 ·split at h
  ·rename_i h1
   rw [hs _ _ h1]
   exact h
  ·cases h
 ·split at h
  ·rename_i h1
   rw [hs _ _ h1]
   exact h
  ·cases h
 ·exact h
 ·cases h
theorem listOf_mono {a : TV} {r : (t : Ty) × List t.den × Bool} (h : listOf look a = some r) : listOf look' a = some r := by
 unfold listOf at h ⊢
 split at h
 ·exact h
 ·split at h
  ·rename_i h1
   rw [hs _ _ h1]
   exact h
  ·cases h
 ·cases h
theorem ziU : ∀ {ids : List Nat},(∀ id ∈ ids,∃ e,look id = some e) → freezes look' ids = freezes look ids
 | [],_ => rfl
 | id :: ids,h => by
  obtain ⟨e,he⟩ := h id (by simp)
  unfold freezes
  rw [he,hs _ _ he,ziU fun i hi => h i (by simp [hi])]
end
section
variable {look : zcJ}
theorem zjA {l : zcp} {r : zcp × List Nat} (h : zdX look l = some r) : ∀ id ∈ r.2,∃ e,look id = some e := by
 unfold zdX at h
 split at h
 ·split at h
  ·rename_i hid
   cases h
   intro i hi
   simp only [List.mem_singleton] at hi
   subst hi
   exact ⟨_,hid⟩
  ·cases h
 ·cases h
  intro i hi
  cases hi
theorem zgI : ∀ {ls : List zcp} {r : List zcp × List Nat},zdt look ls = some r → ∀ id ∈ r.2,∃ e,look id = some e
 | [],_,h => by cases h; intro i hi; cases hi
 | l :: ls,r,h => by
  unfold zdt at h
  split at h
  ·rename_i h1 h2
   cases h
   intro i hi
   rcases List.mem_append.1 hi with hi | hi
   ·exact zjA h1 i hi
   ·exact zgI h2 i hi
  ·cases h
theorem zjD : ∀ {ls : List (Nat × List zcp)} {r : List (Nat × List zcp) × List Nat},zfi look ls = some r → ∀ id ∈ r.2,∃ e,look id = some e
 | [],_,h => by cases h; intro i hi; cases hi
 | l :: ls,r,h => by
  unfold zfi at h
  split at h
  ·rename_i h1 h2
   cases h
   intro i hi
   rcases List.mem_append.1 hi with hi | hi
   ·exact zgI h1 i hi
   ·exact zjD h2 i hi
  ·cases h
theorem resolveT_known {t : TV} {r : TV × List Nat} (h : zdV look t = some r) : ∀ id ∈ r.2,∃ e,look id = some e := by
 unfold zdV at h
 split at h
 ·split at h
  ·rename_i h1
   cases h
   exact zjA h1
  ·cases h
 ·split at h
  ·rename_i h1
   cases h
   exact zgI h1
  ·cases h
 ·cases h
theorem zji : ∀ {ts : List TV} {r : List TV × List Nat},zdz look ts = some r → ∀ id ∈ r.2,∃ e,look id = some e
 | [],_,h => by cases h; intro i hi; cases hi
 | l :: ls,r,h => by
  unfold zdz at h
  split at h
  ·rename_i h1 h2
   cases h
   intro i hi
   rcases List.mem_append.1 hi with hi | hi
   ·exact resolveT_known h1 i hi
   ·exact zji h2 i hi
  ·cases h
end
def wrOf (dst : Option Nat) (upd : List (Nat × Ent)) : List Nat := (match dst with
 | some d => [zdv d]
 | none => []) ++ upd.map (·.1)
theorem wrOf_dst {d : Nat} {upd : List (Nat × Ent)} : zdv d ∈ wrOf (some d) upd := by simp [wrOf]
theorem wrOf_upd {dst : Option Nat} {upd : List (Nat × Ent)} {k : Nat} (h : k ∈ upd.map (·.1)) : k ∈ wrOf dst upd := List.mem_append_right _ h
section
variable {P : Program} {T : zcl} {look look' : zcJ} (hs : Sub look look') {dst : Option Nat} {r : zcF}
include hs
theorem evLoad_mono {t : TypeId} {a : TV} (h : zgT P look t a = some r) : zgT P look' t a = some r := by
 unfold zgT at h ⊢
 split at h
 ·cases h
 ·rename_i h1
  rw [addrCells_mono hs h1]
  exact h
theorem evStore_mono {t : TypeId} {a v : TV} (h : evStore P look t a v = some r) : evStore P look' t a v = some r := by
 unfold evStore at h ⊢
 split at h
 ·cases h
 ·split at h
  ·rename_i hc
   rw [if_pos hc]
   split at h
   ·split at h
    ·rename_i h1
     rw [hs _ _ h1]
     exact h
    ·cases h
   ·split at h
    ·rename_i h1 h2
     rw [hs _ _ h1,zhe hs h2]
     simp only
     split at h
     ·rename_i hc'
      rw [if_pos hc']
      split at h
      ·rename_i h3
       rw [ziU hs (zgI h2)]
       exact h
      ·cases h
     ·cases h
    ·cases h
   ·cases h
  ·cases h
theorem rawCell_mono {a : TV} {x : Nat × Nat × TypeId × List Value × Nat × zcp} (h : zfo look a = some x) : zfo look' a = some x := by
 unfold zfo at h ⊢
 split at h
 ·split at h
  ·rename_i h1
   rw [hs _ _ h1]
   exact h
  ·cases h
 ·cases h
theorem evLoadX_mono {t : TypeId} {a : TV} (h : evLoadX P look t a = some r) : evLoadX P look' t a = some r := by
 unfold evLoadX at h ⊢
 split at h
 ·rename_i h1
  have h2 := evLoad_mono hs h
  have h3 : zfo look' a = none := by
   unfold zgT at h
   split at h
   ·cases h
   ·rename_i ls q h4
    unfold zgq at h4
    unfold zfo
    split
    ·split at h4
     ·rename_i e1; cases e1
     ·rename_i e1
      cases e1
      split at h4
      ·rename_i h5
       rw [hs _ _ h5]
       split
       ·rename_i e1; cases e1
       ·rfl
      ·cases h4
     ·rename_i e1; cases e1
     ·rename_i n1 _; exact absurd rfl (n1 _ _ _ _)
    ·rfl
  rw [h3]
  exact h2
 ·rename_i h1
  rw [rawCell_mono hs h1]
  exact h
theorem evStoreX_mono {t : TypeId} {a v : TV} (h : evStoreX P look t a v = some r) : evStoreX P look' t a v = some r := by
 unfold evStoreX at h ⊢
 split at h
 ·rename_i h1
  have h2 := evStore_mono hs h
  have h3 : zfo look' a = none := by
   unfold evStore at h
   split at h
   ·cases h
   ·split at h
    ·unfold zfo
     split
     ·split at h
      ·rename_i e1; cases e1
      ·rename_i e1
       cases e1
       split at h
       ·rename_i h5 h6
        rw [hs _ _ h5]
       ·cases h
      ·rename_i n1; exact absurd rfl (n1 _ _ _ _)
     ·rfl
    ·cases h
  rw [h3]
  exact h2
 ·rename_i h1
  rw [rawCell_mono hs h1]
  exact h
omit hs in
theorem evAlloc_mono {ls : List zcp} (h : zgL look dst ls = some r) (hn : ∀ k ∈ wrOf dst r.upd,look k = none → look' k = none) : zgL look' dst ls = some r := by
 unfold zgL at h ⊢
 split at h
 ·cases h
 ·split at h
  ·cases h
  ·rename_i h1
   rw [hn _ wrOf_dst h1]
   exact h
theorem evBuildSlice_mono {t : TypeId} {n : Nat} {ps : List (Nat × List zcp)} (h : zfM P look dst t n ps = some r) (hn : ∀ k ∈ wrOf dst r.upd,look k = none → look' k = none) : zfM P look' dst t n ps = some r := by
 unfold zfM at h ⊢
 split at h
 ·rename_i h1 h2
  rw [h1,resolveP_mono hs h2]
  simp only
  split at h
  ·rename_i h3 h4
   rw [h3,hn _ wrOf_dst h4]
   simp only
   rw [ziU hs (zjD h2)]
   exact h
  ·cases h
 ·cases h
omit hs in
theorem evMakeSlice_mono {t : TypeId} {l c : TV} (h : zgi P look dst t l c = some r) (hn : ∀ k ∈ wrOf dst r.upd,look k = none → look' k = none) : zgi P look' dst t l c = some r := by
 unfold zgi at h ⊢
 split at h
 ·split at h
  ·rename_i h3 h4
   rw [h3,hn _ wrOf_dst h4]
   exact h
  ·rename_i ty z hno h3 h4
   rw [h3,hn _ wrOf_dst h4]
   cases ty with
   | sl t' => exact (hno _ _ rfl HEq.rfl).elim
   | _ => exact h
  ·cases h
 ·cases h
theorem evAppend_mono {ts : Array TypeId} {s x : TV} (h : zii P look dst ts s x = some r) (hn : ∀ k ∈ wrOf dst r.upd,look k = none → look' k = none) : zii P look' dst ts s x = some r := by
 unfold zii at h ⊢
 split at h
 ·rename_i h0
  split at h
  ·rename_i h1
   rw [if_pos h1]
   split at h
   ·rename_i h2
    split at h
    ·rename_i h3 h4
     rw [h3,hn _ wrOf_dst h4]
     simp only
     split at h
     ·rename_i h5
      rw [listOf_mono hs h5]
      exact h
     ·split at h
      ·rename_i h6
       exact h
      ·cases h
     ·rename_i h5
      rw [listOf_mono hs h5]
      simp only
      split at h
      ·rename_i h6
       rw [hs _ _ h6]
       exact h
      ·cases h
     ·rename_i h5
      split at h
      ·rename_i h6
       simp only [listOf]
       rw [hs _ _ h6]
       exact h
      ·cases h
     ·cases h
    ·cases h
   ·cases h
  ·cases h
 ·cases h
theorem evSliceR_mono {t : TypeId} {x : TV} {lo hi mx : Option TV} (h : zim P look t x lo hi mx = some r) : zim P look' t x lo hi mx = some r := by
 unfold zim at h ⊢
 split at h
 ·split at h
  ·rename_i h1
   rw [hs _ _ h1]
   exact h
  ·cases h
 ·exact h
theorem evIndexAddr_mono {t : TypeId} {x ix : TV} (h : zgg P look t x ix = some r) : zgg P look' t x ix = some r := by
 unfold zgg at h ⊢
 split at h
 ·split at h
  ·exact h
  ·split at h
   ·rename_i h1
    rw [hs _ _ h1]
    exact h
   ·rename_i h1
    rw [hs _ _ h1]
    exact h
   ·cases h
  ·cases h
 ·cases h
theorem evLen_mono {ts : Array TypeId} {x : TV} (h : evLen P look ts x = some r) : evLen P look' ts x = some r := by
 unfold evLen at h ⊢
 split at h
 ·cases h
 ·split at h
  ·exact h
  ·exact h
  ·split at h
   ·rename_i h1
    rw [hs _ _ h1]
    exact h
   ·rename_i h1
    rw [hs _ _ h1]
    exact h
   ·cases h
  ·exact h
  ·cases h
end
theorem zfc {x : Nat} : ∀ {ids acc : List Nat},x ∈ zfw ids acc ↔ x ∈ ids ∨ x ∈ acc
 | [],acc => by simp [zfw]
 | i :: ids,acc => by
  unfold zfw
  rw [zfc (ids := ids)]
  by_cases h : acc.contains i = true
  ·rw [if_pos h]
   have : i ∈ acc := by simpa using h
   constructor
   ·rintro (h1 | h1)
    ·exact .inl (by simp [h1])
    ·exact .inr h1
   ·rintro (h1 | h1)
    ·rcases List.mem_cons.1 h1 with rfl | h1
     ·exact .inr this
     ·exact .inl h1
    ·exact .inr h1
  ·rw [if_neg h]
   simp only [List.mem_append,List.mem_cons,List.not_mem_nil,or_false]
   constructor
   ·rintro (h1 | h1 | h1)
    ·exact .inl (.inr h1)
    ·exact .inr h1
    ·exact .inl (.inl h1)
   ·rintro ((h1 | h1) | h1)
    ·exact .inr (.inr h1)
    ·exact .inl h1
    ·exact .inr (.inl h1)
def stepIds (look : zcJ) (ids : List Nat) : List Nat := ids.flatMap fun id => match look id with
  | some e => zey e.b
  | none => []
theorem zhf (look : zcJ) (n : Nat) (ids : List Nat) : zdW look (n + 1) ids = zdW look n (zfw (stepIds look ids) ids) := rfl
theorem zjc {look : zcJ} {x : Nat} : ∀ {n : Nat} {ids : List Nat},x ∈ ids → x ∈ zdW look n ids
 | 0,_,h => h
 | n + 1,ids,h => by
  rw [zhf]
  exact zjc (zfc.2 (.inr h))
theorem closeIds_sub {look : zcJ} {x : Nat} : ∀ {n : Nat} {ids ids' : List Nat},(∀ y ∈ ids,y ∈ ids') → x ∈ zdW look n ids → x ∈ zdW look n ids'
 | 0,_,_,h,hx => h x hx
 | n + 1,ids,ids',h,hx => by
  rw [zhf] at hx ⊢
  refine closeIds_sub (fun y hy => ?_) hx
  rcases zfc.1 hy with hy | hy
  ·refine zfc.2 (.inl ?_)
   obtain ⟨z,hz,hz'⟩ := List.mem_flatMap.1 hy
   exact List.mem_flatMap.2 ⟨z,h z hz,hz'⟩
  ·exact zfc.2 (.inr (h y hy))
section
variable {T : zcl} {look look' : zcJ} (hs : Sub look look')
include hs
theorem stepIds_eq {ids : List Nat} (hk : ∀ x ∈ ids,∃ e,look x = some e) : stepIds look' ids = stepIds look ids := by
 induction ids with
 | nil => rfl
 | cons i ids ih =>
  obtain ⟨e,he⟩ := hk i (by simp)
  simp only [stepIds,List.flatMap_cons,he,hs _ _ he]
  exact congrArg _ (ih fun x hx => hk x (by simp [hx]))
theorem zjp : ∀ {n : Nat} {ids : List Nat},(∀ x ∈ zdW look n ids,∃ e,look x = some e) → zdW look' n ids = zdW look n ids
 | 0,_,_ => rfl
 | n + 1,ids,hk => by
  rw [zhf] at hk ⊢
  rw [zhf,stepIds_eq hs fun x hx => hk x (zjc (zfc.2 (.inr hx)))]
  exact zjp hk
theorem entsAt_eq {all : List Nat} : ∀ {ids : List Nat},(∀ x ∈ ids,∃ e,look x = some e) → zfQ look' all ids = zfQ look all ids
 | [],_ => rfl
 | i :: ids,hk => by
  obtain ⟨e,he⟩ := hk i (by simp)
  unfold zfQ
  rw [he,hs _ _ he,entsAt_eq fun x hx => hk x (by simp [hx])]
omit hs in
theorem entsAt_known {all : List Nat} : ∀ {ids : List Nat} {es : List Ent},zfQ look all ids = some es → ∀ x ∈ ids,∃ e,look x = some e
 | [],_,_,x,hx => by cases hx
 | i :: ids,es,h,x,hx => by
  unfold zfQ at h
  split at h
  ·rename_i h1 h2
   rcases List.mem_cons.1 hx with rfl | hx
   ·exact ⟨_,h1⟩
   ·exact entsAt_known h2 x hx
  ·cases h
theorem allNew_sub : ∀ {n k : Nat},zfr look' k n = true → zfr look k n = true
 | 0,_,_ => rfl
 | n + 1,k,h => by
  simp only [zfr,Bool.and_eq_true,Option.isNone_iff_eq_none] at h ⊢
  refine ⟨?_,allNew_sub h.2⟩
  cases hk : look k with
  | none => rfl
  | some e => rw [hs _ _ hk] at h; cases h.1
omit hs in
theorem allNew_of : ∀ {n k : Nat},(∀ i,k ≤ i → i < k + n → look i = none → look' i = none) → zfr look k n = true → zfr look' k n = true
 | 0,_,_,_ => rfl
 | n + 1,k,hn,h => by
  simp only [zfr,Bool.and_eq_true,Option.isNone_iff_eq_none] at h ⊢
  exact ⟨hn k (Nat.le_refl _) (by omega) h.1,allNew_of (fun i h1 h2 => hn i (by omega) (by omega)) h.2⟩
omit hs in
theorem freshUpd_keys (g : Nat → Nat) : ∀ (es : List Ent) (k i : Nat),k ≤ i → i < k + es.length → i ∈ (zgB g k es).map (·.1)
 | [],_,_,h1,h2 => by simp at h2; omega
 | e :: es,k,i,h1,h2 => by
  simp only [zgB,List.map_cons,List.mem_cons]
  by_cases h : i = k
  ·exact .inl h
  ·exact .inr (freshUpd_keys g es (k + 1) i (by omega) (by simp only [List.length_cons] at h2; omega))
theorem resolve1_eq {l : zcp} (hk : ∀ x ∈ zdb l,∃ e,look x = some e) : zdX look' l = zdX look l := by
 unfold zdX
 split
 ·rename_i id
  obtain ⟨e,he⟩ := hk id (by simp [zdb])
  rw [he,hs _ _ he]
 ·rfl
theorem resolveL_eq : ∀ {ls : List zcp},(∀ x ∈ ls.flatMap zdb,∃ e,look x = some e) → zdt look' ls = zdt look ls
 | [],_ => rfl
 | l :: ls,hk => by
  unfold zdt
  rw [resolve1_eq hs fun x hx => hk x (by simp only [List.flatMap_cons,List.mem_append]; exact .inl hx),resolveL_eq fun x hx => hk x (by simp only [List.flatMap_cons,List.mem_append]; exact .inr hx)]
theorem resolveTs_eq : ∀ {ts : List TV} {ls : List zcp},zeA ts = some ls → (∀ x ∈ ls.flatMap zdb,∃ e,look x = some e) → zdz look' ts = zdz look ts
 | [],_,_,_ => rfl
 | t :: ts,ls,h,hk => by
  unfold zeA at h
  split at h
  ·rename_i l1 l2 h1 h2
   cases h
   unfold zdz
   rw [resolveTs_eq h2 fun x hx => hk x (by simp only [List.flatMap_append,List.mem_append]; exact .inr hx)]
   have : zdV look' t = zdV look t := by
    cases t with
    | lf l =>
     cases h1
     simp only [zdV]
     rw [resolve1_eq hs fun x hx => hk x (by simp only [List.flatMap_append,List.mem_append]; exact .inl (by simpa using hx))]
    | agg cs =>
     cases h1
     simp only [zdV]
     rw [resolveL_eq hs fun x hx => hk x (by simp only [List.flatMap_append,List.mem_append]; exact .inl hx)]
    | _ => rfl
   rw [this]
  ·cases h
omit hs in
theorem resolve1_root {l : zcp} {r : zcp × List Nat} (h : zdX look l = some r) : ∀ x ∈ zdb r.1,x ∈ zdb l := by
 unfold zdX at h
 split at h
 ·split at h
  ·cases h
   intro x hx
   cases hx
  ·cases h
 ·cases h
  exact fun _ hx => hx
omit hs in
theorem resolveL_root : ∀ {ls : List zcp} {r : List zcp × List Nat},zdt look ls = some r → ∀ x ∈ r.1.flatMap zdb,x ∈ ls.flatMap zdb
 | [],_,h => by cases h; exact fun _ hx => hx
 | l :: ls,r,h => by
  unfold zdt at h
  split at h
  ·rename_i h1 h2
   cases h
   intro x hx
   simp only [List.flatMap_cons,List.mem_append] at hx ⊢
   exact hx.imp (resolve1_root h1 x) (resolveL_root h2 x)
  ·cases h
omit hs in
theorem zjz : ∀ {ts : List TV} {r : List TV × List Nat} {ls ls' : List zcp},zdz look ts = some r → zeA ts = some ls → zeA r.1 = some ls' → ∀ x ∈ ls'.flatMap zdb,x ∈ ls.flatMap zdb
 | [],_,_,_,h,h1,h2 => by cases h; cases h1; cases h2; exact fun _ hx => hx
 | t :: ts,r,ls,ls',h,h1,h2 => by
  unfold zdz at h
  split at h
  ·rename_i t' a ts' b k1 k2
   cases h
   simp only [zeA] at h1 h2
   split at h1
   ·rename_i m1 m2
    split at h2
    ·rename_i n1 n2
     cases h1
     cases h2
     intro x hx
     simp only [List.flatMap_append,List.mem_append] at hx ⊢
     refine hx.imp (fun hx => ?_) (zjz k2 m2 n2 x)
     cases t with
     | lf l =>
      unfold zdV at k1
      simp only at k1
      split at k1
      ·rename_i j1
       cases k1
       cases m1
       cases n1
       simp only [List.flatMap_cons,List.flatMap_nil,List.append_nil] at hx ⊢
       exact resolve1_root j1 x hx
      ·cases k1
     | agg cs =>
      unfold zdV at k1
      simp only at k1
      split at k1
      ·rename_i j1
       cases k1
       cases m1
       cases n1
       exact resolveL_root j1 x hx
      ·cases k1
     | _ => cases k1
    ·cases h2
   ·cases h1
  ·cases h
def Closed (look : zcJ) (args : List TV) : Prop := ∀ ls,zeA args = some ls → ∀ x ∈ zdW look 3 (zfw (ls.flatMap zdb) []),∃ e,look x = some e
omit hs in
theorem zgQ {dst : Option Nat} {f : Nat} {args : List TV} {lent : List Nat} {r : zcF} (h : zdI T look dst f args lent = some r) : ∃ ls,zeA args = some ls ∧ Closed look args := by
 unfold zdI at h
 split at h
 ·cases h
 ·rename_i ls hls
  simp only at h
  split at h
  ·cases h
  ·rename_i es hes
   refine ⟨ls,hls,fun ls' hls' => ?_⟩
   rw [hls] at hls'
   cases hls'
   exact entsAt_known hes
theorem zhM {dst : Option Nat} {f : Nat} {args : List TV} {lent : List Nat} {r : zcF} (hl : ∀ x ∈ lent,∃ e,look x = some e) (h : zdI T look dst f args lent = some r)
  (hn : ∀ k ∈ wrOf dst r.upd,look k = none → look' k = none) : zdI T look' dst f args lent = some r := by
 obtain ⟨ls,hls,hc⟩ := zgQ h
 unfold zdI at h ⊢
 rw [hls] at h ⊢
 simp only at h ⊢
 have hc := hc ls hls
 rw [zjp hs hc,entsAt_eq hs hc]
 split at h
 ·cases h
 ·rename_i es hes
  try simp only
  split at h
  ·cases h
  ·rename_i q hq
   try simp only
   split at h
   ·rename_i hcond
    rw [ziU hs hl]
    rw [if_pos]
    ·exact h
    ·refine ⟨hcond.1,allNew_of (fun i h1 h2 => ?_) hcond.2.1,hcond.2.2⟩
     cases h
     refine hn i (wrOf_upd ?_)
     simp only [List.map_append,List.mem_append]
     exact .inr (.inr (freshUpd_keys _ _ _ i h1 h2))
   ·cases h
theorem evCallWith_none {dst : Option Nat} {f : Nat} {args : List TV} {lent : List Nat} (hc : Closed look args) (h : zdI T look dst f args lent = none) : zdI T look' dst f args lent = none := by
 unfold zdI at h ⊢
 cases hls : zeA args with
 | none => rfl
 | some ls =>
  rw [hls] at h
  simp only at h ⊢
  have hc := hc ls hls
  rw [zjp hs hc,entsAt_eq hs hc]
  split at h
  ·rfl
  ·rename_i es hes
   try simp only
   split at h
   ·rfl
   ·rename_i q hq
    try simp only
    split at h
    ·cases h
    ·rename_i hcond
     rw [if_neg]
     exact fun hc' => hcond ⟨hc'.1,allNew_sub hs hc'.2.1,hc'.2.2⟩
theorem evCall_mono {dst : Option Nat} {f : Nat} {args : List TV} {r : zcF} (h : evCall T look dst f args = some r) (hn : ∀ k ∈ wrOf dst r.upd,look k = none → look' k = none) : evCall T look' dst f args = some r := by
 unfold evCall at h ⊢
 have nolent : ∀ x ∈ ([] : List Nat),∃ e,look x = some e := fun x hx => by cases hx
 split at h
 ·rename_i h1
  obtain ⟨ls,hls,hc⟩ := zgQ h
  rw [resolveTs_eq hs hls fun x hx => hc ls hls x (zjc (zfc.2 (.inl hx))),h1]
  exact zhM hs nolent h hn
 ·rename_i args' lent h1
  rw [zjC hs h1]
  simp only
  split at h
  ·rename_i h2
   cases h
   rw [zhM hs (zji h1) h2 hn]
  ·rename_i h2
   obtain ⟨ls,hls,hc⟩ := zgQ h
   rw [evCallWith_none hs ?_ h2]
   ·exact zhM hs nolent h hn
   ·intro ls' hls' x hx
    refine hc ls hls x (closeIds_sub (fun y hy => ?_) hx)
    rcases zfc.1 hy with hy | hy
    ·exact zfc.2 (.inl (zjz h1 hls hls' y hy))
    ·cases hy
end
theorem evalOp_mono {P : Program} {T : zcl} {look look' : zcJ} (hs : Sub look look') {ρ : Operand → Option TV} {o : Oper} {r : zcF} (h : zeD P T look ρ o = some r) (hn : ∀ k ∈ wrOf o.dst r.upd,look k = none → look' k = none) :
  zeD P T look' ρ o = some r := by
 unfold zeD at h ⊢
 split at h
 all_goals try simp only [*]
 all_goals try exact h
 ·split at h
  ·exact evAlloc_mono h hn
  ·cases h
 ·split at h
  ·exact evAlloc_mono h hn
  ·cases h
 ·split at h
  ·exact evBuildSlice_mono hs h hn
  ·cases h
 ·obtain ⟨a,h1,h2⟩ := Option.bind_eq_some_iff.1 h
  rw [h1]
  exact evLoadX_mono hs h2
 ·split at h
  ·exact evStoreX_mono hs h
  ·cases h
 ·split at h
  ·exact evMakeSlice_mono h hn
  ·cases h
 ·split at h
  ·exact evSliceR_mono hs h
  ·cases h
 ·split at h
  ·exact evIndexAddr_mono hs h
  ·cases h
 ·split at h
  ·cases h
  ·split at h
   ·split at h
    ·exact evCall_mono hs h hn
    ·cases h
   ·split at h
    ·exact evAppend_mono hs h hn
    ·cases h
   ·split at h
    ·exact evLen_mono hs h
    ·cases h
   ·exact h
   ·exact h
   ·cases h
end Go.Proofs.YtlfdidaeachpoaaGreat
namespace Go.Proofs.YtlfdidaeachpoaaGreat
open Go Go.RowKit
structure St where
 tmps : List TV
 heap : List (Nat × Ent)
def zct : List (Nat × Ent) → zcJ
 | [],_ => none
 | x :: l,id => if x.1 = id then some x.2 else zct l id
def hset (id : Nat) (e : Ent) : List (Nat × Ent) → List (Nat × Ent)
 | [] => [(id,e)]
 | x :: l => if x.1 = id then (id,e) :: l else x :: hset id e l
def hupd : List (Nat × Ent) → List (Nat × Ent) → List (Nat × Ent)
 | l,[] => l
 | l,x :: r => hupd (hset x.1 x.2 l) r
theorem zgz (id : Nat) (e : Ent) : ∀ l,zct (hset id e l) = zcR (zct l) id e
 | [] => by
  funext j
  simp only [hset,zct,zcR]
  by_cases h : id = j
  ·simp [h]
  ·rw [if_neg h,if_neg fun e => h e.symm]
 | x :: l => by
  funext j
  unfold hset
  by_cases hx : x.1 = id
  ·rw [if_pos hx]
   simp only [zct,zcR]
   by_cases h : id = j
   ·simp [h]
   ·rw [if_neg h,if_neg fun e => h e.symm,if_neg fun e => h (hx.symm.trans e)]
  ·rw [if_neg hx]
   simp only [zct]
   rw [zgz id e l]
   simp only [zcR]
   by_cases h : x.1 = j
   ·rw [if_pos h,if_neg fun e => hx (h.trans e),if_pos h]
   ·rw [if_neg h,if_neg h]
theorem ziC : ∀ (r l : List (Nat × Ent)),zct (hupd l r) = zcU (zct l) r
 | [],_ => rfl
 | x :: r,l => by
  show zct (hupd (hset x.1 x.2 l) r) = zcU (zcR (zct l) x.1 x.2) r
  rw [ziC r,zgz]
def St.tv (σ : St) (t : Nat) : TV := σ.tmps.getD t (.lf .undef)
def St.op (σ : St) : Operand → Option TV
 | .tmp t => some (σ.tv t)
 | .const v => tvOfVal v
 | .func f => some (.lf (.fn f []))
 | .global _ => none
def St.put (σ : St) (dst : Option Nat) (v : TV) : St := match dst with
 | some d => { σ with tmps := σ.tmps.set d v }
 | none => σ
def St.after (σ : St) (o : Oper) (r : zcF) : St := { tmps := (σ.put o.dst r.val).tmps,heap := hupd σ.heap r.upd }
inductive Ev where
 | norm (σ : St)
 | ret (σ : St)
 | exit (id : Nat) (σ : St)
inductive zcP where
 | leaf (e : Ev)
 | ite (c : Bool) (a b : zcP)
 | req (c : Bool) (t : zcP)
 | may (c : Bool) (a b : zcP)
 | fail
def zcP.sat : zcP → (Ev → Prop) → Prop
 | .leaf e,K => K e
 | .ite c a b,K => (c = true → a.sat K) ∧ (c = false → b.sat K)
 | .req c t,K => c = true ∧ t.sat K
 | .may c a b,K => (c = true → a.sat K) ∧ b.sat K
 | .fail,_ => False
def zcP.bind : zcP → (Ev → zcP) → zcP
 | .leaf e,f => f e
 | .ite c a b,f => .ite c (a.bind f) (b.bind f)
 | .req c t,f => .req c (t.bind f)
 | .may c a b,f => .may c (a.bind f) (b.bind f)
 | .fail,_ => .fail
theorem zcP.sat_bind {K : Ev → Prop} {f : Ev → zcP} : ∀ {t : zcP},(t.bind f).sat K → t.sat fun e => (f e).sat K
 | .leaf _,hs => hs
 | .ite _ _ _,hs => ⟨fun hc => zcP.sat_bind (hs.1 hc),fun hc => zcP.sat_bind (hs.2 hc)⟩
 | .req _ _,hs => ⟨hs.1,zcP.sat_bind hs.2⟩
 | .may _ _ _,hs => ⟨fun hc => zcP.sat_bind (hs.1 hc),zcP.sat_bind hs.2⟩
 | .fail,hs => hs.elim
def zdQ (ops : Array Oper) (j : Nat) : Option Nat := (ops[j]?).bind (·.dst)
def zfl : List (Nat × Option Bool) → Nat → Option (Option Bool)
 | [],_ => none
 | x :: l,j => if x.1 = j then some x.2 else zfl l j
def zeK (ops : Array Oper) (dst : Option Nat) : List (Nat × Option Bool) → List (Nat × Option Bool)
 | [] => []
 | x :: l => if zdQ ops x.1 = dst then zeK ops dst l else x :: zeK ops dst l
def nilAsk (P : Program) (look : zcJ) (t : TypeId) (x y : Option TV) : Option Bool :=
 match P.underlying t,x,y with
 | some (.slice _),some (.lf (.dat _ xs)),some (.lf .nil) => some xs.isEmpty
 | some (.slice _),some (.lf (.ref id)),some (.lf .nil) => match look id with
  | some ⟨_,.arr _ _ xs⟩ => some xs.isEmpty
  | _ => none
 | _,_,_ => none
def nilEq (P : Program) (look : zcJ) (ρ : Operand → Option TV) (o : Oper) : Option (Bool × Bool) :=
 match o.op with
 | .binOp .eql t x y _ => (nilAsk P look t (ρ x) (ρ y)).map fun e => (e,false)
 | .binOp .neq t x y _ => (nilAsk P look t (ρ x) (ρ y)).map fun e => (e,true)
 | _ => none
def regExec (P : Program) (T : zcl) (σ : St) (o : Oper) (K : St → zcP) : zcP :=
 match zeD P T (zct σ.heap) σ.op o with
 | some r => .req r.vc (K (σ.after o r))
 | none => match nilEq P (zct σ.heap) σ.op o with
  | some (e,neg) => .may e (K (σ.put o.dst (.lf (.bool (true != neg))))) (K (σ.put o.dst (.lf (.bool (false != neg)))))
  | none => .fail
def regGo (P : Program) (T : zcl) (ops : Array Oper) : List Oper → Nat → List (Nat × Option Bool) → St → (St → zcP) → zcP
 | [],_,_,σ,K => K σ
 | o :: rest,i,dec,σ,K =>
  let go (dec : List (Nat × Option Bool)) (σ : St) : zcP := regExec P T σ o fun σ' => regGo P T ops rest (i + 1) (zeK ops o.dst dec) σ' K
  let skip (dec : List (Nat × Option Bool)) (σ : St) : zcP := regGo P T ops rest (i + 1) ((i,none) :: zeK ops o.dst dec) (σ.put o.dst (.tup [])) K
  match o.guard with
  | none => go dec σ
  | some (j,want) => match zfl dec j with
   | some (some b) => if b = want then go dec σ else skip dec σ
   | some none => skip dec σ
   | none => match zdQ ops j with
    | none => .fail
    | some d => match σ.tv d with
     | .lf (.bool c) =>
      let σt := σ.put (some d) (.lf (.bool true))
      let σf := σ.put (some d) (.lf (.bool false))
      .ite c (if want then go ((j,some true) :: dec) σt else skip ((j,some true) :: dec) σt) (if want then skip ((j,some false) :: dec) σf else go ((j,some false) :: dec) σf)
     | _ => .fail
def precOf (acc : List Nat) (o : Oper) : Nat := o.after.toList.foldl (fun m e => if Region.binds .any e then m ||| 2 ^ e.on ||| acc.getD e.on 0 else m) 0
def zdS : List Oper → List Nat → List Nat
 | [],acc => acc
 | o :: r,acc => zdS r (acc ++ [precOf acc o])
structure Foot where
 rd : List Nat
 wr : List Nat
def restr (rd : List Nat) (look : zcJ) : zcJ := fun id => if rd.contains id then look id else none
def newOK (rd : List Nat) (look : zcJ) (ks : List Nat) : Bool := ks.all fun k => rd.contains k || (look k).isNone
def badOf (m : Nat) : List Foot → List Nat
 | [] => []
 | f :: fs => if m.testBit fs.length then badOf m fs else f.wr ++ badOf m fs
def tvIds : TV → List Nat
 | .lf l => zdb l
 | .agg cs => cs.flatMap zdb
 | .tup cs => (cs.flatMap (·.2)).flatMap zdb
 | .rptr cs => cs.flatMap zdb
 | .eptr id _ _ _ => [id]
def opIds (σ : St) (o : Oper) : List Nat := zdW (zct σ.heap) 4 (zfw (o.op.operands.toList.flatMap fun x => match σ.op x with
 | some v => tvIds v
 | none => []) [])
def opIds0 (σ : St) (o : Oper) : List Nat := zfw (o.op.operands.toList.flatMap fun x => match σ.op x with
 | some v => tvIds v
 | none => []) []
def drExec (P : Program) (T : zcl) (σ : St) (o : Oper) (bad : List Nat) (K : St → Foot → zcP) : zcP :=
 match zeD P T (restr [] (zct σ.heap)) σ.op o with
 | some r => if newOK [] (zct σ.heap) (wrOf o.dst r.upd) then .req r.vc (K (σ.after o r) ⟨[],wrOf o.dst r.upd⟩) else .fail
 | none =>
  let rd0 := (opIds0 σ o).filter fun k => !bad.contains k
  match zeD P T (restr rd0 (zct σ.heap)) σ.op o with
  | some r => if newOK rd0 (zct σ.heap) (wrOf o.dst r.upd) then .req r.vc (K (σ.after o r) ⟨rd0,wrOf o.dst r.upd⟩) else .fail
  | none =>
  let rd1 := (opIds σ o).filter fun k => !bad.contains k
  match zeD P T (restr rd1 (zct σ.heap)) σ.op o with
  | some r => if newOK rd1 (zct σ.heap) (wrOf o.dst r.upd) then .req r.vc (K (σ.after o r) ⟨rd1,wrOf o.dst r.upd⟩) else .fail
  | none =>
   let rd := (σ.heap.map (·.1)).filter fun k => !bad.contains k
   match zeD P T (restr rd (zct σ.heap)) σ.op o with
   | some r => if newOK rd (zct σ.heap) (wrOf o.dst r.upd) then .req r.vc (K (σ.after o r) ⟨rd,wrOf o.dst r.upd⟩) else .fail
   | none => .fail
def drGo (P : Program) (T : zcl) (ops : Array Oper) (ms : List Nat) : List Oper → Nat → List (Nat × Option Bool) → St → List Foot → (St → List Foot → zcP) → zcP
 | [],_,_,σ,fl,K => K σ fl
 | o :: rest,i,dec,σ,fl,K =>
  let go (dec : List (Nat × Option Bool)) (σ : St) : zcP := drExec P T σ o (badOf (ms.getD i 0) fl) fun σ' q => drGo P T ops ms rest (i + 1) (zeK ops o.dst dec) σ' (q :: fl) K
  let skip (dec : List (Nat × Option Bool)) (σ : St) : zcP := drGo P T ops ms rest (i + 1) ((i,none) :: zeK ops o.dst dec) (σ.put o.dst (.tup [])) (⟨[],[]⟩ :: fl) K
  match o.guard with
  | none => go dec σ
  | some (j,want) => match zfl dec j with
   | some (some b) => if b = want then go dec σ else skip dec σ
   | some none => skip dec σ
   | none => match zdQ ops j with
    | none => .fail
    | some d => match σ.tv d with
     | .lf (.bool c) =>
      let σt := σ.put (some d) (.lf (.bool true))
      let σf := σ.put (some d) (.lf (.bool false))
      .ite c (if want then go ((j,some true) :: dec) σt else skip ((j,some true) :: dec) σt) (if want then skip ((j,some false) :: dec) σf else go ((j,some false) :: dec) σf)
     | _ => .fail
def zgN (ops : Array Oper) (o : Oper) : List Nat :=
 (o.op.operands.toList.filterMap fun | .tmp t => some t | _ => none) ++ (match o.guard with | some (g,_) => (zdQ ops g).toList | none => [])
def hits (xs ys : List Nat) : Bool := xs.any fun x => ys.contains x
def clash (ops : Array Oper) (x y : Oper) (fx fy : Foot) : Bool :=
 (match x.dst with | some d => (zgN ops y).contains d || y.dst == some d | none => false) ||
 (match y.dst with | some d => (zgN ops x).contains d | none => false) || hits fx.wr fy.wr || hits fx.wr fy.rd || hits fy.wr fx.rd
def ordRow (ops : Array Oper) (m : Nat) (y : Oper) (fy : Foot) : List Oper → List Foot → Nat → Bool
 | x :: xs,fx :: fs,i => (m.testBit i || !clash ops x y fx fy) && ordRow ops m y fy xs fs (i + 1)
 | _,_,_ => true
def ordGo (ops : Array Oper) (xs : List Oper) (fs : List Foot) : List Oper → List Foot → List Nat → Nat → Bool
 | y :: ys,fy :: gs,m :: ms,j => ordRow ops m y fy (xs.take j) (fs.take j) 0 && (y.after.toList.all fun e => !Region.binds .any e || decide (e.on < j)) && ordGo ops xs fs ys gs ms (j + 1)
 | _,_,_,_ => true
def ordOK (ops : Array Oper) (ms : List Nat) (fl : List Foot) : Bool := ordGo ops ops.toList fl ops.toList fl ms 0
def drTree (P : Program) (T : zcl) (ops : Array Oper) (σ : St) : zcP :=
 drGo P T ops (zdS ops.toList []) ops.toList 0 [] σ [] fun σ' fl => if ordOK ops (zdS ops.toList []) fl.reverse then .leaf (.norm σ') else .fail
def regTree (P : Program) (T : zcl) (ops : Array Oper) (draw : Bool) (σ : St) : zcP :=
 if draw then drTree P T ops σ else regGo P T ops ops.toList 0 [] σ fun σ' => .leaf (.norm σ')
def resOf (P : Program) (σ : St) : ResultVar → Option TV
 | .tmp t => some (σ.tv t)
 | .cell a t => (zgT P (zct σ.heap) t (σ.tv a)).map (·.val)
def resList (P : Program) (σ : St) : List ResultVar → Option (List TV)
 | [] => some []
 | x :: xs => match resOf P σ x,resList P σ xs with
  | some v,some vs => some (v :: vs)
  | _,_ => none
def asComp : TV → Option (Bool × List zcp)
 | .lf l => some (false,[l])
 | .agg cs => some (true,cs)
 | _ => none
def asComps : List TV → Option (List (Bool × List zcp))
 | [] => some []
 | t :: ts => match asComp t,asComps ts with
  | some c,some cs => some (c :: cs)
  | _,_ => none
def results1 : List TV → Option TV
 | [v] => some v
 | vs => (asComps vs).map .tup
def initTmps (args : List TV) (n : Nat) : List TV := args ++ List.replicate (n - args.length) (.tup [])
def zhq (k : Nat) : List Ent → List (Nat × Ent)
 | [] => []
 | e :: es => (zco + k,⟨e.w,zdw (zco + ·) e.b⟩) :: zhq (k + 1) es
def zgY (args : List TV) (es : List Ent) (n : Nat) : St := ⟨initTmps (args.map (renTV (zco + ·))) n,zhq 0 es⟩
end Go.Proofs.YtlfdidaeachpoaaGreat
namespace Go.Proofs.YtlfdidaeachpoaaGreat
open Go Go.RowKit
structure Pin where
 β : Nat → Option Value
 ok : Nat → Prop
 rd : Option Nat := none
 df : List Deferred := []
structure Sim (π : Pin) (w0 : World) (own : Nat → Prop) (w : World) (a : Act) (σ : St) (β : Nat → Option Value) (ok : Nat → Prop) : Prop where
 inv : Inv w0 own w β ok (zct σ.heap)
 tmps : ∀ t,zcE w ok β (a.tmps.getD t undef) (σ.tv t)
 size : a.tmps.size = σ.tmps.length
 def0 : a.defers = π.df
 pin : ∀ id v,zco ≤ id → β id = some v → π.β id = some v
 okB : ∀ b,ok b → π.ok b ∨ own b ∨ w0.heap.size ≤ b
section
variable {P : Program} {T : zcl} {π : Pin} {w0 : World} {own : Nat → Prop} {w : World} {β : Nat → Option Value} {ok : Nat → Prop} {a : Act} {σ : St}
theorem St.tv_put (σ : St) (d : Nat) (v : TV) (t : Nat) : (σ.put (some d) v).tv t = if d = t ∧ t < σ.tmps.length then v else σ.tv t := by
 unfold St.tv St.put
 simp only [List.getD,List.getElem?_set]
 by_cases h : d = t
 ·subst h
  by_cases h2 : d < σ.tmps.length
  ·simp [h2]
  ·simp [h2]
 ·simp [h]
theorem St.put_heap (σ : St) (dst : Option Nat) (v : TV) : (σ.put dst v).heap = σ.heap := by cases dst <;> rfl
theorem St.put_length (σ : St) (dst : Option Nat) (v : TV) : (σ.put dst v).tmps.length = σ.tmps.length := by cases dst <;> simp [St.put]
theorem Act.put_getD (a : Act) (d : Nat) (v : Value) (t : Nat) : (a.put (some d) v).tmps.getD t undef = if d = t ∧ t < a.tmps.size then v else a.tmps.getD t undef := by
 unfold Act.put
 simp only [Array.getD_eq_getD_getElem?,Array.getElem?_setIfInBounds]
 by_cases h : d = t
 ·subst h
  by_cases h2 : d < a.tmps.size
  ·simp [h2]
  ·simp [h2]
 ·simp [h]
theorem Act.put_size (a : Act) (dst : Option Nat) (v : Value) : (a.put dst v).tmps.size = a.tmps.size := by cases dst <;> simp [Act.put]
theorem Act.put_def (a : Act) (dst : Option Nat) (v : Value) : (a.put dst v).defers = a.defers := by cases dst <;> rfl
theorem Sim.eval (S : Sim π w0 own w a σ β ok) (x : Operand) (tv : TV) (e : σ.op x = some tv) : zcE w ok β (a.eval x) tv := by
 cases x with
 | tmp t => cases e; exact S.tmps t
 | const v => exact tvOfVal_rep e
 | func f => cases e; exact ⟨[],rfl,trivial⟩
 | global g => cases e
theorem Sim.after (S : Sim π w0 own w a σ β ok) {o : Oper} {r : zcF} {v : Value} {w' : World} {β' : Nat → Option Value} {ok' : Nat → Prop} (D : zdm w0 own w β ok (zct σ.heap) r.val r.upd v w' β' ok') :
  Sim π w0 own w' (a.put o.dst v) (σ.after o r) β' ok' := by
 refine ⟨?_,fun t => ?_,?_,?_,fun id v h1 h2 => S.pin id v h1 (D.pin id v h1 h2),fun b hb => (D.okB b hb).elim (fun h => S.okB b h) .inr⟩
 ·show Inv w0 own w' β' ok' (zct (hupd σ.heap r.upd))
  rw [ziC]
  exact D.inv
 ·show zcE w' ok' β' _ ((σ.put o.dst r.val).tv t)
  cases hd : o.dst with
  | none => exact (S.tmps t).mono D.hh D.hk D.hβ
  | some d =>
   rw [St.tv_put,Act.put_getD]
   by_cases h : d = t ∧ t < σ.tmps.length
   ·rw [if_pos h,if_pos ⟨h.1,by rw [S.size]; exact h.2⟩]
    exact D.rep
   ·rw [if_neg h,if_neg (by rw [S.size]; exact h)]
    exact (S.tmps t).mono D.hh D.hk D.hβ
 ·rw [Act.put_size,S.size]
  exact (St.put_length ..).symm
 ·rw [Act.put_def]
  exact S.def0
theorem Sim.put (S : Sim π w0 own w a σ β ok) (dst : Option Nat) {v : Value} {tv : TV} (hr : zcE w ok β v tv) : Sim π w0 own w (a.put dst v) (σ.put dst tv) β ok := by
 refine ⟨by rw [St.put_heap]; exact S.inv,fun t => ?_,by rw [Act.put_size,St.put_length]; exact S.size,by rw [Act.put_def]; exact S.def0,S.pin,S.okB⟩
 cases dst with
 | none => exact S.tmps t
 | some d =>
  rw [St.tv_put,Act.put_getD]
  by_cases h : d = t ∧ t < σ.tmps.length
  ·rw [if_pos h,if_pos ⟨h.1,by rw [S.size]; exact h.2⟩]
   exact hr
  ·rw [if_neg h,if_neg (by rw [S.size]; exact h)]
   exact S.tmps t
theorem Sim.name (S : Sim π w0 own w a σ β ok) (d : Nat) {tv : TV} (hr : zcE w ok β (a.tmps.getD d Go.undef) tv) : Sim π w0 own w a (σ.put (some d) tv) β ok := by
 refine ⟨S.inv,fun t => ?_,by rw [St.put_length]; exact S.size,S.def0,S.pin,S.okB⟩
 rw [St.tv_put]
 by_cases h : d = t ∧ t < σ.tmps.length
 ·rw [if_pos h,← h.1]
  exact hr
 ·rw [if_neg h]
  exact S.tmps t
def DecOK (ops : Array Oper) (σ : St) (dec : List (Nat × Option Bool)) : Prop :=
 ∀ j x,zfl dec j = some x → match x with
  | some b => ∃ d,zdQ ops j = some d ∧ σ.tv d = .lf (.bool b)
  | none => ∀ d,zdQ ops j = some d → σ.tv d = .tup [] ∨ σ.tmps.length ≤ d
theorem zjg {ops : Array Oper} {dst : Option Nat} : ∀ {dec : List (Nat × Option Bool)} {j : Nat} {x : Option Bool},zfl (zeK ops dst dec) j = some x → zfl dec j = some x ∧ zdQ ops j ≠ dst
 | [],_,_,h => by cases h
 | y :: l,j,x,h => by
  unfold zeK at h
  by_cases hy : zdQ ops y.1 = dst
  ·rw [if_pos hy] at h
   have := zjg h
   unfold zfl
   by_cases hj : y.1 = j
   ·exact absurd (hj ▸ hy) this.2
   ·rw [if_neg hj]; exact this
  ·rw [if_neg hy] at h
   unfold zfl at h ⊢
   by_cases hj : y.1 = j
   ·rw [if_pos hj] at h ⊢
    exact ⟨h,hj ▸ hy⟩
   ·rw [if_neg hj] at h ⊢
    exact zjg h
theorem DecOK.put {ops : Array Oper} {dec : List (Nat × Option Bool)} (h : DecOK ops σ dec) (dst : Option Nat) (v : TV) : DecOK ops (σ.put dst v) (zeK ops dst dec) := by
 intro j x hj
 obtain ⟨h1,h2⟩ := zjg hj
 have h3 := h j x h1
 cases dst with
 | none => exact h3
 | some d' =>
  have hsame : ∀ d,zdQ ops j = some d → (σ.put (some d') v).tv d = σ.tv d := fun d hd => by
   rw [St.tv_put,if_neg]
   rintro ⟨rfl,_⟩
   exact h2 hd
  cases x with
  | some b =>
   obtain ⟨d,hd,ht⟩ := h3
   exact ⟨d,hd,(hsame d hd).trans ht⟩
  | none =>
   intro d hd
   rw [hsame d hd,St.put_length]
   exact h3 d hd
theorem DecOK.after {ops : Array Oper} {dec : List (Nat × Option Bool)} (h : DecOK ops σ dec) (o : Oper) (r : zcF) : DecOK ops (σ.after o r) (zeK ops o.dst dec) :=
 h.put o.dst r.val
theorem ziS {ops : Array Oper} {j d : Nat} (hd : zdQ ops j = some d) (a : Act) : yielded ops a.tmps j = (match a.tmps.getD d Go.undef with | .bool b => some b | _ => none) := by
 unfold yielded
 unfold zdQ at hd
 rw [hd]
 simp only [Array.getD_eq_getD_getElem?,Option.bind_some]
 cases h : a.tmps[d]? with
 | none => rfl
 | some v => cases v <;> rfl
def zeu (π : Pin) (w0 : World) (own : Nat → Prop) (K : Ev → Prop) (e : Exit) (a : Act) (w : World) : Prop :=
 ∃ ev β ok,K ev ∧ match ev with
  | .norm σ => e = .normal ∧ Sim π w0 own w a σ β ok
  | .ret σ => e = .ret ∧ Sim π w0 own w a σ β ok
  | .exit id σ => e = .exit id ∧ Sim π w0 own w a σ β ok
theorem nilAsk_sound (S : Sim π w0 own w a σ β ok) {t : TypeId} {x y : Operand} {e : Bool} (h : nilAsk P (zct σ.heap) t (σ.op x) (σ.op y) = some e) :
  ∃ et A n c,P.underlying t = some (.slice et) ∧ a.eval x = .slice A n c ∧ (A = none → n = 0 ∧ c = 0) ∧ a.eval y = .slice none 0 0 ∧ (A.isNone = true → e = true) := by
 unfold nilAsk at h
 split at h
 ·rename_i hu hx hy
  cases h
  obtain ⟨A,cap,hv,h1,_,h2,_⟩ : zcM w ok (.sl _) [a.eval x] _ := S.eval x _ hx
  refine ⟨_,A,_,cap,hu,(List.cons.inj hv).1,fun hA => ⟨by have := h2 hA; omega,h2 hA⟩,S.eval y _ hy,fun hA => ?_⟩
  cases A with
  | some _ => cases hA
  | none =>
   have := h2 rfl
   rw [List.isEmpty_iff,← List.length_eq_zero_iff]
   omega
 ·rename_i id hu hx hy
  split at h
  ·rename_i he
   cases h
   obtain ⟨hb,_⟩ : zdh w ok β (a.eval x) (.ref id) := S.eval x _ hx
   obtain ⟨v,us,h1,h2,_⟩ := S.inv.ent id _ he
   rw [hb] at h1
   cases h1
   rcases h2.2 with ⟨hn,h0⟩ | ⟨g,cap,cur,hs,_⟩
   ·exact ⟨_,none,0,0,hu,hn,fun _ => ⟨rfl,rfl⟩,S.eval y _ hy,fun _ => by rw [List.isEmpty_iff,← List.length_eq_zero_iff]; exact h0⟩
   ·exact ⟨_,_,_,cap,hu,hs,(fun h => by cases h),S.eval y _ hy,(fun h => by cases h)⟩
  ·cases h
 ·cases h
theorem nilEq_sound (S : Sim π w0 own w a σ β ok) {o : Oper} {e neg : Bool} (h : nilEq P (zct σ.heap) σ.op o = some (e,neg)) :
  ∃ b : Bool,(b = true → e = true) ∧ (execOp a.eval o).run P w = .ok (.value (.bool (b != neg))) w := by
 unfold nilEq at h
 split at h
 ·rename_i t x y _ ho
  obtain ⟨e',h1,h2⟩ := Option.map_eq_some_iff.1 h
  cases h2
  obtain ⟨et,A,n,c,hu,hx,hA,hy,hb⟩ := nilAsk_sound S h1
  exact ⟨A.isNone,hb,nil_run (neg := false) rfl ho hu hx hA hy⟩
 ·rename_i t x y _ ho
  obtain ⟨e',h1,h2⟩ := Option.map_eq_some_iff.1 h
  cases h2
  obtain ⟨et,A,n,c,hu,hx,hA,hy,hb⟩ := nilAsk_sound S h1
  exact ⟨A.isNone,hb,nil_run (neg := true) rfl ho hu hx hA hy⟩
 ·cases h
theorem nilEq_nodefer {look : zcJ} {ρ : Operand → Option TV} {o : Oper} {x : Bool × Bool} (h : nilEq P look ρ o = some x) : ∀ c,o.op ≠ .defer c := fun c hc => by
 unfold nilEq at h
 rw [hc] at h
 cases h
theorem ziB (hT : zck P T) {ops : Array Oper} {Q : Exit → Act → World → Prop} : ∀ (rest : List Oper) (i : Nat) (dec : List (Nat × Option Bool)) (σ : St) (C : St → zcP) (K : Ev → Prop)
  (a : Act) (w : World) (β : Nat → Option Value) (ok : Nat → Prop),(∀ k,rest[k]? = ops[i + k]?) → DecOK ops σ dec → Sim π w0 own w a σ β ok → (regGo P T ops rest i dec σ C).sat K →
  (∀ σ' a' w' β' ok',Sim π w0 own w' a' σ' β' ok' → (C σ').sat K → Q .normal a' w') → wpOpsIn (Fw π.rd) 0 P ops Q (List.range' i rest.length) a w
 | [],_,_,σ,C,K,a,w,β,ok,_,_,S,hs,hQ => hQ σ a w β ok S hs
 | o :: rest,i,dec,σ,C,K,a,w,β,ok,hops,hdec,S,hs,hQ => by
  have ho : ops[i]? = some o := by simpa using (hops 0).symm
  have hrest : ∀ k,rest[k]? = ops[i + 1 + k]? := fun k => by
   have := hops (k + 1)
   rw [show i + 1 + k = i + (k + 1) by omega]
   simpa using this
  rw [List.length_cons,List.range'_succ]
  simp only [wpOpsIn,ho]
  have go : ∀ dec σ,DecOK ops σ dec → Sim π w0 own w a σ β ok → Region.wanted o (yielded ops a.tmps) = true → (regExec P T σ o fun σ' => regGo P T ops rest (i + 1) (zeK ops o.dst dec) σ' C).sat K →
    (if Region.wanted o (yielded ops a.tmps) = true then o.wpIn (Fw π.rd) 0 P a w (wpOpsIn (Fw π.rd) 0 P ops Q (List.range' (i + 1) rest.length)) Q else (∀ f,o.about P w a.eval = some f → (Fw π.rd).fn f) ∧ wpOpsIn (Fw π.rd) 0 P ops Q (List.range' (i + 1) rest.length) (a.put o.dst Go.undef) w) := by
   intro dec σ hdec S hw hs
   rw [if_pos hw]
   unfold regExec at hs
   split at hs
   ·rename_i r hr
    refine opSound S.inv hT (fun x _ tv htv => S.eval x tv htv) hr hs.1 fun v w' β' ok' D => ?_
    exact ziB hT rest (i + 1) _ _ C K _ w' β' ok' hrest (hdec.after o r) (S.after D) hs.2 hQ
   ·split at hs
    ·rename_i e neg hn
     obtain ⟨b,hb,hrun⟩ := nilEq_sound S hn
     refine zcH.wp (R := fun v w' => v = .bool (b != neg) ∧ w' = w) ⟨_,_,.inl hrun,rfl,rfl⟩ ?_ (nilEq_nodefer hn)
     rintro _ w' ⟨rfl,rfl⟩
     have hsb : (regGo P T ops rest (i + 1) (zeK ops o.dst dec) (σ.put o.dst (.lf (.bool (b != neg)))) C).sat K := by
      cases b with
      | true => exact hs.1 (hb rfl)
      | false => exact hs.2
     have hrep : zcE w' ok β (.bool (b != neg)) (.lf (.bool (b != neg))) := rfl
     exact ziB hT rest (i + 1) _ _ C K _ _ β ok hrest (hdec.put o.dst _) (S.put o.dst hrep) hsb hQ
    ·exact hs.elim
  have skip : ∀ dec σ,DecOK ops σ dec → Sim π w0 own w a σ β ok → Region.wanted o (yielded ops a.tmps) = false → (regGo P T ops rest (i + 1) ((i,none) :: zeK ops o.dst dec) (σ.put o.dst (.tup [])) C).sat K →
    (if Region.wanted o (yielded ops a.tmps) = true then o.wpIn (Fw π.rd) 0 P a w (wpOpsIn (Fw π.rd) 0 P ops Q (List.range' (i + 1) rest.length)) Q else (∀ f,o.about P w a.eval = some f → (Fw π.rd).fn f) ∧ wpOpsIn (Fw π.rd) 0 P ops Q (List.range' (i + 1) rest.length) (a.put o.dst Go.undef) w) := by
   intro dec σ hdec S hw hs
   rw [if_neg (by rw [hw]; simp)]
   refine ⟨fun _ _ => trivial,?_⟩
   have hund : zcE w ok β Go.undef (.tup []) := ⟨[],rfl,trivial⟩
   refine ziB hT rest (i + 1) _ _ C K _ w β ok hrest ?_ (S.put o.dst hund) hs hQ
   intro j x hj
   unfold zfl at hj
   by_cases hji : i = j
   ·subst hji
    simp at hj
    subst hj
    intro d hd
    have : o.dst = some d := by unfold zdQ at hd; rw [ho] at hd; exact hd
    rw [this,St.tv_put,St.put_length]
    by_cases hlt : d < σ.tmps.length
    ·exact .inl (by simp [hlt])
    ·exact .inr (Nat.le_of_not_lt hlt)
   ·rw [if_neg hji] at hj
    exact hdec.put o.dst (.tup []) j x hj
  unfold regGo at hs
  simp only at hs
  split at hs
  ·rename_i hg
   exact go dec σ hdec S (by simp [Region.wanted,hg]) hs
  ·rename_i j want hg
   have hwant : ∀ d,zdQ ops j = some d → Region.wanted o (yielded ops a.tmps) = ((match a.tmps.getD d Go.undef with | .bool b => some b | _ => none) == some want) := fun d hd => by
    simp only [Region.wanted,hg,ziS hd a]
   split at hs
   ·rename_i b hdj
    obtain ⟨d,hd,htv⟩ := hdec j _ hdj
    have hv : a.tmps.getD d Go.undef = .bool b := by have := S.tmps d; rw [htv] at this; exact this
    have hw := hwant d hd
    rw [hv] at hw
    split at hs
    ·rename_i hb
     subst hb
     exact go dec σ hdec S (by simpa using hw) hs
    ·rename_i hb
     exact skip dec σ hdec S (by rw [hw]; simpa using hb) hs
   ·rename_i hdj
    refine skip dec σ hdec S ?_ hs
    cases hd : zdQ ops j with
    | none =>
     unfold zdQ at hd
     simp [Region.wanted,hg,yielded,hd]
    | some d =>
     rw [hwant d hd]
     rcases hdec j _ hdj d hd with htv | hlen
     ·have hv := S.tmps d
      rw [htv] at hv
      obtain ⟨vs,hv,hvs⟩ := hv
      rw [hv]
      rfl
     ·rw [Array.getD_eq_getD_getElem?,Array.getElem?_eq_none (by rw [S.size]; exact hlen)]
      rfl
   ·split at hs
    ·exact hs.elim
    ·rename_i d hd
     split at hs
     ·rename_i c htv
      have hv : a.tmps.getD d Go.undef = .bool c := by have := S.tmps d; rw [htv] at this; exact this
      have hw := hwant d hd
      rw [hv] at hw
      have hlt : d < σ.tmps.length := by
       apply Decidable.byContradiction
       intro h
       unfold St.tv at htv
       rw [List.getD,List.getElem?_eq_none (Nat.le_of_not_lt h)] at htv
       cases htv
      have dec1 : ∀ b,c = b → DecOK ops (σ.put (some d) (.lf (.bool b))) ((j,some b) :: dec) ∧ Sim π w0 own w a (σ.put (some d) (.lf (.bool b))) β ok := by
       rintro b rfl
       refine ⟨fun j' x hj => ?_,S.name d hv⟩
       have hsame : ∀ d',(σ.put (some d) (.lf (.bool c))).tv d' = σ.tv d' := fun d' => by
        rw [St.tv_put]
        by_cases hdd : d = d' ∧ d' < σ.tmps.length
        ·rw [if_pos hdd,← htv,hdd.1]
        ·rw [if_neg hdd]
       unfold zfl at hj
       by_cases hjj : j = j'
       ·subst hjj
        simp at hj
        subst hj
        exact ⟨d,hd,by rw [St.tv_put,if_pos ⟨rfl,hlt⟩]⟩
       ·rw [if_neg hjj] at hj
        have h1 := hdec j' x hj
        cases x with
        | some b =>
         obtain ⟨d',hd',ht⟩ := h1
         exact ⟨d',hd',(hsame d').trans ht⟩
        | none =>
         intro d' hd'
         rw [hsame,St.put_length]
         exact h1 d' hd'
      obtain ⟨ht,hf⟩ := hs
      cases hc : c with
      | true =>
       have h1 := ht hc
       obtain ⟨hd1,hS1⟩ := dec1 true hc
       rw [hc] at hw
       split at h1
       ·rename_i hwt
        exact go _ _ hd1 hS1 (by rw [hw,hwt]; rfl) h1
       ·rename_i hwt
        exact skip _ _ hd1 hS1 (by rw [hw]; simpa using hwt) h1
      | false =>
       have h1 := hf hc
       obtain ⟨hd1,hS1⟩ := dec1 false hc
       rw [hc] at hw
       split at h1
       ·rename_i hwt
        exact skip _ _ hd1 hS1 (by rw [hw,hwt]; rfl) h1
       ·rename_i hwt
        exact go _ _ hd1 hS1 (by rw [hw]; simpa using hwt) h1
     ·exact hs.elim
end
end Go.Proofs.YtlfdidaeachpoaaGreat
