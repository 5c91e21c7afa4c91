/- Part 2 of the walk and of the plain law. -/
import Derived.Test.YtlfdidaeachpoaaGreatCOT1
import Derived.Orders
import Derived.Deep.LoopGhost
import Derived.RangeFuncLeaves
import Derived.RangeFuncRecord
import Derived.KernelRfl
import Derived.Test.YtlfdidaeachpoaaGreatProg
set_option linter.unusedSimpArgs false
set_option linter.unusedVariables false
namespace Go.Proofs.YtlfdidaeachpoaaGreat
open Go Go.RowKit
section
variable {Loc Val : Type} {n : Nat} {W R : Nat → Loc → Prop} {m : Nat → Nat → Prop} {s : Nat → Loc → Val}
structure Comb (n : Nat) (W R : Nat → Loc → Prop) (m : Nat → Nat → Prop) (s : Nat → Loc → Val) : Prop where
 frame : ∀ i,i < n → ∀ l,¬ W i l → s (i + 1) l = s i l
 disj : ∀ i j,i < j → j < n → ¬ m j i → ∀ l,(W i l → ¬ W j l ∧ ¬ R j l) ∧ (R i l → ¬ W j l)
def Cur (n : Nat) (W : Nat → Loc → Prop) (s : Nat → Loc → Val) (S : Nat → Prop) (c : Loc → Val) : Prop :=
 ∀ l k,k ≤ n → (∀ i,i < n → W i l → (S i ↔ i < k)) → c l = s k l
theorem Comb.still (H : Comb n W R m s) {l : Loc} : ∀ (d j : Nat),j + d ≤ n → (∀ i,j ≤ i → i < j + d → ¬ W i l) → s (j + d) l = s j l
 | 0,_,_,_ => rfl
 | d + 1,j,hn,hw => by
  rw [← Nat.add_assoc,H.frame (j + d) (by omega) l (hw (j + d) (by omega) (by omega))]
  exact H.still d j (by omega) fun i h1 h2 => hw i h1 (by omega)
theorem Comb.start (H : Comb n W R m s) : Cur n W s (fun _ => False) (s 0) := fun l k hk hw => by
 have := H.still (l := l) k 0 (by omega) fun i _ h2 h3 => ((hw i (by omega) h3).2 (by omega)).elim
 rw [Nat.zero_add] at this
 exact this.symm
theorem Comb.read (H : Comb n W R m s) {S : Nat → Prop} {c : Loc → Val} (hc : Cur n W s S c) {j : Nat} (hj : j < n) (hjS : ¬ S j) (hm : ∀ i,m j i → S i) (hcl : ∀ i,S i → m i j → S j) {l : Loc} (hl : R j l ∨ W j l) : c l = s j l := by
 refine hc l j (Nat.le_of_lt hj) fun i hi hw => ?_
 rcases Nat.lt_trichotomy i j with h | h | h
 ·by_cases hmi : m j i
  ·exact ⟨fun _ => h,fun _ => hm i hmi⟩
  ·have := (H.disj i j h hj hmi l).1 hw
   exact (hl.elim this.2 this.1).elim
 ·subst h
  exact ⟨fun h => (hjS h).elim,fun h => absurd h (Nat.lt_irrefl _)⟩
 ·by_cases hmi : m i j
  ·exact ⟨fun h' => (hjS (hcl i h' hmi)).elim,fun h' => absurd h' (by omega)⟩
  ·have := H.disj j i h hi hmi l
   rcases hl with hl | hl
   ·exact (this.2 hl hw).elim
   ·exact ((this.1 hl).1 hw).elim
theorem Comb.step (H : Comb n W R m s) {S : Nat → Prop} {c c' : Loc → Val} (hc : Cur n W s S c) {j : Nat} (hjS : ¬ S j) (hcl : ∀ i,S i → m i j → S j)
  (h1 : ∀ l,¬ W j l → c' l = c l) (h2 : ∀ l,W j l → c' l = s (j + 1) l) {S' : Nat → Prop} (hS : ∀ i,S' i ↔ S i ∨ i = j) (hj : j < n) : Cur n W s S' c' := by
 intro l k hk hw
 by_cases hwj : W j l
 ·rw [h2 l hwj]
  have hjk : j < k := (hw j hj hwj).1 ((hS j).2 (.inr rfl))
  have := H.still (l := l) (k - (j + 1)) (j + 1) (by omega) fun i h3 h4 h5 => by
   rcases (hS i).1 ((hw i (by omega) h5).2 (by omega)) with h6 | h6
   ·by_cases hmi : m i j
    ·exact hjS (hcl i h6 hmi)
    ·exact ((H.disj j i (by omega) (by omega) hmi l).1 hwj).1 h5
   ·omega
  rw [show j + 1 + (k - (j + 1)) = k by omega] at this
  exact this.symm
 ·rw [h1 l hwj]
  refine hc l k hk fun i hi hwi => ?_
  rw [← hw i hi hwi,hS]
  constructor
  ·exact .inl
  ·rintro (h | rfl)
   ·exact h
   ·exact (hwj hwi).elim
end
structure Stp where
 run : Option zcF
 ft : Foot
def Stp.next (σ : St) (o : Oper) (p : Stp) : St := match p.run with
 | some r => σ.after o r
 | none => σ.put o.dst (.tup [])
def gTrue (ops : Array Oper) (σ : St) (o : Oper) : Prop := match o.guard with
 | none => True
 | some (j,want) => ∃ d,zdQ ops j = some d ∧ σ.tv d = .lf (.bool want)
def zgj (ops : Array Oper) (σ : St) (o : Oper) : Prop := match o.guard with
 | none => False
 | some (j,want) => ∀ d,zdQ ops j = some d → σ.tv d = .lf (.bool (!want)) ∨ σ.tv d = .tup [] ∨ σ.tmps.length ≤ d
def zgV (P : Program) (T : zcl) (ops : Array Oper) (σ : St) (o : Oper) (p : Stp) : Prop := match p.run with
 | some r => gTrue ops σ o ∧ zeD P T (restr p.ft.rd (zct σ.heap)) σ.op o = some r ∧ r.vc = true ∧ p.ft.wr = wrOf o.dst r.upd ∧ newOK p.ft.rd (zct σ.heap) p.ft.wr = true
 | none => zgj ops σ o ∧ p.ft = ⟨[],[]⟩
section
variable {P : Program} {T : zcl} {ops : Array Oper} {ms : List Nat}
theorem drTry {σ : St} {o : Oper} {C : St → Foot → zcP} {K : Ev → Prop} {rd : List Nat} {r : zcF} (hg : gTrue ops σ o) (hr : zeD P T (restr rd (zct σ.heap)) σ.op o = some r)
  (h : (if newOK rd (zct σ.heap) (wrOf o.dst r.upd) then zcP.req r.vc (C (σ.after o r) ⟨rd,wrOf o.dst r.upd⟩) else .fail).sat K) :
  ∃ r f,zgV P T ops σ o ⟨some r,f⟩ ∧ (C (σ.after o r) f).sat K := by
 split at h
 ·rename_i hn
  exact ⟨r,_,⟨hg,hr,h.1,rfl,hn⟩,h.2⟩
 ·exact h.elim
theorem drExec_sat {σ : St} {o : Oper} {bad : List Nat} {C : St → Foot → zcP} {K : Ev → Prop} (hg : gTrue ops σ o) (h : (drExec P T σ o bad C).sat K) :
  ∃ r f,zgV P T ops σ o ⟨some r,f⟩ ∧ (C (σ.after o r) f).sat K := by
 unfold drExec at h
 split at h
 ·rename_i r hr
  exact drTry hg hr h
 ·simp only at h
  split at h
  ·rename_i r hr
   exact drTry hg hr h
  ·split at h
   ·rename_i r hr
    exact drTry hg hr h
   ·split at h
    ·rename_i r hr
     exact drTry hg hr h
    ·exact h.elim
theorem St.put_self {σ : St} {d : Nat} {v : TV} (h : σ.tv d = v) (hv : v ≠ .lf .undef) : σ.put (some d) v = σ := by
 have : σ.tmps.set d v = σ.tmps := by
  apply List.ext_getElem?
  intro i
  rw [List.getElem?_set]
  by_cases hi : d = i
  ·subst hi
   unfold St.tv at h
   by_cases hlt : d < σ.tmps.length
   ·rw [if_pos rfl,if_pos hlt]
    rw [List.getD,List.getElem?_eq_getElem hlt] at h
    rw [List.getElem?_eq_getElem hlt]
    exact congrArg some h.symm
   ·rw [List.getD,List.getElem?_eq_none (Nat.le_of_not_lt hlt)] at h
    exact (hv h.symm).elim
  ·rw [if_neg hi]
 unfold St.put
 simp only [this]
def Trace (P : Program) (T : zcl) (ops : Array Oper) (σ : St) (rest : List Oper) (s : Nat → St) (ps : List Stp) : Prop :=
 s 0 = σ ∧ ps.length = rest.length ∧ ∀ k o p,rest[k]? = some o → ps[k]? = some p → zgV P T ops (s k) o p ∧ s (k + 1) = p.next (s k) o
theorem Trace.cons {σ : St} {o : Oper} {rest : List Oper} {p : Stp} {s : Nat → St} {ps : List Stp} (h1 : zgV P T ops σ o p) (h : Trace P T ops (p.next σ o) rest s ps) :
  Trace P T ops σ (o :: rest) (fun k => match k with | 0 => σ | k + 1 => s k) (p :: ps) := by
 obtain ⟨h2,h3,h4⟩ := h
 refine ⟨rfl,by simp [h3],fun k o' p' ho hp => ?_⟩
 cases k with
 | zero =>
  simp only [List.getElem?_cons_zero,Option.some.injEq] at ho hp
  subst ho
  subst hp
  exact ⟨h1,h2⟩
 | succ k =>
  simp only [List.getElem?_cons_succ] at ho hp
  exact h4 k o' p' ho hp
theorem drGo_trace : ∀ (rest : List Oper) (i : Nat) (dec : List (Nat × Option Bool)) (σ : St) (fl : List Foot) (C : St → List Foot → zcP) (K : Ev → Prop),
  (∀ k,rest[k]? = ops[i + k]?) → DecOK ops σ dec → (drGo P T ops ms rest i dec σ fl C).sat K →
  ∃ s ps,Trace P T ops σ rest s ps ∧ (C (s rest.length) ((ps.map (·.ft)).reverse ++ fl)).sat K
 | [],_,_,σ,fl,C,K,_,_,hs => ⟨fun _ => σ,[],⟨rfl,rfl,fun k o p h => by simp at h⟩,hs⟩
 | o :: rest,i,dec,σ,fl,C,K,hops,hdec,hs => by
  have ho : ops[i]? = some o := by simpa using (hops 0).symm
  have hrest : ∀ k,rest[k]? = ops[i + 1 + k]? := fun k => by
   have := hops (k + 1)
   rw [show i + 1 + k = i + (k + 1) by omega]
   simpa using this
  have wrap : ∀ (p : Stp),zgV P T ops σ o p → (∃ s ps,Trace P T ops (p.next σ o) rest s ps ∧ (C (s rest.length) ((ps.map (·.ft)).reverse ++ (p.ft :: fl))).sat K) →
    ∃ s ps,Trace P T ops σ (o :: rest) s ps ∧ (C (s (o :: rest).length) ((ps.map (·.ft)).reverse ++ fl)).sat K := by
   rintro p hp ⟨s,ps,h1,h2⟩
   refine ⟨_,_,Trace.cons hp h1,?_⟩
   simpa using h2
  have go : ∀ dec,DecOK ops σ dec → gTrue ops σ o → (drExec P T σ o (badOf (ms.getD i 0) fl) fun σ' q => drGo P T ops ms rest (i + 1) (zeK ops o.dst dec) σ' (q :: fl) C).sat K →
    ∃ s ps,Trace P T ops σ (o :: rest) s ps ∧ (C (s (o :: rest).length) ((ps.map (·.ft)).reverse ++ fl)).sat K := by
   intro dec hdec hg hs
   obtain ⟨r,f,h1,h2⟩ := drExec_sat hg hs
   exact wrap ⟨some r,f⟩ h1 (drGo_trace rest (i + 1) _ _ _ C K hrest (hdec.after o r) h2)
  have skip : ∀ dec,DecOK ops σ dec → zgj ops σ o → (drGo P T ops ms rest (i + 1) ((i,none) :: zeK ops o.dst dec) (σ.put o.dst (.tup [])) (⟨[],[]⟩ :: fl) C).sat K →
    ∃ s ps,Trace P T ops σ (o :: rest) s ps ∧ (C (s (o :: rest).length) ((ps.map (·.ft)).reverse ++ fl)).sat K := by
   intro dec hdec hg hs
   refine wrap ⟨none,⟨[],[]⟩⟩ ⟨hg,rfl⟩ (drGo_trace rest (i + 1) _ _ _ C K hrest ?_ hs)
   intro j x hj
   unfold zfl at hj
   by_cases hji : i = j
   ·subst hji
    simp at hj
    subst hj
    intro d hd
    have : o.dst = some d := by unfold zdQ at hd; rw [ho] at hd; exact hd
    show (σ.put o.dst (.tup [])).tv d = .tup [] ∨ (σ.put o.dst (.tup [])).tmps.length ≤ d
    rw [this,St.tv_put,St.put_length]
    by_cases hlt : d < σ.tmps.length
    ·exact .inl (by simp [hlt])
    ·exact .inr (Nat.le_of_not_lt hlt)
   ·rw [if_neg hji] at hj
    exact hdec.put o.dst (.tup []) j x hj
  unfold drGo at hs
  simp only at hs
  split at hs
  ·rename_i hg
   exact go dec hdec (by simp [gTrue,hg]) hs
  ·rename_i j want hg
   split at hs
   ·rename_i b hdj
    obtain ⟨d,hd,htv⟩ := hdec j _ hdj
    split at hs
    ·rename_i hb
     subst hb
     exact go dec hdec (by simp only [gTrue,hg]; exact ⟨d,hd,htv⟩) hs
    ·rename_i hb
     refine skip dec hdec ?_ hs
     simp only [zgj,hg]
     intro d' hd'
     rw [hd] at hd'
     cases hd'
     refine .inl (htv.trans ?_)
     cases b <;> cases want <;> simp_all
   ·rename_i hdj
    refine skip dec hdec ?_ hs
    simp only [zgj,hg]
    intro d hd
    exact .inr (hdec j _ hdj d hd)
   ·split at hs
    ·exact hs.elim
    ·rename_i d hd
     split at hs
     ·rename_i c htv
      have hself : ∀ b,c = b → σ.put (some d) (.lf (.bool b)) = σ := fun b hb => St.put_self (by rw [htv,hb]) (by intro h; cases h)
      have dec1 : ∀ b,c = b → DecOK ops σ ((j,some b) :: dec) := by
       rintro b rfl j' x hj
       unfold zfl at hj
       by_cases hjj : j = j'
       ·subst hjj
        simp at hj
        subst hj
        exact ⟨d,hd,htv⟩
       ·rw [if_neg hjj] at hj
        exact hdec j' x hj
      obtain ⟨ht,hf⟩ := hs
      cases hc : c with
      | true =>
       have h1 := ht hc
       rw [hself true hc] at h1
       split at h1
       ·rename_i hwt
        exact go _ (dec1 true hc) (by simp only [gTrue,hg]; exact ⟨d,hd,by rw [htv,hc,hwt]⟩) h1
       ·rename_i hwt
        refine skip _ (dec1 true hc) ?_ h1
        simp only [zgj,hg]
        intro d' hd'
        rw [hd] at hd'
        cases hd'
        exact .inl (by rw [htv,hc]; cases want <;> simp_all)
      | false =>
       have h1 := hf hc
       rw [hself false hc] at h1
       split at h1
       ·rename_i hwt
        refine skip _ (dec1 false hc) ?_ h1
        simp only [zgj,hg]
        intro d' hd'
        rw [hd] at hd'
        cases hd'
        exact .inl (by rw [htv,hc,hwt]; rfl)
       ·rename_i hwt
        exact go _ (dec1 false hc) (by simp only [gTrue,hg]; exact ⟨d,hd,by rw [htv,hc]; cases want <;> simp_all⟩) h1
     ·exact hs.elim
theorem ordRow_spec {m : Nat} {y : Oper} {fy : Foot} : ∀ {xs : List Oper} {fs : List Foot} {i0 : Nat},ordRow ops m y fy xs fs i0 = true → ∀ i x fx,xs[i]? = some x → fs[i]? = some fx → m.testBit (i0 + i) = true ∨ clash ops x y fx fy = false
 | [],_,_,_,i,x,fx,h1,_ => by simp at h1
 | _ :: _,[],_,_,i,x,fx,_,h2 => by simp at h2
 | x0 :: xs,f0 :: fs,i0,h,i,x,fx,h1,h2 => by
  simp only [ordRow,Bool.and_eq_true,Bool.or_eq_true,Bool.not_eq_true'] at h
  cases i with
  | zero =>
   simp only [List.getElem?_cons_zero,Option.some.injEq] at h1 h2
   subst h1
   subst h2
   exact h.1
  | succ i =>
   simp only [List.getElem?_cons_succ] at h1 h2
   have := ordRow_spec h.2 i x fx h1 h2
   rw [show i0 + 1 + i = i0 + (i + 1) by omega] at this
   exact this
theorem ordGo_spec {xs : List Oper} {fs : List Foot} : ∀ {ys : List Oper} {gs : List Foot} {ms : List Nat} {j0 : Nat},ordGo ops xs fs ys gs ms j0 = true → ∀ k y fy m,ys[k]? = some y → gs[k]? = some fy → ms[k]? = some m →
  (∀ i x fx,i < j0 + k → xs[i]? = some x → fs[i]? = some fx → m.testBit i = true ∨ clash ops x y fx fy = false) ∧ ∀ e ∈ y.after,Region.binds .any e = true → e.on < j0 + k
 | [],_,_,_,_,k,y,fy,m,h1,_,_ => by simp at h1
 | _ :: _,[],_,_,_,k,y,fy,m,_,h2,_ => by simp at h2
 | _ :: _,_ :: _,[],_,_,k,y,fy,m,_,_,h3 => by simp at h3
 | y0 :: ys,g0 :: gs,m0 :: ms,j0,h,k,y,fy,m,h1,h2,h3 => by
  simp only [ordGo,Bool.and_eq_true] at h
  cases k with
  | zero =>
   simp only [List.getElem?_cons_zero,Option.some.injEq] at h1 h2 h3
   subst h1
   subst h2
   subst h3
   refine ⟨fun i x fx hi hx hf => ?_,fun e he hb => ?_⟩
   ·have := ordRow_spec h.1.1 i x fx (by rw [List.getElem?_take,if_pos (by omega)]; exact hx) (by rw [List.getElem?_take,if_pos (by omega)]; exact hf)
    rwa [Nat.zero_add] at this
   ·have := List.all_eq_true.1 h.1.2 e (Array.mem_toList_iff.2 he)
    simpa [hb] using this
  | succ k =>
   simp only [List.getElem?_cons_succ] at h1 h2 h3
   have := ordGo_spec h.2 k y fy m h1 h2 h3
   rw [show j0 + 1 + k = j0 + (k + 1) by omega] at this
   exact this
theorem precGo_spec : ∀ (l : List Oper) (acc : List Nat),(∀ k,k < acc.length → (zdS l acc)[k]? = acc[k]?) ∧
  ∀ k o,l[k]? = some o → ∃ acc',(∀ i,i < acc'.length → (zdS l acc)[i]? = acc'[i]?) ∧ (zdS l acc)[acc.length + k]? = some (precOf acc' o)
 | [],acc => ⟨fun _ _ => rfl,fun k o h => by simp at h⟩
 | o0 :: l,acc => by
  have ih := precGo_spec l (acc ++ [precOf acc o0])
  have h1 : ∀ k,k < acc.length → (zdS (o0 :: l) acc)[k]? = acc[k]? := fun k hk => by
   show (zdS l _)[k]? = _
   rw [ih.1 k (by simp; omega),List.getElem?_append_left hk]
  refine ⟨h1,fun k o h => ?_⟩
  cases k with
  | zero =>
   simp only [List.getElem?_cons_zero,Option.some.injEq] at h
   subst h
   refine ⟨acc,h1,?_⟩
   show (zdS l _)[acc.length]? = _
   rw [ih.1 acc.length (by simp)]
   simp
  | succ k =>
   simp only [List.getElem?_cons_succ] at h
   obtain ⟨acc',h2,h3⟩ := ih.2 k o h
   refine ⟨acc',h2,?_⟩
   rw [show acc.length + (k + 1) = (acc ++ [precOf acc o0]).length + k by simp; omega]
   exact h3
theorem foldBits {acc : List Nat} {b : Nat} : ∀ (l : List Edge) (m : Nat),(l.foldl (fun m e => if Region.binds .any e then m ||| 2 ^ e.on ||| acc.getD e.on 0 else m) m).testBit b = true →
  m.testBit b = true ∨ ∃ e ∈ l,Region.binds .any e = true ∧ (b = e.on ∨ (acc.getD e.on 0).testBit b = true)
 | [],_,h => .inl h
 | e :: l,m,h => by
  rw [List.foldl_cons] at h
  rcases foldBits l _ h with h1 | ⟨e',he',h1⟩
  ·split at h1
   ·rename_i hb
    simp only [Nat.testBit_or,Bool.or_eq_true,Nat.testBit_two_pow,decide_eq_true_eq] at h1
    rcases h1 with (h1 | h1) | h1
    ·exact .inl h1
    ·exact .inr ⟨e,by simp,hb,.inl h1.symm⟩
    ·exact .inr ⟨e,by simp,hb,.inr h1⟩
   ·exact .inl h1
  ·exact .inr ⟨e',by simp [he'],h1⟩
def Waits (ms : List Nat) (j i : Nat) : Prop := ∃ m,ms[j]? = some m ∧ m.testBit i = true
theorem waits_spec {j : Nat} {o : Oper} (ho : ops[j]? = some o) : (∃ m,(zdS ops.toList [])[j]? = some m) ∧
  ∀ b,Waits (zdS ops.toList []) j b → ∃ e ∈ o.after,Region.binds .any e = true ∧ (b = e.on ∨ Waits (zdS ops.toList []) e.on b) := by
 obtain ⟨acc',h1,h2⟩ := (precGo_spec ops.toList []).2 j o (by simpa using ho)
 simp only [List.length_nil,Nat.zero_add] at h2
 refine ⟨⟨_,h2⟩,?_⟩
 rintro b ⟨m,hm,hb⟩
 rw [h2] at hm
 cases hm
 rcases foldBits _ _ hb with h3 | ⟨e,he,hbd,h3⟩
 ·simp at h3
 ·refine ⟨e,Array.mem_toList_iff.1 he,hbd,h3.imp id fun h4 => ?_⟩
  by_cases hlt : e.on < acc'.length
  ·rw [List.getD,List.getElem?_eq_getElem hlt] at h4
   exact ⟨_,(h1 e.on hlt).trans (List.getElem?_eq_getElem hlt),h4⟩
  ·rw [List.getD,List.getElem?_eq_none (Nat.le_of_not_lt hlt)] at h4
   simp at h4
end
theorem zga {k : Nat} : ∀ {r : List (Nat × Ent)} {l : zcJ},k ∉ r.map (·.1) → zcU l r k = l k
 | [],_,_ => rfl
 | x :: r,l,h => by
  simp only [List.map_cons,List.mem_cons,not_or] at h
  show zcU (zcR l x.1 x.2) r k = l k
  rw [zga h.2]
  simp [zcR,h.1]
theorem updAll_mem {k : Nat} : ∀ {r : List (Nat × Ent)} {l l' : zcJ},k ∈ r.map (·.1) → zcU l r k = zcU l' r k
 | [],_,_,h => by cases h
 | x :: r,l,l',h => by
  show zcU (zcR l x.1 x.2) r k = zcU (zcR l' x.1 x.2) r k
  by_cases hr : k ∈ r.map (·.1)
  ·exact updAll_mem hr
  ·rw [zga hr,zga hr]
   simp only [List.map_cons,List.mem_cons] at h
   rcases h with rfl | h
   ·simp [zcR]
   ·exact (hr h).elim
section
variable {P : Program} {T : zcl} {π : Pin} {w0 : World} {own : Nat → Prop} {w : World} {β : Nat → Option Value} {ok : Nat → Prop} {a : Act} {σ σ' : St}
theorem Sim.ext (S : Sim π w0 own w a σ β ok) (ht : ∀ t,σ.tv t = σ'.tv t) (hh : ∀ k,zct σ.heap k = zct σ'.heap k) (hl : σ.tmps.length = σ'.tmps.length) : Sim π w0 own w a σ' β ok :=
 ⟨by rw [← funext hh]; exact S.inv,fun t => by rw [← ht]; exact S.tmps t,by rw [← hl]; exact S.size,S.def0,S.pin,S.okB⟩
theorem Sim.world (S : Sim π w0 own w a σ β ok) {w' : World} (hh : w'.heap = w.heap) (h1 : w'.os = w.os) (h2 : w'.tape = w.tape) (h3 : w'.output = w.output) : Sim π w0 own w' a σ β ok :=
 ⟨S.inv.heap hh h1 h2 h3,fun t => (S.tmps t).mono (fun _ _ => by rw [hh]) (fun _ h => h) (fun _ _ h => h),S.size,S.def0,S.pin,S.okB⟩
def Wt (ops : Array Oper) (i t : Nat) : Prop := zdQ ops i = some t
def Rt (ops : Array Oper) (i t : Nat) : Prop := ∃ o,ops[i]? = some o ∧ t ∈ zgN ops o
def Wh (ps : List Stp) (i k : Nat) : Prop := ∃ p,ps[i]? = some p ∧ k ∈ p.ft.wr
def Rh (ps : List Stp) (i k : Nat) : Prop := ∃ p,ps[i]? = some p ∧ k ∈ p.ft.rd
theorem Stp.next_length (σ : St) (o : Oper) (p : Stp) : (p.next σ o).tmps.length = σ.tmps.length := by
 unfold Stp.next
 cases p.run with
 | none => exact St.put_length ..
 | some r => exact St.put_length ..
theorem next_tv (σ : St) (o : Oper) (p : Stp) : ∃ v,(p.run = none → v = .tup []) ∧ (∀ r,p.run = some r → v = r.val) ∧ ∀ t,(p.next σ o).tv t = if o.dst = some t ∧ t < σ.tmps.length then v else σ.tv t := by
 unfold Stp.next
 cases hp : p.run with
 | none =>
  refine ⟨.tup [],fun _ => rfl,(fun r h => by cases h),fun t => ?_⟩
  cases hd : o.dst with
  | none => simp [St.put]
  | some d => simp only; rw [St.tv_put]; simp
 | some r =>
  refine ⟨r.val,(fun h => by cases h),(fun r' h => by cases h; rfl),fun t => ?_⟩
  show (σ.put o.dst r.val).tv t = _
  cases hd : o.dst with
  | none => simp [St.put]
  | some d => rw [St.tv_put]; simp
theorem ziX (σ : St) (o : Oper) (r : zcF) (k : Nat) : zct (σ.after o r).heap k = zcU (zct σ.heap) r.upd k := by
 show zct (hupd σ.heap r.upd) k = _
 rw [ziC]
theorem wanted_of {ops : Array Oper} {o : Oper} (S : Sim π w0 own w a σ β ok) (h : gTrue ops σ o) : Region.wanted o (yielded ops a.tmps) = true := by
 unfold gTrue at h
 split at h
 ·rename_i hg
  simp [Region.wanted,hg]
 ·rename_i j want hg
  obtain ⟨d,hd,htv⟩ := h
  have hv : a.tmps.getD d Go.undef = .bool want := by have := S.tmps d; rw [htv] at this; exact this
  simp only [Region.wanted,hg,ziS hd a,hv]
  simp
theorem unwanted_of {ops : Array Oper} {o : Oper} (S : Sim π w0 own w a σ β ok) (h : zgj ops σ o) : Region.wanted o (yielded ops a.tmps) = false := by
 unfold zgj at h
 split at h
 ·exact h.elim
 ·rename_i j want hg
  cases hd : zdQ ops j with
  | none =>
   unfold zdQ at hd
   simp [Region.wanted,hg,yielded,hd]
  | some d =>
   simp only [Region.wanted,hg,ziS hd a]
   rcases h d hd with htv | htv | hlen
   ·have hv : a.tmps.getD d Go.undef = .bool (!want) := by have := S.tmps d; rw [htv] at this; exact this
    rw [hv]
    cases want <;> rfl
   ·have hv := S.tmps d
    rw [htv] at hv
    obtain ⟨vs,hv,hvs⟩ := hv
    rw [hv]
    rfl
   ·rw [Array.getD_eq_getD_getElem?,Array.getElem?_eq_none (by rw [S.size]; exact hlen)]
    rfl
theorem gTrue_ext {ops : Array Oper} {o : Oper} (h : ∀ t ∈ zgN ops o,σ.tv t = σ'.tv t) (hg : gTrue ops σ' o) : gTrue ops σ o := by
 unfold gTrue at hg ⊢
 split at hg
 ·trivial
 ·rename_i j want hgd
  obtain ⟨d,hd,htv⟩ := hg
  exact ⟨d,hd,(h d (by simp [zgN,hgd,hd])).trans htv⟩
theorem gFalse_ext {ops : Array Oper} {o : Oper} (h : ∀ t ∈ zgN ops o,σ.tv t = σ'.tv t) (hl : σ.tmps.length = σ'.tmps.length) (hg : zgj ops σ' o) : zgj ops σ o := by
 unfold zgj at hg ⊢
 split at hg
 ·exact hg
 ·rename_i j want hgd
  intro d hd
  rw [h d (by simp [zgN,hgd,hd]),hl]
  exact hg d hd
theorem getD_lt {listed : Array Bool} {i : Nat} (h : listed.getD i true = false) : i < listed.size ∧ listed.getD i false = false := by
 rcases Nat.lt_or_ge i listed.size with h' | h'
 ·refine ⟨h',?_⟩
  simp [h'] at h ⊢
  exact h
 ·simp [Array.getElem?_eq_none h'] at h
structure Reg (P : Program) (T : zcl) (ops : Array Oper) (s : Nat → St) (ps : List Stp) : Prop where
 len : ps.length = ops.size
 step : ∀ k o p,ops[k]? = some o → ps[k]? = some p → zgV P T ops (s k) o p ∧ s (k + 1) = p.next (s k) o
 tmp : Comb ops.size (Wt ops) (Rt ops) (Waits (zdS ops.toList [])) (fun k => (s k).tv)
 heap : Comb ops.size (Wh ps) (Rh ps) (Waits (zdS ops.toList [])) (fun k => zct (s k).heap)
 edge : ∀ k o,ops[k]? = some o → ∀ e ∈ o.after,Region.binds .any e = true → e.on < k
 size : ∀ k,k ≤ ops.size → (s k).tmps.length = (s 0).tmps.length
theorem reg_any (hT : zck P T) {ops : Array Oper} {s : Nat → St} {ps : List Stp} (H : Reg P T ops s ps) {Q : Exit → Act → World → Prop}
  (hQ : ∀ a w β ok,Sim π w0 own w a (s ops.size) β ok → Q .normal a w) : ∀ (fuel : Nat) (listed : Array Bool) (a : Act) (w : World) (c : St) (β : Nat → Option Value) (ok : Nat → Prop),
  listed.size = ops.size → listed.toList.count false ≤ fuel → Sim π w0 own w a c β ok → c.tmps.length = (s 0).tmps.length →
  Cur ops.size (Wt ops) (fun k => (s k).tv) (fun i => listed.getD i false = true) c.tv → Cur ops.size (Wh ps) (fun k => zct (s k).heap) (fun i => listed.getD i false = true) (zct c.heap) →
  (∀ i b,listed.getD i false = true → Waits (zdS ops.toList []) i b → listed.getD b false = true) → wpAnyIn (Fw π.rd) 0 P .any ops Q fuel listed a w := by
 have fin : ∀ (listed : Array Bool) (a : Act) (w : World) (c : St) (β : Nat → Option Value) (ok : Nat → Prop),(∀ j,j < ops.size → listed.getD j false = true) → Sim π w0 own w a c β ok → c.tmps.length = (s 0).tmps.length →
   Cur ops.size (Wt ops) (fun k => (s k).tv) (fun i => listed.getD i false = true) c.tv → Cur ops.size (Wh ps) (fun k => zct (s k).heap) (fun i => listed.getD i false = true) (zct c.heap) → Q .normal a w :=
  fun listed a w c β ok hall S hl ht hh => hQ a w β ok (S.ext (fun t => ht t ops.size (Nat.le_refl _) fun i hi _ => ⟨fun _ => hi,fun _ => hall i hi⟩)
   (fun k => hh k ops.size (Nat.le_refl _) fun i hi _ => ⟨fun _ => hi,fun _ => hall i hi⟩) (hl.trans (H.size _ (Nat.le_refl _)).symm))
 have none0 : ∀ (listed : Array Bool),listed.size = ops.size → Region.ready .any ops listed = [] → ∀ j,j < ops.size → listed.getD j false = true := by
  intro listed hsz hr j
  induction j using Nat.strongRecOn with
  | ind j ih =>
   intro hj
   apply Decidable.byContradiction
   intro hn
   have hmem : j ∈ Region.ready .any ops listed := by
    refine mem_ready.2 ⟨?_,ops[j],by simp [hj],fun e he hb => ih e.on (H.edge j ops[j] (by simp [hj]) e he hb) (Nat.lt_trans (H.edge j ops[j] (by simp [hj]) e he hb) hj)⟩
    have hj' : j < listed.size := by omega
    simp [hj'] at hn ⊢
    exact hn
   rw [hr] at hmem
   cases hmem
 intro fuel
 induction fuel with
 | zero =>
  intro listed a w c β ok hsz hcnt S hl ht hh hcl
  have hno : false ∉ listed.toList := List.count_eq_zero.1 (Nat.le_zero.1 hcnt)
  have hall : ∀ j,j < ops.size → listed.getD j false = true := fun j hj => by
   have hj' : j < listed.size := by omega
   cases hv : listed[j] with
   | false => exact (hno (by rw [← hv]; simp)).elim
   | true => simp [hj',hv]
  refine ⟨?_,fin listed a w c β ok hall S hl ht hh⟩
  refine List.eq_nil_iff_forall_not_mem.2 fun j hj => ?_
  obtain ⟨h1,o,ho,_⟩ := mem_ready.1 hj
  have := (getD_lt h1).2
  rw [hall j (Array.getElem?_eq_some_iff.1 ho).1] at this
  cases this
 | succ fuel ih =>
  intro listed a w c β ok hsz hcnt S hl ht hh hcl
  refine ⟨fun hr => fin listed a w c β ok (none0 listed hsz hr) S hl ht hh,fun i hi => ?_⟩
  obtain ⟨hun,o,ho,hedge⟩ := mem_ready.1 hi
  obtain ⟨hlt,hun'⟩ := getD_lt hun
  have hin : i < ops.size := by omega
  have hnS : ¬ (listed.getD i false = true) := by rw [hun']; simp
  obtain ⟨p,hp⟩ : ∃ p,ps[i]? = some p := ⟨ps[i]'(by rw [H.len]; exact hin),List.getElem?_eq_getElem _⟩
  obtain ⟨hstep,hnext⟩ := H.step i o p ho hp
  have hw1 : ∀ b,Waits (zdS ops.toList []) i b → listed.getD b false = true := fun b hb => by
   obtain ⟨e,he,hbd,h1⟩ := (waits_spec ho).2 b hb
   rcases h1 with rfl | h1
   ·exact hedge e he hbd
   ·exact hcl e.on b (hedge e he hbd) h1
  have hw2 : ∀ k,listed.getD k false = true → Waits (zdS ops.toList []) k i → listed.getD i false = true := fun k hk hw => hcl k i hk hw
  have tread : ∀ t,Rt ops i t ∨ Wt ops i t → c.tv t = (s i).tv t := fun t h => H.tmp.read ht hin hnS hw1 hw2 h
  have hread : ∀ k,Rh ps i k ∨ Wh ps i k → zct c.heap k = zct (s i).heap k := fun k h => H.heap.read hh hin hnS hw1 hw2 h
  have hsz' : (listed.setIfInBounds i true).size = ops.size := by simpa using hsz
  have hcnt' : (listed.setIfInBounds i true).toList.count false ≤ fuel := by
   have hv : listed.toList[i]'(by simpa using hlt) = false := by
    simp [hlt] at hun
    simpa using hun
   have : 0 < listed.toList.count false := List.count_pos_iff.2 (by rw [← hv]; exact List.getElem_mem _)
   rw [Array.toList_setIfInBounds,List.count_set (h := by simpa using hlt),hv]
   rw [if_pos (by rfl),if_neg (by decide)]
   omega
  have hS' : ∀ k,(listed.setIfInBounds i true).getD k false = true ↔ listed.getD k false = true ∨ k = i := fun k => by
   by_cases hk : i = k
   ·subst hk
    simp [hlt]
   ·rw [getD_set_ne false hk]
    exact ⟨.inl,fun h => h.resolve_right fun e => hk e.symm⟩
  have hcl' : ∀ k b,(listed.setIfInBounds i true).getD k false = true → Waits (zdS ops.toList []) k b → (listed.setIfInBounds i true).getD b false = true := fun k b hk hw => by
   rw [hS'] at hk ⊢
   rcases hk with hk | rfl
   ·exact .inl (hcl k b hk hw)
   ·exact .inl (hw1 b hw)
  have hrt : ∀ t ∈ zgN ops o,c.tv t = (s i).tv t := fun t h => tread t (.inl ⟨o,ho,h⟩)
  have hlen : c.tmps.length = (s i).tmps.length := hl.trans (H.size i (Nat.le_of_lt hin)).symm
  have tcur : ∀ (c' : St),(∀ t,c'.tv t = (p.next c o).tv t) → Cur ops.size (Wt ops) (fun k => (s k).tv) (fun k => (listed.setIfInBounds i true).getD k false = true) c'.tv := by
   intro c' hc'
   obtain ⟨v,hv0,hv1,hv2⟩ := next_tv c o p
   obtain ⟨u,hu0,hu1,hu2⟩ := next_tv (s i) o p
   have huv : u = v := by
    cases hr : p.run with
    | none => rw [hv0 hr,hu0 hr]
    | some r => rw [hv1 r hr,hu1 r hr]
   have hdst : ∀ t,Wt ops i t ↔ o.dst = some t := fun t => by simp [Wt,zdQ,ho]
   refine H.tmp.step ht hnS hw2 (fun t hw => ?_) (fun t hw => ?_) hS' hin
   ·rw [hc',hv2,if_neg fun h => hw ((hdst t).2 h.1)]
   ·rw [hc',hnext,hv2,hu2,huv,hlen,tread t (.inr hw)]
  unfold wpOpIn
  simp only [ho]
  cases hrun : p.run with
  | none =>
   unfold zgV at hstep
   rw [hrun] at hstep
   rw [if_neg (by rw [unwanted_of S (gFalse_ext hrt hlen hstep.1)]; simp)]
   refine ⟨fun _ _ => trivial,?_⟩
   refine ih _ _ _ (c.put o.dst (.tup [])) β ok hsz' hcnt' (S.put o.dst ⟨[],rfl,trivial⟩) (by rw [St.put_length]; exact hl) (tcur _ fun t => by simp [Stp.next,hrun]) ?_ hcl'
   rw [St.put_heap]
   refine H.heap.step hh hnS hw2 (fun _ _ => rfl) (fun k hw => ?_) hS' hin
   obtain ⟨p',hp',hk⟩ := hw
   rw [hp] at hp'
   cases hp'
   rw [hstep.2] at hk
   cases hk
  | some r =>
   have hstep0 := hstep
   unfold zgV at hstep
   rw [hrun] at hstep
   obtain ⟨hg,hev,hvc,hwr,hnew⟩ := hstep
   rw [if_pos (wanted_of S (gTrue_ext hrt hg))]
   have hrdk : ∀ k,k ∈ p.ft.rd → zct c.heap k = zct (s i).heap k := fun k hk => hread k (.inl ⟨p,hp,hk⟩)
   have hwrk : ∀ k,k ∈ p.ft.wr → zct c.heap k = zct (s i).heap k := fun k hk => hread k (.inr ⟨p,hp,hk⟩)
   have hsub : Sub (restr p.ft.rd (zct (s i).heap)) (zct c.heap) := fun k e hk => by
    unfold restr at hk
    split at hk
    ·rename_i hc
     rw [hrdk k (by simpa using hc)]
     exact hk
    ·cases hk
   have hmono := evalOp_mono hsub hev fun k hk hnone => by
    have hk' : k ∈ p.ft.wr := by rw [hwr]; exact hk
    have h1 := List.all_eq_true.1 hnew k hk'
    simp only [Bool.or_eq_true,Option.isNone_iff_eq_none] at h1
    rcases h1 with h1 | h1
    ·unfold restr at hnone
     rw [if_pos h1] at hnone
     rw [hwrk k hk',hnone]
    ·rw [hwrk k hk',h1]
   refine opSound S.inv hT (fun x hx tv htv => ?_) hmono hvc fun v w' β' ok' D => ?_
   ·refine S.eval x tv ?_
    rw [← htv]
    cases x with
    | tmp t =>
     show some (c.tv t) = some ((s i).tv t)
     rw [hrt t (by simp only [zgN,List.mem_append,List.mem_filterMap]; exact .inl ⟨_,hx,rfl⟩)]
    | _ => rfl
   ·refine ih _ _ _ (c.after o r) β' ok' hsz' hcnt' (S.after D) ((St.put_length ..).trans hl) (tcur _ fun t => by simp [Stp.next,hrun]) ?_ hcl'
    refine H.heap.step hh hnS hw2 (fun k hw => ?_) (fun k hw => ?_) hS' hin
    ·rw [ziX,zga]
     intro hk
     exact hw ⟨p,hp,by rw [hwr]; exact wrOf_upd hk⟩
    ·simp only [hnext,Stp.next,hrun]
     rw [ziX,ziX]
     by_cases hk : k ∈ r.upd.map (·.1)
     ·exact updAll_mem hk
     ·rw [zga hk,zga hk]
      exact hread k (.inr hw)
theorem reg_of {ops : Array Oper} {σ : St} {s : Nat → St} {ps : List Stp} (ht : Trace P T ops σ ops.toList s ps) (ho : ordOK ops (zdS ops.toList []) (ps.map (·.ft)) = true) : Reg P T ops s ps := by
 obtain ⟨h0,hlen,hstep⟩ := ht
 have hlen' : ps.length = ops.size := by simpa using hlen
 have step : ∀ k o p,ops[k]? = some o → ps[k]? = some p → zgV P T ops (s k) o p ∧ s (k + 1) = p.next (s k) o := fun k o p h1 h2 => hstep k o p (by simpa using h1) h2
 have at_ : ∀ k,k < ops.size → ∃ o p m,ops[k]? = some o ∧ ps[k]? = some p ∧ (zdS ops.toList [])[k]? = some m := fun k hk => by
  obtain ⟨⟨m,hm⟩,_⟩ := waits_spec (ops := ops) (j := k) (o := ops[k]) (by simp [hk])
  exact ⟨ops[k],ps[k]'(by omega),m,by simp [hk],List.getElem?_eq_getElem _,hm⟩
 have spec : ∀ k y p m,ops[k]? = some y → ps[k]? = some p → (zdS ops.toList [])[k]? = some m → _ := fun k y p m h1 h2 h3 =>
  ordGo_spec ho k y p.ft m (by simpa using h1) (by simp [h2]) h3
 have noclash : ∀ i j,i < j → j < ops.size → ¬ Waits (zdS ops.toList []) j i → ∀ x y p q,ops[i]? = some x → ops[j]? = some y → ps[i]? = some p → ps[j]? = some q → clash ops x y p.ft q.ft = false := by
  intro i j hij hj hm x y p q hx hy hp hq
  obtain ⟨_,_,m,_,_,h3⟩ := at_ j hj
  rcases (spec j y q m hy hq h3).1 i x p.ft (by omega) (by simpa using hx) (by simp [hp]) with h | h
  ·exact (hm ⟨m,h3,h⟩).elim
  ·exact h
 have hits_false : ∀ {xs ys : List Nat},hits xs ys = false → ∀ k,k ∈ xs → k ∉ ys := fun h k hx hy => by
  have := List.any_eq_false.1 h k hx
  simp [hy] at this
 refine ⟨hlen',step,⟨fun i hi t hw => ?_,fun i j hij hj hm t => ?_⟩,⟨fun i hi k hw => ?_,fun i j hij hj hm k => ?_⟩,fun k o hk e he hb => ?_,?_⟩
 ·obtain ⟨o,p,m,h1,h2,h3⟩ := at_ i hi
  obtain ⟨v,_,_,hv⟩ := next_tv (s i) o p
  rw [(step i o p h1 h2).2,hv,if_neg fun h => hw (by simp [Wt,zdQ,h1,h.1])]
 ·obtain ⟨x,p,_,h1,h2,_⟩ := at_ i (by omega)
  obtain ⟨y,q,_,k1,k2,_⟩ := at_ j hj
  have hc := noclash i j hij hj hm x y p q h1 k1 h2 k2
  simp only [clash,Bool.or_eq_false_iff] at hc
  obtain ⟨⟨⟨⟨c1,c2⟩,_⟩,_⟩,_⟩ := hc
  refine ⟨fun hw => ?_,fun hr hw => ?_⟩
  ·have hx : x.dst = some t := by simpa [Wt,zdQ,h1] using hw
   rw [hx] at c1
   simp only [Bool.or_eq_false_iff] at c1
   refine ⟨fun hw' => ?_,fun hr => ?_⟩
   ·have hy : y.dst = some t := by simpa [Wt,zdQ,k1] using hw'
    simp [hy] at c1
   ·obtain ⟨y',hy',hr⟩ := hr
    rw [k1] at hy'
    cases hy'
    simp [hr] at c1
  ·have hy : y.dst = some t := by simpa [Wt,zdQ,k1] using hw
   obtain ⟨x',hx',hr⟩ := hr
   rw [h1] at hx'
   cases hx'
   rw [hy] at c2
   simp [hr] at c2
 ·obtain ⟨o,p,m,h1,h2,h3⟩ := at_ i hi
  obtain ⟨h4,h5⟩ := step i o p h1 h2
  rw [h5]
  unfold Stp.next
  unfold zgV at h4
  cases hr : p.run with
  | none => simp only; rw [St.put_heap]
  | some r =>
   rw [hr] at h4
   simp only
   rw [ziX,zga]
   intro hk
   exact hw ⟨p,h2,by rw [h4.2.2.2.1]; exact wrOf_upd hk⟩
 ·obtain ⟨x,p,_,h1,h2,_⟩ := at_ i (by omega)
  obtain ⟨y,q,_,k1,k2,_⟩ := at_ j hj
  have hc := noclash i j hij hj hm x y p q h1 k1 h2 k2
  simp only [clash,Bool.or_eq_false_iff] at hc
  obtain ⟨⟨⟨_,c1⟩,c2⟩,c3⟩ := hc
  refine ⟨?_,?_⟩
  ·rintro ⟨p',hp',hk⟩
   rw [h2] at hp'
   cases hp'
   refine ⟨?_,?_⟩
   ·rintro ⟨q',hq',hk'⟩
    rw [k2] at hq'
    cases hq'
    exact hits_false c1 k hk hk'
   ·rintro ⟨q',hq',hk'⟩
    rw [k2] at hq'
    cases hq'
    exact hits_false c2 k hk hk'
  ·rintro ⟨p',hp',hk⟩ ⟨q',hq',hk'⟩
   rw [h2] at hp'
   cases hp'
   rw [k2] at hq'
   cases hq'
   exact hits_false c3 k hk' hk
 ·obtain ⟨_,p,m,h1,h2,h3⟩ := at_ k (Array.getElem?_eq_some_iff.1 hk).1
  have := (spec k o p m hk h2 h3).2 e he hb
  omega
 ·intro k
  induction k with
  | zero => intro _; rfl
  | succ k ih =>
   intro hk
   obtain ⟨o,p,m,h1,h2,h3⟩ := at_ k (by omega)
   rw [(step k o p h1 h2).2,Stp.next_length]
   exact ih (by omega)
theorem regDraw_sound (hm : P.follows .mixedOrders = true) (hT : zck P T) {ops : Array Oper} {id : Nat} {K : Ev → Prop} (S : Sim π w0 own w a σ β ok)
  (hs : (drTree P T ops σ).sat K) : (Code.region id ops true).wpIn (Fw π.rd) 0 P (zeu π w0 own K) a w := by
 unfold drTree at hs
 obtain ⟨s,ps,htr,hK⟩ := drGo_trace ops.toList 0 [] σ [] _ K (fun k => by simp) (fun j x h => by cases h) hs
 rw [List.append_nil,List.reverse_reverse] at hK
 split at hK
 ·rename_i hord
  have H := reg_of htr hord
  have h0 : s 0 = σ := htr.1
  refine wpIn_region_any hm (reg_any (π := π) (w0 := w0) (own := own) hT H (fun a' w' β' ok' S' => ⟨.norm (s ops.size),β',ok',?_,rfl,S'⟩) ops.size _ a _ (s 0) β ok (by simp) ?_ ?_ rfl ?_ ?_ ?_)
  ·simp [List.count_replicate]
  ·rw [h0]
   exact S.world rfl rfl rfl rfl
  ·have := H.tmp.start
   intro l k hk hw
   refine this l k hk fun i hi hwi => ?_
   rw [← hw i hi hwi]
   simp [hi]
  ·have := H.heap.start
   intro l k hk hw
   refine this l k hk fun i hi hwi => ?_
   rw [← hw i hi hwi]
   simp [hi]
  ·intro i b hi
   exfalso
   rcases Nat.lt_or_ge i ops.size with h' | h'
   ·simp [h'] at hi
   ·rw [Array.getD_eq_getD_getElem?,Array.getElem?_eq_none (by simpa using h')] at hi
    cases hi
  ·have : ops.toList.length = ops.size := by simp
   rw [this] at hK
   exact hK
 ·exact hK.elim
end
end Go.Proofs.YtlfdidaeachpoaaGreat
namespace Go.Proofs.YtlfdidaeachpoaaGreat
open Go Go.RowKit
section
variable {P : Program} {T : zcl} {π : Pin} {w0 : World} {own : Nat → Prop}
theorem regTree_sound (hm : P.follows .mixedOrders = true) (hT : zck P T) {ops : Array Oper} {draw : Bool} {id : Nat} {σ : St} {K : Ev → Prop} {a : Act} {w : World} {β : Nat → Option Value} {ok : Nat → Prop} (S : Sim π w0 own w a σ β ok)
  (hs : (regTree P T ops draw σ).sat K) : (Code.region id ops draw).wpIn (Fw π.rd) 0 P (zeu π w0 own K) a w := by
 cases draw with
 | true => exact regDraw_sound hm hT S hs
 | false =>
  refine wpIn_region ?_
  rw [List.range_eq_range']
  have := ziB (π := π) (w0 := w0) (own := own) (Q := zeu π w0 own K) hT ops.toList 0 [] σ (fun σ' => .leaf (.norm σ')) K a w β ok
   (fun k => by simp) (fun j x h => by cases h) S hs fun σ' a' w' β' ok' S' h' => ⟨.norm σ',β',ok',h',rfl,S'⟩
  simpa using this
def All {α : Type} (p : α → Prop) : List α → Prop
 | [] => True
 | x :: l => p x ∧ All p l
end
def Weak (σ σ' : St) : Prop := ∀ (π : Pin) (w0 : World) (own : Nat → Prop) (w : World) (a : Act) (β : Nat → Option Value) (ok : Nat → Prop),Sim π w0 own w a σ β ok → ∃ β' ok',Sim π w0 own w a σ' β' ok'
theorem Weak.refl (σ : St) : Weak σ σ := fun _ _ _ _ _ β ok S => ⟨β,ok,S⟩
theorem Weak.trans {σ σ' σ'' : St} (h : Weak σ σ') (h' : Weak σ' σ'') : Weak σ σ'' := fun π w0 own w a β ok S =>
 let ⟨β',ok',S'⟩ := h π w0 own w a β ok S
 h' π w0 own w a β' ok' S'
def denLeaf : Ty → zcp → zcp
 | .sl t,.nil => .dat t []
 | _,l => l
def denLeaves : List Ty → List zcp → List zcp
 | t :: ts,l :: ls => denLeaf t l :: denLeaves ts ls
 | _,ls => ls
def denTV : List Ty → TV → TV
 | [t],.lf l => .lf (denLeaf t l)
 | ts,.agg cs => .agg (denLeaves ts cs)
 | _,v => v
def denTVs : List (List Ty) → List TV → List TV
 | ts :: tss,v :: vs => denTV ts v :: denTVs tss vs
 | _,vs => vs
section
variable {w : World} {ok : Nat → Prop} {β : Nat → Option Value}
theorem denLeaf_rep {t : Ty} {l : zcp} {v : Value} (h : zdh w ok β v l) : zdh w ok β v (denLeaf t l) := by
 unfold denLeaf
 split
 ·rename_i t
  obtain rfl : v = .slice none 0 0 := h
  exact ⟨none,0,rfl,Nat.le_refl _,Nat.zero_le _,fun _ => rfl,fun i hi => absurd hi (Nat.not_lt_zero i)⟩
 ·exact h
theorem ziM : ∀ {ts : List Ty} {ls : List zcp} {vs : List Value},zcA w ok β vs ls → zcA w ok β vs (denLeaves ts ls)
 | [],_,_,h => h
 | _ :: _,[],_,h => h
 | t :: ts,l :: ls,v :: vs,h => ⟨denLeaf_rep h.1,ziM h.2⟩
 | _ :: _,_ :: _,[],h => h
theorem denTV_rep {ts : List Ty} {t : TV} {v : Value} (h : zcE w ok β v t) : zcE w ok β v (denTV ts t) := by
 unfold denTV
 split
 ·exact denLeaf_rep h
 ·obtain ⟨vs,h1,h2⟩ := h
  exact ⟨vs,h1,ziM h2⟩
 ·exact h
theorem denTVs_rep : ∀ {tss : List (List Ty)} {ts : List TV} {vs : List Value},zdn w ok β vs ts → zdn w ok β vs (denTVs tss ts)
 | [],_,_,h => h
 | _ :: _,[],_,h => h
 | ts :: tss,t :: r,v :: vs,h => ⟨denTV_rep h.1,denTVs_rep h.2⟩
 | _ :: _,_ :: _,[],h => h
end
inductive WOp where
 | keep (ts : List Nat)
 | heap (ids : List Nat)
 | nilRow (t id : Nat) (e : TypeId) (ty : Ty)
 | nilDat (t : Nat) (ty : Ty)
 | toDat (t : Nat)
 | cellDat (id : Nat)
 | ren (t id : Nat)
 | cellRow (id off rid : Nat) (e : TypeId) (ty : Ty)
 | cellRen (id off rid : Nat)
 | cellDen (id : Nat) (tys : List Ty)
 | den (t : Nat) (tys : List Ty)
 | gc
def keepT (ts : List Nat) : Nat → List TV → List TV
 | _,[] => []
 | i,v :: vs => (if ts.contains i then v else .lf .undef) :: keepT ts (i + 1) vs
def zgK (g : Nat → Nat) : List (Nat × Ent) → List (Nat × Ent)
 | [] => []
 | x :: l => (g x.1,⟨x.2.w,zdw g x.2.b⟩) :: zgK g l
def zds (id id' : Nat) (j : Nat) : Nat := if j = id then id' else j
def gcIds (σ : St) : List Nat := zdW (zct σ.heap) 5 (zfw ((σ.heap.map (·.1)).filter (fun id => decide (zco ≤ id)) ++ σ.tmps.flatMap tvIds) [])
def gcHeap (l : List (Nat × Ent)) : List Nat → List (Nat × Ent)
 | [] => []
 | id :: ids => match zct l id with
  | some e => (id,e) :: gcHeap l ids
  | none => gcHeap l ids
theorem hget_gc (l : List (Nat × Ent)) : ∀ ids id,zct (gcHeap l ids) id = if ids.contains id then zct l id else none
 | [],_ => rfl
 | i :: ids,id => by
  unfold gcHeap
  have ih := hget_gc l ids id
  split
  ·rename_i e he
   simp only [zct]
   by_cases h : i = id
   ·subst h
    simp [he]
   ·rw [if_neg h,ih]
    have : (id == i) = false := by simpa using fun e => h e.symm
    rw [List.contains_cons,this,Bool.false_or]
  ·rename_i hn
   rw [ih]
   by_cases h : i = id
   ·subst h
    simp [hn]
   ·have : (id == i) = false := by simpa using fun e => h e.symm
    rw [List.contains_cons,this,Bool.false_or]
def WOp.go (σ : St) : WOp → Option St
 | .keep ts => some { σ with tmps := keepT ts 0 σ.tmps }
 | .heap ids => if σ.tmps.all (fun v => (tvIds v).all ids.contains) && (σ.heap.filter fun x => ids.contains x.1).all (fun x => (zey x.2.b).all ids.contains) then
   some { σ with heap := σ.heap.filter fun x => ids.contains x.1 } else none
 | .nilRow t id e ty => match σ.tv t with
  | .lf .nil => match zct σ.heap id with
   | none => if id < zco then some ⟨σ.tmps.set t (.lf (.ref id)),hset id ⟨true,.arr e ty []⟩ σ.heap⟩ else none
   | some _ => none
  | _ => some σ
 | .nilDat t ty => match σ.tv t with
  | .lf .nil => some (σ.put (some t) (.lf (.dat ty [])))
  | _ => some σ
 | .toDat t => match zdV (zct σ.heap) (σ.tv t) with
  | some (v',ids) => some ⟨σ.tmps.set t v',hupd σ.heap (freezes (zct σ.heap) ids)⟩
  | none => some σ
 | .cellDat id => match zct σ.heap id with
  | some ⟨true,.cells ls⟩ => match zdt (zct σ.heap) ls with
   | some (ls',ids) => if ids.contains id then none else some { σ with heap := hset id ⟨true,.cells ls'⟩ (hupd σ.heap (freezes (zct σ.heap) ids)) }
   | none => none
  | _ => some σ
 | .ren t id' => match σ.tv t with
  | .lf (.ref id) => match zct σ.heap id,zct σ.heap id' with
   | some _,none => if id' < zco then some ⟨σ.tmps.map (renTV (zds id id')),zgK (zds id id') σ.heap⟩ else none
   | _,_ => if id = id' then some σ else none
  | _ => some σ
 | .cellRow id off rid e ty => match zct σ.heap id with
  | some ⟨true,.cells ls⟩ => match ls[off]? with
   | some .nil => match zct σ.heap rid with
    | none => if rid < zco ∧ rid ≠ id then some { σ with heap := hset id ⟨true,.cells (ls.set off (.ref rid))⟩ (hset rid ⟨true,.arr e ty []⟩ σ.heap) } else none
    | some _ => none
   | _ => some σ
  | _ => some σ
 | .cellRen id off rid => match zct σ.heap id with
  | some ⟨true,.cells ls⟩ => match ls[off]? with
   | some (.ref r) => match zct σ.heap r,zct σ.heap rid with
    | some _,none => if rid < zco then some ⟨σ.tmps.map (renTV (zds r rid)),zgK (zds r rid) σ.heap⟩ else none
    | _,_ => if r = rid then some σ else none
   | _ => some σ
  | _ => some σ
 | .cellDen id tys => match zct σ.heap id with
  | some ⟨true,.cells ls⟩ => some { σ with heap := hset id ⟨true,.cells (denLeaves tys ls)⟩ σ.heap }
  | _ => some σ
 | .den t tys => some (σ.put (some t) (denTV tys (σ.tv t)))
 | .gc =>
  let ids := gcIds σ
  if σ.tmps.all (fun v => (tvIds v).all ids.contains) && (σ.heap.filter fun x => ids.contains x.1).all (fun x => (zey x.2.b).all ids.contains) then
   some { σ with heap := gcHeap σ.heap ids } else none
def weaken : List WOp → St → Option St
 | [],σ => some σ
 | x :: l,σ => match x.go σ with
  | some σ' => weaken l σ'
  | none => none
theorem keepT_get (ts : List Nat) : ∀ (l : List TV) (i t : Nat),(keepT ts i l).getD t (.lf .undef) = if ts.contains (i + t) then l.getD t (.lf .undef) else .lf .undef
 | [],i,t => by simp [keepT]
 | v :: l,i,0 => by simp [keepT]
 | v :: l,i,t + 1 => by
  have := keepT_get ts l (i + 1) t
  rw [show i + 1 + t = i + (t + 1) by omega] at this
  simpa [keepT] using this
theorem keepT_length (ts : List Nat) : ∀ (l : List TV) (i : Nat),(keepT ts i l).length = l.length
 | [],_ => rfl
 | _ :: l,i => by simp [keepT,keepT_length ts l]
theorem zgS (ids : List Nat) : ∀ (l : List (Nat × Ent)) (id : Nat),zct (l.filter fun x => ids.contains x.1) id = if ids.contains id then zct l id else none
 | [],id => by simp [zct]
 | x :: l,id => by
  simp only [List.filter_cons]
  by_cases hx : ids.contains x.1 = true
  ·rw [if_pos hx]
   simp only [zct]
   by_cases h : x.1 = id
   ·rw [if_pos h,if_pos h,if_pos (h ▸ hx)]
   ·rw [if_neg h,if_neg h]; exact zgS ids l id
  ·rw [if_neg hx,zgS ids l id]
   simp only [zct]
   by_cases h : x.1 = id
   ·rw [if_pos h,if_neg (by rw [← h]; exact hx),if_neg (by rw [← h]; exact hx)]
   ·rw [if_neg h]
section
variable {π : Pin} {w0 : World} {own : Nat → Prop} {w : World} {β β2 : Nat → Option Value} {ok : Nat → Prop} {a : Act} {σ : St}
theorem renLeaf_id (l : zcp) : zdB (fun j => j) l = l := by cases l <;> simp [zdB]
theorem renLeaf_id' : zdB (fun j => j) = fun l => l := funext renLeaf_id
theorem zcA.sub {vs : List Value} {ls : List zcp} (hg : ∀ id ∈ ls.flatMap zdb,∀ u,β id = some u → β2 id = some u) (h : zcA w ok β vs ls) : zcA w ok β2 vs ls := by
 have := zcA.ren (g := fun j => j) hg h
 rw [renLeaf_id'] at this
 simpa using this
theorem RepC.sub {v : Value} : ∀ {c : Bool × List zcp},(∀ id ∈ c.2.flatMap zdb,∀ u,β id = some u → β2 id = some u) → RepC w ok β v c → RepC w ok β2 v c
 | (true,_),hg,⟨vs,e,h⟩ => ⟨vs,e,h.sub hg⟩
 | (false,_),hg,h => zcA.sub (vs := [v]) hg h
theorem zdN.sub : ∀ {vs : List Value} {cs : List (Bool × List zcp)},(∀ id ∈ (cs.flatMap (·.2)).flatMap zdb,∀ u,β id = some u → β2 id = some u) → zdN w ok β vs cs → zdN w ok β2 vs cs
 | [],[],_,_ => trivial
 | _ :: _,c :: _,hg,⟨h1,h2⟩ => ⟨h1.sub fun id hid => hg id (by rw [List.flatMap_cons,List.flatMap_append]; exact List.mem_append_left _ hid),zdN.sub (fun id hid => hg id (by rw [List.flatMap_cons,List.flatMap_append]; exact List.mem_append_right _ hid)) h2⟩
 | [],_ :: _,_,h => h.elim
 | _ :: _,[],_,h => h.elim
theorem zcE.sub {v : Value} {t : TV} (hg : ∀ id ∈ tvIds t,∀ u,β id = some u → β2 id = some u) (h : zcE w ok β v t) : zcE w ok β2 v t := by
 cases t with
 | lf l => have := zdh.ren (g := fun j => j) hg h; rwa [renLeaf_id] at this
 | agg cs => obtain ⟨vs,e,h⟩ := h; exact ⟨vs,e,h.sub hg⟩
 | tup cs => obtain ⟨vs,e,h⟩ := h; exact ⟨vs,e,h.sub hg⟩
 | rptr cs => obtain ⟨b,o,us,e,hb,hm,h⟩ := h; exact ⟨b,o,us,e,hb,hm,h.sub hg⟩
 | eptr id i off sz => obtain ⟨b,n,cap,h1,h2,h3⟩ := h; exact ⟨b,n,cap,hg id (List.mem_singleton.2 rfl) _ h1,h2,h3⟩
theorem zdo.sub {id : Nat} {b : EB} (hg : ∀ j ∈ zey b,∀ u,β j = some u → β2 j = some u) (hid : ∀ u,β id = some u → β2 id = some u) (h : zdo w ok β id b) : zdo w ok β2 id b := by
 cases b with
 | dead => trivial
 | cells ls => obtain ⟨q,cs,e,h1,h2,h3⟩ := h; exact ⟨q,cs,e,hid _ h1,h2,h3.sub hg⟩
 | arr e t xs => obtain ⟨v,us,h1,h2,h3⟩ := h; exact ⟨v,us,hid _ h1,h2,h3⟩
 | raw e us o =>
  obtain ⟨v,vs,h1,h2,h3⟩ := h
  match o,hg,h3 with
  | none,_,h3 => exact ⟨v,vs,hid _ h1,h2,h3⟩
  | some (i,l),hg,⟨u,h3,h4,h5⟩ =>
   have h6 := zdh.ren (g := fun j => j) hg h5
   rw [renLeaf_id] at h6
   exact ⟨v,vs,hid _ h1,h2,u,h3,h4,h6⟩
theorem hget_mem : ∀ {l : List (Nat × Ent)} {id : Nat} {e : Ent},zct l id = some e → (id,e) ∈ l
 | x :: l,id,e,h => by
  unfold zct at h
  split at h
  ·rename_i hx
   cases h
   rw [← hx]
   exact List.mem_cons_self ..
  ·exact List.mem_cons_of_mem _ (hget_mem h)
 | [],_,_,h => by cases h
theorem tv_mem_or (σ : St) (t : Nat) : σ.tv t ∈ σ.tmps ∨ σ.tv t = .lf .undef := by
 unfold St.tv
 rw [List.getD]
 cases h : σ.tmps[t]? with
 | none => exact .inr rfl
 | some v => exact .inl (List.mem_of_getElem? h)
theorem weak_heap {ids : List Nat} (h1 : σ.tmps.all (fun v => (tvIds v).all ids.contains) = true) (h2 : (σ.heap.filter fun x => ids.contains x.1).all (fun x => (zey x.2.b).all ids.contains) = true)
  (S : Sim π w0 own w a σ β ok) : Sim π w0 own w a { σ with heap := σ.heap.filter fun x => ids.contains x.1 } (fun j => if ids.contains j then β j else none) ok := by
 have hsub : ∀ j u,(fun j => if ids.contains j then β j else none) j = some u → β j = some u ∧ ids.contains j = true := fun j u hj => by
  by_cases h : ids.contains j = true
  ·simp only [h,if_true] at hj; exact ⟨hj,h⟩
  ·simp only [h,Bool.false_eq_true,if_false] at hj; cases hj
 have hto : ∀ j,ids.contains j = true → ∀ u,β j = some u → (fun j => if ids.contains j then β j else none) j = some u := fun j h u hu => by
  simp only [h,if_true]; exact hu
 have hlk : ∀ j e,zct (σ.heap.filter fun x => ids.contains x.1) j = some e → zct σ.heap j = some e ∧ ids.contains j = true := fun j e hj => by
  rw [zgS] at hj
  by_cases h : ids.contains j = true
  ·rw [if_pos h] at hj; exact ⟨hj,h⟩
  ·rw [if_neg h] at hj; cases hj
 have I := S.inv
 refine ⟨⟨I.fr,I.okLt,?_,?_,?_,?_,?_,?_⟩,fun t => ?_,S.size,S.def0,fun id v h3 h4 => S.pin id v h3 (hsub id v h4).1,S.okB⟩
 ·intro j u hj
  obtain ⟨h3,h4⟩ := hsub j u hj
  obtain ⟨e,he⟩ := I.dom j u h3
  exact ⟨e,by show zct _ j = _; rw [zgS,if_pos h4]; exact he⟩
 ·intro j e hj
  obtain ⟨h3,h4⟩ := hlk j e hj
  refine (I.ent j e h3).sub (fun i hi => hto i ?_) (hto j h4)
  have := List.all_eq_true.1 h2 (j,e) (hget_mem hj)
  exact List.all_eq_true.1 this i hi
 ·intro j e hj hw; exact I.dw j e (hlk j e hj).1 hw
 ·intro j e u g hj hw hu hg; exact I.wr j e u g (hlk j e hj).1 hw (hsub j u hu).1 hg
 ·intro j e u g hj hw hl hu hg; exact I.ro j e u g (hlk j e hj).1 hw hl (hsub j u hu).1 hg
 ·intro i e u j e' u' g hij hi hj hw hl hu hu' hg hg'
  exact I.sep i e u j e' u' g hij (hlk i e hi).1 (hlk j e' hj).1 hw hl (hsub i u hu).1 (hsub j u' hu').1 hg hg'
 ·refine (S.tmps t).sub fun i hi => hto i ?_
  rcases tv_mem_or σ t with h | h
  ·exact List.all_eq_true.1 (List.all_eq_true.1 h1 _ h) i hi
  ·have hi' : i ∈ tvIds (σ.tv t) := hi
   rw [h] at hi'
   cases hi'
theorem hget_ren {id id' : Nat} (hne : id ≠ id') : ∀ {l : List (Nat × Ent)},zct l id' = none → ∀ k,zct (zgK (zds id id') l) k = (if k = id' then (zct l id).map fun e => ⟨e.w,zdw (zds id id') e.b⟩ else if k = id then none else (zct l k).map fun e => ⟨e.w,zdw (zds id id') e.b⟩)
 | [],_,k => by simp [zgK,zct]
 | x :: l,hn,k => by
  unfold zct at hn
  split at hn
  ·cases hn
  rename_i hx
  have ih := hget_ren hne hn k
  simp only [zgK,zct]
  by_cases h1 : x.1 = id
  ·have : zds id id' x.1 = id' := by simp [zds,h1]
   rw [this]
   by_cases hk : k = id'
   ·subst hk
    simp [h1]
   ·rw [if_neg fun e => hk e.symm,ih,if_neg hk,if_neg hk]
    by_cases hk2 : k = id
    ·simp [hk2]
    ·rw [if_neg hk2,if_neg hk2,if_neg fun e => hk2 (e.symm.trans h1)]
  ·have : zds id id' x.1 = x.1 := by simp [zds,h1]
   rw [this]
   by_cases hk : x.1 = k
   ·have h2 : k ≠ id' := fun e => hx (hk.trans e)
    have h3 : k ≠ id := fun e => h1 (hk.trans e)
    simp [hk,h2,h3]
   ·rw [if_neg hk,ih]
    by_cases hk1 : k = id'
    ·simp [hk1,h1]
    ·by_cases hk2 : k = id
     ·simp [hk2,hne]
     ·simp [hk1,hk2,hk]
theorem weak_ren {id id' : Nat} (hpar : id' < zco) (hne : id ≠ id') {e0 : Ent} (h1 : zct σ.heap id = some e0) (h2 : zct σ.heap id' = none) (S : Sim π w0 own w a σ β ok) :
  Sim π w0 own w a ⟨σ.tmps.map (renTV (zds id id')),zgK (zds id id') σ.heap⟩ (fun k => if k = id' then β id else if k = id then none else β k) ok := by
 have I := S.inv
 have hn : β id' = none := by
  cases hb : β id' with
  | none => rfl
  | some u => obtain ⟨e,he⟩ := I.dom id' u hb; rw [h2] at he; cases he
 have hto : ∀ j u,β j = some u → (fun k => if k = id' then β id else if k = id then none else β k) (zds id id' j) = some u := fun j u hj => by
  unfold zds
  by_cases h : j = id
  ·simp [h]; rw [← h]; exact hj
  ·have : j ≠ id' := fun e => by rw [e,hn] at hj; cases hj
   simp [h,this,hj]
 have hfrom : ∀ k u,(fun k => if k = id' then β id else if k = id then none else β k) k = some u → ∃ j,zds id id' j = k ∧ β j = some u ∧ (k = id' → j = id) ∧ (k ≠ id' → j = k) := fun k u hk => by
  simp only at hk
  by_cases h : k = id'
  ·rw [if_pos h] at hk
   exact ⟨id,by simp [zds,h],hk,fun _ => rfl,fun h' => absurd h h'⟩
  ·rw [if_neg h] at hk
   by_cases h' : k = id
   ·rw [if_pos h'] at hk; cases hk
   ·rw [if_neg h'] at hk
    exact ⟨k,by simp [zds,h'],hk,fun e => absurd e h,fun _ => rfl⟩
 have hlk : ∀ k e,zct (zgK (zds id id') σ.heap) k = some e → ∃ j e1,zds id id' j = k ∧ zct σ.heap j = some e1 ∧ e = ⟨e1.w,zdw (zds id id') e1.b⟩ ∧ (k = id' → j = id) ∧ (k ≠ id' → j = k) := fun k e hk => by
  rw [hget_ren hne h2] at hk
  by_cases h : k = id'
  ·rw [if_pos h] at hk
   simp only [Option.map_eq_some_iff] at hk
   obtain ⟨e1,h3,rfl⟩ := hk
   exact ⟨id,e1,by simp [zds,h],h3,rfl,fun _ => rfl,fun h' => absurd h h'⟩
  ·rw [if_neg h] at hk
   by_cases h' : k = id
   ·rw [if_pos h'] at hk; cases hk
   ·rw [if_neg h'] at hk
    simp only [Option.map_eq_some_iff] at hk
    obtain ⟨e1,h3,rfl⟩ := hk
    exact ⟨k,e1,by simp [zds,h'],h3,rfl,fun e => absurd e h,fun _ => rfl⟩
 have hsame : ∀ {k j j' : Nat},(k = id' → j = id) → (k ≠ id' → j = k) → (k = id' → j' = id) → (k ≠ id' → j' = k) → j = j' := fun {k j j'} a b c d => by
  by_cases h : k = id'
  ·rw [a h,c h]
  ·rw [b h,d h]
 refine ⟨⟨I.fr,I.okLt,?_,?_,?_,?_,?_,?_⟩,fun t => ?_,by simpa using S.size,S.def0,fun k v h3 h4 => ?_,S.okB⟩
 rotate_right
 ·obtain ⟨j,_,hj,_,b1⟩ := hfrom k v h4
  have := b1 (by omega)
  subst this
  exact S.pin j v h3 hj
 ·intro k u hk
  obtain ⟨j,hjk,hj,a1,b1⟩ := hfrom k u hk
  obtain ⟨e,he⟩ := I.dom j u hj
  show ∃ e,zct (zgK (zds id id') σ.heap) k = some e
  rw [hget_ren hne h2]
  by_cases h : k = id'
  ·rw [if_pos h,h1]; exact ⟨_,rfl⟩
  ·have hjk' := b1 h
   subst hjk'
   have : j ≠ id := fun e => h (by rw [← hjk,e]; simp [zds])
   rw [if_neg h,if_neg this,he]
   exact ⟨_,rfl⟩
 ·intro k e hk
  obtain ⟨j,e1,rfl,hj,rfl,_,_⟩ := hlk k e hk
  exact (I.ent j e1 hj).ren (fun i _ => hto i) (hto j)
 ·intro k e hk hw
  obtain ⟨j,e1,rfl,hj,rfl,_,_⟩ := hlk k e hk
  rw [zeH (q' := e1.w)]
  exact I.dw j e1 hj hw
 ·intro k e u g hk hw hu hg
  obtain ⟨j,e1,_,hj,rfl,a1,b1⟩ := hlk k e hk
  obtain ⟨j',_,hj',a2,b2⟩ := hfrom k u hu
  have := hsame a1 b1 a2 b2
  subst this
  exact I.wr j e1 u g hj hw hj' hg
 ·intro k e u g hk hw hl hu hg
  obtain ⟨j,e1,_,hj,rfl,a1,b1⟩ := hlk k e hk
  obtain ⟨j',_,hj',a2,b2⟩ := hfrom k u hu
  have := hsame a1 b1 a2 b2
  subst this
  rw [zeH (q' := e1.w)] at hl
  exact I.ro j e1 u g hj hw hl hj' hg
 ·intro k1 e u k2 e' u' g hij hk1 hk2 hw hl hu hu' hg hg'
  obtain ⟨j,e1,r1,hj,rfl,a1,b1⟩ := hlk k1 e hk1
  obtain ⟨j',_,hj',a2,b2⟩ := hfrom k1 u hu
  have e3 := hsame a1 b1 a2 b2
  subst e3
  obtain ⟨i,e2,r2,hi,rfl,a3,b3⟩ := hlk k2 e' hk2
  obtain ⟨i',_,hi',a4,b4⟩ := hfrom k2 u' hu'
  have e4 := hsame a3 b3 a4 b4
  subst e4
  rw [zeH (q' := e2.w)] at hl
  exact I.sep j e1 u i e2 u' g (fun e => hij (by rw [← r1,← r2,e])) hj hi hw hl hj' hi' hg hg'
 ·have := (S.tmps t).ren (β2 := fun k => if k = id' then β id else if k = id then none else β k) (g := zds id id') hto
  show zcE w ok _ _ ((σ.tmps.map (renTV (zds id id'))).getD t (.lf .undef))
  unfold St.tv at this
  simp only [List.getD,List.getElem?_map] at this ⊢
  cases h : σ.tmps[t]? with
  | none => exact trivial
  | some v => rw [h] at this; exact this
theorem gc_weak {σ : St} {π : Pin} {w0 : World} {own : Nat → Prop} {w : World} {a : Act} {β : Nat → Option Value} {ok : Nat → Prop} {ids : List Nat}
  (hc : (σ.tmps.all (fun v => (tvIds v).all ids.contains) && (σ.heap.filter fun x => ids.contains x.1).all (fun x => (zey x.2.b).all ids.contains)) = true) (S : Sim π w0 own w a σ β ok) :
  ∃ β' ok',Sim π w0 own w a { σ with heap := gcHeap σ.heap ids } β' ok' := by
 rw [Bool.and_eq_true] at hc
 have S' := weak_heap hc.1 hc.2 S
 have h : zct (gcHeap σ.heap ids) = zct (σ.heap.filter fun x => ids.contains x.1) := funext fun id => by rw [hget_gc,zgS]
 have I := S'.inv
 rw [← h] at I
 exact ⟨_,ok,⟨I,S'.tmps,S'.size,S'.def0,S'.pin,S'.okB⟩⟩
theorem zcA.setL {w : World} {ok : Nat → Prop} {β : Nat → Option Value} {l' : zcp} : ∀ {vs : List Value} {ls : List zcp} {n : Nat},zcA w ok β vs ls → (∀ v,vs[n]? = some v → zdh w ok β v l') → zcA w ok β vs (ls.set n l')
 | [],[],_,h,_ => h
 | v :: _,_ :: _,0,h,h' => ⟨h' v rfl,h.2⟩
 | _ :: _,_ :: _,n + 1,h,h' => ⟨h.1,zcA.setL (n := n) h.2 h'⟩
 | [],_ :: _,_,h,_ => h.elim
 | _ :: _,[],_,h,_ => h.elim
theorem cells_weak {σ : St} {π : Pin} {w0 : World} {own : Nat → Prop} {w : World} {a : Act} {β : Nat → Option Value} {ok : Nat → Prop} {id : Nat} {ls ls' : List zcp}
  (hid : zct σ.heap id = some ⟨true,.cells ls⟩) (hr : ∀ cs : List Value,zcA w ok β cs ls → zcA w ok β cs ls') (S : Sim π w0 own w a σ β ok) :
  Sim π w0 own w a { σ with heap := hset id ⟨true,.cells ls'⟩ σ.heap } β ok := by
 obtain ⟨g,cs,et,h1,h2,h3⟩ := S.inv.ent id _ hid
 have hm := S.inv.mine hid rfl h1
 have hβe : (fun j => if j = id then some (Value.pointer (some ⟨g,0,none⟩)) else β j) = β := by
  funext j
  by_cases h : j = id
  ·subst h; simp [h1]
  ·simp [h]
 have := S.inv.put id (.cells ls') (.pointer (some ⟨g,0,none⟩)) ok rfl rfl rfl (Nat.le_refl _) (fun _ _ _ => rfl) (fun _ h => h) (fun _ h => .inl h) (.inr h1) hm rfl (by
  rw [hβe]
  exact ⟨g,cs,et,h1,h2,hr _ h3⟩)
 rw [hβe] at this
 refine ⟨?_,S.tmps,S.size,S.def0,S.pin,S.okB⟩
 show Inv w0 own w β ok (zct (hset id ⟨true,.cells ls'⟩ σ.heap))
 rw [zgz]
 exact this
theorem row_weak {σ : St} {π : Pin} {w0 : World} {own : Nat → Prop} {w : World} {a : Act} {β : Nat → Option Value} {ok : Nat → Prop} {rid : Nat} {et : TypeId} {ty : Ty}
  (hid : zct σ.heap rid = none) (hpar : rid < zco) (S : Sim π w0 own w a σ β ok) :
  Sim π w0 own w a { σ with heap := hset rid ⟨true,.arr et ty []⟩ σ.heap } (fun j => if j = rid then some (.slice none 0 0) else β j) ok := by
 have hβ : β rid = none := by
  cases hb : β rid with
  | none => rfl
  | some u => obtain ⟨e,he⟩ := S.inv.dom rid u hb; rw [hid] at he; cases he
 have hββ := zfF S.inv rid hid (.slice none 0 0)
 refine ⟨?_,fun t' => (S.tmps t').mono (fun _ _ => rfl) (fun _ h => h) hββ,S.size,S.def0,fun j v h3 h4 => S.pin j v h3 (zgO hpar j v h3 h4),S.okB⟩
 show Inv w0 own w _ ok (zct (hset rid ⟨true,.arr et ty []⟩ σ.heap))
 rw [zgz]
 refine S.inv.put rid (.arr et ty []) (.slice none 0 0) ok rfl rfl rfl (Nat.le_refl _) (fun _ _ _ => rfl) (fun _ h => h) (fun _ h => .inl h) (.inl hβ) (fun g hg => by cases hg) rfl ?_
 exact ⟨.slice none 0 0,[],by simp,World.ownsRow_nil w 0 et ty.size,fun i hi => absurd hi (Nat.not_lt_zero i)⟩
theorem cellRow_weak {σ : St} {π : Pin} {w0 : World} {own : Nat → Prop} {w : World} {a : Act} {β : Nat → Option Value} {ok : Nat → Prop} {id off rid : Nat} {et : TypeId} {ty : Ty} {ls : List zcp}
  (hid : zct σ.heap id = some ⟨true,.cells ls⟩) (hl : ls[off]? = some .nil) (hr : zct σ.heap rid = none) (hpar : rid < zco) (hne : rid ≠ id) (S : Sim π w0 own w a σ β ok) :
  ∃ β' ok',Sim π w0 own w a { σ with heap := hset id ⟨true,.cells (ls.set off (.ref rid))⟩ (hset rid ⟨true,.arr et ty []⟩ σ.heap) } β' ok' := by
 have S1 := row_weak (et := et) (ty := ty) hr hpar S
 have hid1 : zct (hset rid ⟨true,.arr et ty []⟩ σ.heap) id = some ⟨true,.cells ls⟩ := by
  rw [zgz]
  simp only [zcR]
  rw [if_neg fun e => hne e.symm]
  exact hid
 refine ⟨_,_,cells_weak (σ := { σ with heap := hset rid ⟨true,.arr et ty []⟩ σ.heap }) hid1 (fun cs h => h.setL fun v hv => ?_) S1⟩
 obtain ⟨v',hv',hr'⟩ := h.get hl
 rw [hv] at hv'
 cases hv'
 exact ⟨by simp [show v = Value.slice none 0 0 from hr'],none,0,0,hr'⟩
theorem weak_go {x : WOp} {σ σ' : St} (e : x.go σ = some σ') : Weak σ σ' := by
 intro π w0 own w a β ok S
 cases x with
 | keep ts =>
  cases e
  refine ⟨β,ok,S.inv,fun t => ?_,by rw [S.size]; exact (keepT_length ..).symm,S.def0,S.pin,S.okB⟩
  show zcE w ok β _ ((keepT ts 0 σ.tmps).getD t (.lf .undef))
  rw [keepT_get]
  split
  ·exact S.tmps t
  ·trivial
 | heap ids =>
  simp only [WOp.go] at e
  split at e
  ·rename_i hc
   cases e
   simp only [Bool.and_eq_true] at hc
   exact ⟨_,ok,weak_heap hc.1 hc.2 S⟩
  ·cases e
 | nilRow t id et ty =>
  simp only [WOp.go] at e
  split at e
  ·rename_i htv
   split at e
   ·rename_i hid
    split at e
    case isFalse => cases e
    rename_i hpar
    cases e
    have hv : a.tmps.getD t undef = .slice none 0 0 := by have := S.tmps t; rw [htv] at this; exact this
    have hlt : t < σ.tmps.length := by
     apply Decidable.byContradiction
     intro h
     unfold St.tv at htv
     rw [List.getD,List.getElem?_eq_none (Nat.le_of_not_lt h)] at htv
     cases htv
    have hβ : β id = none := by
     cases hb : β id with
     | none => rfl
     | some u => obtain ⟨e,he⟩ := S.inv.dom id u hb; rw [hid] at he; cases he
    have hββ := zfF S.inv id hid (.slice none 0 0)
    refine ⟨fun j => if j = id then some (.slice none 0 0) else β j,ok,⟨?_,fun t' => ?_,by simpa using S.size,S.def0,fun j v h3 h4 => S.pin j v h3 (zgO hpar j v h3 h4),S.okB⟩⟩
    ·show Inv w0 own w _ ok (zct (hset id ⟨true,.arr et ty []⟩ σ.heap))
     rw [zgz]
     refine S.inv.put id (.arr et ty []) (.slice none 0 0) ok rfl rfl rfl (Nat.le_refl _) (fun _ _ _ => rfl) (fun _ h => h) (fun _ h => .inl h) (.inl hβ) (fun g hg => by cases hg) rfl ?_
     exact ⟨.slice none 0 0,[],by simp,World.ownsRow_nil w 0 et ty.size,fun i hi => absurd hi (Nat.not_lt_zero i)⟩
    ·show zcE w ok _ _ ((σ.put (some t) (.lf (.ref id))).tv t')
     rw [St.tv_put]
     by_cases h : t = t' ∧ t' < σ.tmps.length
     ·rw [if_pos h,← h.1,hv]
      exact ⟨by simp,_,_,_,rfl⟩
     ·rw [if_neg h]
      exact (S.tmps t').mono (fun _ _ => rfl) (fun _ h => h) hββ
   ·cases e
  ·cases e; exact ⟨β,ok,S⟩
 | nilDat t ty =>
  simp only [WOp.go] at e
  split at e
  ·rename_i htv
   cases e
   have hv : a.tmps.getD t undef = .slice none 0 0 := by have := S.tmps t; rw [htv] at this; exact this
   refine ⟨β,ok,S.name t ?_⟩
   rw [hv]
   exact ⟨none,0,rfl,Nat.le_refl _,Nat.zero_le _,fun _ => rfl,fun i hi => absurd hi (Nat.not_lt_zero i)⟩
  ·cases e; exact ⟨β,ok,S⟩
 | toDat t =>
  simp only [WOp.go] at e
  split at e
  ·rename_i v' ids hres
   cases e
   obtain ⟨ok1,hk1,I1,_,hz,hB⟩ := S.inv.freezes ids (zeY.refl _) (resolveT_ids hres)
   refine ⟨β,ok1,⟨?_,fun t' => ?_,by simpa using S.size,S.def0,S.pin,fun b hb => (hB b hb).elim (fun h => S.okB b h) .inr⟩⟩
   ·show Inv w0 own w β ok1 (zct (hupd σ.heap (freezes (zct σ.heap) ids)))
    rw [ziC]
    exact I1
   ·show zcE w ok1 _ _ ((σ.put (some t) v').tv t')
    rw [St.tv_put]
    by_cases h : t = t' ∧ t' < σ.tmps.length
    ·rw [if_pos h,← h.1]
     have := ziL (h := zct σ.heap) I1 (ts := [σ.tv t]) (ts' := [v']) (ids := ids) (vs := [a.tmps.getD t undef]) (by simp [zdz,hres]) ⟨(S.tmps t).mono (fun _ _ => rfl) hk1 (fun _ _ h => h),trivial⟩ hz
     exact this.1
    ·rw [if_neg h]
     exact (S.tmps t').mono (fun _ _ => rfl) hk1 (fun _ _ h => h)
  ·cases e; exact ⟨β,ok,S⟩
 | cellDat id =>
  simp only [WOp.go] at e
  split at e
  ·rename_i ls hid
   split at e
   ·rename_i ls' ids hres
    split at e
    case isTrue => cases e
    rename_i hni
    cases e
    have hni : id ∉ ids := by simpa using hni
    obtain ⟨ok1,hk1,I1,_,hz,hB⟩ := S.inv.freezes ids (zeY.refl _) (zgG hres)
    have hid1 : zcU (zct σ.heap) (freezes (zct σ.heap) ids) id = some ⟨true,.cells ls⟩ := by rw [zhg hni]; exact hid
    obtain ⟨g,cs,et,h1,h2,h3⟩ := I1.ent id _ hid1
    have hm := I1.mine hid1 rfl h1
    have hβe : (fun j => if j = id then some (Value.pointer (some ⟨g,0,none⟩)) else β j) = β := by
     funext j
     by_cases h : j = id
     ·subst h; simp [h1]
     ·simp [h]
    refine ⟨β,ok1,⟨?_,fun t' => (S.tmps t').mono (fun _ _ => rfl) hk1 (fun _ _ h => h),S.size,S.def0,S.pin,fun b hb => (hB b hb).elim (fun h => S.okB b h) .inr⟩⟩
    show Inv w0 own w β ok1 (zct (hset id ⟨true,.cells ls'⟩ (hupd σ.heap (freezes (zct σ.heap) ids))))
    rw [zgz,ziC]
    have := I1.put id (.cells ls') (.pointer (some ⟨g,0,none⟩)) ok1 rfl rfl rfl (Nat.le_refl _) (fun _ _ _ => rfl) (fun _ h => h) (fun _ h => .inl h) (.inr h1) hm rfl (by
     rw [hβe]
     exact ⟨g,cs,et,h1,h2,zgs I1 hres h3 hz⟩)
    rwa [hβe] at this
   ·cases e
  ·cases e; exact ⟨β,ok,S⟩
 | ren t id' =>
  simp only [WOp.go] at e
  split at e
  ·rename_i id htv
   split at e
   ·rename_i e0 h1 h2
    split at e
    case isFalse => cases e
    rename_i hpar
    cases e
    have hne : id ≠ id' := fun e => by rw [e,h2] at h1; cases h1
    exact ⟨_,ok,weak_ren hpar hne h1 h2 S⟩
   ·split at e
    ·cases e; exact ⟨β,ok,S⟩
    ·cases e
  ·cases e; exact ⟨β,ok,S⟩
 | cellRow id off rid et ty =>
  simp only [WOp.go] at e
  split at e
  ·rename_i ls hid
   split at e
   ·rename_i hl
    split at e
    ·rename_i hr
     split at e
     ·rename_i hc
      cases e
      exact cellRow_weak hid hl hr hc.1 hc.2 S
     ·cases e
    ·cases e
   ·cases e; exact ⟨β,ok,S⟩
  ·cases e; exact ⟨β,ok,S⟩
 | cellRen id off rid =>
  simp only [WOp.go] at e
  split at e
  ·split at e
   ·rename_i r hl
    split at e
    ·rename_i e0 h1 h2
     split at e
     case isFalse => cases e
     rename_i hpar
     cases e
     have hne : r ≠ rid := fun e => by rw [e,h2] at h1; cases h1
     exact ⟨_,ok,weak_ren hpar hne h1 h2 S⟩
    ·split at e
     ·cases e; exact ⟨β,ok,S⟩
     ·cases e
   ·cases e; exact ⟨β,ok,S⟩
  ·cases e; exact ⟨β,ok,S⟩
 | cellDen id tys =>
  simp only [WOp.go] at e
  split at e
  ·rename_i ls hid
   cases e
   exact ⟨β,ok,cells_weak hid (fun cs h => ziM h) S⟩
  ·cases e; exact ⟨β,ok,S⟩
 | den t tys =>
  cases e
  exact ⟨β,ok,S.name t (denTV_rep (S.tmps t))⟩
 | gc =>
  simp only [WOp.go] at e
  split at e
  ·rename_i hc
   cases e
   exact gc_weak hc S
  ·cases e
theorem zjt : ∀ {l : List WOp} {σ σ' : St},weaken l σ = some σ' → Weak σ σ'
 | [],_,_,e => by cases e; exact Weak.refl _
 | x :: l,σ,σ',e => by
  unfold weaken at e
  split at e
  ·rename_i σ1 h1
   exact (weak_go h1).trans (zjt e)
  ·cases e
end
end Go.Proofs.YtlfdidaeachpoaaGreat
namespace Go.Proofs.YtlfdidaeachpoaaGreat
open Go Go.RowKit
def outId (n : Nat) (ids : List Nat) (j : Nat) : Nat := if zco ≤ j then j - zco else n + idxOf ids j
def parEnts (look : zcJ) (n : Nat) : Nat → Option (List Ent)
 | 0 => some []
 | k + 1 => match look (zco + (n - (k + 1))),parEnts look n k with
  | some e,some es => if e.live then some ((if e.w then e else ⟨false,.dead⟩) :: es) else none
  | _,_ => none
def freshEnts (look : zcJ) : List Nat → Option (List Ent)
 | [] => some []
 | id :: ids => match look id,freshEnts look ids with
  | some e,some es => if e.w && e.live then some (e :: es) else none
  | _,_ => none
def inPar (n j : Nat) : Bool := decide (zco ≤ j) && decide (j < zco + n)
def flatTy : Ty → Bool
 | .sl _ => false
 | .pair a b => flatTy a && flatTy b
 | _ => true
def zgo : zcp → Bool
 | .dat _ _ => false
 | _ => true
def flatEB : EB → Bool
 | .cells ls => ls.all zgo
 | .arr _ t _ => flatTy t
 | .raw _ _ (some (_,l)) => zgo l
 | .raw _ _ none => true
 | .dead => true
def flatTV : TV → Bool
 | .lf l => zgo l
 | .agg cs => cs.all zgo
 | .tup cs => cs.all fun c => c.2.all zgo
 | _ => false
def outOf (P : Program) (fn : Func) (n : Nat) (shares : Bool) (σ : St) : Option zdP :=
 match (resList P σ fn.results.toList).bind results1,parEnts (zct σ.heap) n n with
 | some v,some ps =>
  let roots := tvIds v ++ ps.flatMap fun e => zey e.b
  let ids := (zdW (zct σ.heap) 3 (zfw roots [])).filter fun j => decide (j < zco)
  match freshEnts (zct σ.heap) ids with
  | none => none
  | some fs =>
   if zfT ids = true ∧ (roots.all fun j => ids.contains j || inPar n j) = true ∧ (fs.all fun e => (zey e.b).all fun j => ids.contains j || inPar n j) = true ∧
     (shares = true ∨ (flatTV v && ps.all (fun e => flatEB e.b) && fs.all (fun e => flatEB e.b)) = true) then
    some ⟨true,renTV (outId n ids) v,ps.map fun e => ⟨e.w,zdw (outId n ids) e.b⟩,fs.map fun e => ⟨e.w,zdw (outId n ids) e.b⟩,shares⟩
   else none
 | _,_ => none
def RetOK (P : Program) (fn : Func) (n : Nat) (plan : List WOp) (r : zdP) : Ev → Prop
 | .ret σ | .norm σ => ∃ σ',weaken plan σ = some σ' ∧ ∃ r',outOf P fn n r.shares σ' = some r' ∧ r'.val = r.val ∧ r'.ents = r.ents ∧ r'.fresh = r.fresh
 | .exit _ _ => False
section
variable {P : Program} {T : zcl} {π : Pin} {w0 : World} {own : Nat → Prop} {w : World} {β : Nat → Option Value} {ok : Nat → Prop} {a : Act} {σ : St}
theorem loadVar_run (I : Inv w0 own w β ok (zct σ.heap)) {t : TypeId} {v : Value} {ta : TV} (hr : zcE w ok β v ta) {r : zcF} (e : zgT P (zct σ.heap) t ta = some r) :
  ∃ ad u,v = .pointer (some ad) ∧ (loadVar t ad).run P w = .ok u w ∧ zcE w ok β u r.val := by
 unfold zgT at e
 split at e
 ·cases e
 ·rename_i ls q ha
  obtain ⟨b,off,us,hv,hm,hl⟩ := addrCells_rep I hr ha
  split at e
  ·cases e
  ·rename_i d hu
   split at e
   ·rename_i hagg
    split at e
    ·rename_i hlen
     cases e
     have hle : P.cellsOf t ≤ us.length := by rw [hl.length]; exact hlen
     refine ⟨_,.agg (us.take (P.cellsOf t)).toArray,hv,?_,⟨_,rfl,hl.take _⟩⟩
     simp [loadVar,zfy hu,hagg,zhV hu,ziR hm hle]
    ·cases e
   ·rename_i hagg
    split at e
    ·rename_i l ls'
     cases e
     cases us with
     | nil => exact hl.elim
     | cons u us =>
      refine ⟨_,u,hv,?_,hl.1⟩
      have hc : w.cell? ⟨b,off,none⟩ = some u := by simpa using hm 0 u rfl
      simp [loadVar,zfy hu,hagg,run_load,hc]
    ·cases e
def resSem (tmps : Array Value) (x : ResultVar) : Sem Value :=
 match x with
 | .tmp t => pure (tmps.getD t undef)
 | .cell c t => do loadVar t (← asAddr (tmps.getD c undef))
theorem resList_run (S : Sim π w0 own w a σ β ok) : ∀ {rs : List ResultVar} {vs : List TV},resList P σ rs = some vs →
  ∃ us,(rs.mapM (resSem a.tmps)).run P w = .ok us w ∧ zdn w ok β us vs
 | [],vs,e => by cases e; exact ⟨[],by simp,trivial⟩
 | x :: rs,vs,e => by
  unfold resList at e
  split at e
  ·rename_i v vs' h1 h2
   cases e
   obtain ⟨us,hrun,hrep⟩ := resList_run S h2
   cases x with
   | tmp t =>
    cases h1
    exact ⟨a.tmps.getD t undef :: us,by simp [List.mapM_cons,hrun,resSem],S.tmps t,hrep⟩
   | cell c t =>
    simp only [resOf,Option.map_eq_some_iff] at h1
    obtain ⟨r,h3,rfl⟩ := h1
    obtain ⟨ad,u,h4,h5,h6⟩ := loadVar_run S.inv (S.tmps c) h3
    exact ⟨u :: us,by simp [List.mapM_cons,hrun,resSem,h4,asAddr,h5],h6,hrep⟩
  ·cases e
theorem asComps_rep : ∀ {us : List Value} {vs : List TV} {cs : List (Bool × List zcp)},asComps vs = some cs → zdn w ok β us vs → zdN w ok β us cs
 | [],[],_,e,_ => by cases e; trivial
 | u :: us,v :: vs,cs,e,⟨h1,h2⟩ => by
  unfold asComps at e
  split at e
  ·rename_i c cs' hc hcs
   cases e
   refine ⟨?_,asComps_rep hcs h2⟩
   unfold asComp at hc
   split at hc
   ·cases hc; exact ⟨h1,trivial⟩
   ·cases hc; exact h1
   ·cases hc
  ·cases e
 | [],_ :: _,_,_,h => h.elim
 | _ :: _,[],_,_,h => h.elim
theorem results_run (S : Sim π w0 own w a σ β ok) {fn : Func} {v : TV} (e : (resList P σ fn.results.toList).bind results1 = some v) :
  ∃ u,(results fn a.tmps).run P w = .ok u w ∧ zcE w ok β u v := by
 simp only [Option.bind_eq_some_iff] at e
 obtain ⟨vs,h1,h2⟩ := e
 obtain ⟨us,hrun,hrep⟩ := resList_run S h1
 have hru : (results fn a.tmps).run P w = .ok (if h : us.toArray.size = 1 then us.toArray[0] else .tuple us.toArray) w := by
  have hdef : results fn a.tmps = (do
    let vs ← fn.results.mapM (resSem a.tmps)
    pure (if h : vs.size = 1 then vs[0] else .tuple vs)) := rfl
  rw [hdef,Array.mapM_eq_mapM_toList]
  simp [hrun,Result.andThen]
 refine ⟨_,hru,?_⟩
 unfold results1 at h2
 split at h2
 ·cases h2
  cases us with
  | nil => exact hrep.elim
  | cons u us =>
   cases us with
   | nil => exact hrep.1
   | cons _ _ => exact hrep.2.elim
 ·rename_i hne
  simp only [Option.map_eq_some_iff] at h2
  obtain ⟨cs,h3,rfl⟩ := h2
  have hlen : us.length ≠ 1 := by
   intro h
   cases us with
   | nil => cases h
   | cons u us =>
    cases us with
    | nil =>
     cases vs with
     | nil => exact hrep.elim
     | cons v vs =>
      cases vs with
      | nil => exact hne v rfl
      | cons _ _ => exact hrep.2.elim
    | cons _ _ => simp at h
  rw [dif_neg (by simpa using hlen)]
  exact ⟨us,rfl,asComps_rep h3 hrep⟩
theorem zcM.okflat {ok' : Nat → Prop} : (t : Ty) → flatTy t = true → {vs : List Value} → {x : t.den} → zcM w ok t vs x → zcM w ok' t vs x
 | .int _,_,_,_,h => h
 | .bool,_,_,_,h => h
 | .str,_,_,_,h => h
 | .sl _,hf,_,_,_ => by cases hf
 | .pair a b,hf,_,_,h => by
  simp only [flatTy,Bool.and_eq_true] at hf
  obtain ⟨us,us',e,h1,h2⟩ := h
  exact ⟨us,us',e,zcM.okflat a hf.1 h1,zcM.okflat b hf.2 h2⟩
theorem zdh.okflat {ok' : Nat → Prop} {v : Value} {l : zcp} (hf : zgo l = true) (h : zdh w ok β v l) : zdh w ok' β v l := by
 cases l <;> first | exact h | cases hf
theorem zcA.okflat {ok' : Nat → Prop} : ∀ {vs : List Value} {ls : List zcp},ls.all zgo = true → zcA w ok β vs ls → zcA w ok' β vs ls
 | [],[],_,_ => trivial
 | _ :: _,_ :: _,hf,⟨h1,h2⟩ => by
  simp only [List.all_cons,Bool.and_eq_true] at hf
  exact ⟨h1.okflat hf.1,zcA.okflat hf.2 h2⟩
 | [],_ :: _,_,h => h.elim
 | _ :: _,[],_,h => h.elim
theorem zdN.okflat {ok' : Nat → Prop} : ∀ {vs : List Value} {cs : List (Bool × List zcp)},(cs.all fun c => c.2.all zgo) = true → zdN w ok β vs cs → zdN w ok' β vs cs
 | [],[],_,_ => trivial
 | v :: _,(b,ls) :: _,hf,⟨h1,h2⟩ => by
  simp only [List.all_cons,Bool.and_eq_true] at hf
  refine ⟨?_,zdN.okflat hf.2 h2⟩
  cases b with
  | true => obtain ⟨us,e,h⟩ := h1; exact ⟨us,e,h.okflat hf.1⟩
  | false => exact zcA.okflat (vs := [v]) hf.1 h1
 | [],_ :: _,_,h => h.elim
 | _ :: _,[],_,h => h.elim
theorem zcE.okflat {ok' : Nat → Prop} {v : Value} {t : TV} (hf : flatTV t = true) (h : zcE w ok β v t) : zcE w ok' β v t := by
 cases t with
 | lf l => exact zdh.okflat hf h
 | agg cs => obtain ⟨us,e,h⟩ := h; exact ⟨us,e,h.okflat hf⟩
 | tup cs => obtain ⟨us,e,h⟩ := h; exact ⟨us,e,h.okflat hf⟩
 | rptr _ => cases hf
 | eptr _ _ _ _ => cases hf
theorem zdo.okflat {ok' : Nat → Prop} {id : Nat} {b : EB} (hf : flatEB b = true) (h : zdo w ok β id b) : zdo w ok' β id b := by
 cases b with
 | dead => trivial
 | cells ls => obtain ⟨g,cs,e,h1,h2,h3⟩ := h; exact ⟨g,cs,e,h1,h2,h3.okflat hf⟩
 | arr e t xs => obtain ⟨v,us,h1,h2,h3⟩ := h; exact ⟨v,us,h1,h2,fun i hi => (h3 i hi).okflat t hf⟩
 | raw e us o =>
  obtain ⟨v,vs,h1,h2,h3⟩ := h
  match o,hf,h3 with
  | none,_,h3 => exact ⟨v,vs,h1,h2,h3⟩
  | some (i,l),hf,⟨u,h3,h4,h5⟩ => exact ⟨v,vs,h1,h2,u,h3,h4,h5.okflat hf⟩
theorem parEnts_spec {look : zcJ} {n : Nat} : ∀ {k : Nat} {es : List Ent},k ≤ n → parEnts look n k = some es → es.length = k ∧ ∀ i,i < k → ∃ e,look (zco + (n - k + i)) = some e ∧ es[i]? = some (if e.w then e else ⟨false,.dead⟩) ∧ e.live = true
 | 0,es,_,e => by cases e; exact ⟨rfl,fun i hi => absurd hi (Nat.not_lt_zero i)⟩
 | k + 1,es,hk,e => by
  unfold parEnts at e
  split at e
  ·rename_i e1 es1 h1 h2
   split at e
   ·rename_i hc
    cases e
    obtain ⟨hl,hr⟩ := parEnts_spec (by omega) h2
    refine ⟨by simp [hl],fun i hi => ?_⟩
    cases i with
    | zero => exact ⟨e1,h1,rfl,hc⟩
    | succ i =>
     obtain ⟨e2,h3,h4,h5⟩ := hr i (by omega)
     exact ⟨e2,by rw [← h3]; congr 2; omega,by simpa using h4,h5⟩
   ·cases e
  ·cases e
theorem zjy {look : zcJ} : ∀ {ids : List Nat} {es : List Ent},freshEnts look ids = some es → es.length = ids.length ∧ ∀ (i : Nat) (id : Nat),ids[i]? = some id → ∃ e,look id = some e ∧ es[i]? = some e ∧ e.w = true ∧ e.live = true
 | [],es,e => by cases e; exact ⟨rfl,fun i id h => by simp at h⟩
 | id :: ids,es,e => by
  unfold freshEnts at e
  split at e
  ·rename_i e1 es1 h1 h2
   split at e
   ·rename_i hc
    cases e
    simp only [Bool.and_eq_true] at hc
    obtain ⟨hl,hr⟩ := zjy h2
    refine ⟨by simp [hl],fun i j hi => ?_⟩
    cases i with
    | zero => simp at hi; subst hi; exact ⟨e1,h1,rfl,hc.1,hc.2⟩
    | succ i =>
     obtain ⟨e2,h3,h4,h5⟩ := hr i j (by simpa using hi)
     exact ⟨e2,h3,by simpa using h4,h5⟩
   ·cases e
  ·cases e
theorem ziQ : ∀ (es : List Ent) (k j : Nat),zct (zhq k es) j = if zco + k ≤ j then (es[j - (zco + k)]?).map fun e => ⟨e.w,zdw (zco + ·) e.b⟩ else none
 | [],k,j => by simp [zhq,zct]
 | e :: es,k,j => by
  simp only [zhq,zct]
  by_cases h : zco + k = j
  ·rw [if_pos h,if_pos (by omega),show j - (zco + k) = 0 by omega]
   rfl
  ·rw [if_neg h,ziQ es (k + 1) j]
   by_cases h2 : zco + k ≤ j
   ·rw [if_pos (by omega),if_pos h2,show j - (zco + k) = j - (zco + (k + 1)) + 1 by omega]
    simp
   ·rw [if_neg (by omega),if_neg h2]
theorem zdn.get : ∀ {vs : List Value} {ts : List TV} {i : Nat},zdn w ok β vs ts → zcE w ok β (vs.getD i undef) (ts.getD i (.tup []))
 | [],[],i,_ => by simp [List.getD]; exact ⟨[],rfl,trivial⟩
 | _ :: _,_ :: _,0,⟨h,_⟩ => h
 | v :: vs,t :: ts,i + 1,⟨_,h⟩ => by have := zdn.get (i := i) h; simpa [List.getD] using this
 | [],_ :: _,_,h => h.elim
 | _ :: _,[],_,h => h.elim
theorem zdn.length : ∀ {vs : List Value} {ts : List TV},zdn w ok β vs ts → vs.length = ts.length
 | [],[],_ => rfl
 | _ :: _,_ :: _,⟨_,h⟩ => congrArg (· + 1) h.length
 | [],_ :: _,h => h.elim
 | _ :: _,[],h => h.elim
theorem zdn.renAll {β2 : Nat → Option Value} {g : Nat → Nat} (hg : ∀ id u,β id = some u → β2 (g id) = some u) : ∀ {vs : List Value} {ts : List TV},zdn w ok β vs ts → zdn w ok β2 vs (ts.map (renTV g))
 | [],[],_ => trivial
 | _ :: _,_ :: _,⟨h1,h2⟩ => ⟨h1.ren hg,zdn.renAll hg h2⟩
 | [],_ :: _,h => h.elim
 | _ :: _,[],h => h.elim
def MarkOK (π : Pin) (w0 : World) (own : Nat → Prop) (K : Ev → Prop) (e : Exit) (a : Act) (w : World) : Prop :=
 e = .ret ∧ ∃ D σ β ok,K (.ret σ) ∧ a.defers = [{ target := .collected D,args := #[] }] ∧ w.heap[D]? = some (.deferred (some [])) ∧ Sim π w0 own (w.putObj D (.deferred none)) { a with defers := [] } σ β ok
theorem fnSoundM {f : Nat} {fn : Func} {c : Code} (hf : P.funcs[f]? = some fn) (hb : fn.body = some c) {args : List TV} {es : List Ent} {r : zdP} (plan : List WOp)
  (hs : ∀ (π : Pin) (w0 : World) (own : Nat → Prop) (a : Act) (w : World) (β : Nat → Option Value) (ok : Nat → Prop),π.rd = none → π.df = [] → Sim π w0 own w a (zgY args es fn.ntmps) β ok →
   c.wpIn (Fw π.rd) 0 P (fun e a w => zeu π w0 own (RetOK P fn es.length plan r) e a w ∨ MarkOK π w0 own (RetOK P fn es.length plan r) e a w) a w) : zeC P f args es r := by
 intro w vals β ok hok hv hdom hes hnok hsep
 let own : Nat → Prop := fun g => ∃ k u,β k = some u ∧ blk u = some g
 let β0 : Nat → Option Value := fun j => if zco ≤ j then β (j - zco) else none
 let π : Pin := ⟨β0,ok,none,[]⟩
 have hβ0 : ∀ k u,β k = some u → β0 (zco + k) = some u := fun k u h => by
  show (if zco ≤ zco + k then β (zco + k - zco) else none) = some u
  rw [if_pos (by omega),Nat.add_sub_cancel_left]
  exact h
 have hβ0' : ∀ j u,β0 j = some u → zco ≤ j ∧ β (j - zco) = some u := fun j u h => by
  have h' : (if zco ≤ j then β (j - zco) else none) = some u := h
  by_cases hj : zco ≤ j
  ·rw [if_pos hj] at h'; exact ⟨hj,h'⟩
  ·rw [if_neg hj] at h'; cases h'
 have hlook : ∀ j e,zct (zhq 0 es) j = some e → zco ≤ j ∧ ∃ e0,es[j - zco]? = some e0 ∧ e = ⟨e0.w,zdw (zco + ·) e0.b⟩ := fun j e h => by
  rw [ziQ] at h
  by_cases hj : zco ≤ j
  ·rw [if_pos (by omega)] at h
   simp only [Nat.add_zero,Option.map_eq_some_iff] at h
   obtain ⟨e0,h1,h2⟩ := h
   exact ⟨hj,e0,h1,h2.symm⟩
  ·rw [if_neg (by omega)] at h; cases h
 have I0 : Inv w own w β0 ok (zct (zhq 0 es)) := by
  refine ⟨Fr.refl w own,hok,?_,?_,?_,?_,?_,?_⟩
  ·intro j u hj
   obtain ⟨h1,h2⟩ := hβ0' j u hj
   have h3 := hdom _ _ h2
   rw [ziQ,if_pos (by omega),Nat.add_zero,List.getElem?_eq_getElem h3]
   exact ⟨_,rfl⟩
  ·intro j e hj
   obtain ⟨h1,e0,h2,rfl⟩ := hlook j e hj
   refine (hes _ e0 h2).2.2.ren (fun i _ u hu => hβ0 i u hu) fun u hu => ?_
   have := hβ0 _ u hu
   rwa [show zco + (j - zco) = j by omega] at this
  ·intro j e hj _
   obtain ⟨h1,e0,h2,rfl⟩ := hlook j e hj
   rw [zeH (q' := e0.w)]
   exact (hes _ e0 h2).2.1
  ·intro j e u g hj _ hu hg
   obtain ⟨_,h2⟩ := hβ0' j u hu
   exact ⟨hnok _ u g h2 hg,.inl ⟨_,u,h2,hg⟩⟩
  ·intro j e u g hj hw
   obtain ⟨h1,e0,h2,rfl⟩ := hlook j e hj
   simp only at hw
   rw [(hes _ e0 h2).1] at hw
   cases hw
  ·intro i e u j e' u' g hij _ _ _ _ hu hu' hg hg'
   obtain ⟨h1,h2⟩ := hβ0' i u hu
   obtain ⟨h3,h4⟩ := hβ0' j u' hu'
   exact hsep _ _ u u' g (by omega) h2 h4 hg hg'
 have hvr := hv.renAll (g := (zco + ·)) (β2 := β0) hβ0
 have S0 : Sim π w own w { tmps := vals.toArray ++ Array.replicate (fn.ntmps - vals.toArray.size) undef,defers := [] } (zgY args es fn.ntmps) β0 ok := by
  refine ⟨I0,fun t => ?_,?_,rfl,fun _ _ _ h => h,fun _ h => .inl h⟩
  ·have h1 : (zgY args es fn.ntmps).tv t = ((args.map (renTV (zco + ·))) ++ List.replicate (fn.ntmps - args.length) (TV.tup [])).getD t (TV.lf .undef) := by
    simp [St.tv,zgY,initTmps]
   rw [h1]
   have hlen := hv.length
   simp only [Array.getD_eq_getD_getElem?,Array.getElem?_append,List.size_toArray,List.getD,List.getElem?_append,List.length_map]
   by_cases ht : t < vals.length
   ·rw [if_pos ht,if_pos (by omega)]
    have := hvr.get (i := t)
    simpa [List.getD,ht,show t < args.length by omega] using this
   ·rw [if_neg ht,if_neg (by omega),hlen,Array.getElem?_replicate,List.getElem?_replicate]
    by_cases ht2 : t - args.length < fn.ntmps - args.length
    ·rw [if_pos ht2,if_pos ht2]; exact ⟨[],rfl,trivial⟩
    ·rw [if_neg ht2,if_neg ht2]; trivial
  ·simp [zgY,initTmps,hv.length]
 have hfin : ∀ e a' w' σ β' ok',(e = .ret ∨ e = .normal) → Sim π w own w' a' σ β' ok' → RetOK P fn es.length plan r (.ret σ) →
   bodyPost P fn (fun e w' => ∃ v β' ok',e = .returned v ∧ zhu w β ok es.length r v w' β' ok') e a' w' := by
  rintro e a' w' σ1 β1 ok1 he S1 ⟨σ,hweak,r',hout,hval,hents,hfresh⟩
  obtain ⟨β2,ok2,S⟩ := zjt hweak π w own w' a' β1 ok1 S1
  have I := S.inv
  unfold outOf at hout
  split at hout
  case h_2 => cases hout
  rename_i v ps hres hps
  simp only at hout
  split at hout
  case h_1 => cases hout
  rename_i fs hfs
  split at hout
  case isFalse => cases hout
  rename_i hc
  obtain ⟨hnd,hroots,hfids,hflat⟩ := hc
  cases hout
  generalize hids : (zdW (zct σ.heap) 3 (zfw (tvIds v ++ ps.flatMap fun e => zey e.b) [])).filter (fun j => decide (j < zco)) = ids at *
  have hidlt : ∀ j ∈ ids,j < zco := fun j hj => by
   rw [← hids] at hj
   simpa using (List.mem_filter.1 hj).2
  obtain ⟨hpl,hpsp⟩ := parEnts_spec (Nat.le_refl _) hps
  obtain ⟨hfl,hfsp⟩ := zjy hfs
  obtain ⟨u,hrun,hrep⟩ := results_run S hres
  let β3 : Nat → Option Value := fun j => if ids.contains j || inPar es.length j then β2 j else none
  have hsub : ∀ j,(ids.contains j || inPar es.length j) = true → ∀ x,β2 j = some x → β3 j = some x := fun j hj x hx => by
   show (if _ then β2 j else none) = some x
   rw [if_pos hj]; exact hx
  let βF : Nat → Option Value := fun k => if k < es.length then β k else (ids[k - es.length]?).bind β2
  have hpar : ∀ j x,zco ≤ j → β2 j = some x → β (j - zco) = some x := fun j x hj hx => (hβ0' j x (S.pin j x hj hx)).2
  have hto : ∀ j x,β3 j = some x → βF (outId es.length ids j) = some x := fun j x hj => by
   have hj' : (if ids.contains j || inPar es.length j then β2 j else none) = some x := hj
   split at hj'
   ·rename_i hc
    show (if outId es.length ids j < es.length then β (outId es.length ids j) else (ids[outId es.length ids j - es.length]?).bind β2) = some x
    unfold outId
    by_cases hp : zco ≤ j
    ·have h1 := hpar j x hp hj'
     rw [if_pos hp,if_pos (hdom _ _ h1)]
     exact h1
    ·have hm : j ∈ ids := by
      simp only [Bool.or_eq_true,inPar,Bool.and_eq_true,decide_eq_true_eq] at hc
      rcases hc with hc | hc
      ·simpa using hc
      ·exact absurd hc.1 hp
     rw [if_neg hp,if_neg (by omega),show es.length + idxOf ids j - es.length = idxOf ids j by omega,idxOf_get hm]
     exact hj'
   ·cases hj'
  have hparent : ∀ k u',β k = some u' → ∃ e,zct σ.heap (zco + k) = some e ∧ ps[k]? = some (if e.w then e else ⟨false,.dead⟩) ∧ e.live = true ∧ β2 (zco + k) = some u' := fun k u' hk => by
   obtain ⟨e,h1,h2,h4⟩ := hpsp k (hdom k u' hk)
   rw [show zco + (es.length - es.length + k) = zco + k by omega] at h1
   have hR := I.ent _ e h1
   have : ∃ x,β2 (zco + k) = some x := by
    obtain ⟨ew,eb⟩ := e
    cases eb with
    | dead => cases h4
    | cells ls => obtain ⟨g,cs,et,h5,_⟩ := hR; exact ⟨_,h5⟩
    | arr et t xs => obtain ⟨x,us,h5,_⟩ := hR; exact ⟨_,h5⟩
    | raw et us o => obtain ⟨x,vs,h5,_⟩ := hR; exact ⟨_,h5⟩
   obtain ⟨x,hx⟩ := this
   have h6 := hpar _ x (by omega) hx
   rw [Nat.add_sub_cancel_left,hk] at h6
   cases h6
   exact ⟨e,h1,h2,h4,hx⟩
  have hown : ∀ b,own b → ok2 b → ∃ k u,k < es.length ∧ β k = some u ∧ blk u = some b ∧ ps[k]? = some ⟨false,.dead⟩ := by
   rintro b ⟨k,u',hk,hg⟩ hb
   obtain ⟨e,h1,h2,h3,h4⟩ := hparent k u' hk
   cases hew : e.w with
   | true => exact absurd hb (I.wr _ e u' b h1 hew h4 hg).1
   | false =>
    rw [hew] at h2
    exact ⟨k,u',hdom k u' hk,hk,hg,h2⟩
  let okF : Nat → Prop := fun b => ok2 b ∧ (r.shares = true ∨ w.heap.size ≤ b)
  have hokV : ∀ {x t},(r.shares = true ∨ flatTV t = true) → zcE w' ok2 β3 x t → zcE w' okF β3 x t := fun hsh h => by
   rcases hsh with h1 | h1
   ·exact h.mono (fun _ _ => rfl) (fun b hb => ⟨hb,.inl h1⟩) (fun _ _ h => h)
   ·exact h.okflat h1
  have hokE : ∀ {id b},(r.shares = true ∨ flatEB b = true) → zdo w' ok2 β3 id b → zdo w' okF β3 id b := fun hsh h => by
   rcases hsh with h1 | h1
   ·exact h.mono (fun _ _ => rfl) (fun b hb => ⟨hb,.inl h1⟩) (fun _ _ h => h) (fun _ _ _ _ => rfl)
   ·exact h.okflat h1
  have hflat' : r.shares = true ∨ (flatTV v = true ∧ (∀ e ∈ ps,flatEB e.b = true) ∧ ∀ e ∈ fs,flatEB e.b = true) := by
   rcases hflat with h1 | h1
   ·exact .inl h1
   ·simp only [Bool.and_eq_true,List.all_eq_true] at h1
    exact .inr ⟨h1.1.1,h1.1.2,h1.2⟩
  have hrootm : ∀ j ∈ tvIds v ++ ps.flatMap (fun e => zey e.b),(ids.contains j || inPar es.length j) = true := fun j hj => List.all_eq_true.1 hroots j hj
  have C : zhu w β ok es.length r u w' βF okF := by
   refine ⟨I.fr.os,I.fr.tape,I.fr.output,I.fr.size,?_,?_,?_,?_,?_,?_,?_,?_,?_,?_,?_⟩
   ·intro b hb hn
    exact I.fr.block b hb fun ⟨k,u',hk,hg⟩ => hn k u' (hdom k u' hk) hk hg
   ·rintro b ⟨hb,hsh⟩
    rcases S.okB b hb with h1 | h1 | h1
    ·rcases hsh with h2 | h2
     ·exact .inl ⟨h2,h1⟩
     ·exact .inr (.inl ⟨h2,I.okLt b hb⟩)
    ·obtain ⟨k,x,h2,h3,h4,h5⟩ := hown b h1 hb
     refine .inr (.inr ⟨k,x,h2,h3,h4,?_⟩)
     rw [← hents]
     simp only [List.getElem?_map,h5,Option.map_some]
     rfl
    ·exact .inr (.inl ⟨h1,I.okLt b hb⟩)
   ·intro k x hk hx
    show (if k < es.length then β k else _) = some x
    rw [if_pos hk]; exact hx
   ·intro k x hx
    have hx' : (if k < es.length then β k else (ids[k - es.length]?).bind β2) = some x := hx
    rw [← hfresh]
    simp only [List.length_map,hfl]
    by_cases hk : k < es.length
    ·omega
    ·rw [if_neg hk] at hx'
     simp only [Option.bind_eq_some_iff] at hx'
     obtain ⟨id,h1,_⟩ := hx'
     have := (List.getElem?_eq_some_iff.1 h1).1
     omega
   ·intro k x hk hx
    have hx' : (if k < es.length then β k else _) = some x := hx
    rwa [if_pos hk] at hx'
   ·rw [← hval]
    refine zcE.ren hto (hokV (hflat'.imp id And.left) (hrep.sub fun j hj => hsub j (hrootm j (List.mem_append_left _ hj))))
   ·rw [← hents]
    simpa using hpl
   ·intro k e he
    rw [← hents] at he
    simp only [List.getElem?_map,Option.map_eq_some_iff] at he
    obtain ⟨e0,h1,rfl⟩ := he
    have hk : k < es.length := by rw [← hpl]; exact (List.getElem?_eq_some_iff.1 h1).1
    obtain ⟨e1,h2,h3,h5⟩ := hpsp k hk
    rw [h1] at h3
    cases hew : e1.w with
    | false =>
     rw [hew] at h3
     cases h3
     exact ⟨rfl,trivial⟩
    | true =>
    rw [hew] at h3
    have h3' : e0 = e1 := Option.some.inj h3
    subst h3'
    rw [show zco + (es.length - es.length + k) = zco + k by omega] at h2
    refine ⟨by rw [zeH (q' := e0.w),h5]; exact hew,?_⟩
    have hmem := List.mem_of_getElem? h1
    have hin : inPar es.length (zco + k) = true := by simp [inPar,hk]
    refine (hokE (hflat'.imp id fun h => h.2.1 e0 hmem) ((I.ent _ e0 h2).sub (fun j hj => hsub j (hrootm j (List.mem_append_right _ (List.mem_flatMap.2 ⟨e0,hmem,hj⟩)))) (hsub _ (by rw [hin,Bool.or_true])))).ren (fun j _ => hto j) fun x hx => ?_
    have := hto _ x hx
    unfold outId at this
    rwa [if_pos (by omega),Nat.add_sub_cancel_left] at this
   ·intro j e he
    rw [← hfresh] at he
    simp only [List.getElem?_map,Option.map_eq_some_iff] at he
    obtain ⟨e0,h1,rfl⟩ := he
    have hj : j < ids.length := by rw [← hfl]; exact (List.getElem?_eq_some_iff.1 h1).1
    have hid := List.getElem?_eq_getElem hj
    obtain ⟨e1,h2,h3,h4,h5⟩ := hfsp j _ hid
    rw [h1] at h3
    cases h3
    refine ⟨h4,by rw [zeH (q' := e0.w)]; exact h5,?_⟩
    have hmem := List.mem_of_getElem? h1
    have hmid := List.getElem_mem hj
    have hfj : ∀ i ∈ zey e0.b,(ids.contains i || inPar es.length i) = true := fun i hi => List.all_eq_true.1 (List.all_eq_true.1 hfids e0 hmem) i hi
    refine (hokE (hflat'.imp id fun h => h.2.2 e0 hmem) ((I.ent _ e0 h2).sub (fun i hi => hsub i (hfj i hi)) (hsub _ (by simp [hmid])))).ren (fun i _ => hto i) fun x hx => ?_
    have := hto _ x hx
    unfold outId at this
    rw [if_neg (by have := hidlt _ hmid; omega)] at this
    have hix : idxOf ids ids[j] = j := zhF hnd (idxOf_get hmid) hid
    rwa [hix] at this
   ·intro j x g hj hx hg
    rw [← hfresh] at hj
    simp only [List.length_map,hfl] at hj
    have hx' : (if es.length + j < es.length then β (es.length + j) else (ids[es.length + j - es.length]?).bind β2) = some x := hx
    rw [if_neg (by omega),Nat.add_sub_cancel_left,List.getElem?_eq_getElem hj] at hx'
    obtain ⟨e1,h2,h3,h4,h5⟩ := hfsp j _ (List.getElem?_eq_getElem hj)
    have hwr := I.wr _ e1 x g h2 h4 hx' hg
    refine ⟨?_,fun h => hwr.1 h.1⟩
    rcases hwr.2 with ⟨k,u',hk,hg'⟩ | h6
    ·obtain ⟨e,k1,k2,k3,k4⟩ := hparent k u' hk
     exfalso
     refine I.sep ids[j] e1 x (zco + k) e u' g ?_ h2 k1 h4 k3 hx' k4 hg hg'
     have := hidlt _ (List.getElem_mem hj)
     omega
    ·exact h6
   ·intro i j x x' g hi hj hij hx hx' hg hg'
    rw [← hfresh] at hi hj
    simp only [List.length_map,hfl] at hi hj
    have hx1 : (if es.length + i < es.length then β (es.length + i) else (ids[es.length + i - es.length]?).bind β2) = some x := hx
    have hx2 : (if es.length + j < es.length then β (es.length + j) else (ids[es.length + j - es.length]?).bind β2) = some x' := hx'
    rw [if_neg (by omega),Nat.add_sub_cancel_left,List.getElem?_eq_getElem hi] at hx1
    rw [if_neg (by omega),Nat.add_sub_cancel_left,List.getElem?_eq_getElem hj] at hx2
    obtain ⟨e1,h2,h3,h4,h5⟩ := hfsp i _ (List.getElem?_eq_getElem hi)
    obtain ⟨e2,k2,k3,k4,k5⟩ := hfsp j _ (List.getElem?_eq_getElem hj)
    exact I.sep ids[i] e1 x ids[j] e2 x' g (fun e => hij (zhF hnd (List.getElem?_eq_getElem hi) (e ▸ List.getElem?_eq_getElem hj))) h2 k2 h4 k5 hx1 hx2 hg hg'
  rcases he with rfl | rfl
  ·exact ⟨S.def0,u,hrun,u,βF,okF,rfl,C⟩
  ·exact ⟨S.def0,u,hrun,u,βF,okF,rfl,C⟩
 refine callsIn_wide.1 (callsIn_of_wp_marks (F := Fence.wide) (n := 0) hf hb trivial (wpIn_mono (hs π w own _ w β0 ok rfl rfl S0) ?_))
 have hend : ∀ (a' : Act) (w' : World),(a'.defers = [] ∧ ∃ v,(results fn a'.tmps).run P w' = .ok v w' ∧ ∃ v_1 β' ok',Ending.returned v = .returned v_1 ∧ zhu w β ok es.length r v_1 w' β' ok') →
   LeavesInM Fence.wide 0 P fn a'.tmps (fun e w' => ∃ v β' ok',e = .returned v ∧ zhu w β ok es.length r v w' β' ok') [] .returning w' := fun a' w' h => h.2
 rintro e a' w' (⟨ev,β',ok',hK,hev⟩ | ⟨rfl,D,σ,β',ok',hK,hdef,hD,S'⟩)
 ·cases ev with
  | norm σ =>
   obtain ⟨rfl,S'⟩ := hev
   have := hfin _ a' w' σ β' ok' (.inr rfl) S' hK
   show LeavesInM _ _ _ _ _ _ a'.defers _ _
   rw [show a'.defers = [] from S'.def0]
   exact hend a' w' this
  | ret σ =>
   obtain ⟨rfl,S'⟩ := hev
   have := hfin _ a' w' σ β' ok' (.inl rfl) S' hK
   show LeavesInM _ _ _ _ _ _ a'.defers _ _
   rw [show a'.defers = [] from S'.def0]
   exact hend a' w' this
  | exit id σ => exact hK.elim
 ·have := hfin _ { a' with defers := [] } (w'.putObj D (.deferred none)) σ β' ok' (.inl rfl) S' hK
  show LeavesInM _ _ _ _ _ _ a'.defers _ _
  rw [hdef]
  exact ⟨by simp,.inl ⟨D,_,rfl,run_takeDeferred hD,hend { a' with defers := [] } _ this⟩⟩
theorem fnSoundW {f : Nat} {fn : Func} {c : Code} (hf : P.funcs[f]? = some fn) (hb : fn.body = some c) {args : List TV} {es : List Ent} {r : zdP} (plan : List WOp)
  (hs : ∀ (π : Pin) (w0 : World) (own : Nat → Prop) (a : Act) (w : World) (β : Nat → Option Value) (ok : Nat → Prop),π.rd = none → Sim π w0 own w a (zgY args es fn.ntmps) β ok →
   c.wpIn (Fw π.rd) 0 P (zeu π w0 own (RetOK P fn es.length plan r)) a w) : zeC P f args es r :=
 fnSoundM hf hb plan fun π w0 own a w β ok h1 _ S => wpIn_mono (hs π w0 own a w β ok h1 S) fun _ _ _ h => .inl h
end
end Go.Proofs.YtlfdidaeachpoaaGreat
namespace Go.Proofs.YtlfdidaeachpoaaGreat
open Go Go.RowKit
structure Cd where
 t : Nat
 path : List (Nat × Bool)
 v : TV
def inPath (p : List (Nat × Bool)) (x : Nat × Bool) : Bool := p.any fun y => y.1 == x.1 && y.2 == x.2
def subPath (p q : List (Nat × Bool)) : Bool := p.all (inPath q)
def tvC (σ : St) (p : List (Nat × Bool)) (t : Nat) : List Cd → TV
 | [] => σ.tv t
 | x :: l => if (x.t == t && subPath x.path p) = true then x.v else tvC σ p t l
def opC (σ : St) (p : List (Nat × Bool)) (cs : List Cd) : Operand → Option TV
 | .tmp t => some (tvC σ p t cs)
 | x => σ.op x
def findC (t : Nat) : List Cd → List (Nat × Bool)
 | [] => []
 | x :: l => if (x.t == t) = true then x.path else findC t l
def gpath (ops : Array Oper) (cs : List Cd) : Option (Nat × Bool) → Option (List (Nat × Bool))
 | none => some []
 | some (j,want) => match zdQ ops j with
  | some d => some ((d,want) :: findC d cs)
  | none => none
def pv (σ : St) (p : List (Nat × Bool)) (cs : List Cd) : List (Nat × Bool) → Option Bool
 | [] => some true
 | [x] => match tvC σ p x.1 cs with
  | .lf (.bool c) => some (match x.2 with | true => c | false => !c)
  | _ => none
 | x :: y :: r => match tvC σ p x.1 cs,pv σ p cs (y :: r) with
  | .lf (.bool c),some q => some ((match x.2 with | true => c | false => !c) && q)
  | _,_ => none
def joinL (q : Bool) : zcp → zcp → Option zcp
 | .int k a,.int k' b => if k = k' then some (.int k (cond q a b)) else none
 | .bool a,.bool b => some (.bool (cond q a b))
 | .str a,.str b => some (.str (cond q a b))
 | .dat t a,.dat t' b => if h : t' = t then some (.dat t (cond q a (h ▸ b))) else none
 | _,_ => none
def joinTV (q : Bool) : TV → TV → Option TV
 | .lf a,.lf b => (joinL q a b).map .lf
 | _,_ => none
def coExec (P : Program) (T : zcl) (σ : St) (cs : List Cd) (p : List (Nat × Bool)) (o : Oper) : Option zcF := match o.op with
 | .pick (.tmp tc) a b => match tvC σ p tc cs with
  | .lf (.bool q) => match opC σ ((tc,true) :: p) (⟨tc,[],.lf (.bool true)⟩ :: cs) a,opC σ ((tc,false) :: p) (⟨tc,[],.lf (.bool false)⟩ :: cs) b with
   | some va,some vb => (joinTV q va vb).map .pur
   | _,_ => none
  | _ => none
 | _ => zeD P T (zct σ.heap) (opC σ p cs) o
def dropC (dst : Option Nat) : List Cd → List Cd
 | [] => []
 | x :: l => match dst with
  | some d => if (x.t == d || x.path.any (fun y => y.1 == d)) = true then dropC dst l else x :: dropC dst l
  | none => x :: l
def regCo (P : Program) (T : zcl) (ops : Array Oper) (n : Nat) : List Oper → List Cd → List Bool → St → Option (List Bool × St)
 | [],_,rq,σ => some (rq,σ)
 | o :: rest,cs,rq,σ => match gpath ops cs o.guard with
  | none => none
  | some p => match coExec P T σ cs p o with
   | none => none
   | some r => match p with
    | [] => regCo P T ops n rest (dropC o.dst cs) (r.vc :: rq) (σ.after o r)
    | _ :: _ => match r.upd,o.dst,pv σ p cs p with
     | [],some d,some q => if (Nat.blt d n && !(p.any fun y => y.1 == d)) = true then regCo P T ops n rest (⟨d,p,r.val⟩ :: dropC o.dst cs) ((r.vc || !q) :: rq) (σ.put (some d) (.lf .undef)) else none
     | _,_,_ => none
def reqs : List Bool → zcP → zcP
 | [],t => t
 | c :: l,t => reqs l (.req c t)
theorem reqs_sat {K : Ev → Prop} : ∀ {l : List Bool} {t : zcP},(reqs l t).sat K → (∀ c ∈ l,c = true) ∧ t.sat K
 | [],_,h => ⟨fun c hc => (by cases hc),h⟩
 | c :: l,t,h => by
  obtain ⟨h1,h2,h3⟩ := reqs_sat (l := l) h
  refine ⟨fun c' hc => ?_,h3⟩
  rcases List.mem_cons.1 hc with rfl | hc
  ·exact h2
  ·exact h1 c' hc
def anyGuard : List Oper → Bool
 | [] => false
 | o :: l => o.guard.isSome || anyGuard l
def clearPair (P : Program) (σ : St) (oS oC : Oper) : Option (Bool × zcF) :=
 match oS.op,oS.dst,oC.op with
 | .slice t x (some lo) none none,some d,.call c => match c.callee,c.args.toList,c.argTypes.toList with
  | .builtin .clear,[.tmp d'],[t'] =>
   if d' = d ∧ t' = t ∧ d < σ.tmps.length then
    match P.underlying t,σ.op x,σ.op lo with
    | some (.slice e),some (.lf (.ref id)),some (.lf (.int _ i)) => match zct σ.heap id,zeroOf P e with
     | some ⟨true,.arr et ty xs⟩,some ⟨ty',z⟩ =>
      if h : ty' = ty then
       if et = e ∧ ty.size = 1 then
        some (decide (0 ≤ i) && decide (i ≤ (xs.length : Int)),⟨true,.lf .undef,[(id,⟨true,.arr et ty (xs.take i.toNat ++ List.replicate (xs.length - i.toNat) (h ▸ z))⟩)],true,true⟩)
       else none
      else none
     | _,_ => none
    | _,_,_ => none
   else none
  | _,_,_ => none
 | _,_,_ => none
def clearSt (σ : St) (oS oC : Oper) (r : zcF) : St := (σ.put oS.dst (.lf .undef)).after oC r
def isClear (o : Oper) : Bool := match o.op with
 | .call c => match c.callee with
  | .builtin .clear => true
  | _ => false
 | _ => false
def regCl (P : Program) (T : zcl) (ops : Array Oper) : List Oper → List Bool → St → Option (List Bool × St)
 | [],rq,σ => some (rq,σ)
 | [o],rq,σ => match gpath ops [] o.guard,coExec P T σ [] [] o with
  | some [],some r => some (r.vc :: rq,σ.after o r)
  | _,_ => none
 | o :: o2 :: rest,rq,σ => match gpath ops [] o.guard with
  | some [] => match isClear o2 with
   | true => match gpath ops [] o2.guard,clearPair P σ o o2 with
    | some [],some x => regCl P T ops rest (x.1 :: rq) (clearSt σ o o2 x.2)
    | _,_ => none
   | false => match coExec P T σ [] [] o with
    | some r => regCl P T ops (o2 :: rest) (r.vc :: rq) (σ.after o r)
    | none => none
  | _ => none
def regTree2 (P : Program) (T : zcl) (ops : Array Oper) (draw : Bool) (σ : St) : zcP := match draw,ops.toList.any isClear with
 | false,true => match regCl P T ops ops.toList [] σ with
  | some x => reqs x.1 (.leaf (.norm x.2))
  | none => .fail
 | _,_ => match draw,anyGuard ops.toList with
 | false,true => match regCo P T ops σ.tmps.length ops.toList [] [] σ with
  | some x => reqs x.1 (.leaf (.norm x.2))
  | none => regTree P T ops draw σ
 | _,_ => regTree P T ops draw σ
section
variable {P : Program} {T : zcl} {π : Pin} {w0 : World} {own : Nat → Prop} {w : World} {β : Nat → Option Value} {ok : Nat → Prop} {a : Act} {σ : St}
def zel (a : Act) (p : List (Nat × Bool)) : Prop := ∀ x ∈ p,a.tmps.getD x.1 Go.undef = .bool x.2
theorem inPath_mem {p : List (Nat × Bool)} {x : Nat × Bool} (h : inPath p x = true) : x ∈ p := by
 unfold inPath at h
 obtain ⟨y,hy,h1⟩ := List.any_eq_true.1 h
 simp only [Bool.and_eq_true,beq_iff_eq] at h1
 have : y = x := Prod.ext h1.1 h1.2
 exact this ▸ hy
theorem zel.sub {p q : List (Nat × Bool)} (h : zel a q) (hs : subPath p q = true) : zel a p := fun x hx => h x (inPath_mem (List.all_eq_true.1 hs x hx))
structure CdOK (w : World) (ok : Nat → Prop) (β : Nat → Option Value) (a : Act) (x : Cd) : Prop where
 rep : zel a x.path → zcE w ok β (a.tmps.getD x.t Go.undef) x.v
 back : ∀ b,a.tmps.getD x.t Go.undef = .bool b → zel a x.path
theorem tvC_rep (S : Sim π w0 own w a σ β ok) {p : List (Nat × Bool)} (hp : zel a p) (t : Nat) : ∀ {cs : List Cd},(∀ x ∈ cs,CdOK w ok β a x) → zcE w ok β (a.tmps.getD t Go.undef) (tvC σ p t cs)
 | [],_ => S.tmps t
 | x :: l,h => by
  unfold tvC
  split
  ·rename_i hc
   simp only [Bool.and_eq_true,beq_iff_eq] at hc
   rw [← hc.1]
   exact (h x (List.mem_cons_self ..)).rep (hp.sub hc.2)
  ·exact tvC_rep S hp t fun y hy => h y (List.mem_cons_of_mem _ hy)
theorem opC_rep (S : Sim π w0 own w a σ β ok) {p : List (Nat × Bool)} (hp : zel a p) {cs : List Cd} (hcs : ∀ x ∈ cs,CdOK w ok β a x) (x : Operand) (tv : TV) (e : opC σ p cs x = some tv) : zcE w ok β (a.eval x) tv := by
 cases x with
 | tmp t => cases e; exact tvC_rep S hp t hcs
 | const v => exact S.eval _ tv e
 | func f => exact S.eval _ tv e
 | global g => exact S.eval _ tv e
theorem joinL_rep {q : Bool} {x y l : zcp} {v : Value} (e : joinL q x y = some l) (h : zdh w ok β v (cond q x y)) : zdh w ok β v l := by
 unfold joinL at e
 split at e
 ·split at e
  ·rename_i hk; subst hk; cases e; cases q <;> exact h
  ·cases e
 ·cases e; cases q <;> exact h
 ·cases e; cases q <;> exact h
 ·split at e
  ·rename_i ht; subst ht; cases e; cases q <;> exact h
  ·cases e
 ·cases e
theorem joinTV_rep {q : Bool} {x y t : TV} {v : Value} (e : joinTV q x y = some t) (h : zcE w ok β v (cond q x y)) : zcE w ok β v t := by
 unfold joinTV at e
 split at e
 ·obtain ⟨l,h1,rfl⟩ := Option.map_eq_some_iff.1 e
  exact joinL_rep h1 (by cases q <;> exact h)
 ·cases e
theorem pv_true (S : Sim π w0 own w a σ β ok) {p : List (Nat × Bool)} (hp : zel a p) {cs : List Cd} (hcs : ∀ x ∈ cs,CdOK w ok β a x) : ∀ {p' : List (Nat × Bool)} {q : Bool},(∀ x ∈ p',x ∈ p) → pv σ p cs p' = some q → q = true
 | [],q,_,h => by cases h; rfl
 | [x],q,hs,h => by
  unfold pv at h
  split at h
  ·rename_i c hc
   cases h
   have h1 := tvC_rep S hp x.1 hcs
   rw [hc,hp x (hs x (List.mem_cons_self ..))] at h1
   have h2 : Value.bool x.2 = .bool c := h1
   cases h2
   cases x.2 <;> rfl
  ·cases h
 | x :: y :: r,q,hs,h => by
  unfold pv at h
  split at h
  ·rename_i c q' hc hq
   cases h
   have h1 := tvC_rep S hp x.1 hcs
   rw [hc,hp x (hs x (List.mem_cons_self ..))] at h1
   have h2 : Value.bool x.2 = .bool c := h1
   cases h2
   rw [pv_true S hp hcs (fun z hz => hs z (List.mem_cons_of_mem _ hz)) hq]
   cases x.2 <;> rfl
  ·cases h
theorem zhO {rd : Option Nat} (S : Sim π w0 own w a σ β ok) (hT : zck P T) {p : List (Nat × Bool)} (hp : zel a p) {cs : List Cd} (hcs : ∀ x ∈ cs,CdOK w ok β a x) {o : Oper} {r : zcF} (e : coExec P T σ cs p o = some r) (hvc : r.vc = true)
  {K : Act → World → Prop} {Q : Exit → Act → World → Prop} (hK : ∀ v w' β' ok',zdm w0 own w β ok (zct σ.heap) r.val r.upd v w' β' ok' → K (a.put o.dst v) w') : o.wpIn (Fw rd) 0 P a w K Q := by
 unfold coExec at e
 split at e
 ·rename_i tc x y ho
  split at e
  ·rename_i q hq
   split at e
   ·rename_i va vb hva hvb
    obtain ⟨tv,hj,rfl⟩ := Option.map_eq_some_iff.1 e
    have hc : a.tmps.getD tc Go.undef = .bool q := by have := tvC_rep S hp tc hcs; rw [hq] at this; exact this
    have hcs' : ∀ x ∈ (⟨tc,[],.lf (.bool q)⟩ : Cd) :: cs,CdOK w ok β a x := fun z hz => by
     rcases List.mem_cons.1 hz with rfl | hz
     ·exact ⟨fun _ => hc,fun _ _ x hx => by cases hx⟩
     ·exact hcs z hz
    have hp' : zel a ((tc,q) :: p) := fun z hz => by
     rcases List.mem_cons.1 hz with rfl | hz
     ·exact hc
     ·exact hp z hz
    have hrep := fun x tv => opC_rep S hp' hcs' x tv
    have hcq : opC σ ((tc,q) :: p) (⟨tc,[],.lf (.bool q)⟩ :: cs) (.tmp tc) = some (.lf (.bool q)) := by
     simp [opC,tvC,subPath]
    cases q with
    | true =>
     have he : zeD P T (zct σ.heap) (opC σ ((tc,true) :: p) (⟨tc,[],.lf (.bool true)⟩ :: cs)) o = some (.pur va) := by
      unfold zeD
      rw [ho]
      simp only [hcq,hva]
     refine opSound S.inv hT (fun x _ tv htv => hrep x tv htv) he rfl fun v w' β' ok' D => hK v w' β' ok' ?_
     exact { D with rep := joinTV_rep hj D.rep }
    | false =>
     have he : zeD P T (zct σ.heap) (opC σ ((tc,false) :: p) (⟨tc,[],.lf (.bool false)⟩ :: cs)) o = some (.pur vb) := by
      unfold zeD
      rw [ho]
      simp only [hcq,hvb]
      try (cases opC σ ((tc,false) :: p) (⟨tc,[],.lf (.bool false)⟩ :: cs) x <;> rfl)
     refine opSound S.inv hT (fun x _ tv htv => hrep x tv htv) he rfl fun v w' β' ok' D => hK v w' β' ok' ?_
     exact { D with rep := joinTV_rep hj D.rep }
   ·cases e
  ·cases e
 ·exact opSound S.inv hT (fun x _ tv htv => opC_rep S hp hcs x tv htv) e hvc hK
theorem ziI {dst : Option Nat} : ∀ {cs : List Cd} {x : Cd},x ∈ dropC dst cs → x ∈ cs ∧ ∀ d,dst = some d → x.t ≠ d ∧ ∀ y ∈ x.path,y.1 ≠ d
 | [],x,h => by cases h
 | z :: l,x,h => by
  unfold dropC at h
  cases dst with
  | none => exact ⟨h,fun d hd => by cases hd⟩
  | some d =>
   simp only at h
   split at h
   ·obtain ⟨h1,h2⟩ := ziI h
    exact ⟨List.mem_cons_of_mem _ h1,h2⟩
   ·rename_i hn
    rcases List.mem_cons.1 h with rfl | h
    ·refine ⟨List.mem_cons_self ..,fun d' hd => ?_⟩
     cases hd
     simp only [Bool.or_eq_true,beq_iff_eq,List.any_eq_true,not_or,not_exists,not_and] at hn
     exact ⟨hn.1,hn.2⟩
    ·obtain ⟨h1,h2⟩ := ziI h
     exact ⟨List.mem_cons_of_mem _ h1,h2⟩
theorem put_other {dst : Option Nat} {v : Value} {t : Nat} (h : ∀ d,dst = some d → t ≠ d) : (a.put dst v).tmps.getD t Go.undef = a.tmps.getD t Go.undef := by
 cases dst with
 | none => rfl
 | some d => rw [Act.put_getD,if_neg fun e => h d rfl e.1.symm]
theorem CdOK.put {x : Cd} (h : CdOK w ok β a x) {dst : Option Nat} {v : Value} (hd : ∀ d,dst = some d → x.t ≠ d ∧ ∀ y ∈ x.path,y.1 ≠ d) {w' : World} {ok' : Nat → Prop} {β' : Nat → Option Value}
  (hh : ∀ b,ok b → w'.heap[b]? = w.heap[b]?) (hk : ∀ b,ok b → ok' b) (hβ : ∀ id v,β id = some v → β' id = some v) : CdOK w' ok' β' (a.put dst v) x := by
 have e1 := put_other (a := a) (v := v) (t := x.t) fun d h' => (hd d h').1
 have e2 : zel (a.put dst v) x.path ↔ zel a x.path := by
  refine forall_congr' fun y => forall_congr' fun hy => ?_
  rw [put_other (a := a) (v := v) (t := y.1) fun d h' => (hd d h').2 y hy]
 exact ⟨fun hp => by rw [e1]; exact (h.rep (e2.1 hp)).mono hh hk hβ,fun b hb => by rw [e1] at hb; exact e2.2 (h.back b hb)⟩
theorem findC_ok {d : Nat} {b : Bool} (hb : a.tmps.getD d Go.undef = .bool b) : ∀ {cs : List Cd},(∀ x ∈ cs,CdOK w ok β a x) → zel a (findC d cs)
 | [],_ => fun x hx => by cases hx
 | z :: l,h => by
  unfold findC
  split
  ·rename_i hz
   simp only [beq_iff_eq] at hz
   exact (h z (List.mem_cons_self ..)).back b (by rw [hz]; exact hb)
  ·exact findC_ok hb fun y hy => h y (List.mem_cons_of_mem _ hy)
theorem zhQ {ops : Array Oper} {cs : List Cd} (hcs : ∀ x ∈ cs,CdOK w ok β a x) {o : Oper} {p : List (Nat × Bool)} (h : gpath ops cs o.guard = some p) : (Region.wanted o (yielded ops a.tmps) = true ↔ zel a p) := by
 unfold gpath at h
 split at h
 ·rename_i hg
  cases h
  exact ⟨fun _ x hx => (by cases hx),fun _ => (by simp [Region.wanted,hg])⟩
 ·rename_i j want hg
  split at h
  ·rename_i d hd
   cases h
   have hw : Region.wanted o (yielded ops a.tmps) = ((match a.tmps.getD d Go.undef with | .bool b => some b | _ => none) == some want) := by
    simp only [Region.wanted,hg,ziS hd a] <;> rfl
   rw [hw]
   constructor
   ·intro h
    have hb : a.tmps.getD d Go.undef = .bool want := by
     revert h
     split
     ·rename_i b hb; intro h; simp at h; rw [hb,h]
     ·intro h; simp at h
    intro x hx
    rcases List.mem_cons.1 hx with rfl | hx
    ·exact hb
    ·exact findC_ok hb hcs x hx
   ·intro h
    rw [h (d,want) (List.mem_cons_self ..)]
    simp
  ·cases h
theorem regCo_mem {ops : Array Oper} {n : Nat} : ∀ {rest : List Oper} {cs : List Cd} {rq rq' : List Bool} {σ σ' : St},regCo P T ops n rest cs rq σ = some (rq',σ') → ∀ c ∈ rq,c ∈ rq'
 | [],cs,rq,rq',σ,σ',h,c,hc => by cases h; exact hc
 | o :: rest,cs,rq,rq',σ,σ',h,c,hc => by
  unfold regCo at h
  split at h
  ·cases h
  split at h
  ·cases h
  split at h
  ·exact regCo_mem h c (List.mem_cons_of_mem _ hc)
  ·split at h
   ·split at h
    ·exact regCo_mem h c (List.mem_cons_of_mem _ hc)
    ·cases h
   ·cases h
theorem ziz (hT : zck P T) {ops : Array Oper} {n : Nat} {Q : Exit → Act → World → Prop} : ∀ (rest : List Oper) (i : Nat) (cs : List Cd) (rq rq' : List Bool) (σ σ' : St) (a : Act) (w : World) (β : Nat → Option Value) (ok : Nat → Prop),
  (∀ k,rest[k]? = ops[i + k]?) → (∀ x ∈ cs,CdOK w ok β a x) → n = σ.tmps.length → Sim π w0 own w a σ β ok → regCo P T ops n rest cs rq σ = some (rq',σ') → (∀ c ∈ rq',c = true) →
  (∀ a' w' β' ok',Sim π w0 own w' a' σ' β' ok' → Q .normal a' w') → wpOpsIn (Fw π.rd) 0 P ops Q (List.range' i rest.length) a w
 | [],i,cs,rq,rq',σ,σ',a,w,β,ok,_,_,_,S,h,hr,hQ => by cases h; exact hQ a w β ok S
 | o :: rest,i,cs,rq,rq',σ,σ',a,w,β,ok,hops,hcs,hn,S,h,hr,hQ => by
  have ho : ops[i]? = some o := by simpa using (hops 0).symm
  have hrest : ∀ k,rest[k]? = ops[i + 1 + k]? := fun k => by
   have := hops (k + 1)
   rw [show i + 1 + k = i + (k + 1) by omega]
   simpa using this
  rw [List.length_cons,List.range'_succ]
  simp only [wpOpsIn,ho]
  unfold regCo at h
  split at h
  ·cases h
  rename_i p hp
  have hwant := zhQ hcs hp
  split at h
  ·cases h
  rename_i r hr1
  split at h
  ·-- no guard
   have hp0 : zel a [] := fun x hx => by cases hx
   rw [if_pos (hwant.2 hp0)]
   have hvc : r.vc = true := hr _ (regCo_mem h _ (List.mem_cons_self ..))
   refine zhO S hT hp0 hcs hr1 hvc fun v w' β' ok' D => ?_
   refine ziz hT rest (i + 1) _ _ rq' _ σ' _ w' β' ok' hrest (fun x hx => ?_) ?_ (S.after D) h hr hQ
   ·obtain ⟨h1,h2⟩ := ziI hx
    exact (hcs x h1).put h2 D.hh D.hk D.hβ
   ·rw [hn]; exact (St.put_length ..).symm
  ·rename_i x0 p0
   split at h
   ·rename_i d q hupd hd hq
    split at h
    ·rename_i hc
     simp only [Bool.and_eq_true,Bool.not_eq_true',List.any_eq_false,beq_iff_eq] at hc
     obtain ⟨hdn,hdp⟩ := hc
     have hdn' : d < σ.tmps.length := by rw [← hn]; exact Nat.le_of_ble_eq_true hdn
     have hreq := hr _ (regCo_mem h _ (List.mem_cons_self ..))
     by_cases hpo : zel a (x0 :: p0)
     ·rw [if_pos (hwant.2 hpo)]
      have hq1 : q = true := pv_true S hpo hcs (fun _ h => h) hq
      have hvc : r.vc = true := by rw [hq1] at hreq; simpa using hreq
      refine zhO S hT hpo hcs hr1 hvc fun v w' β' ok' D => ?_
      rw [hupd] at D
      have D' : zdm w0 own w β ok (zct σ.heap) (.lf .undef) [] v w' β' ok' := { D with rep := trivial }
      have S' := S.after (o := o) (r := ⟨true,.lf .undef,[],false,false⟩) D'
      have hσ : σ.after o ⟨true,.lf .undef,[],false,false⟩ = σ.put (some d) (.lf .undef) := by
       unfold St.after
       rw [hd]
       rfl
      rw [hσ] at S'
      rw [hd] at S' ⊢
      refine ziz hT rest (i + 1) _ _ rq' _ σ' _ w' β' ok' hrest (fun x hx => ?_) ?_ S' h hr hQ
      ·have hpath' : zel (a.put (some d) v) (x0 :: p0) := fun y hy => by
        rw [put_other (a := a) (v := v) (t := y.1) fun d' h' => by cases h'; exact hdp y hy]
        exact hpo y hy
       rcases List.mem_cons.1 hx with rfl | hx
       ·refine ⟨fun _ => ?_,fun _ _ => hpath'⟩
        show zcE w' ok' β' ((a.put (some d) v).tmps.getD d Go.undef) r.val
        rw [Act.put_getD,if_pos ⟨rfl,by rw [S.size]; exact hdn'⟩]
        exact D.rep
       ·rw [hd] at hx
        obtain ⟨h1,h2⟩ := ziI hx
        exact (hcs x h1).put h2 D.hh D.hk D.hβ
      ·rw [hn]; exact (St.put_length ..).symm
     ·rw [if_neg fun hw => hpo (hwant.1 hw)]
      refine ⟨fun _ _ => trivial,?_⟩
      rw [hd]
      have hund : zcE w ok β Go.undef (.lf .undef) := trivial
      refine ziz hT rest (i + 1) _ _ rq' _ σ' _ w β ok hrest (fun x hx => ?_) ?_ (S.put (some d) hund) h hr hQ
      ·rcases List.mem_cons.1 hx with rfl | hx
       ·have hpath' : ¬ zel (a.put (some d) Go.undef) (x0 :: p0) := fun hh => hpo fun y hy => by
         have := hh y hy
         rwa [put_other (a := a) (v := Go.undef) (t := y.1) fun d' h' => by cases h'; exact hdp y hy] at this
        refine ⟨fun hh => absurd hh hpath',fun b hb => ?_⟩
        exfalso
        have hb' : (a.put (some d) Go.undef).tmps.getD d Go.undef = .bool b := hb
        rw [Act.put_getD,if_pos ⟨rfl,by rw [S.size]; exact hdn'⟩] at hb'
        cases hb'
       ·rw [hd] at hx
        obtain ⟨h1,h2⟩ := ziI hx
        exact (hcs x h1).put h2 (fun _ _ => rfl) (fun _ h => h) (fun _ _ h => h)
      ·rw [hn]; exact (St.put_length ..).symm
    ·cases h
   ·cases h
theorem zcX.take {t : Ty} {us : List Value} {xs : List t.den} (h1 : t.size = 1) (h : zcX w ok t us xs) (hl : us.length = xs.length * t.size) (n : Nat) : zcX w ok t (us.take n) (xs.take n) := by
 rw [h1,Nat.mul_one] at hl
 intro i hi
 have hi' : i < n ∧ i < xs.length := by rw [List.length_take] at hi; omega
 have := h i hi'.2
 rw [h1,Nat.mul_one] at this ⊢
 have e1 : ((us.take n).drop i).take 1 = (us.drop i).take 1 := by
  rw [List.drop_take,List.take_take,Nat.min_eq_left (by omega)]
 rw [e1,List.getElem_take]
 exact this
theorem clearPair_sound {rd : Option Nat} (S : Sim π w0 own w a σ β ok) {oS oC : Oper} {c : Bool} {r : zcF} (e : clearPair P σ oS oC = some (c,r)) (hc : c = true) {K : Act → World → Prop} {Q : Exit → Act → World → Prop}
  (hK : ∀ a' w' β' ok',Sim π w0 own w' a' (clearSt σ oS oC r) β' ok' → K a' w') : oS.wpIn (Fw rd) 0 P a w (fun a1 w1 => oC.wpIn (Fw rd) 0 P a1 w1 K Q) Q := by
 unfold clearPair at e
 split at e
 case h_2 => cases e
 rename_i t x lo d c' hoS hd hoC
 split at e
 case h_2 => cases e
 rename_i d' t' hcal hargs htys
 split at e
 case isFalse => cases e
 rename_i hcond
 obtain ⟨rfl,rfl,hdl⟩ := hcond
 split at e
 case h_2 => cases e
 rename_i et id kk i hu hx hlo
 split at e
 case h_2 => cases e
 rename_i et' ty xs ty' z he hz
 split at e
 case isFalse => cases e
 rename_i hty
 subst hty
 split at e
 case isFalse => cases e
 rename_i h1
 obtain ⟨rfl,hsz⟩ := h1
 cases e
 simp only [Bool.and_eq_true,decide_eq_true_eq] at hc
 obtain ⟨hi0,hil⟩ := hc
 have hrx := S.eval x _ hx
 have hrlo := S.eval lo _ hlo
 obtain ⟨v,us,hβ,hown,hes⟩ := S.inv.ent id _ he
 have hxv : a.eval x = v := Option.some.inj (hrx.1.symm.trans hβ)
 have hlv : a.eval lo = .int kk i := hrlo.1
 obtain ⟨ii,zv,hinfo,hzv,hzs,his,hzr⟩ := zfH hz
 rw [hsz] at his
 have hus := hown.1
 rw [hsz,Nat.mul_one] at hus
 obtain ⟨zc,hzc⟩ : ∃ zc,zv.cells.toList = [zc] := by
  have : zv.cells.toList.length = 1 := by simp [hzs,his]
  exact List.length_eq_one_iff.1 this
 have hcut : ∃ A n cap,v = .slice A n cap ∧ n = xs.length ∧ n ≤ cap ∧ (execOp a.eval oS).run P w = .ok (.value (.slice (if cap = i.toNat then A else A.map (·.add (i.toNat * 1))) (n - i.toNat) (cap - i.toNat))) w := by
  have hb : ∀ n cap : Nat,n = xs.length → n ≤ cap → (Instr.sliceBounds true n cap (some (a.eval lo)) none none).run P w = .ok (i.toNat,n,cap) w := fun n cap hn _ => by
   simp [Instr.sliceBounds,zdR hlv hi0 (by omega : i ≤ (n : Nat))]
  have go : ∀ A (n cap : Nat),v = .slice A n cap → n = xs.length → n ≤ cap → (execOp a.eval oS).run P w = .ok (.value (.slice (if cap = i.toNat then A else A.map (·.add (i.toNat * 1))) (n - i.toNat) (cap - i.toNat))) w := fun A n cap hv hn hnc => by
   have := hb n cap hn hnc
   simp [execOp,hoS,Instr.sliceAt,hxv,hv,run_underlying hu,Instr.slice,this,sizeOf,typeInfo,hinfo,his]
  rcases hown.2 with ⟨hv,hn⟩ | ⟨g,cap,cur,hv,_,hg,hnc,_⟩
  ·exact ⟨none,0,0,hv,hn.symm,Nat.le_refl _,go none 0 0 hv hn.symm (Nat.le_refl _)⟩
  ·exact ⟨_,_,cap,hv,rfl,hnc,go _ _ cap hv rfl hnc⟩
 obtain ⟨A,n,cap,hv,hn,hnc,hrun⟩ := hcut
 subst hn
 unfold Oper.wpIn
 refine ⟨fun _ _ => trivial,?_⟩
 rw [Oper.semAt_eq _ _ _ (fun c hc => by rw [hoS] at hc; cases hc),hrun]
 show oC.wpIn (Fw rd) 0 P (a.put oS.dst _) w K Q
 have S1 : Sim π w0 own w (a.put oS.dst (.slice (if cap = i.toNat then A else A.map (·.add (i.toNat * 1))) (xs.length - i.toNat) (cap - i.toNat))) (σ.put oS.dst (.lf .undef)) β ok := S.put oS.dst trivial
 generalize hsv : (Value.slice (if cap = i.toNat then A else A.map (·.add (i.toNat * 1))) (xs.length - i.toNat) (cap - i.toNat)) = sv at S1 ⊢
 rw [hd] at S1 ⊢
 have harg : (a.put (some d') sv).eval (.tmp d') = sv := by
  show (a.put (some d') sv).tmps.getD d' Go.undef = sv
  rw [Act.put_getD,if_pos ⟨rfl,by rw [S.size]; exact hdl⟩]
 have hargs' : c'.args = #[.tmp d'] := by rw [← Array.toArray_toList (xs := c'.args),hargs]
 have htys' : c'.argTypes = #[t'] := by rw [← Array.toArray_toList (xs := c'.argTypes),htys]
 have hex : execOp (a.put (some d') sv).eval oC = (do let v ← Builtin.clear_ #[t'] oC.type #[sv]; pure (.value v)) := by
  have : c' = { c' with callee := .builtin .clear,args := #[.tmp d'],argTypes := #[t'] } := by rw [← hcal,← hargs',← htys']
  rw [this] at hoC
  simp [execOp,hoC,resolve,invoke,builtin,harg]
 have hfin : zcH P oC (a.put (some d') sv).eval w fun v' w' => ∃ β' ok',zdm w0 own w β ok (zct (σ.put (some d') (.lf .undef)).heap) (.lf .undef) [(id,⟨true,.arr et' ty' (xs.take i.toNat ++ List.replicate (xs.length - i.toNat) z)⟩)] v' w' β' ok' := by
  have I := S.inv
  rcases Nat.lt_or_ge i.toNat xs.length with hlt | hge
  ·-- cells are cleared
   rcases hown.2 with ⟨hv',hn'⟩ | ⟨g,cap',cur,hv',_,hg,hnc',hcm,hcs,htake⟩
   ·omega
   ·rw [hv] at hv'
    cases hv'
    simp only [hsz,Nat.mul_one] at hcs htake
    have hcap : ¬ cap = i.toNat := by omega
    have hsv' : sv = .slice (some ⟨g,i.toNat,none⟩) (xs.length - i.toNat) (cap - i.toNat) := by
     rw [← hsv,if_neg hcap]
     simp [ziv]
    have hzcells : (Builtin.zeroCells zv.cells (xs.length - i.toNat)).toList = List.replicate (xs.length - i.toNat) zc := by
     have : zv.cells = #[zc] := by rw [← Array.toArray_toList (xs := zv.cells),hzc]
     rw [this]
     simp [Builtin.zeroCells]
     apply List.ext_getElem
     ·simp
     ·intro q h1 h2
      simp [Nat.mod_one]
    have hrep1 : zcA w ok β [zc] (flat ty' z) := by rw [← hzc]; exact (hzr w ok).flat ty'
    have hzone : zc.oneCell' = true := hrep1.oneCell (zhT ty' _) zc (List.mem_singleton.2 rfl)
    obtain ⟨cs',hst,hcs'⟩ : ∃ cs' : Array Value,(storeCells ⟨g,i.toNat,none⟩ (List.replicate (xs.length - i.toNat) zc)).run P w = .ok () (w.setRow g cs') ∧ cs'.toList = cur.toList.take i.toNat ++ (List.replicate (xs.length - i.toNat) zc ++ cur.toList.drop (i.toNat + (xs.length - i.toNat))) :=
     ⟨_,run_storeCells_at P g i.toNat et' (List.replicate (xs.length - i.toNat) zc) 0 cur w hg (by simp; omega) (by intro q hq; rw [List.eq_of_mem_replicate hq]; exact hzone),by simp⟩
    have hm := I.mine he rfl hβ
    rw [hv] at hm hβ
    have hoth : ∀ q,q ≠ g → (w.setRow g cs').heap[q]? = w.heap[q]? := fun q hq => setRow_other w g q _ hq
    have hokh : ∀ q,ok q → (w.setRow g cs').heap[q]? = w.heap[q]? := fun q hq => hoth q fun e => (hm g rfl).1 (e ▸ hq)
    have hββ : ∀ q y,β q = some y → (fun q => if q = id then some (Value.slice (some ⟨g,0,none⟩) xs.length cap) else β q) q = some y := fun q y hq => by
     by_cases e : q = id
     ·subst e; rw [hβ] at hq; simpa using hq
     ·simpa [e] using hq
    refine ⟨.tuple #[],w.setRow g cs',.inl ?_,fun q => if q = id then some (.slice (some ⟨g,0,none⟩) xs.length cap) else β q,ok,hokh,fun _ h => h,hββ,trivial,?_,pin_old hβ,fun _ h => .inl h⟩
    ·rw [hex,hsv']
     have hzrun : (zeroValue et').run P w = .ok zv w := by simp [zeroValue,typeInfo,hinfo,hzv]
     obtain ⟨q,hq⟩ : ∃ q,xs.length - i.toNat = q + 1 := ⟨xs.length - i.toNat - 1,by omega⟩
     rw [hq] at hzcells hst ⊢
     simp [Builtin.clear_,run_underlying hu,hzrun,hzcells,hst]
    ·rw [St.put_heap]
     have hcsz : cs'.toList.length = cur.size := by
      rw [hcs']; simp; omega
     refine I.put id _ _ ok rfl rfl rfl (by simp [World.setRow]) (fun q _ hq => hoth q fun e => hq (by rw [e]; rfl)) (fun _ h => h) (fun _ h => .inl h) (.inr hβ) hm rfl ?_
     have hlen : (xs.take i.toNat ++ List.replicate (xs.length - i.toNat) z).length = xs.length := by simp; omega
     refine ⟨.slice (some ⟨g,0,none⟩) xs.length cap,us.take i.toNat ++ List.replicate (xs.length - i.toNat) zc,by simp,?_,?_⟩
     ·rw [hlen,hsz]
      refine ⟨by simp; omega,.inr ⟨g,cap,cs',rfl,Nat.zero_le _,setRow_heap w g cur _ et' _ hg,hnc',hcm,by simp at hcsz; omega,?_⟩⟩
      rw [hcs',Nat.mul_one,← htake]
      apply List.ext_getElem?
      intro q
      by_cases hq : q < xs.length
      ·rw [List.getElem?_take,if_pos hq]
       by_cases hqi : q < i.toNat
       ·rw [List.getElem?_append_left (by simp; omega),List.getElem?_append_left (by simp; omega),List.take_take,Nat.min_eq_left (by omega)]
       ·have l1 : (cur.toList.take i.toNat).length = i.toNat := by simp; omega
        have l2 : ((cur.toList.take xs.length).take i.toNat).length = i.toNat := by simp; omega
        rw [List.getElem?_append_right (l₁ := cur.toList.take i.toNat) (by omega),List.getElem?_append_right (l₁ := (cur.toList.take xs.length).take i.toNat) (by omega),l1,l2,List.getElem?_append_left (by simp; omega)]
      ·rw [List.getElem?_eq_none (by simp; omega),List.getElem?_eq_none (by simp; omega)]
     ·refine zcX.append ?_ ?_ (by rw [hsz]; simp; omega)
      ·exact (zcX.take hsz hes hown.1 _).mono hokh (fun _ h => h)
      ·have := zcX.replicate (hzr w ok) (xs.length - i.toNat)
       rw [hzc] at this
       have e2 : (List.replicate (xs.length - i.toNat) [zc]).flatten = List.replicate (xs.length - i.toNat) zc := by
        generalize xs.length - i.toNat = q
        induction q with
        | zero => rfl
        | succ q ih => rw [List.replicate_succ,List.flatten_cons,ih,List.replicate_succ]; rfl
       rw [e2] at this
       exact this.mono hokh (fun _ h => h)
  ·-- nothing is cleared
   have hi : i.toNat = xs.length := by omega
   have hxs : xs.take i.toNat ++ List.replicate (xs.length - i.toNat) z = xs := by
    rw [hi,Nat.sub_self,List.take_length]; simp
   rw [hxs]
   refine ⟨.tuple #[],w,.inl ?_,fun q => if q = id then some v else β q,ok,fun _ _ => rfl,fun _ h => h,fun q y hq => ?_,trivial,?_,pin_old hβ,fun _ h => .inl h⟩
   ·rw [hex,← hsv,hi,Nat.sub_self]
    cases hA : (if cap = xs.length then A else A.map (·.add (xs.length * 1))) <;> simp [Builtin.clear_,run_underlying hu]
   ·by_cases e : q = id
    ·subst e; rw [hβ] at hq; simpa using hq
    ·simpa [e] using hq
   ·rw [St.put_heap]
    refine I.put id _ v ok rfl rfl rfl (Nat.le_refl _) (fun _ _ _ => rfl) (fun _ h => h) (fun _ h => .inl h) (.inr hβ) (I.mine he rfl hβ) rfl ?_
    exact ⟨v,us,by simp,hown,hes⟩
 obtain ⟨v',w',hrun',β',ok',D⟩ := hfin
 have hw := zcH.wp (rd := rd) (K := K) (Q := Q) (R := fun v1 w1 => v1 = v' ∧ w1 = w') ⟨v',w',hrun',rfl,rfl⟩ (by
  rintro _ _ ⟨rfl,rfl⟩
  refine hK _ _ β' ok' ?_
  have := S1.after (o := oC) (r := ⟨true,.lf .undef,[(id,⟨true,.arr et' ty' (xs.take i.toNat ++ List.replicate (xs.length - i.toNat) z)⟩)],true,true⟩) D
  unfold clearSt
  rw [hd]
  exact this) (fun c hc => by rw [hoC] at hc; cases hc)
 exact hw
theorem regCl_mem {ops : Array Oper} : ∀ {rest : List Oper} {rq rq' : List Bool} {σ σ' : St},regCl P T ops rest rq σ = some (rq',σ') → ∀ c ∈ rq,c ∈ rq'
 | [],rq,rq',σ,σ',h,c,hc => by cases h; exact hc
 | [o],rq,rq',σ,σ',h,c,hc => by
  unfold regCl at h
  split at h
  ·cases h; exact List.mem_cons_of_mem _ hc
  ·cases h
 | o :: o2 :: rest,rq,rq',σ,σ',h,c,hc => by
  unfold regCl at h
  split at h
  ·split at h
   ·split at h
    ·exact regCl_mem h c (List.mem_cons_of_mem _ hc)
    ·cases h
   ·split at h
    ·exact regCl_mem h c (List.mem_cons_of_mem _ hc)
    ·cases h
  ·cases h
theorem zjs (hT : zck P T) {ops : Array Oper} {Q : Exit → Act → World → Prop} : ∀ (rest : List Oper) (i : Nat) (rq rq' : List Bool) (σ σ' : St) (a : Act) (w : World) (β : Nat → Option Value) (ok : Nat → Prop),
  (∀ k,rest[k]? = ops[i + k]?) → Sim π w0 own w a σ β ok → regCl P T ops rest rq σ = some (rq',σ') → (∀ c ∈ rq',c = true) →
  (∀ a' w' β' ok',Sim π w0 own w' a' σ' β' ok' → Q .normal a' w') → wpOpsIn (Fw π.rd) 0 P ops Q (List.range' i rest.length) a w
 | [],i,rq,rq',σ,σ',a,w,β,ok,_,S,h,hr,hQ => by cases h; exact hQ a w β ok S
 | [o],i,rq,rq',σ,σ',a,w,β,ok,hops,S,h,hr,hQ => by
  have ho : ops[i]? = some o := by simpa using (hops 0).symm
  rw [List.length_cons,List.range'_succ]
  simp only [wpOpsIn,ho]
  unfold regCl at h
  split at h
  case h_2 => cases h
  rename_i r hp hr1
  cases h
  have hwant := zhQ (w := w) (β := β) (ok := ok) (cs := []) (a := a) (fun x hx => by cases hx) hp
  have hp0 : zel a [] := fun x hx => by cases hx
  rw [if_pos (hwant.2 hp0)]
  have hvc : r.vc = true := hr _ (List.mem_cons_self ..)
  exact zhO S hT hp0 (fun x hx => by cases hx) hr1 hvc fun v w' β' ok' D => hQ _ _ β' ok' (S.after D)
 | o :: o2 :: rest,i,rq,rq',σ,σ',a,w,β,ok,hops,S,h,hr,hQ => by
  have ho : ops[i]? = some o := by simpa using (hops 0).symm
  have ho2 : ops[i + 1]? = some o2 := by simpa using (hops 1).symm
  have hrest : ∀ k,(o2 :: rest)[k]? = ops[i + 1 + k]? := fun k => by
   have := hops (k + 1)
   rw [show i + 1 + k = i + (k + 1) by omega]
   simpa using this
  have hrest2 : ∀ k,rest[k]? = ops[i + 1 + 1 + k]? := fun k => by
   have := hops (k + 2)
   rw [show i + 1 + 1 + k = i + (k + 2) by omega]
   simpa using this
  rw [List.length_cons,List.range'_succ]
  simp only [wpOpsIn,ho]
  unfold regCl at h
  split at h
  case h_2 => cases h
  rename_i hp
  have hwant := zhQ (w := w) (β := β) (ok := ok) (cs := []) (a := a) (fun x hx => by cases hx) hp
  have hp0 : ∀ a : Act,zel a [] := fun a x hx => by cases hx
  rw [if_pos (hwant.2 (hp0 a))]
  split at h
  ·split at h
   case h_2 => cases h
   rename_i x hp2 hcp
   obtain ⟨c,r⟩ := x
   have hc : c = true := hr _ (regCl_mem h _ (List.mem_cons_self ..))
   have hgo := clearPair_sound (Q := Q) S hcp hc (rd := π.rd) (K := wpOpsIn (Fw π.rd) 0 P ops Q (List.range' (i + 1 + 1) rest.length)) (fun a' w' β' ok' S' => zjs hT rest (i + 1 + 1) _ rq' _ σ' a' w' β' ok' hrest2 S' h hr hQ)
   rw [List.length_cons,List.range'_succ]
   have hfun : wpOpsIn (Fw π.rd) 0 P ops Q ((i + 1) :: List.range' (i + 1 + 1) rest.length) = fun a1 w1 => if Region.wanted o2 (yielded ops a1.tmps) then o2.wpIn (Fw π.rd) 0 P a1 w1 (wpOpsIn (Fw π.rd) 0 P ops Q (List.range' (i + 1 + 1) rest.length)) Q else (∀ f,o2.about P w1 a1.eval = some f → (Fw π.rd).fn f) ∧ wpOpsIn (Fw π.rd) 0 P ops Q (List.range' (i + 1 + 1) rest.length) (a1.put o2.dst undef) w1 := by
    funext a1 w1
    simp only [wpOpsIn,ho2]
   rw [hfun]
   refine Oper.wpIn_mono (fun a1 w1 h1 => ?_) hgo
   have hwant2 := zhQ (w := w) (β := β) (ok := ok) (cs := []) (a := a1) (fun x hx => by cases hx) hp2
   rw [if_pos (hwant2.2 (hp0 a1))]
   exact h1
  ·split at h
   case h_2 => cases h
   rename_i r hr1
   have hvc : r.vc = true := hr _ (regCl_mem h _ (List.mem_cons_self ..))
   refine zhO S hT (hp0 a) (fun x hx => by cases hx) hr1 hvc fun v w' β' ok' D => ?_
   exact zjs hT (o2 :: rest) (i + 1) _ rq' _ σ' _ w' β' ok' hrest (S.after D) h hr hQ
theorem regTree2_sound (hm : P.follows .mixedOrders = true) (hT : zck P T) {ops : Array Oper} {draw : Bool} {id : Nat} {K : Ev → Prop} (S : Sim π w0 own w a σ β ok)
  (hs : (regTree2 P T ops draw σ).sat K) : (Code.region id ops draw).wpIn (Fw π.rd) 0 P (zeu π w0 own K) a w := by
 unfold regTree2 at hs
 split at hs
 ·split at hs
  ·rename_i x hx
   obtain ⟨rq,σ'⟩ := x
   obtain ⟨h1,h2⟩ := reqs_sat hs
   refine wpIn_region ?_
   rw [List.range_eq_range']
   have := zjs (Q := zeu π w0 own K) hT ops.toList 0 [] rq σ σ' a w β ok (fun k => by simp) S hx h1
    fun a' w' β' ok' S' => ⟨.norm σ',β',ok',h2,rfl,S'⟩
   simpa using this
  ·exact hs.elim
 split at hs
 ·split at hs
  ·rename_i x hx
   obtain ⟨rq,σ'⟩ := x
   obtain ⟨h1,h2⟩ := reqs_sat hs
   refine wpIn_region ?_
   rw [List.range_eq_range']
   have := ziz (Q := zeu π w0 own K) hT ops.toList 0 [] [] rq σ σ' a w β ok (fun k => by simp) (fun x hx => by cases hx) rfl S hx h1
    fun a' w' β' ok' S' => ⟨.norm σ',β',ok',h2,rfl,S'⟩
   simpa using this
  ·exact regTree_sound hm hT S hs
 ·exact regTree_sound hm hT S hs
end
end Go.Proofs.YtlfdidaeachpoaaGreat
namespace Go.Proofs.YtlfdidaeachpoaaGreat
open Go Go.RowKit
abbrev Cuts := Nat → St → Option zcP
def cutAt (L : Cuts) (p : Nat) (f : St → zcP) (σ : St) : zcP := match L p σ with
 | some t => t
 | none => f σ
def evI (P : Program) (T : zcl) (L : Cuts) : Nat → Code → St → zcP
 | _,.skip,σ => .leaf (.norm σ)
 | _,.region _ ops draw,σ => regTree2 P T ops draw σ
 | p,.seq x y,σ => (cutAt L (2 * p) (evI P T L (2 * p) x) σ).bind fun
  | .norm σ' => cutAt L (2 * p + 1) (evI P T L (2 * p + 1) y) σ'
  | e => .leaf e
 | p,.cond c x y,σ => match σ.op c with
  | some (.lf (.bool q)) => .ite q (cutAt L (2 * p) (evI P T L (2 * p) x) σ) (cutAt L (2 * p + 1) (evI P T L (2 * p + 1) y) σ)
  | _ => .fail
 | p,.block id body,σ => (cutAt L (2 * p) (evI P T L (2 * p) body) σ).bind fun
  | .exit id' σ' => if id' = id then .leaf (.norm σ') else .leaf (.exit id' σ')
  | e => .leaf e
 | _,.exit id,σ => .leaf (.exit id σ)
 | _,.ret,σ => .leaf (.ret σ)
 | _,_,_ => .fail
def kid : Code → Bool → Option Code
 | .seq x _,false => some x
 | .seq _ y,true => some y
 | .cond _ x _,false => some x
 | .cond _ _ y,true => some y
 | .block _ x,false => some x
 | .loop x,false => some x
 | _,_ => none
def zdk : Nat → Code → Nat → Option Code
 | 0,c,q => if q = 1 then some c else none
 | d + 1,c,q => if q = 1 then some c else match zdk d c (q / 2) with
  | some x => kid x (q % 2 == 1)
  | none => none
theorem codeAt_succ {c : Code} : ∀ {d q : Nat} {x : Code},zdk d c q = some x → zdk (d + 1) c q = some x
 | 0,q,x,h => by
  unfold zdk at h ⊢
  split at h
  ·rename_i hq; rw [if_pos hq]; exact h
  ·cases h
 | d + 1,q,x,h => by
  unfold zdk at h
  show (if q = 1 then some c else match zdk (d + 1) c (q / 2) with | some x => kid x (q % 2 == 1) | none => none) = some x
  split at h
  ·rename_i hq; rw [if_pos hq]; exact h
  ·rename_i hq
   rw [if_neg hq]
   split at h
   ·rename_i y hy
    rw [codeAt_succ hy]
    exact h
   ·cases h
theorem codeAt_add {c : Code} {d q : Nat} {x : Code} (h : zdk d c q = some x) : ∀ k,zdk (d + k) c q = some x
 | 0 => h
 | k + 1 => codeAt_succ (codeAt_add h k)
theorem codeAt_fun {c : Code} {d d' q : Nat} {x x' : Code} (h : zdk d c q = some x) (h' : zdk d' c q = some x') : x = x' := by
 have h1 := codeAt_add h d'
 have h2 := codeAt_add h' d
 rw [Nat.add_comm] at h1
 rw [h1] at h2
 exact Option.some.inj h2
theorem zgM {c : Code} {d p : Nat} {x y : Code} {b : Bool} (hp : 0 < p) (h : zdk d c p = some x) (hk : kid x b = some y) : zdk (d + 1) c (2 * p + b.toNat) = some y := by
 unfold zdk
 have hb : b.toNat ≤ 1 := by cases b <;> decide
 rw [if_neg (by omega),show (2 * p + b.toNat) / 2 = p by omega,h]
 show kid x ((2 * p + b.toNat) % 2 == 1) = some y
 have : ((2 * p + b.toNat) % 2 == 1) = b := by
  cases b
  ·simp
  ·simp [Nat.add_mod]
 rw [this]
 exact hk
def CutOK (P : Program) (L : Cuts) (q : Nat) (c : Code) : Prop :=
 ∀ (π : Pin) (w0 : World) (own : Nat → Prop) (σ : St) (t : zcP) (K : Ev → Prop) (a : Act) (w : World) (β : Nat → Option Value) (ok : Nat → Prop),L q σ = some t → t.sat K → Sim π w0 own w a σ β ok →
  c.wpIn (Fw π.rd) 0 P (zeu π w0 own K) a w
def CutsOK (P : Program) (L : Cuts) (root : Code) (m : Nat) : Prop := ∀ d q c,m ≤ q → zdk d root q = some c → CutOK P L q c
section
variable {P : Program} {T : zcl} {π : Pin} {w0 : World} {own : Nat → Prop} {L : Cuts} {root : Code}
theorem zdZ (hm : P.follows .mixedOrders = true) (hT : zck P T) : ∀ (c : Code) (p d : Nat) (σ : St) (K : Ev → Prop) (a : Act) (w : World) (β : Nat → Option Value) (ok : Nat → Prop),
  0 < p → zdk d root p = some c → CutsOK P L root (p + 1) → Sim π w0 own w a σ β ok → (evI P T L p c σ).sat K → c.wpIn (Fw π.rd) 0 P (zeu π w0 own K) a w
 | .skip,_,_,σ,K,a,w,β,ok,_,_,_,S,hs => wpIn_skip ⟨.norm σ,β,ok,hs,rfl,S⟩
 | .region id ops draw,_,_,σ,K,a,w,β,ok,_,_,_,S,hs => regTree2_sound hm hT S hs
 | .seq x y,p,d,σ,K,a,w,β,ok,hp,hc,hL,S,hs => by
  have hx := zgM (b := false) hp hc rfl
  have hy := zgM (b := true) hp hc rfl
  simp only [Bool.toNat_false,Bool.toNat_true,Nat.add_zero] at hx hy
  have go : ∀ (z : Code) (q : Nat),p < q → zdk (d + 1) root q = some z → (∀ σ K a w β ok,Sim π w0 own w a σ β ok → (evI P T L q z σ).sat K → z.wpIn (Fw π.rd) 0 P (zeu π w0 own K) a w) →
    ∀ σ K a w β ok,Sim π w0 own w a σ β ok → (cutAt L q (evI P T L q z) σ).sat K → z.wpIn (Fw π.rd) 0 P (zeu π w0 own K) a w := fun z q hq hz ih σ K a w β ok S hs => by
   unfold cutAt at hs
   split at hs
   ·rename_i t ht
    exact hL _ q z hq hz π w0 own σ t K a w β ok ht hs S
   ·exact ih σ K a w β ok S hs
  refine wpIn_seq (wpIn_mono (go x (2 * p) (by omega) hx (fun σ K a w β ok S hs => zdZ hm hT x (2 * p) (d + 1) σ K a w β ok (by omega) hx (fun d q c h1 h2 => hL d q c (by omega) h2) S hs) σ _ a w β ok S (zcP.sat_bind hs)) ?_)
  rintro e a' w' ⟨ev,β',ok',hK,hev⟩
  cases ev with
  | norm σ' =>
   obtain ⟨rfl,S'⟩ := hev
   exact go y (2 * p + 1) (by omega) hy (fun σ K a w β ok S hs => zdZ hm hT y (2 * p + 1) (d + 1) σ K a w β ok (by omega) hy (fun d q c h1 h2 => hL d q c (by omega) h2) S hs) σ' K a' w' β' ok' S' hK
  | ret σ' => obtain ⟨rfl,S'⟩ := hev; exact ⟨.ret σ',β',ok',hK,rfl,S'⟩
  | exit id σ' => obtain ⟨rfl,S'⟩ := hev; exact ⟨.exit id σ',β',ok',hK,rfl,S'⟩
 | .cond c x y,p,d,σ,K,a,w,β,ok,hp,hc,hL,S,hs => by
  have hx := zgM (b := false) hp hc rfl
  have hy := zgM (b := true) hp hc rfl
  simp only [Bool.toNat_false,Bool.toNat_true,Nat.add_zero] at hx hy
  have go : ∀ (z : Code) (q : Nat),p < q → zdk (d + 1) root q = some z → (∀ σ K a w β ok,Sim π w0 own w a σ β ok → (evI P T L q z σ).sat K → z.wpIn (Fw π.rd) 0 P (zeu π w0 own K) a w) →
    ∀ σ K a w β ok,Sim π w0 own w a σ β ok → (cutAt L q (evI P T L q z) σ).sat K → z.wpIn (Fw π.rd) 0 P (zeu π w0 own K) a w := fun z q hq hz ih σ K a w β ok S hs => by
   unfold cutAt at hs
   split at hs
   ·rename_i t ht
    exact hL _ q z hq hz π w0 own σ t K a w β ok ht hs S
   ·exact ih σ K a w β ok S hs
  simp only [evI] at hs
  split at hs
  ·rename_i q hq
   have hv : a.eval c = .bool q := S.eval c _ hq
   refine wpIn_cond hv ?_
   cases q with
   | true => exact go x (2 * p) (by omega) hx (fun σ K a w β ok S hs => zdZ hm hT x (2 * p) (d + 1) σ K a w β ok (by omega) hx (fun d q c h1 h2 => hL d q c (by omega) h2) S hs) σ K a w β ok S (hs.1 rfl)
   | false => exact go y (2 * p + 1) (by omega) hy (fun σ K a w β ok S hs => zdZ hm hT y (2 * p + 1) (d + 1) σ K a w β ok (by omega) hy (fun d q c h1 h2 => hL d q c (by omega) h2) S hs) σ K a w β ok S (hs.2 rfl)
  ·exact hs.elim
 | .block id body,p,d,σ,K,a,w,β,ok,hp,hc,hL,S,hs => by
  have hx := zgM (b := false) hp hc rfl
  simp only [Bool.toNat_false,Nat.add_zero] at hx
  have hbody : ∀ K',(cutAt L (2 * p) (evI P T L (2 * p) body) σ).sat K' → body.wpIn (Fw π.rd) 0 P (zeu π w0 own K') a w := fun K' h1 => by
   unfold cutAt at h1
   split at h1
   ·rename_i t ht
    exact hL _ (2 * p) body (by omega) hx π w0 own σ t _ a w β ok ht h1 S
   ·exact zdZ hm hT body (2 * p) (d + 1) σ _ a w β ok (by omega) hx (fun d q c h1 h2 => hL d q c (by omega) h2) S h1
  refine wpIn_block (wpIn_mono (hbody _ (zcP.sat_bind hs)) ?_)
  rintro e a' w' ⟨ev,β',ok',hK,hev⟩
  cases ev with
  | norm σ' => obtain ⟨rfl,S'⟩ := hev; exact ⟨.norm σ',β',ok',hK,rfl,S'⟩
  | ret σ' => obtain ⟨rfl,S'⟩ := hev; exact ⟨.ret σ',β',ok',hK,rfl,S'⟩
  | exit id' σ' =>
   obtain ⟨rfl,S'⟩ := hev
   simp only at hK
   show (if id' = id then zeu π w0 own K .normal a' w' else zeu π w0 own K (.exit id') a' w')
   split at hK
   ·rename_i h; rw [if_pos h]; exact ⟨.norm σ',β',ok',hK,rfl,S'⟩
   ·rename_i h; rw [if_neg h]; exact ⟨.exit id' σ',β',ok',hK,rfl,S'⟩
 | .loop _,_,_,_,_,_,_,_,_,_,_,_,_,hs => hs.elim
 | .exit id,_,_,σ,K,a,w,β,ok,_,_,_,S,hs => wpIn_exit ⟨.exit id σ,β,ok,hs,rfl,S⟩
 | .ret,_,_,σ,K,a,w,β,ok,_,_,_,S,hs => wpIn_ret ⟨.ret σ,β,ok,hs,rfl,S⟩
 | .rangeFunc ..,_,_,_,_,_,_,_,_,_,_,_,_,hs => hs.elim
 | .scope _,_,_,_,_,_,_,_,_,_,_,_,_,hs => hs.elim
 | .label _,_,_,_,_,_,_,_,_,_,_,_,_,hs => hs.elim
 | .goto _,_,_,_,_,_,_,_,_,_,_,_,_,hs => hs.elim
 | .refuse _,_,_,_,_,_,_,_,_,_,_,_,_,hs => hs.elim
end
theorem loop_at {P : Program} {T : zcl} {L : Cuts} {root : Code} (hm : P.follows .mixedOrders = true) (hT : zck P T) {α : Type} {d q : Nat} {body : Code} (hq : 0 < q) (hc : zdk d root q = some (.loop body)) (hL : CutsOK P L root (q + 1))
  (mk : α → St) (I : α → Prop) (μ : α → Nat) (F : α → (Ev → Prop) → Prop)
  (round : ∀ x,I x → ∀ K,F x K → (evI P T L (2 * q) body (mk x)).sat fun
   | .norm σ => ∃ x' σ',Weak σ σ' ∧ σ' = mk x' ∧ I x' ∧ μ x' < μ x ∧ F x' K
   | e => K e) :
  ∀ x,I x → ∀ K,F x K → ∀ (π : Pin) (w0 : World) (own : Nat → Prop) (a : Act) (w : World) (β : Nat → Option Value) (ok : Nat → Prop),Sim π w0 own w a (mk x) β ok → (Code.loop body).wpIn (Fw π.rd) 0 P (zeu π w0 own K) a w := by
 intro x hI K hF π w0 own a w β ok S
 have hb := zgM (b := false) hq hc rfl
 simp only [Bool.toNat_false,Nat.add_zero] at hb
 refine wpIn_loop_ghost (fun n a w => ∃ x,μ x = n ∧ I x ∧ F x K ∧ ∃ β ok,Sim π w0 own w a (mk x) β ok) (μ x) ⟨x,rfl,hI,hF,β,ok,S⟩ ?_
 rintro n a w ⟨x,rfl,hI,hF,β,ok,S⟩
 refine wpIn_mono (zdZ hm hT body (2 * q) _ (mk x) _ a w β ok (by omega) hb (fun d q c h1 h2 => hL d q c (by omega) h2) S (round x hI K hF)) ?_
 rintro e a' w' ⟨ev,β',ok',hK,hev⟩
 cases ev with
 | norm σ =>
  obtain ⟨rfl,S'⟩ := hev
  obtain ⟨x',σ',hw,rfl,hI',hlt,hF'⟩ := hK
  obtain ⟨β2,ok2,S2⟩ := hw π w0 own w' a' β' ok' S'
  exact ⟨μ x',hlt,x',rfl,hI',hF',β2,ok2,S2⟩
 | ret σ => obtain ⟨rfl,S'⟩ := hev; exact ⟨.ret σ,β',ok',hK,rfl,S'⟩
 | exit id σ => obtain ⟨rfl,S'⟩ := hev; exact ⟨.exit id σ,β',ok',hK,rfl,S'⟩
end Go.Proofs.YtlfdidaeachpoaaGreat
namespace Go.Proofs.YtlfdidaeachpoaaGreat
open Go Go.RowKit
theorem wrap_i64 (n : Int) : IntKind.i64.wrap n = (n + 9223372036854775808) % 18446744073709551616 - 9223372036854775808 := by
 unfold IntKind.wrap
 have h1 : (2 : Int) ^ IntKind.i64.bits = 18446744073709551616 := rfl
 have h2 : IntKind.i64.signed = true := rfl
 have h3 : (2 : Int) ^ (IntKind.i64.bits - 1) = 9223372036854775808 := rfl
 simp only [h1,h2,h3]
 try simp only [Bool.true_and,decide_eq_true_eq]
 split <;> omega
theorem wrap_u64 (n : Int) : IntKind.u64.wrap n = n % 18446744073709551616 := by
 unfold IntKind.wrap
 have h1 : (2 : Int) ^ IntKind.u64.bits = 18446744073709551616 := rfl
 have h2 : IntKind.u64.signed = false := rfl
 simp only [h1,h2]
 simp
theorem wrap_u32 (n : Int) : IntKind.u32.wrap n = n % 4294967296 := by
 unfold IntKind.wrap
 have h1 : (2 : Int) ^ IntKind.u32.bits = 4294967296 := rfl
 have h2 : IntKind.u32.signed = false := rfl
 simp only [h1,h2]
 simp
theorem i64_in {n : Int} (h : -9223372036854775808 ≤ n ∧ n ≤ 9223372036854775807) : IntKind.i64.wrap n = n := by rw [wrap_i64]; omega
theorem u64_in {n : Int} (h : 0 ≤ n ∧ n < 18446744073709551616) : IntKind.u64.wrap n = n := by rw [wrap_u64]; omega
theorem u32_in {n : Int} (h : 0 ≤ n ∧ n < 4294967296) : IntKind.u32.wrap n = n := by rw [wrap_u32]; omega
def zdY : List Nat → List TV → Nat → TV
 | t :: ts,v :: vs,i => if t = i then v else zdY ts vs i
 | _,_,_ => .lf .undef
def zgD (ts : List Nat) (vs : List TV) : Nat → Nat → List TV
 | 0,_ => []
 | n + 1,i => zdY ts vs i :: zgD ts vs n (i + 1)
def spSt (len : Nat) (ts : List Nat) (vs : List TV) (hp : List (Nat × Ent)) : St := ⟨zgD ts vs len 0,hp⟩
theorem zcY (ts : List Nat) (vs : List TV) : ∀ n i,(zgD ts vs n i).length = n
 | 0,_ => rfl
 | n + 1,i => by simp [zgD,zcY ts vs n]
theorem zer (ts : List Nat) (vs : List TV) : ∀ n i t,(zgD ts vs n i).getD t (.lf .undef) = if t < n then zdY ts vs (i + t) else .lf .undef
 | 0,_,t => by simp [zgD]
 | n + 1,i,0 => by simp [zgD]
 | n + 1,i,t + 1 => by
  have := zer ts vs n (i + 1) t
  simp only [zgD,List.getD_cons_succ]
  rw [this,show i + 1 + t = i + (t + 1) by omega]
  by_cases h : t < n
  ·rw [if_pos h,if_pos (by omega)]
  ·rw [if_neg h,if_neg (by omega)]
theorem lookT_map (f : Nat → TV) : ∀ (ts : List Nat) (i : Nat),zdY ts (ts.map f) i = if ts.contains i then f i else .lf .undef
 | [],i => by simp [zdY]
 | t :: ts,i => by
  simp only [List.map_cons,zdY]
  by_cases h : t = i
  ·subst h
   simp
  ·rw [if_neg h,lookT_map f ts i]
   simp only [List.contains_cons]
   have : (i == t) = false := by simpa using fun e => h e.symm
   rw [this,Bool.false_or]
def zgd (plan : List WOp) (ts : List Nat) (len : Nat) (σ : St) : Option (List TV × List (Nat × Ent)) :=
 match weaken plan σ with
 | some σ' => if σ'.tmps.length = len then
   (if (ts.all fun t => (tvIds (σ'.tv t)).all fun id => σ'.heap.any fun x => x.1 == id) = true then some (ts.map σ'.tv,σ'.heap) else none)
  else none
 | none => none
theorem zfz {plan : List WOp} {ts : List Nat} {len : Nat} {σ : St} {vs : List TV} {hp : List (Nat × Ent)} (h : zgd plan ts len σ = some (vs,hp)) : Weak σ (spSt len ts vs hp) := by
 unfold zgd at h
 split at h
 ·rename_i σ' hσ
  split at h
  ·rename_i hl
   split at h
   ·cases h
    refine (zjt hσ).trans fun π w0 own w a β ok S => ⟨β,ok,?_⟩
    refine ⟨S.inv,fun t => ?_,?_,S.def0,S.pin,S.okB⟩
    ·show zcE w ok β _ ((zgD ts (ts.map σ'.tv) len 0).getD t (.lf .undef))
     rw [zer]
     split
     ·rw [Nat.zero_add,lookT_map]
      split
      ·exact S.tmps t
      ·trivial
     ·trivial
    ·rw [S.size,hl]
     exact (zcY ..).symm
   ·cases h
  ·cases h
 ·cases h
inductive PE where
 | norm (vs : List TV) (hp : List (Nat × Ent))
 | exit (id : Nat) (vs : List TV) (hp : List (Nat × Ent))
 | ret (vs : List TV) (hp : List (Nat × Ent))
 | out (r : zdP)
inductive PT where
 | leaf (e : PE)
 | ite (c : Bool) (a b : PT)
 | req (c : Bool) (t : PT)
 | may (c : Bool) (a b : PT)
 | fail
def PT.sat : PT → (PE → Prop) → Prop
 | .leaf e,K => K e
 | .ite c a b,K => (c = true → a.sat K) ∧ (c = false → b.sat K)
 | .req c t,K => c = true ∧ t.sat K
 | .may c a b,K => (c = true → a.sat K) ∧ b.sat K
 | .fail,_ => False
def PT.rq : Nat → PT → PT
 | 0,t => t
 | n + 1,t => .req true (PT.rq n t)
theorem PT.sat_rq {K : PE → Prop} : ∀ {n : Nat} {t : PT},(PT.rq n t).sat K ↔ t.sat K
 | 0,_ => Iff.rfl
 | n + 1,t => by
  show (true = true ∧ (PT.rq n t).sat K) ↔ _
  rw [PT.sat_rq (n := n)]
  simp
def zcP.pt (f : Ev → Option PE) : zcP → PT
 | .leaf e => match f e with
  | some p => .leaf p
  | none => .fail
 | .ite c a b => .ite c (a.pt f) (b.pt f)
 | .req c t => .req c (t.pt f)
 | .may c a b => .may c (a.pt f) (b.pt f)
 | .fail => .fail
theorem zcP.sat_pt {f : Ev → Option PE} {K : PE → Prop} {K' : Ev → Prop} (h : ∀ e p,f e = some p → K p → K' e) : ∀ {t : zcP},(t.pt f).sat K → t.sat K'
 | .leaf e,hs => by
  unfold zcP.pt at hs
  split at hs
  ·rename_i p hp
   exact h e p hp hs
  ·exact hs.elim
 | .ite _ _ _,hs => ⟨fun hc => zcP.sat_pt h (hs.1 hc),fun hc => zcP.sat_pt h (hs.2 hc)⟩
 | .req _ _,hs => ⟨hs.1,zcP.sat_pt h hs.2⟩
 | .may _ _ _,hs => ⟨fun hc => zcP.sat_pt h (hs.1 hc),zcP.sat_pt h hs.2⟩
 | .fail,hs => hs.elim
def outEv (P : Program) (fn : Func) (n : Nat) (plan : List WOp) (shares : Bool) : Ev → Option PE
 | .ret σ => ((weaken plan σ).bind (outOf P fn n shares)).map .out
 | .norm σ => ((weaken plan σ).bind (outOf P fn n shares)).map .out
 | .exit _ _ => none
theorem out_sat {P : Program} {fn : Func} {n : Nat} {plan : List WOp} {r : zdP} {t : zcP}
  (h : (t.pt (outEv P fn n plan r.shares)).sat fun | .out r' => r'.val = r.val ∧ r'.ents = r.ents ∧ r'.fresh = r.fresh | _ => False) : t.sat (RetOK P fn n plan r) := by
 refine zcP.sat_pt (fun e p he hp => ?_) h
 cases e with
 | ret σ =>
  obtain ⟨r',h1,rfl⟩ := Option.map_eq_some_iff.1 he
  obtain ⟨σ',h2,h3⟩ := Option.bind_eq_some_iff.1 h1
  exact ⟨σ',h2,r',h3,hp⟩
 | norm σ =>
  obtain ⟨r',h1,rfl⟩ := Option.map_eq_some_iff.1 he
  obtain ⟨σ',h2,h3⟩ := Option.bind_eq_some_iff.1 h1
  exact ⟨σ',h2,r',h3,hp⟩
 | exit id σ => cases he
def EvWeak : Ev → Ev → Prop
 | .norm σ,.norm σ' => Weak σ σ'
 | .ret σ,.ret σ' => Weak σ σ'
 | .exit id σ,.exit id' σ' => id = id' ∧ Weak σ σ'
 | _,_ => False
theorem zeu.weak {π : Pin} {w0 : World} {own : Nat → Prop} {K : Ev → Prop} {e : Exit} {a : Act} {w : World} (h : zeu π w0 own (fun e => ∃ e',EvWeak e e' ∧ K e') e a w) : zeu π w0 own K e a w := by
 obtain ⟨ev,β,ok,⟨ev',hw,hK⟩,hev⟩ := h
 cases ev <;> cases ev' <;> simp only [EvWeak] at hw <;> try exact hw.elim
 ·obtain ⟨he,S⟩ := hev
  obtain ⟨β',ok',S'⟩ := hw _ _ _ _ _ _ _ S
  exact ⟨_,β',ok',hK,he,S'⟩
 ·obtain ⟨he,S⟩ := hev
  obtain ⟨β',ok',S'⟩ := hw _ _ _ _ _ _ _ S
  exact ⟨_,β',ok',hK,he,S'⟩
 ·obtain ⟨he,S⟩ := hev
  obtain ⟨rfl,hw⟩ := hw
  obtain ⟨β',ok',S'⟩ := hw _ _ _ _ _ _ _ S
  exact ⟨_,β',ok',hK,he,S'⟩
structure zcq where
 f : Nat
 ans : List TV → List Ent → Option zdP
def zcq.ok (P : Program) (e : zcq) : Prop := ∀ args es r,e.ans args es = some r → r.vc = true → Enters P e.f ∧ zeC P e.f args es r
theorem zeC.den {P : Program} {f : Nat} {args : List TV} {es : List Ent} {r : zdP} (tss : List (List Ty)) (h : zeC P f (denTVs tss args) es r) : zeC P f args es r :=
 fun w vals β ok h1 h2 => h w vals β ok h1 (denTVs_rep h2)
def zcq.data (f : Nat) (tss : List (List Ty)) (ans : List TV → List Ent → Option zdP) : zcq := ⟨f,fun args es => ans (denTVs tss args) es⟩
theorem zcq.data_ok {P : Program} {f : Nat} {tss : List (List Ty)} {ans : List TV → List Ent → Option zdP} (h : zcq.ok P ⟨f,ans⟩) : (zcq.data f tss ans).ok P := fun args es r h1 h2 =>
 have h3 := h (denTVs tss args) es r h1 h2
 ⟨h3.1,h3.2.den tss⟩
def tab : List zcq → zcl
 | [],_,_,_ => none
 | e :: l,f,args,es => if e.f = f then (match e.ans args es with
  | some r => some r
  | none => tab l f args es) else tab l f args es
theorem zci {P : Program} : ∀ {l : List zcq},All (zcq.ok P) l → zck P (tab l)
 | [],_,f,args,es,r,h,_ => by cases h
 | e :: l,hl,f,args,es,r,h,hv => by
  unfold tab at h
  split at h
  ·rename_i he
   subst he
   split at h
   ·rename_i r' hr
    cases h
    exact hl.1 args es r hr hv
   ·exact zci hl.2 e.f args es r h hv
  ·exact zci hl.2 f args es r h hv
def zcs (fn : Func) : Code := fn.body.getD .skip
end Go.Proofs.YtlfdidaeachpoaaGreat
namespace Go.Proofs.YtlfdidaeachpoaaGreat
open Go Go.RowKit
inductive RT (α R : Type) : Type 1 where
 | again (x : α)
 | done (r : R)
 | ite (c : Bool) (a b : RT α R)
 | req (c : Bool) (t : RT α R)
 | may (c : Bool) (a b : RT α R)
 | rq (n : Nat) (t : RT α R)
 | call {γ : Type} (o : Option γ) (d : γ) (f : γ → RT α R)
 | fail
def RT.pt {α R : Type} (f : α → PE) (g : R → PE) : RT α R → PT
 | .again x => .leaf (f x)
 | .done r => .leaf (g r)
 | .ite c a b => .ite c (a.pt f g) (b.pt f g)
 | .req c t => .req c (t.pt f g)
 | .may c a b => .may c (a.pt f g) (b.pt f g)
 | .rq n t => .rq n (t.pt f g)
 | .call o d h => .req o.isSome ((h (o.getD d)).pt f g)
 | .fail => .fail
open Classical in
noncomputable def bothR {R : Type} (x y : Option R) : Option R := if x = y then y else none
noncomputable def RT.run {α R : Type} (again : α → Option R) : RT α R → Option R
 | .again x => again x
 | .done r => some r
 | .ite c a b => if c = true then a.run again else b.run again
 | .req c t => if c = true then t.run again else none
 | .may c a b => if c = true then bothR (a.run again) (b.run again) else b.run again
 | .rq _ t => t.run again
 | .call o _ h => o.bind fun v => (h v).run again
 | .fail => none
theorem RT.sat {α R : Type} {f : α → PE} {g : R → PE} {again : α → Option R} {r : R} {K : PE → Prop} (ha : ∀ x,again x = some r → K (f x)) (hg : K (g r)) :
  ∀ {t : RT α R},t.run again = some r → (t.pt f g).sat K
 | .again x,h => ha x h
 | .done r',h => by cases h; exact hg
 | .ite c a b,h => ⟨fun hc => RT.sat ha hg (t := a) (by simpa [RT.run,hc] using h),fun hc => RT.sat ha hg (t := b) (by simpa [RT.run,hc] using h)⟩
 | .req c t,h => by
  unfold RT.run at h
  split at h
  ·rename_i hc; exact ⟨hc,RT.sat ha hg h⟩
  ·cases h
 | .may c a b,h => by
  unfold RT.run at h
  split at h
  ·rename_i hc
   unfold bothR at h
   split at h
   ·rename_i e
    exact ⟨fun _ => RT.sat ha hg (t := a) (e.trans h),RT.sat ha hg (t := b) h⟩
   ·cases h
  ·rename_i hc
   exact ⟨fun h' => absurd h' hc,RT.sat ha hg (t := b) h⟩
 | .rq n t,h => PT.sat_rq.2 (RT.sat ha hg (t := t) h)
 | .call o d f',h => by
  obtain ⟨v,hv,h'⟩ := Option.bind_eq_some_iff.1 h
  subst hv
  exact ⟨rfl,RT.sat ha hg (t := f' v) h'⟩
 | .fail,h => by cases h
def zfW {α R : Type} (f : (α → Option R) → α → Option R) : Nat → α → Option R
 | 0,_ => none
 | k + 1,x => f (zfW f k) x
inductive LR (α β : Type) where
 | ex (x : α)
 | rt (y : β)
instance {α β : Type} [Inhabited α] : Inhabited (LR α β) := ⟨.ex default⟩
def LR.isRt {α β : Type} : LR α β → Bool
 | .ex _ => false
 | .rt _ => true
def LR.getX {α β : Type} [Inhabited α] : LR α β → α
 | .ex x => x
 | .rt _ => default
def LR.getR {α β : Type} [Inhabited β] : LR α β → β
 | .ex _ => default
 | .rt y => y
theorem zeC.vc {P : Program} {f : Nat} {args : List TV} {es : List Ent} {r : zdP} {c : Bool} (h : zeC P f args es r) : zeC P f args es { r with vc := c } := by
 intro w vals β ok h1 h2 h3 h4 h5 h6
 refine Calls.mono (h w vals β ok h1 h2 h3 h4 h5 h6) ?_
 rintro e w' ⟨v,β',ok',h7,h8⟩
 exact ⟨v,β',ok',h7,⟨h8.os,h8.tape,h8.output,h8.size,h8.block,h8.okNew,h8.same,h8.dom,h8.old,h8.rep,h8.len,h8.ents,h8.fresh,h8.place,h8.apart⟩⟩
end Go.Proofs.YtlfdidaeachpoaaGreat
namespace Go.Proofs.YtlfdidaeachpoaaGreat
open Go Go.RowKit
@[reducible] def Tup : List Ty → Type
 | [] => Unit
 | [a] => a.den
 | a :: b :: l => a.den × Tup (b :: l)
def Tup.dflt : (ts : List Ty) → Tup ts
 | [] => ()
 | [a] => a.dflt
 | a :: b :: l => (a.dflt,Tup.dflt (b :: l))
def Ty.leaf : (t : Ty) → t.den → zcp
 | .int k,n => .int k n
 | .bool,b => .bool b
 | .str,s => .str s
 | .sl t,xs => .dat t xs
 | .pair _ _,_ => .undef
def Ty.get : (t : Ty) → zcp → Option t.den
 | .int k,l => match l with
  | .int k' n => if k' = k then some n else none
  | _ => none
 | .bool,l => match l with
  | .bool b => some b
  | _ => none
 | .str,l => match l with
  | .str s => some s
  | _ => none
 | .sl t,l => match l with
  | .dat t' xs => if h : t' = t then some (h ▸ xs) else none
  | _ => none
 | .pair _ _,_ => none
theorem Ty.leaf_get : (t : Ty) → {l : zcp} → {x : t.den} → t.get l = some x → t.leaf x = l
 | .int k,l,x,h => by
  cases l <;> simp only [Ty.get] at h <;> try cases h
  split at h
  ·rename_i hk; subst hk; cases h; rfl
  ·cases h
 | .bool,l,x,h => by cases l <;> simp only [Ty.get] at h <;> cases h; rfl
 | .str,l,x,h => by cases l <;> simp only [Ty.get] at h <;> cases h; rfl
 | .sl t,l,x,h => by
  cases l <;> simp only [Ty.get] at h <;> try cases h
  split at h
  ·rename_i ht; subst ht; cases h; rfl
  ·cases h
 | .pair _ _,_,_,h => by cases h
def lvs : (ts : List Ty) → Tup ts → List zcp
 | [],_ => []
 | [a],x => [a.leaf x]
 | a :: b :: l,x => a.leaf x.1 :: lvs (b :: l) x.2
def getTup : (ts : List Ty) → List zcp → Option (Tup ts)
 | [],[] => some ()
 | [a],[l] => a.get l
 | a :: b :: r,l :: ls => match a.get l,getTup (b :: r) ls with
  | some x,some y => some (x,y)
  | _,_ => none
 | _,_ => none
theorem lvs_get : (ts : List Ty) → {ls : List zcp} → {x : Tup ts} → getTup ts ls = some x → lvs ts x = ls
 | [],ls,x,h => by
  cases ls with
  | nil => rfl
  | cons _ _ => cases h
 | [a],ls,x,h => by
  match ls,h with
  | [l],h => exact congrArg (fun z => [z]) (a.leaf_get h)
  | [],h => cases h
  | _ :: _ :: _,h => cases h
 | a :: b :: r,ls,x,h => by
  match ls,h with
  | l :: ls,h =>
   simp only [getTup] at h
   split at h
   ·rename_i y z hy hz
    cases h
    show a.leaf y :: lvs (b :: r) z = _
    rw [a.leaf_get hy,lvs_get (b :: r) hz]
   ·cases h
  | [],h => cases h
inductive SL where
 | fix (l : zcp)
 | at (s : Bool) (k : Nat)
inductive SV where
 | lf (l : SL)
 | agg (ls : List SL)
 | tup (cs : List (Bool × List SL))
 | rptr (ls : List SL)
inductive SB where
 | cells (ls : List SL)
 | arr (e : TypeId) (l : SL)
 | dead
def SL.fill (G H : List zcp) : SL → zcp
 | .fix l => l
 | .at true k => G.getD k .undef
 | .at false k => H.getD k .undef
def SV.fill (G H : List zcp) : SV → TV
 | .lf l => .lf (l.fill G H)
 | .agg ls => .agg (ls.map (SL.fill G H))
 | .tup cs => .tup (cs.map fun c => (c.1,c.2.map (SL.fill G H)))
 | .rptr ls => .rptr (ls.map (SL.fill G H))
def SB.fill (G H : List zcp) : SB → EB
 | .cells ls => .cells (ls.map (SL.fill G H))
 | .arr e l => match l.fill G H with
  | .dat t xs => .arr e t xs
  | _ => .dead
 | .dead => .dead
abbrev SHp := List (Nat × Bool × SB)
def fillVs (G H : List zcp) (vs : List SV) : List TV := vs.map (SV.fill G H)
def fillHp (G H : List zcp) (hp : SHp) : List (Nat × Ent) := hp.map fun x => (x.1,⟨x.2.1,x.2.2.fill G H⟩)
abbrev Prs := List (SL × zcp)
def zipL : List SL → List zcp → Option Prs
 | [],[] => some []
 | s :: ss,l :: ls => (zipL ss ls).map ((s,l) :: ·)
 | _,_ => none
def app2 (a b : Option Prs) : Option Prs := match a,b with
 | some x,some y => some (x ++ y)
 | _,_ => none
def zipC : List (Bool × List SL) → List (Bool × List zcp) → Option Prs
 | [],[] => some []
 | s :: ss,l :: ls => if s.1 = l.1 then app2 (zipL s.2 l.2) (zipC ss ls) else none
 | _,_ => none
def zipV : SV → TV → Option Prs
 | .lf s,.lf l => some [(s,l)]
 | .agg ss,.agg ls => zipL ss ls
 | .tup ss,.tup ls => zipC ss ls
 | .rptr ss,.rptr ls => zipL ss ls
 | _,_ => none
def zipVs : List SV → List TV → Option Prs
 | [],[] => some []
 | s :: ss,v :: vs => app2 (zipV s v) (zipVs ss vs)
 | _,_ => none
def zipB : SB → EB → Option Prs
 | .cells ss,.cells ls => zipL ss ls
 | .arr e s,.arr e' t xs => if e' = e then some [(s,.dat t xs)] else none
 | .dead,.dead => some []
 | _,_ => none
def zipHp : SHp → List (Nat × Ent) → Option Prs
 | [],[] => some []
 | s :: ss,x :: xs => if x.1 = s.1 ∧ x.2.w = s.2.1 then app2 (zipB s.2.2 x.2.b) (zipHp ss xs) else none
 | _,_ => none
def Fits (G H : List zcp) (ps : Prs) : Prop := ∀ p ∈ ps,p.1.fill G H = p.2
theorem Fits.app {G H : List zcp} {a b : Option Prs} {ps : Prs} (e : app2 a b = some ps) (h : Fits G H ps) : ∃ x y,a = some x ∧ b = some y ∧ Fits G H x ∧ Fits G H y := by
 unfold app2 at e
 split at e
 ·cases e
  exact ⟨_,_,rfl,rfl,fun p hp => h p (List.mem_append_left _ hp),fun p hp => h p (List.mem_append_right _ hp)⟩
 ·cases e
section
variable {G H : List zcp}
theorem ziK : ∀ {ss : List SL} {ls : List zcp} {ps : Prs},zipL ss ls = some ps → Fits G H ps → ss.map (SL.fill G H) = ls
 | [],[],_,_,_ => rfl
 | s :: ss,l :: ls,ps,e,h => by
  obtain ⟨qs,h1,rfl⟩ := Option.map_eq_some_iff.1 e
  rw [List.map_cons,h (s,l) (List.mem_cons_self ..),ziK h1 fun p hp => h p (List.mem_cons_of_mem _ hp)]
 | [],_ :: _,_,e,_ => by cases e
 | _ :: _,[],_,e,_ => by cases e
theorem zipC_fill : ∀ {ss : List (Bool × List SL)} {ls : List (Bool × List zcp)} {ps : Prs},zipC ss ls = some ps → Fits G H ps → (ss.map fun c => (c.1,c.2.map (SL.fill G H))) = ls
 | [],[],_,_,_ => rfl
 | s :: ss,l :: ls,ps,e,h => by
  unfold zipC at e
  split at e
  ·rename_i hb
   obtain ⟨x,y,h1,h2,h3,h4⟩ := h.app e
   rw [List.map_cons,ziK h1 h3,zipC_fill h2 h4,hb]
  ·cases e
 | [],_ :: _,_,e,_ => by cases e
 | _ :: _,[],_,e,_ => by cases e
theorem zipV_fill {s : SV} {v : TV} {ps : Prs} (e : zipV s v = some ps) (h : Fits G H ps) : s.fill G H = v := by
 unfold zipV at e
 split at e
 ·cases e
  exact congrArg TV.lf (h _ (List.mem_cons_self ..))
 ·exact congrArg TV.agg (ziK e h)
 ·exact congrArg TV.tup (zipC_fill e h)
 ·exact congrArg TV.rptr (ziK e h)
 ·cases e
theorem zipVs_fill : ∀ {ss : List SV} {vs : List TV} {ps : Prs},zipVs ss vs = some ps → Fits G H ps → fillVs G H ss = vs
 | [],[],_,_,_ => rfl
 | s :: ss,v :: vs,ps,e,h => by
  obtain ⟨x,y,h1,h2,h3,h4⟩ := h.app e
  show s.fill G H :: fillVs G H ss = _
  rw [zipV_fill h1 h3,zipVs_fill h2 h4]
 | [],_ :: _,_,e,_ => by cases e
 | _ :: _,[],_,e,_ => by cases e
theorem zipB_fill {s : SB} {b : EB} {ps : Prs} (e : zipB s b = some ps) (h : Fits G H ps) : s.fill G H = b := by
 unfold zipB at e
 split at e
 ·exact congrArg EB.cells (ziK e h)
 ·split at e
  ·rename_i he
   subst he
   cases e
   have := h _ (List.mem_cons_self ..)
   simp only at this
   unfold SB.fill
   simp only [this]
  ·cases e
 ·cases e; rfl
 ·cases e
theorem zipHp_fill : ∀ {ss : SHp} {xs : List (Nat × Ent)} {ps : Prs},zipHp ss xs = some ps → Fits G H ps → fillHp G H ss = xs
 | [],[],_,_,_ => rfl
 | s :: ss,x :: xs,ps,e,h => by
  unfold zipHp at e
  split at e
  ·rename_i hc
   obtain ⟨p,q,h1,h2,h3,h4⟩ := h.app e
   show (s.1,Ent.mk s.2.1 (s.2.2.fill G H)) :: fillHp G H ss = _
   rw [zipB_fill h1 h3,zipHp_fill h2 h4,← hc.1,← hc.2]
  ·cases e
 | [],_ :: _,_,e,_ => by cases e
 | _ :: _,[],_,e,_ => by cases e
end
def fixEq : zcp → zcp → Bool
 | .undef,.undef => true
 | .nil,.nil => true
 | .nilp,.nilp => true
 | .ref a,.ref b => a == b
 | .ptr a o,.ptr b o' => a == b && o == o'
 | .fn f c,.fn f' c' => f == f' && c == c'
 | _,_ => false
theorem fixEq_eq {a b : zcp} (h : fixEq a b = true) : a = b := by
 unfold fixEq at h
 split at h <;> simp_all
def rdPs : Prs → List zcp → List zcp → Option (List zcp × List zcp)
 | [],a,b => some (a,b)
 | (.fix l',l) :: r,a,b => if fixEq l' l = true then rdPs r a b else none
 | (.at true k,l) :: r,a,b => if k = a.length then rdPs r (a ++ [l]) b else none
 | (.at false k,l) :: r,a,b => if k = b.length then rdPs r a (b ++ [l]) else none
theorem ziG : ∀ {ps : Prs} {a b G H : List zcp},rdPs ps a b = some (G,H) → (∃ s t,G = a ++ s ∧ H = b ++ t) ∧ Fits G H ps
 | [],a,b,G,H,h => by cases h; exact ⟨⟨[],[],by simp,by simp⟩,fun p hp => by cases hp⟩
 | (.fix l',l) :: r,a,b,G,H,h => by
  unfold rdPs at h
  split at h
  ·rename_i he
   obtain ⟨h1,h2⟩ := ziG h
   refine ⟨h1,fun p hp => ?_⟩
   rcases List.mem_cons.1 hp with rfl | hp
   ·exact fixEq_eq he
   ·exact h2 p hp
  ·cases h
 | (.at true k,l) :: r,a,b,G,H,h => by
  unfold rdPs at h
  split at h
  ·rename_i he
   obtain ⟨⟨s,t,h1,h3⟩,h2⟩ := ziG h
   refine ⟨⟨l :: s,t,by simp [h1],h3⟩,fun p hp => ?_⟩
   rcases List.mem_cons.1 hp with rfl | hp
   ·show G.getD k .undef = l
    rw [h1,he]
    simp [List.getD]
   ·exact h2 p hp
  ·cases h
 | (.at false k,l) :: r,a,b,G,H,h => by
  unfold rdPs at h
  split at h
  ·rename_i he
   obtain ⟨⟨s,t,h1,h3⟩,h2⟩ := ziG h
   refine ⟨⟨s,l :: t,h1,by simp [h3]⟩,fun p hp => ?_⟩
   rcases List.mem_cons.1 hp with rfl | hp
   ·show H.getD k .undef = l
    rw [h3,he]
    simp [List.getD]
   ·exact h2 p hp
  ·cases h
structure Port where
 plan : List WOp
 ts : List Nat
 vs : List SV
 hp : SHp
abbrev Port.fill (p : Port) (G H : List zcp) : List TV × List (Nat × Ent) := (fillVs G H p.vs,fillHp G H p.hp)
def Port.rd (p : Port) (I A : List Ty) (y : List TV × List (Nat × Ent)) : Option (Tup I × Tup A) :=
 match app2 (zipVs p.vs y.1) (zipHp p.hp y.2) with
 | some ps => match rdPs ps [] [] with
  | some (g,h) => match getTup I g,getTup A h with
   | some i,some x => some (i,x)
   | _,_ => none
  | none => none
 | none => none
theorem Port.rd_fill {p : Port} {I A : List Ty} {y : List TV × List (Nat × Ent)} {x : Tup I × Tup A} (h : p.rd I A y = some x) : p.fill (lvs I x.1) (lvs A x.2) = y := by
 unfold Port.rd at h
 split at h
 ·rename_i ps hps
  split at h
  ·rename_i g k hg
   split at h
   ·rename_i i z hi hz
    cases h
    obtain ⟨_,hf⟩ := ziG hg
    rw [← lvs_get I hi,← lvs_get A hz] at hf
    obtain ⟨q,r,h1,h2,h3,h4⟩ := hf.app hps
    show (_,_) = _
    rw [zipVs_fill h1 h3,zipHp_fill h2 h4]
   ·cases h
  ·cases h
 ·cases h
open Classical in
noncomputable def loopF {α R : Type} (f : (α → Option R) → α → Option R) (x : α) : Option R := if h : ∃ k r,zfW f k x = some r then zfW f h.choose x else none
theorem loopF_some {α R : Type} {f : (α → Option R) → α → Option R} {x : α} {r : R} (h : loopF f x = some r) : ∃ k,zfW f k x = some r := by
 unfold loopF at h
 split at h
 ·exact ⟨_,h⟩
 ·cases h
def Below' {α R : Type} (f g : α → Option R) : Prop := ∀ x r,f x = some r → g x = some r
theorem RT.run_mono {α R : Type} {f g : α → Option R} (hfg : Below' f g) : ∀ {t : RT α R} {r : R},t.run f = some r → t.run g = some r
 | .again x,r,h => hfg x r h
 | .done _,_,h => h
 | .ite c a b,r,h => by
  unfold RT.run at h ⊢
  split at h
  ·rename_i hc; rw [if_pos hc]; exact RT.run_mono hfg h
  ·rename_i hc; rw [if_neg hc]; exact RT.run_mono hfg h
 | .req c t,r,h => by
  unfold RT.run at h ⊢
  split at h
  ·rename_i hc; rw [if_pos hc]; exact RT.run_mono hfg h
  ·cases h
 | .may c a b,r,h => by
  unfold RT.run at h ⊢
  split at h
  ·rename_i hc
   rw [if_pos hc]
   unfold bothR at h ⊢
   split at h
   ·rename_i e
    rw [RT.run_mono hfg (t := a) (e.trans h),RT.run_mono hfg (t := b) h,if_pos rfl]
   ·cases h
  ·rename_i hc; rw [if_neg hc]; exact RT.run_mono hfg h
 | .rq _ t,r,h => RT.run_mono hfg (t := t) h
 | .call o d k,r,h => by
  obtain ⟨v,hv,h'⟩ := Option.bind_eq_some_iff.1 h
  exact Option.bind_eq_some_iff.2 ⟨v,hv,RT.run_mono hfg h'⟩
 | .fail,_,h => h
theorem loopN_mono {α R : Type} {bt : α → RT α R} : ∀ (k : Nat),Below' (zfW (fun rec x => (bt x).run rec) k) (zfW (fun rec x => (bt x).run rec) (k + 1))
 | 0 => fun _ _ h => by cases h
 | k + 1 => fun _ _ h => RT.run_mono (loopN_mono k) h
theorem loopN_le {α R : Type} {bt : α → RT α R} {k m : Nat} (h : k ≤ m) : Below' (zfW (fun rec x => (bt x).run rec) k) (zfW (fun rec x => (bt x).run rec) m) := by
 obtain ⟨d,rfl⟩ := Nat.exists_eq_add_of_le h
 induction d with
 | zero => exact fun _ _ h => h
 | succ d ih => exact fun x r h => loopN_mono _ x r (ih (by omega) x r h)
theorem loopF_of {α R : Type} {bt : α → RT α R} {k : Nat} {x : α} {r : R} (h : zfW (fun rec x => (bt x).run rec) k x = some r) : loopF (fun rec x => (bt x).run rec) x = some r := by
 have hex : ∃ k r,zfW (fun rec x => (bt x).run rec) k x = some r := ⟨k,r,h⟩
 unfold loopF
 rw [dif_pos hex]
 obtain ⟨r',h'⟩ := hex.choose_spec
 have h1 := loopN_le (Nat.le_max_left k hex.choose) x r h
 have h2 := loopN_le (Nat.le_max_right k hex.choose) x r' h'
 rw [h1] at h2
 cases h2
 exact h'
theorem zfs {α R : Type} {bt : α → RT α R} : ∀ {t : RT α R} {r : R},t.run (loopF fun rec x => (bt x).run rec) = some r → ∃ k,t.run (zfW (fun rec x => (bt x).run rec) k) = some r
 | .again x,r,h => loopF_some h
 | .done _,_,h => ⟨0,h⟩
 | .ite c a b,r,h => by
  unfold RT.run at h
  split at h
  ·rename_i hc
   obtain ⟨k,hk⟩ := zfs h
   exact ⟨k,by unfold RT.run; rw [if_pos hc]; exact hk⟩
  ·rename_i hc
   obtain ⟨k,hk⟩ := zfs h
   exact ⟨k,by unfold RT.run; rw [if_neg hc]; exact hk⟩
 | .req c t,r,h => by
  unfold RT.run at h
  split at h
  ·rename_i hc
   obtain ⟨k,hk⟩ := zfs h
   exact ⟨k,by unfold RT.run; rw [if_pos hc]; exact hk⟩
  ·cases h
 | .may c a b,r,h => by
  unfold RT.run at h
  split at h
  ·rename_i hc
   unfold bothR at h
   split at h
   ·rename_i e
    obtain ⟨k,hk⟩ := zfs (t := a) (e.trans h)
    obtain ⟨m,hm⟩ := zfs (t := b) h
    refine ⟨max k m,?_⟩
    unfold RT.run bothR
    rw [if_pos hc,RT.run_mono (loopN_le (Nat.le_max_left k m)) hk,RT.run_mono (loopN_le (Nat.le_max_right k m)) hm,if_pos rfl]
   ·cases h
  ·rename_i hc
   obtain ⟨k,hk⟩ := zfs h
   exact ⟨k,by unfold RT.run; rw [if_neg hc]; exact hk⟩
 | .rq _ t,r,h => zfs (t := t) h
 | .call o d f,r,h => by
  obtain ⟨v,hv,h'⟩ := Option.bind_eq_some_iff.1 h
  obtain ⟨k,hk⟩ := zfs h'
  exact ⟨k,Option.bind_eq_some_iff.2 ⟨v,hv,hk⟩⟩
 | .fail,_,h => by cases h
theorem loopF_run {α R : Type} (bt : α → RT α R) (x : α) : loopF (fun rec x => (bt x).run rec) x = (bt x).run (loopF fun rec x => (bt x).run rec) := by
 apply Option.ext
 intro r
 constructor
 ·intro h
  obtain ⟨k,hk⟩ := loopF_some h
  cases k with
  | zero => cases hk
  | succ k => exact RT.run_mono (fun _ _ h => loopF_of h) (show (bt x).run (zfW (fun rec x => (bt x).run rec) k) = some r from hk)
 ·intro h
  obtain ⟨k,hk⟩ := zfs h
  exact loopF_of (k := k + 1) hk
end Go.Proofs.YtlfdidaeachpoaaGreat
namespace Go.Proofs.YtlfdidaeachpoaaGreat
open Go Go.RowKit
structure Out where
 key : Nat      -- 0: goes on; 1: returns; 2 + id: leaves a block
 port : Port
 R : List Ty
@[reducible] def RTy : List (List Ty) → Type
 | [] => Unit
 | [r] => Tup r
 | r :: r' :: l => LR (Tup r) (RTy (r' :: l))
def RTy.dflt : (l : List (List Ty)) → RTy l
 | [] => ()
 | [r] => Tup.dflt r
 | r :: _ :: _ => .ex (Tup.dflt r)
def zep (k : Nat) (y : List TV × List (Nat × Ent)) : PE := match k with
 | 0 => .norm y.1 y.2
 | 1 => .ret y.1 y.2
 | k + 2 => .exit k y.1 y.2
def keyEv (k : Nat) (σ : St) : Ev := match k with
 | 0 => .norm σ
 | 1 => .ret σ
 | k + 2 => .exit k σ
def evOut (G : List zcp) : (l : List Out) → RTy (l.map (·.R)) → PE
 | [],_ => .out ⟨true,.lf .undef,[],[],false⟩
 | [o],x => zep o.key (o.port.fill G (lvs o.R x))
 | o :: o' :: l,x => match (show LR (Tup o.R) (RTy ((o' :: l).map (·.R))) from x) with
  | .ex y => zep o.key (o.port.fill G (lvs o.R y))
  | .rt y => evOut G (o' :: l) y
def lrX {α β : Type} (d : α) : LR α β → α
 | .ex x => x
 | .rt _ => d
def lrR {α β : Type} (d : β) : LR α β → β
 | .ex _ => d
 | .rt y => y
def evTree (len : Nat) (G : List zcp) : (l : List Out) → RTy (l.map (·.R)) → zcP
 | [],_ => .fail
 | [o],x => .leaf (keyEv o.key (spSt len o.port.ts (o.port.fill G (lvs o.R x)).1 (o.port.fill G (lvs o.R x)).2))
 | o :: o' :: l,x =>
  .ite (LR.isRt (show LR (Tup o.R) (RTy ((o' :: l).map (·.R))) from x)) (evTree len G (o' :: l) (lrR (RTy.dflt ((o' :: l).map (·.R))) x))
   (.leaf (keyEv o.key (spSt len o.port.ts (o.port.fill G (lvs o.R (lrX (Tup.dflt o.R) x))).1 (o.port.fill G (lvs o.R (lrX (Tup.dflt o.R) x))).2)))
def outAt : List Out → Nat → Option Out
 | [],_ => none
 | o :: l,k => if o.key = k then some o else outAt l k
def zis (len : Nat) (p : Port) (σ : St) : Option (List TV × List (Nat × Ent)) := zgd p.plan p.ts len σ
def seeOuts (len : Nat) (hd : Option Port) (outs : List Out) : Ev → Option PE
 | .norm σ => match hd with
  | some p => (zis len p σ).map (zep 0)
  | none => (outAt outs 0).bind fun o => (zis len o.port σ).map (zep 0)
 | .ret σ => (outAt outs 1).bind fun o => (zis len o.port σ).map (zep 1)
 | .exit id σ => (outAt outs (id + 2)).bind fun o => (zis len o.port σ).map (zep (id + 2))
def AtOut (len : Nat) (outs : List Out) (K : Ev → Prop) (p : PE) : Prop := ∃ k o y,outAt outs k = some o ∧ p = zep k y ∧ K (keyEv k (spSt len o.port.ts y.1 y.2))
theorem evTree_at {len : Nat} {G : List zcp} {K : Ev → Prop} {outs : List Out} : ∀ (l : List Out) (x : RTy (l.map (·.R))),(∀ o ∈ l,outAt outs o.key = some o) → (evTree len G l x).sat K → AtOut len outs K (evOut G l x)
 | [],_,_,h => h.elim
 | [o],x,ho,h => ⟨o.key,o,o.port.fill G (lvs o.R x),ho o (List.mem_cons_self ..),rfl,h⟩
 | o :: o' :: l,x,ho,h => by
  have x' : LR (Tup o.R) (RTy ((o' :: l).map (·.R))) := x
  change LR (Tup o.R) (RTy ((o' :: l).map (·.R))) at x
  cases x with
  | ex y => exact ⟨o.key,o,o.port.fill G (lvs o.R y),ho o (List.mem_cons_self ..),rfl,h.2 rfl⟩
  | rt y => exact evTree_at (o' :: l) y (fun z hz => ho z (List.mem_cons_of_mem _ hz)) (h.1 rfl)
theorem ziJ {k k' : Nat} {y y' : List TV × List (Nat × Ent)} (h : zep k y = zep k' y') : k = k' ∧ y = y' := by
 match k,k',h with
 | 0,0,h => cases y; cases y'; simp [zep] at h; simp [h]
 | 1,1,h => cases y; cases y'; simp [zep] at h; simp [h]
 | k + 2,k' + 2,h => cases y; cases y'; simp [zep] at h; simp [h]
 | 0,1,h => simp [zep] at h
 | 0,_ + 2,h => simp [zep] at h
 | 1,0,h => simp [zep] at h
 | 1,_ + 2,h => simp [zep] at h
 | _ + 2,0,h => simp [zep] at h
 | _ + 2,1,h => simp [zep] at h
structure zch where
 q : Nat
 lp : Bool
 I : List Ty
 A : List Ty
 head : Port
 outs : List Out
 bt : Tup I → Tup A → RT (Tup A) (RTy (outs.map (·.R)))
noncomputable def zch.fn (p : zch) (i : Tup p.I) (x : Tup p.A) : Option (RTy (p.outs.map (·.R))) := match p.lp with
 | true => loopF (fun rec z => (p.bt i z).run rec) x
 | false => (p.bt i x).run fun _ => none
noncomputable def tellP (len : Nat) (p : zch) (σ : St) : Option zcP := match zis len p.head σ with
 | some y => match p.head.rd p.I p.A y with
  | some x => some (.req (p.fn x.1 x.2).isSome (evTree len (lvs p.I x.1) p.outs ((p.fn x.1 x.2).getD (RTy.dflt _))))
  | none => none
 | none => none
noncomputable def zcB (len : Nat) : List zch → Cuts
 | [],_,_ => none
 | p :: l,q,σ => if p.q = q then tellP len p σ else zcB len l q σ
def zch.hd (p : zch) : Option Port := match p.lp with
 | true => some p.head
 | false => none
def zch.code (p : zch) (root : Code) : Option Code := match zdk 80 root p.q with
 | some c => match p.lp,c with
  | true,.loop b => some b
  | true,_ => none
  | false,c => some c
 | none => none
def zch.at (p : zch) : Nat := match p.lp with
 | true => 2 * p.q
 | false => p.q
def zch.st (p : zch) (len : Nat) (i : Tup p.I) (x : Tup p.A) : St := spSt len p.head.ts (p.head.fill (lvs p.I i) (lvs p.A x)).1 (p.head.fill (lvs p.I i) (lvs p.A x)).2
structure zch.OK (P : Program) (T : zcl) (L : Cuts) (root : Code) (len : Nat) (p : zch) : Prop where
 has : (!(p.q == 0) && (p.code root).isSome && zfT (p.outs.map (·.key)) && (!p.lp || (outAt p.outs 0).isNone)) = true
 go : ∀ i x,(evI P T L p.at ((p.code root).getD .skip) (p.st len i x)).pt (seeOuts len p.hd p.outs) = (p.bt i x).pt (fun x' => zep 0 (p.head.fill (lvs p.I i) (lvs p.A x'))) (evOut (lvs p.I i) p.outs)
theorem outAt_of : ∀ {l : List Out},zfT (l.map (·.key)) = true → ∀ o ∈ l,outAt l o.key = some o
 | o' :: l,hn,o,ho => by
  unfold outAt
  simp only [List.map_cons,zfT,Bool.and_eq_true,Bool.not_eq_true'] at hn
  rcases List.mem_cons.1 ho with rfl | ho
  ·rw [if_pos rfl]
  ·rw [if_neg (fun e => by
    have h1 : (l.map (·.key)).contains o'.key = true := by
     rw [List.contains_iff_mem,e]
     exact List.mem_map.2 ⟨o,ho,rfl⟩
    rw [hn.1] at h1
    cases h1)]
   exact outAt_of hn.2 o ho
section
variable {P : Program} {T : zcl}
theorem seeOuts_out {len : Nat} {hd : Option Port} {outs : List Out} {e : Ev} {pe : PE} (h : seeOuts len hd outs e = some pe) (K : Ev → Prop) (hn : hd = none ∨ ∀ σ,e ≠ .norm σ) (hp : AtOut len outs K pe) : ∃ e',EvWeak e e' ∧ K e' := by
 obtain ⟨k,o,y,h1,rfl,h2⟩ := hp
 have fin : ∀ (k' : Nat) (σ : St),(outAt outs k').bind (fun o => (zis len o.port σ).map (zep k')) = some (zep k y) → EvWeak (keyEv k' σ) (keyEv k' (spSt len o.port.ts y.1 y.2)) ∧ k = k' := fun k' σ h => by
  obtain ⟨o',h3,h4⟩ := Option.bind_eq_some_iff.1 h
  obtain ⟨z,h5,h6⟩ := Option.map_eq_some_iff.1 h4
  obtain ⟨rfl,rfl⟩ := ziJ h6
  rw [h1] at h3
  cases h3
  have hw := zfz h5
  refine ⟨?_,rfl⟩
  match k' with
  | 0 => exact hw
  | 1 => exact hw
  | k' + 2 => exact ⟨rfl,hw⟩
 cases e with
 | norm σ =>
  rcases hn with rfl | hn
  ·obtain ⟨h3,rfl⟩ := fin 0 σ h
   exact ⟨_,h3,h2⟩
  ·exact absurd rfl (hn σ)
 | ret σ =>
  obtain ⟨h3,rfl⟩ := fin 1 σ h
  exact ⟨_,h3,h2⟩
 | exit id σ =>
  obtain ⟨h3,rfl⟩ := fin (id + 2) σ h
  exact ⟨_,h3,h2⟩
theorem piece_ok (hm : P.follows .mixedOrders = true) (hT : zck P T) {root : Code} {len : Nat} {ps : List zch} {p : zch} (hL : ∀ σ,zcB len ps p.q σ = tellP len p σ) (H : p.OK P T (zcB len ps) root len)
  (hc : CutsOK P (zcB len ps) root (p.q + 1)) : ∀ d c,zdk d root p.q = some c → CutOK P (zcB len ps) p.q c := by
 intro d c hd π w0 own σ t K a w β ok ht hK S
 have has := H.has
 simp only [Bool.and_eq_true,Bool.not_eq_true',beq_eq_false_iff_ne] at has
 obtain ⟨⟨⟨hq0,hcode⟩,hkeys⟩,hl0⟩ := has
 have hq : 0 < p.q := Nat.pos_of_ne_zero hq0
 have hout := outAt_of hkeys
 rw [hL] at ht
 unfold tellP at ht
 split at ht
 case h_2 => cases ht
 rename_i y hy
 split at ht
 case h_2 => cases ht
 rename_i x hx
 cases ht
 obtain ⟨h1,h2⟩ := hK
 obtain ⟨r,hr⟩ := Option.isSome_iff_exists.1 h1
 rw [hr] at h2
 change (evTree len (lvs p.I x.1) p.outs r).sat K at h2
 have hat := evTree_at p.outs r hout h2
 obtain ⟨β',ok',S'⟩ := zfz hy _ _ _ _ _ _ _ S
 have hS : Sim π w0 own w a (p.st len x.1 x.2) β' ok' := by
  unfold zch.st
  rw [Port.rd_fill hx]
  exact S'
 cases hlp : p.lp with
 | false =>
  have hcd : p.code root = some c := by
   unfold zch.code at hcode ⊢
   cases h80 : zdk 80 root p.q with
   | none => rw [h80] at hcode; cases hcode
   | some c' =>
    have := codeAt_fun h80 hd
    subst this
    rw [hlp]
  have hgo := H.go x.1 x.2
  unfold zch.at zch.hd at hgo
  rw [hcd] at hgo
  simp only [hlp,Option.getD_some] at hgo
  have hrun : (p.bt x.1 x.2).run (fun _ => none) = some r := by
   unfold zch.fn at hr
   simpa only [hlp] using hr
  refine wpIn_mono (zdZ hm hT c p.q d _ (fun e => ∃ e',EvWeak e e' ∧ K e') a w β' ok' hq hd hc hS ?_) fun e a' w' h => h.weak
  refine zcP.sat_pt (f := seeOuts len none p.outs) (K := AtOut len p.outs K) (fun e pe he hp => seeOuts_out he K (.inl rfl) hp) ?_
  rw [hgo]
  exact RT.sat (again := fun _ => none) (r := r) (fun _ h => by cases h) hat hrun
 | true =>
  obtain ⟨body,hb,rfl⟩ : ∃ body,p.code root = some body ∧ c = .loop body := by
   unfold zch.code at hcode ⊢
   cases h80 : zdk 80 root p.q with
   | none => rw [h80] at hcode; cases hcode
   | some c' =>
    have := codeAt_fun h80 hd
    subst this
    rw [h80] at hcode
    rw [hlp] at hcode ⊢
    cases c' <;> first | exact ⟨_,rfl,rfl⟩ | cases hcode
  have hrun : loopF (fun rec z => (p.bt x.1 z).run rec) x.2 = some r := by
   unfold zch.fn at hr
   simpa only [hlp] using hr
  obtain ⟨N,hN⟩ := loopF_some hrun
  refine wpIn_mono (loop_at hm hT hq hd hc (α := Nat × Tup p.A) (fun z => p.st len x.1 z.2) (fun z => zfW (fun rec z => (p.bt x.1 z).run rec) z.1 z.2 = some r) (fun z => z.1) (fun _ K' => ∀ e,(∃ e',EvWeak e e' ∧ K e') → K' e)
   (fun z hz K' hK' => ?_) (N,x.2) hN (fun e => ∃ e',EvWeak e e' ∧ K e') (fun _ h => h) π w0 own a w β' ok' hS) fun e a' w' h => h.weak
  obtain ⟨k,z⟩ := z
  simp only at hz ⊢
  cases k with
  | zero => cases hz
  | succ k =>
   have hgo := H.go x.1 z
   unfold zch.at zch.hd at hgo
   rw [hb] at hgo
   simp only [hlp,Option.getD_some] at hgo
   refine zcP.sat_pt (f := seeOuts len (some p.head) p.outs) (K := fun pe => (∃ x',pe = zep 0 (p.head.fill (lvs p.I x.1) (lvs p.A x')) ∧ zfW (fun rec z => (p.bt x.1 z).run rec) k x' = some r) ∨ AtOut len p.outs K pe) (fun e pe he hp => ?_) ?_
   ·by_cases hnorm : ∃ σ,e = .norm σ
    ·obtain ⟨σ1,rfl⟩ := hnorm
     obtain ⟨y1,h3,rfl⟩ := Option.map_eq_some_iff.1 (show (zis len p.head σ1).map (zep 0) = some pe from he)
     rcases hp with ⟨x',h4,h5⟩ | hp
     ·obtain ⟨_,rfl⟩ := ziJ h4
      exact ⟨(k,x'),_,zfz h3,rfl,h5,Nat.lt_succ_self k,hK'⟩
     ·exfalso
      obtain ⟨k2,o,y2,h4,h5,h6⟩ := hp
      obtain ⟨rfl,rfl⟩ := ziJ h5
      rw [hlp] at hl0
      simp [h4] at hl0
    ·have := seeOuts_out he K (.inr fun σ h => hnorm ⟨σ,h⟩)
     cases e with
     | norm σ => exact absurd ⟨σ,rfl⟩ hnorm
     | ret σ =>
      refine hK' _ (this ?_)
      rcases hp with ⟨x',h4,_⟩ | hp
      ·exfalso
       obtain ⟨o',_,h7⟩ := Option.bind_eq_some_iff.1 he
       obtain ⟨y1,_,h8⟩ := Option.map_eq_some_iff.1 h7
       rw [h4] at h8
       exact absurd (ziJ h8).1 (by decide)
      ·exact hp
     | exit id σ =>
      refine hK' _ (this ?_)
      rcases hp with ⟨x',h4,_⟩ | hp
      ·exfalso
       obtain ⟨o',_,h7⟩ := Option.bind_eq_some_iff.1 he
       obtain ⟨y1,_,h8⟩ := Option.map_eq_some_iff.1 h7
       rw [h4] at h8
       exact absurd (ziJ h8).1 (by omega)
      ·exact hp
   ·rw [hgo]
    exact RT.sat (again := zfW (fun rec z => (p.bt x.1 z).run rec) k) (r := r) (fun x' h => .inl ⟨x',rfl,h⟩) (.inr hat) hz
end
end Go.Proofs.YtlfdidaeachpoaaGreat
namespace Go.Proofs.YtlfdidaeachpoaaGreat
open Go Go.RowKit
def PAll (p : zch → Prop) : List zch → Prop
 | [] => True
 | x :: l => p x ∧ PAll p l
theorem PAll.mem {p : zch → Prop} : ∀ {l : List zch},PAll p l → ∀ x ∈ l,p x
 | _ :: _,⟨h,_⟩,x,hx => by
  rcases List.mem_cons.1 hx with rfl | hx
  ·exact h
  ·exact PAll.mem (by assumption) x hx
 | [],_,_,hx => by cases hx
section
variable {P : Program} {T : zcl}
theorem tell_none {len : Nat} : ∀ {ps : List zch} {q : Nat},(∀ p ∈ ps,p.q ≠ q) → ∀ σ,zcB len ps q σ = none
 | [],_,_,_ => rfl
 | p :: l,q,h,σ => by
  unfold zcB
  rw [if_neg (h p (List.mem_cons_self ..))]
  exact tell_none (fun z hz => h z (List.mem_cons_of_mem _ hz)) σ
theorem tell_mem {len : Nat} : ∀ {ps : List zch} {p : zch},zfT (ps.map (·.q)) = true → p ∈ ps → ∀ σ,zcB len ps p.q σ = tellP len p σ
 | p' :: l,p,hn,hp,σ => by
  simp only [List.map_cons,zfT,Bool.and_eq_true,Bool.not_eq_true'] at hn
  unfold zcB
  rcases List.mem_cons.1 hp with rfl | hp
  ·rw [if_pos rfl]
  ·rw [if_neg (fun e => by
    have h1 : (l.map (·.q)).contains p'.q = true := by
     rw [List.contains_iff_mem,e]
     exact List.mem_map.2 ⟨p,hp,rfl⟩
    rw [hn.1] at h1
    cases h1)]
   exact tell_mem hn.2 hp σ
def maxQ : List zch → Nat
 | [] => 0
 | p :: l => max p.q (maxQ l)
theorem le_maxQ : ∀ {ps : List zch} {p : zch},p ∈ ps → p.q ≤ maxQ ps
 | p' :: l,p,h => by
  unfold maxQ
  rcases List.mem_cons.1 h with rfl | h
  ·omega
  ·have := le_maxQ h; omega
theorem cuts_ok (hm : P.follows .mixedOrders = true) (hT : zck P T) {root : Code} {len : Nat} {ps : List zch} (hn : zfT (ps.map (·.q)) = true) (h : PAll (fun (p : zch) => p.OK P T (zcB len ps) root len) ps) :
  ∀ (k m : Nat),maxQ ps < m + k → CutsOK P (zcB len ps) root m
 | 0,m,hk => fun d q c hq _ π w0 own σ t K a w β ok ht => by
  rw [tell_none (fun p hp e => by have := le_maxQ hp; omega) σ] at ht
  cases ht
 | k + 1,m,hk => by
  have ih := cuts_ok hm hT hn h k (m + 1) (by omega)
  intro d q c hq hc
  by_cases hqm : q = m
  ·subst hqm
   by_cases hp : ∃ p ∈ ps,p.q = q
   ·obtain ⟨p,hp,rfl⟩ := hp
    exact piece_ok hm hT (tell_mem hn hp) (PAll.mem h p hp) ih d c hc
   ·intro π w0 own σ t K a w β ok ht
    rw [tell_none (fun p hp' e => hp ⟨p,hp',e⟩) σ] at ht
    cases ht
  ·exact ih d q c (by omega) hc
end
structure Io where
 f : Nat
 A : List Ty
 args : List SV
 ents : List SB
 den : List (List Ty)
 R : List Ty
 val : SV
 oents : List (Bool × SB)
 fresh : List (Bool × SB)
 sh : Bool
def Io.as (o : Io) (x : Tup o.A) : List TV := fillVs [] (lvs o.A x) o.args
def Io.es (o : Io) (x : Tup o.A) : List Ent := o.ents.map fun b => ⟨true,b.fill [] (lvs o.A x)⟩
def Io.res (o : Io) (y : Tup o.R) : zdP :=
 ⟨true,o.val.fill [] (lvs o.R y),o.oents.map fun b => ⟨b.1,b.2.fill [] (lvs o.R y)⟩,o.fresh.map fun b => ⟨b.1,b.2.fill [] (lvs o.R y)⟩,o.sh⟩
def zipEs : List SB → List Ent → Option Prs
 | [],[] => some []
 | s :: ss,x :: xs => match x.w with
  | true => app2 (zipB s x.b) (zipEs ss xs)
  | false => none
 | _,_ => none
theorem zipEs_fill {G H : List zcp} : ∀ {ss : List SB} {xs : List Ent} {ps : Prs},zipEs ss xs = some ps → Fits G H ps → (ss.map fun b => (⟨true,b.fill G H⟩ : Ent)) = xs
 | [],[],_,_,_ => rfl
 | s :: ss,x :: xs,ps,e,h => by
  unfold zipEs at e
  split at e
  ·rename_i hw
   obtain ⟨p,q,h1,h2,h3,h4⟩ := h.app e
   obtain ⟨w,b⟩ := x
   cases hw
   rw [List.map_cons,zipB_fill h1 h3,zipEs_fill h2 h4]
  ·cases e
 | [],_ :: _,_,e,_ => by cases e
 | _ :: _,[],_,e,_ => by cases e
def Io.rd (o : Io) (args : List TV) (es : List Ent) : Option (Tup o.A) := match app2 (zipVs o.args args) (zipEs o.ents es) with
 | some ps => match rdPs ps [] [] with
  | some ([],h) => getTup o.A h
  | _ => none
 | none => none
theorem Io.rd_as {o : Io} {args : List TV} {es : List Ent} {x : Tup o.A} (h : o.rd args es = some x) : o.as x = args ∧ o.es x = es := by
 unfold Io.rd at h
 split at h
 ·rename_i ps hps
  split at h
  ·rename_i k hg
   obtain ⟨_,hf⟩ := ziG hg
   rw [← lvs_get o.A h] at hf
   obtain ⟨q,r,h1,h2,h3,h4⟩ := hf.app hps
   exact ⟨zipVs_fill h1 h3,zipEs_fill h2 h4⟩
  ·cases h
 ·cases h
def Io.ans (o : Io) (F : Tup o.A → Option (Tup o.R)) (args : List TV) (es : List Ent) : Option zdP := match o.rd args es with
 | some x => some { o.res ((F x).getD (Tup.dflt o.R)) with vc := (F x).isSome }
 | none => none
def Io.en (o : Io) (F : Tup o.A → Option (Tup o.R)) : zcq := .data o.f o.den (o.ans F)
def Io.spAns (o : Io) (C : Tup o.A → Bool) (V : Tup o.A → Tup o.R) (args : List TV) (es : List Ent) : Option zdP := match o.rd args es with
 | some x => some { o.res (V x) with vc := C x }
 | none => none
def Io.sp (o : Io) (C : Tup o.A → Bool) (V : Tup o.A → Tup o.R) : zcq := .data o.f o.den (o.spAns C V)
structure zcy (P : Program) (T : zcl) (o : Io) (fn : Func) (ps : List zch) (plan : List WOp) (t : Tup o.A → RT Unit (Tup o.R)) : Prop where
 has : (fn.body.isSome && !(fn.name == "runtime.NumGoroutine") && zfT (ps.map (·.q))) = true
 fun_ : P.funcs[o.f]? = some fn
 go : ∀ x,(evI P T (zcB fn.ntmps ps) 1 (zcs fn) (zgY (o.as x) (o.es x) fn.ntmps)).pt (outEv P fn (o.ents.length) plan o.sh) = (t x).pt (fun _ => .norm [] []) (fun y => .out (o.res y))
section
variable {P : Program} {T : zcl}
def Io.Okay (P : Program) (o : Io) (F : Tup o.A → Option (Tup o.R)) : Prop := Enters P o.f ∧ ∀ x y,F x = some y → zeC P o.f (o.as x) (o.es x) (o.res y)
theorem zcu (hm : P.follows .mixedOrders = true) (hT : zck P T) {o : Io} {fn : Func} {ps : List zch} {plan : List WOp} {t : Tup o.A → RT Unit (Tup o.R)} (H : zcy P T o fn ps plan t)
  (hp : PAll (fun (p : zch) => p.OK P T (zcB fn.ntmps ps) (zcs fn) fn.ntmps) ps) : o.Okay P fun x => (t x).run fun _ => none := by
 have has := H.has
 simp only [Bool.and_eq_true,Bool.not_eq_true'] at has
 obtain ⟨⟨hb,hn⟩,hnd⟩ := has
 refine ⟨⟨fn,H.fun_,hb,hn⟩,fun x y hy => ?_⟩
 have hcuts := cuts_ok hm hT (root := zcs fn) hnd hp (maxQ ps + 1) 2 (by omega)
 have hbody : fn.body = some (zcs fn) := by
  unfold zcs
  cases h : fn.body with
  | none => rw [h] at hb; cases hb
  | some c => rfl
 have hlen : (o.es x).length = o.ents.length := by simp [Io.es]
 refine fnSoundW H.fun_ hbody plan fun π w0 own a w β ok _ S => ?_
 refine zdZ hm hT (zcs fn) 1 0 _ _ a w β ok (by decide) rfl hcuts S (out_sat ?_)
 have hgo := H.go x
 rw [← hlen] at hgo
 rw [show (o.res y).shares = o.sh from rfl,hgo]
 exact RT.sat (r := y) (again := fun _ => none) (fun _ h => by cases h) ⟨rfl,rfl,rfl⟩ hy
theorem zeS {o : Io} {F : Tup o.A → Option (Tup o.R)} (hF : o.Okay P F) : (o.en F).ok P := zcq.data_ok fun args es r h hv => by
 unfold Io.ans at h
 simp only at h
 split at h
 case h_2 => cases h
 rename_i x hx
 cases h
 obtain ⟨h1,h2⟩ := Io.rd_as hx
 obtain ⟨y,hy⟩ := Option.isSome_iff_exists.1 hv
 rw [hy,← h1,← h2]
 exact ⟨hF.1,zeC.vc (hF.2 x y hy)⟩
end
def inK : IntKind → Int → Prop
 | .i64,n => -9223372036854775808 ≤ n ∧ n ≤ 9223372036854775807
 | .u64,n => 0 ≤ n ∧ n < 18446744073709551616
 | .u32,n => 0 ≤ n ∧ n < 4294967296
 | .u8,n => 0 ≤ n ∧ n < 256
 | k,n => k.min ≤ n ∧ n ≤ k.max
theorem inK_of {k : IntKind} {n : Int} (h : (Lit.int k n).wf = true) : inK k n := by
 simp only [Lit.wf,Bool.and_eq_true,decide_eq_true_eq] at h
 cases k <;> simp [IntKind.min,IntKind.max,IntKind.signed,IntKind.bits] at h <;> simp [inK,IntKind.min,IntKind.max,IntKind.signed,IntKind.bits] <;> omega
def Wf : (t : Ty) → t.den → Prop
 | .int k,n => inK k n
 | .bool,_ => True
 | .str,s => s.size ≤ 9223372036854775807
 | .sl t,xs => xs.length ≤ 9223372036854775807 ∧ ∀ x ∈ xs,Wf t x
 | .pair a b,x => Wf a x.1 ∧ Wf b x.2
theorem zcM.wfd {w : World} {ok : Nat → Prop} : (t : Ty) → {vs : List Value} → {x : t.den} → zcM w ok t vs x → Wf t x
 | .int _,_,_,h => inK_of h.2
 | .bool,_,_,_ => trivial
 | .str,_,_,h => h.2
 | .sl t,_,xs,h => by
  obtain ⟨A,cap,_,h1,h2,_,h3⟩ := h
  refine ⟨Nat.le_trans h1 h2,fun x hx => ?_⟩
  obtain ⟨i,hi,rfl⟩ := List.mem_iff_getElem.1 hx
  obtain ⟨b,o,us,_,_,_,_,hr⟩ := h3 i hi
  exact zcM.wfd t hr
 | .pair a b,_,_,h => by
  obtain ⟨us,us',_,h1,h2⟩ := h
  exact ⟨zcM.wfd a h1,zcM.wfd b h2⟩
def WfL : zcp → Prop
 | .int k n => inK k n
 | .str s => s.size ≤ 9223372036854775807
 | .dat t xs => Wf (.sl t) xs
 | _ => True
section
variable {w : World} {ok : Nat → Prop} {β : Nat → Option Value}
theorem zdh.wf {v : Value} {l : zcp} (h : zdh w ok β v l) : WfL l := by
 cases l with
 | int k n => exact inK_of h.2
 | str s => exact h.2
 | dat t xs => exact zcM.wfd (.sl t) h
 | _ => trivial
theorem zcA.wf : ∀ {vs : List Value} {ls : List zcp},zcA w ok β vs ls → ∀ l ∈ ls,WfL l
 | [],[],_,_,hl => by cases hl
 | _ :: _,_ :: _,⟨h1,h2⟩,l,hl => by
  rcases List.mem_cons.1 hl with rfl | hl
  ·exact h1.wf
  ·exact zcA.wf h2 l hl
 | [],_ :: _,h,_,_ => h.elim
 | _ :: _,[],h,_,_ => h.elim
theorem zipL_mem : ∀ {ss : List SL} {ls : List zcp} {ps : Prs},zipL ss ls = some ps → ∀ p ∈ ps,p.2 ∈ ls
 | [],[],_,e,p,hp => by cases e; cases hp
 | s :: ss,l :: ls,ps,e,p,hp => by
  obtain ⟨qs,h1,rfl⟩ := Option.map_eq_some_iff.1 e
  rcases List.mem_cons.1 hp with rfl | hp
  ·exact List.mem_cons_self ..
  ·exact List.mem_cons_of_mem _ (zipL_mem h1 p hp)
 | [],_ :: _,_,e,_,_ => by cases e
 | _ :: _,[],_,e,_,_ => by cases e
def WfPs (ps : Prs) : Prop := ∀ p ∈ ps,WfL p.2
theorem WfPs.app {a b : Option Prs} {ps : Prs} (e : app2 a b = some ps) (h1 : ∀ x,a = some x → WfPs x) (h2 : ∀ y,b = some y → WfPs y) : WfPs ps := by
 unfold app2 at e
 split at e
 ·cases e
  intro p hp
  rcases List.mem_append.1 hp with hp | hp
  ·exact h1 _ rfl p hp
  ·exact h2 _ rfl p hp
 ·cases e
theorem zipC_wf : ∀ {ss : List (Bool × List SL)} {cs : List (Bool × List zcp)} {vs : List Value} {ps : Prs},zipC ss cs = some ps → zdN w ok β vs cs → WfPs ps
 | [],[],_,_,e,_ => by cases e; intro p hp; cases hp
 | s :: ss,c :: cs,v :: vs,ps,e,h => by
  unfold zipC at e
  split at e
  ·refine WfPs.app e (fun x hx p hp => ?_) fun y hy => zipC_wf hy h.2
   have hc := h.1
   obtain ⟨b,ls⟩ := c
   have hm := zipL_mem hx p hp
   cases b with
   | true => obtain ⟨us,_,hr⟩ := hc; exact zcA.wf hr _ hm
   | false => exact zcA.wf (vs := [v]) hc _ hm
  ·cases e
 | [],_ :: _,_,_,e,_ => by cases e
 | _ :: _,[],_,_,e,_ => by cases e
 | _ :: _,_ :: _,[],_,_,h => h.elim
theorem zipV_wf {s : SV} {t : TV} {v : Value} {ps : Prs} (e : zipV s t = some ps) (h : zcE w ok β v t) : WfPs ps := by
 unfold zipV at e
 split at e
 ·cases e
  intro p hp
  rw [List.mem_singleton.1 hp]
  exact zdh.wf h
 ·obtain ⟨us,_,hr⟩ := h
  exact fun p hp => zcA.wf hr _ (zipL_mem e p hp)
 ·obtain ⟨us,_,hr⟩ := h
  exact zipC_wf e hr
 ·obtain ⟨b,o,us,_,_,_,hr⟩ := h
  exact fun p hp => zcA.wf hr _ (zipL_mem e p hp)
 ·cases e
theorem zipVs_wf : ∀ {ss : List SV} {ts : List TV} {vs : List Value} {ps : Prs},zipVs ss ts = some ps → zdn w ok β vs ts → WfPs ps
 | [],[],_,_,e,_ => by cases e; intro p hp; cases hp
 | s :: ss,t :: ts,v :: vs,ps,e,h => WfPs.app e (fun x hx => zipV_wf hx h.1) fun y hy => zipVs_wf hy h.2
 | [],_ :: _,_,_,e,_ => by cases e
 | _ :: _,[],_,_,e,_ => by cases e
 | _ :: _,_ :: _,[],_,_,h => h.elim
theorem zcX.wf {t : Ty} {us : List Value} {xs : List t.den} (h : zcX w ok t us xs) : ∀ x ∈ xs,Wf t x := fun x hx => by
 obtain ⟨i,hi,rfl⟩ := List.mem_iff_getElem.1 hx
 exact zcM.wfd t (h i hi)
theorem zipB_wf {s : SB} {b : EB} {id : Nat} {ps : Prs} (e : zipB s b = some ps) (h : zdo w ok β id b) : WfPs ps := by
 unfold zipB at e
 split at e
 ·obtain ⟨g,cs,et,_,_,hr⟩ := h
  exact fun p hp => zcA.wf hr _ (zipL_mem e p hp)
 ·split at e
  ·cases e
   obtain ⟨v,us,_,hr,hes⟩ := h
   intro p hp
   rw [List.mem_singleton.1 hp]
   refine ⟨?_,hes.wf⟩
   rcases hr.2 with ⟨_,h0⟩ | ⟨g,cap,cur,_,_,_,h1,h2,_⟩
   ·rw [h0]; exact Nat.zero_le _
   ·exact Nat.le_trans h1 h2
  ·cases e
 ·cases e; intro p hp; cases hp
 ·cases e
theorem zipEs_wf : ∀ {ss : List SB} {es : List Ent} {ps : Prs} {k : Nat},zipEs ss es = some ps → (∀ j e,es[j]? = some e → zdo w ok β (k + j) e.b) → WfPs ps
 | [],[],_,_,e,_ => by cases e; intro p hp; cases hp
 | s :: ss,x :: xs,ps,k,e,h => by
  unfold zipEs at e
  split at e
  ·exact WfPs.app e (fun y hy => zipB_wf hy (h 0 x rfl)) fun y hy => zipEs_wf (k := k + 1) hy fun j e he => by
    have := h (j + 1) e (by simpa using he)
    rwa [show k + (j + 1) = k + 1 + j by omega] at this
  ·cases e
 | [],_ :: _,_,_,e,_ => by cases e
 | _ :: _,[],_,_,e,_ => by cases e
end
theorem rdPs_wf : ∀ {ps : Prs} {a b G H : List zcp},rdPs ps a b = some (G,H) → WfPs ps → (∀ l ∈ b,WfL l) → ∀ l ∈ H,WfL l
 | [],a,b,G,H,h,_,hb => by cases h; exact hb
 | (.fix l',l) :: r,a,b,G,H,h,hw,hb => by
  unfold rdPs at h
  split at h
  ·exact rdPs_wf h (fun p hp => hw p (List.mem_cons_of_mem _ hp)) hb
  ·cases h
 | (.at true k,l) :: r,a,b,G,H,h,hw,hb => by
  unfold rdPs at h
  split at h
  ·exact rdPs_wf h (fun p hp => hw p (List.mem_cons_of_mem _ hp)) hb
  ·cases h
 | (.at false k,l) :: r,a,b,G,H,h,hw,hb => by
  unfold rdPs at h
  split at h
  ·refine rdPs_wf h (fun p hp => hw p (List.mem_cons_of_mem _ hp)) fun x hx => ?_
   rcases List.mem_append.1 hx with hx | hx
   ·exact hb x hx
   ·rw [List.mem_singleton.1 hx]; exact hw (.at false k,l) (List.mem_cons_self ..)
  ·cases h
def WfT : (ts : List Ty) → Tup ts → Prop
 | [],_ => True
 | [a],x => Wf a x
 | a :: b :: l,x => Wf a x.1 ∧ WfT (b :: l) x.2
theorem leaf_wf : (t : Ty) → {l : zcp} → {x : t.den} → t.get l = some x → WfL l → Wf t x
 | .int k,l,x,h,hw => by
  cases l <;> simp only [Ty.get] at h <;> try cases h
  split at h
  ·rename_i hk; subst hk; cases h; exact hw
  ·cases h
 | .bool,_,_,_,_ => trivial
 | .str,l,x,h,hw => by cases l <;> simp only [Ty.get] at h <;> cases h; exact hw
 | .sl t,l,x,h,hw => by
  cases l <;> simp only [Ty.get] at h <;> try cases h
  split at h
  ·rename_i ht; subst ht; cases h; exact hw
  ·cases h
 | .pair _ _,_,_,h,_ => by cases h
theorem getTup_wf : (ts : List Ty) → {ls : List zcp} → {x : Tup ts} → getTup ts ls = some x → (∀ l ∈ ls,WfL l) → WfT ts x
 | [],_,_,_,_ => trivial
 | [a],ls,x,h,hw => by
  match ls,h with
  | [l],h => exact leaf_wf a h (hw l (List.mem_cons_self ..))
  | [],h => cases h
  | _ :: _ :: _,h => cases h
 | a :: b :: r,ls,x,h,hw => by
  match ls,h with
  | l :: ls,h =>
   simp only [getTup] at h
   split at h
   ·rename_i y z hy hz
    cases h
    exact ⟨leaf_wf a hy (hw l (List.mem_cons_self ..)),getTup_wf (b :: r) hz fun l hl => hw l (List.mem_cons_of_mem _ hl)⟩
   ·cases h
  | [],h => cases h
theorem zcw {P : Program} {o : Io} {F : Tup o.A → Option (Tup o.R)} {C : Tup o.A → Bool} {V : Tup o.A → Tup o.R} (hF : o.Okay P F) (h : ∀ x,WfT o.A x → C x = true → F x = some (V x)) : (o.sp C V).ok P := zcq.data_ok fun args es r hr hv => by
 unfold Io.spAns at hr
 simp only at hr
 split at hr
 case h_2 => cases hr
 rename_i x hx
 cases hr
 have hC : C x = true := hv
 refine ⟨hF.1,zeC.vc ?_⟩
 intro w vals β ok h1 h2 h3 h4 h5 h6
 have hw : WfT o.A x := by
  unfold Io.rd at hx
  split at hx
  ·rename_i ps hps
   split at hx
   ·rename_i k hg
    refine getTup_wf o.A hx (rdPs_wf hg ?_ fun l hl => by cases hl)
    exact WfPs.app hps (fun x hx => zipVs_wf hx h2) fun y hy => zipEs_wf (k := 0) hy fun j e he => by rw [Nat.zero_add]; exact (h4 j e he).2.2
   ·cases hx
  ·cases hx
 have hV := hF.2 x (V x) (h x hw hC)
 obtain ⟨e1,e2⟩ := Io.rd_as hx
 rw [e1,e2] at hV
 exact hV w vals β ok h1 h2 h3 h4 h5 h6
end Go.Proofs.YtlfdidaeachpoaaGreat
namespace Go.Proofs.YtlfdidaeachpoaaGreat
open Go Go.RowKit
abbrev tI : Ty := .int .i64
abbrev tU : Ty := .int .u64
abbrev tV : Ty := .int .u32
abbrev tB : Ty := .bool
abbrev qi (k : Nat) : SL := .at true k
abbrev qm (k : Nat) : SL := .at false k
abbrev qp (id : Nat) : SL := .fix (.ptr id 0)
abbrev qr (id : Nat) : SL := .fix (.ref id)
noncomputable def lo {I A R : Type} (b : I → A → RT A R) (i : I) (x : A) : Option R := loopF (fun rec z => (b i z).run rec) x
noncomputable def on {I R : Type} (b : I → RT Unit R) (i : I) : Option R := (b i).run fun _ => none
theorem zcr {I A R : Type} (b : I → A → RT A R) (i : I) (x : A) : lo b i x = (b i x).run (lo b i) := loopF_run (b i) x
def w64 (n : Int) : Int := IntKind.i64.wrap n
def zcx (n : Int) : Int := IntKind.u64.wrap n
def zdO (n : Int) : Int := IntKind.u32.wrap n
def wu8 (n : Int) : Int := IntKind.u8.wrap n
theorem zcm {n : Int} (h : -9223372036854775808 ≤ n ∧ n ≤ 9223372036854775807) : w64 n = n := i64_in h
theorem zcD {n : Int} (h : 0 ≤ n ∧ n < 18446744073709551616) : zcx n = n := u64_in h
theorem zgh {n : Int} (h : 0 ≤ n ∧ n < 4294967296) : zdO n = n := u32_in h
theorem zhG (n : Int) : zcx n = n % 18446744073709551616 := wrap_u64 n
theorem zhX (n : Int) : zdO n = n % 4294967296 := wrap_u32 n
def shlI (k : IntKind) (x y : Int) : Int := k.wrap (x * 2 ^ (min y.toNat k.bits))
def zee (k : IntKind) (x y : Int) : Int := x.fdiv (2 ^ (min y.toNat k.bits))
def gI {α : Type} [Inhabited α] (xs : List α) (i : Int) : α := xs.getD i.toNat default
def sI {α : Type} (xs : List α) (i : Int) (y : α) : List α := xs.set i.toNat y
def inB {α : Type} (xs : List α) (i : Int) : Bool := decide (0 ≤ i) && decide (i < (xs.length : Int))
def zdd {α : Type} (n : Int) (z : α) : List α := List.replicate n.toNat z
def mkOK (b : Nat) (n : Int) : Bool := decide (0 ≤ n) && decide (n = n) && decide ((b : Int) * n ≤ 281474976710656) && decide (n ≤ 9223372036854775807)
def zdK {α : Type} (b : Nat) (xs ys : List α) : Bool := decide ((xs.length + ys.length) * b ≤ 140737488355328) && decide (xs.length + ys.length ≤ maxLen)
def dropI {α : Type} (xs : List α) (l : Int) : List α := xs.drop l.toNat
def takeI {α : Type} (xs : List α) (h : Int) : List α := xs.take h.toNat
def dropOK {α : Type} (xs : List α) (l : Int) : Bool := decide (0 ≤ l) && decide (l ≤ (xs.length : Int))
def zgC {α : Type} (xs : List α) (h : Int) : Bool := decide (0 ≤ h) && decide (h ≤ (xs.length : Int))
def zdJ (a b : Int) : Int := if b > a then b else a
def minI (a b : Int) : Int := if b < a then b else a
theorem zcn {α : Type} {xs : List α} {i : Int} : inB xs i = true ↔ 0 ≤ i ∧ i < (xs.length : Int) := by simp [inB]
theorem zdi {α : Type} {xs : List α} {i : Nat} : inB xs (i : Int) = decide (i < xs.length) := by
 rw [Bool.eq_iff_iff,zcn]
 simp
theorem zfD {α : Type} [Inhabited α] (xs : List α) (i : Nat) : gI xs (i : Int) = xs.getD i default := by simp [gI]
theorem zcL {α : Type} [Inhabited α] {xs : List α} {i : Nat} (h : i < xs.length) : gI xs (i : Int) = xs[i] := by simp [gI,List.getD,h]
theorem zdF {b : Nat} {n : Int} : mkOK b n = true ↔ 0 ≤ n ∧ (b : Int) * n ≤ 281474976710656 ∧ n ≤ 9223372036854775807 := by simp [mkOK,and_assoc]
theorem zeI {α : Type} {b : Nat} {xs ys : List α} : zdK b xs ys = true ↔ (xs.length + ys.length) * b ≤ 140737488355328 ∧ xs.length + ys.length ≤ maxLen := by simp [zdK]
theorem maxLen_eq : maxLen = 9223372036854775807 := rfl
def byI (s : ByteArray) (i : Int) : Int := byteAt s i.toNat
def inS (s : ByteArray) (i : Int) : Bool := decide (0 ≤ i) && decide (i < (s.size : Int))
end Go.Proofs.YtlfdidaeachpoaaGreat
namespace Go.Proofs.YtlfdidaeachpoaaGreat
abbrev yK : Ty := .pair tB (.pair tI (.pair tI (.pair tI (.pair tI tB))))
abbrev yH : Ty := .pair tI (.pair tI (.pair tI (.pair tI tI)))
abbrev yL : Ty := .pair tB tI
abbrev Tk := Bool × Int × Int × Int × Int × Bool
abbrev Th := Int × Int × Int × Int × Int
abbrev Lk := Bool × Int
end Go.Proofs.YtlfdidaeachpoaaGreat
namespace Go.Proofs.YtlfdidaeachpoaaGreat
open Go
noncomputable abbrev pg : Program := Tryz.prog
theorem zcj : pg.follows .mixedOrders = true := by kernel_rfl
abbrev n_zi : Nat := 10
noncomputable abbrev f_zi : Func := Tryz.f10
abbrev n_zbz : Nat := 11
noncomputable abbrev f_zbz : Func := Tryz.f11
abbrev n_zat : Nat := 12
noncomputable abbrev f_zat : Func := Tryz.f12
abbrev n_zaN : Nat := 13
noncomputable abbrev f_zaN : Func := Tryz.f13
abbrev n_zak : Nat := 15
noncomputable abbrev f_zak : Func := Tryz.f15
abbrev n_zaf : Nat := 16
noncomputable abbrev f_zaf : Func := Tryz.f16
abbrev n_zaQ : Nat := 17
noncomputable abbrev f_zaQ : Func := Tryz.f17
abbrev n_zZ : Nat := 19
noncomputable abbrev f_zZ : Func := Tryz.f19
abbrev n_zao : Nat := 22
noncomputable abbrev f_zao : Func := Tryz.f22
abbrev n_zq : Nat := 23
noncomputable abbrev f_zq : Func := Tryz.f23
abbrev n_zbs : Nat := 25
noncomputable abbrev f_zbs : Func := Tryz.f25
abbrev n_zz : Nat := 26
noncomputable abbrev f_zz : Func := Tryz.f26
abbrev n_zP : Nat := 27
noncomputable abbrev f_zP : Func := Tryz.f27
abbrev n_zbg : Nat := 28
noncomputable abbrev f_zbg : Func := Tryz.f28
abbrev n_zbG : Nat := 30
noncomputable abbrev f_zbG : Func := Tryz.f30
abbrev n_zB : Nat := 31
noncomputable abbrev f_zB : Func := Tryz.f31
abbrev n_zaP : Nat := 33
noncomputable abbrev f_zaP : Func := Tryz.f33
abbrev n_zal : Nat := 34
noncomputable abbrev f_zal : Func := Tryz.f34
abbrev n_zbP : Nat := 37
noncomputable abbrev f_zbP : Func := Tryz.f37
abbrev n_zbJ : Nat := 38
noncomputable abbrev f_zbJ : Func := Tryz.f38
abbrev n_zbZ : Nat := 41
noncomputable abbrev f_zbZ : Func := Tryz.f41
abbrev n_zcc : Nat := 42
noncomputable abbrev f_zcc : Func := Tryz.f42
abbrev n_zaX : Nat := 43
noncomputable abbrev f_zaX : Func := Tryz.f43
abbrev n_zU : Nat := 53
noncomputable abbrev f_zU : Func := Tryz.f53
abbrev n_zY : Nat := 54
noncomputable abbrev f_zY : Func := Tryz.f54
abbrev n_zad : Nat := 55
noncomputable abbrev f_zad : Func := Tryz.f55
abbrev n_zaW : Nat := 56
noncomputable abbrev f_zaW : Func := Tryz.f56
abbrev n_zau : Nat := 57
noncomputable abbrev f_zau : Func := Tryz.f57
abbrev n_zaI : Nat := 58
noncomputable abbrev f_zaI : Func := Tryz.f58
abbrev n_zJ : Nat := 59
noncomputable abbrev f_zJ : Func := Tryz.f59
abbrev n_zbH : Nat := 60
noncomputable abbrev f_zbH : Func := Tryz.f60
abbrev n_zbq : Nat := 61
noncomputable abbrev f_zbq : Func := Tryz.f61
abbrev n_zbV : Nat := 62
noncomputable abbrev f_zbV : Func := Tryz.f62
abbrev n_zaC : Nat := 63
noncomputable abbrev f_zaC : Func := Tryz.f63
abbrev n_zE : Nat := 64
noncomputable abbrev f_zE : Func := Tryz.f64
abbrev n_zW : Nat := 65
noncomputable abbrev f_zW : Func := Tryz.f65
abbrev n_zA : Nat := 66
noncomputable abbrev f_zA : Func := Tryz.f66
abbrev n_zM : Nat := 67
noncomputable abbrev f_zM : Func := Tryz.f67
abbrev n_zk : Nat := 68
noncomputable abbrev f_zk : Func := Tryz.f68
abbrev n_zaR : Nat := 69
noncomputable abbrev f_zaR : Func := Tryz.f69
abbrev n_zD : Nat := 70
noncomputable abbrev f_zD : Func := Tryz.f70
abbrev n_zh : Nat := 71
noncomputable abbrev f_zh : Func := Tryz.f71
abbrev n_zbK : Nat := 73
noncomputable abbrev f_zbK : Func := Tryz.f73
abbrev n_zai : Nat := 74
noncomputable abbrev f_zai : Func := Tryz.f74
abbrev n_zaF : Nat := 75
noncomputable abbrev f_zaF : Func := Tryz.f75
abbrev n_zaZ : Nat := 76
noncomputable abbrev f_zaZ : Func := Tryz.f76
abbrev n_zag : Nat := 78
noncomputable abbrev f_zag : Func := Tryz.f78
abbrev n_zg : Nat := 79
noncomputable abbrev f_zg : Func := Tryz.f79
abbrev n_zX : Nat := 80
noncomputable abbrev f_zX : Func := Tryz.f80
abbrev n_zbf : Nat := 81
noncomputable abbrev f_zbf : Func := Tryz.f81
abbrev n_zbr : Nat := 82
noncomputable abbrev f_zbr : Func := Tryz.f82
abbrev n_zF : Nat := 85
noncomputable abbrev f_zF : Func := Tryz.f85
abbrev n_zaa : Nat := 86
noncomputable abbrev f_zaa : Func := Tryz.f86
abbrev n_zae : Nat := 87
noncomputable abbrev f_zae : Func := Tryz.f87
abbrev n_zT : Nat := 88
noncomputable abbrev f_zT : Func := Tryz.f88
abbrev n_zy : Nat := 92
noncomputable abbrev f_zy : Func := Tryz.f92
abbrev n_zan : Nat := 93
noncomputable abbrev f_zan : Func := Tryz.f93
abbrev n_zaq : Nat := 94
noncomputable abbrev f_zaq : Func := Tryz.f94
abbrev n_zO : Nat := 95
noncomputable abbrev f_zO : Func := Tryz.f95
abbrev n_zbL : Nat := 96
noncomputable abbrev f_zbL : Func := Tryz.f96
abbrev n_zby : Nat := 104
noncomputable abbrev f_zby : Func := Tryz.f104
abbrev n_zcb : Nat := 105
noncomputable abbrev f_zcb : Func := Tryz.f105
abbrev n_zbD : Nat := 106
noncomputable abbrev f_zbD : Func := Tryz.f106
abbrev n_zbB : Nat := 107
noncomputable abbrev f_zbB : Func := Tryz.f107
abbrev n_zbo : Nat := 108
noncomputable abbrev f_zbo : Func := Tryz.f108
abbrev n_zbh : Nat := 109
noncomputable abbrev f_zbh : Func := Tryz.f109
abbrev n_zbv : Nat := 110
noncomputable abbrev f_zbv : Func := Tryz.f110
abbrev n_zam : Nat := 111
noncomputable abbrev f_zam : Func := Tryz.f111
abbrev n_zbS : Nat := 112
noncomputable abbrev f_zbS : Func := Tryz.f112
abbrev n_zay : Nat := 113
noncomputable abbrev f_zay : Func := Tryz.f113
abbrev n_zbF : Nat := 114
noncomputable abbrev f_zbF : Func := Tryz.f114
abbrev n_zab : Nat := 115
noncomputable abbrev f_zab : Func := Tryz.f115
abbrev n_zbR : Nat := 116
noncomputable abbrev f_zbR : Func := Tryz.f116
abbrev n_zbU : Nat := 117
noncomputable abbrev f_zbU : Func := Tryz.f117
abbrev n_zcd : Nat := 118
noncomputable abbrev f_zcd : Func := Tryz.f118
abbrev n_zbm : Nat := 119
noncomputable abbrev f_zbm : Func := Tryz.f119
abbrev n_zK : Nat := 120
noncomputable abbrev f_zK : Func := Tryz.f120
abbrev n_zaV : Nat := 121
noncomputable abbrev f_zaV : Func := Tryz.f121
abbrev n_zbE : Nat := 122
noncomputable abbrev f_zbE : Func := Tryz.f122
abbrev n_zbW : Nat := 125
noncomputable abbrev f_zbW : Func := Tryz.f125
abbrev n_zax : Nat := 126
noncomputable abbrev f_zax : Func := Tryz.f126
abbrev n_zaw : Nat := 127
noncomputable abbrev f_zaw : Func := Tryz.f127
abbrev n_zx : Nat := 128
noncomputable abbrev f_zx : Func := Tryz.f128
abbrev n_zr : Nat := 129
noncomputable abbrev f_zr : Func := Tryz.f129
abbrev n_zbi : Nat := 130
noncomputable abbrev f_zbi : Func := Tryz.f130
abbrev n_zba : Nat := 131
noncomputable abbrev f_zba : Func := Tryz.f131
abbrev n_zaz : Nat := 132
noncomputable abbrev f_zaz : Func := Tryz.f132
abbrev n_zaB : Nat := 133
noncomputable abbrev f_zaB : Func := Tryz.f133
abbrev n_zbk : Nat := 134
noncomputable abbrev f_zbk : Func := Tryz.f134
abbrev n_zC : Nat := 135
noncomputable abbrev f_zC : Func := Tryz.f135
abbrev n_zS : Nat := 136
noncomputable abbrev f_zS : Func := Tryz.f136
abbrev n_zu : Nat := 137
noncomputable abbrev f_zu : Func := Tryz.f137
abbrev n_zbN : Nat := 138
noncomputable abbrev f_zbN : Func := Tryz.f138
abbrev n_zbl : Nat := 139
noncomputable abbrev f_zbl : Func := Tryz.f139
abbrev n_zbt : Nat := 140
noncomputable abbrev f_zbt : Func := Tryz.f140
abbrev n_zbc : Nat := 141
noncomputable abbrev f_zbc : Func := Tryz.f141
abbrev n_zce : Nat := 142
noncomputable abbrev f_zce : Func := Tryz.f142
abbrev n_zaY : Nat := 143
noncomputable abbrev f_zaY : Func := Tryz.f143
abbrev n_zaS : Nat := 144
noncomputable abbrev f_zaS : Func := Tryz.f144
abbrev n_zbe : Nat := 145
noncomputable abbrev f_zbe : Func := Tryz.f145
abbrev n_zac : Nat := 146
noncomputable abbrev f_zac : Func := Tryz.f146
abbrev n_zah : Nat := 150
noncomputable abbrev f_zah : Func := Tryz.f150
abbrev n_zaA : Nat := 155
noncomputable abbrev f_zaA : Func := Tryz.f155
abbrev n_zaT : Nat := 156
noncomputable abbrev f_zaT : Func := Tryz.f156
abbrev n_zbu : Nat := 157
noncomputable abbrev f_zbu : Func := Tryz.f157
abbrev n_zbp : Nat := 158
noncomputable abbrev f_zbp : Func := Tryz.f158
abbrev n_zbT : Nat := 159
noncomputable abbrev f_zbT : Func := Tryz.f159
abbrev n_zaJ : Nat := 160
noncomputable abbrev f_zaJ : Func := Tryz.f160
abbrev n_zaE : Nat := 161
noncomputable abbrev f_zaE : Func := Tryz.f161
abbrev n_zbC : Nat := 162
noncomputable abbrev f_zbC : Func := Tryz.f162
abbrev n_zbw : Nat := 163
noncomputable abbrev f_zbw : Func := Tryz.f163
abbrev n_zca : Nat := 164
noncomputable abbrev f_zca : Func := Tryz.f164
abbrev n_zar : Nat := 165
noncomputable abbrev f_zar : Func := Tryz.f165
abbrev n_zd : Nat := 166
noncomputable abbrev f_zd : Func := Tryz.f166
abbrev n_zp : Nat := 167
noncomputable abbrev f_zp : Func := Tryz.f167
abbrev n_zt : Nat := 168
noncomputable abbrev f_zt : Func := Tryz.f168
abbrev n_ze : Nat := 169
noncomputable abbrev f_ze : Func := Tryz.f169
abbrev n_zas : Nat := 170
noncomputable abbrev f_zas : Func := Tryz.f170
abbrev n_zG : Nat := 171
noncomputable abbrev f_zG : Func := Tryz.f171
abbrev n_zap : Nat := 172
noncomputable abbrev f_zap : Func := Tryz.f172
abbrev n_zbn : Nat := 173
noncomputable abbrev f_zbn : Func := Tryz.f173
abbrev n_zI : Nat := 174
noncomputable abbrev f_zI : Func := Tryz.f174
abbrev n_zbM : Nat := 175
noncomputable abbrev f_zbM : Func := Tryz.f175
abbrev n_zN : Nat := 176
noncomputable abbrev f_zN : Func := Tryz.f176
abbrev n_zbj : Nat := 177
noncomputable abbrev f_zbj : Func := Tryz.f177
abbrev n_zbY : Nat := 178
noncomputable abbrev f_zbY : Func := Tryz.f178
abbrev n_zaH : Nat := 179
noncomputable abbrev f_zaH : Func := Tryz.f179
abbrev n_zbO : Nat := 180
noncomputable abbrev f_zbO : Func := Tryz.f180
abbrev n_zbX : Nat := 181
noncomputable abbrev f_zbX : Func := Tryz.f181
abbrev n_zbb : Nat := 182
noncomputable abbrev f_zbb : Func := Tryz.f182
abbrev n_zbI : Nat := 185
noncomputable abbrev f_zbI : Func := Tryz.f185
abbrev n_zbd : Nat := 187
noncomputable abbrev f_zbd : Func := Tryz.f187
abbrev n_zbx : Nat := 188
noncomputable abbrev f_zbx : Func := Tryz.f188
abbrev n_zbQ : Nat := 189
noncomputable abbrev f_zbQ : Func := Tryz.f189
abbrev n_zaG : Nat := 190
noncomputable abbrev f_zaG : Func := Tryz.f190
abbrev n_zn : Nat := 191
noncomputable abbrev f_zn : Func := Tryz.f191
abbrev n_zL : Nat := 192
noncomputable abbrev f_zL : Func := Tryz.f192
abbrev n_zm : Nat := 193
noncomputable abbrev f_zm : Func := Tryz.f193
abbrev n_zaD : Nat := 194
noncomputable abbrev f_zaD : Func := Tryz.f194
abbrev n_zj : Nat := 195
noncomputable abbrev f_zj : Func := Tryz.f195
abbrev n_zf : Nat := 196
noncomputable abbrev f_zf : Func := Tryz.f196
abbrev n_zaM : Nat := 197
noncomputable abbrev f_zaM : Func := Tryz.f197
abbrev n_zR : Nat := 198
noncomputable abbrev f_zR : Func := Tryz.f198
abbrev n_zH : Nat := 199
noncomputable abbrev f_zH : Func := Tryz.f199
abbrev n_zaj : Nat := 200
noncomputable abbrev f_zaj : Func := Tryz.f200
abbrev n_zav : Nat := 201
noncomputable abbrev f_zav : Func := Tryz.f201
abbrev n_zo : Nat := 202
noncomputable abbrev f_zo : Func := Tryz.f202
abbrev n_zV : Nat := 203
noncomputable abbrev f_zV : Func := Tryz.f203
abbrev n_zQ : Nat := 204
noncomputable abbrev f_zQ : Func := Tryz.f204
abbrev n_zaL : Nat := 205
noncomputable abbrev f_zaL : Func := Tryz.f205
abbrev n_zaK : Nat := 206
noncomputable abbrev f_zaK : Func := Tryz.f206
abbrev n_zaO : Nat := 207
noncomputable abbrev f_zaO : Func := Tryz.f207
abbrev n_zw : Nat := 208
noncomputable abbrev f_zw : Func := Tryz.f208
abbrev n_zaU : Nat := 209
noncomputable abbrev f_zaU : Func := Tryz.f209
noncomputable abbrev f_zcf : Func := Tryz.f210
abbrev n_zbA : Nat := 211
noncomputable abbrev f_zbA : Func := Tryz.f211
end Go.Proofs.YtlfdidaeachpoaaGreat
namespace Go.Proofs.YtlfdidaeachpoaaGreat
def val (b : Nat) : List Int → Nat
 | [] => 0
 | d :: ds => d.toNat + b * val b ds
def wfd (b : Nat) (xs : List Int) : Bool := xs.all fun d => decide (0 ≤ d) && decide (d < b)
def dgo (b : Nat) : Nat → Nat → List Int
 | 0,_ => []
 | f + 1,n => if n = 0 then [] else ((n % b : Nat) : Int) :: dgo b f (n / b)
def zcg (b n : Nat) : List Int := dgo b n n
def cutN (xs : List Int) : Nat → Nat
 | 0 => 0
 | n + 1 => if xs.getD n 0 = 0 then cutN xs n else n + 1
def cut (xs : List Int) : List Int := xs.take (cutN xs xs.length)
theorem cutN_le (xs : List Int) : ∀ n,cutN xs n ≤ n
 | 0 => Nat.le_refl _
 | n + 1 => by
  unfold cutN
  split
  ·exact Nat.le_succ_of_le (cutN_le xs n)
  ·exact Nat.le_refl _
theorem zfg {b : Nat} {d : Int} {ds : List Int} : wfd b (d :: ds) = true ↔ (0 ≤ d ∧ d < b) ∧ wfd b ds = true := by
 simp [wfd]
theorem zgP {b : Nat} {xs : List Int} : wfd b xs = true ↔ ∀ d ∈ xs,0 ≤ d ∧ d < b := by
 simp [wfd]
theorem zhE {b : Nat} (hb : 0 < b) {xs : List Int} (h : wfd b xs = true) (i : Nat) : 0 ≤ xs.getD i 0 ∧ xs.getD i 0 < b := by
 rw [List.getD]
 cases hi : xs[i]? with
 | none => simp; omega
 | some d => exact zgP.1 h d (List.mem_of_getElem? hi)
theorem wfd_take {b n : Nat} {xs : List Int} (h : wfd b xs = true) : wfd b (xs.take n) = true :=
 zgP.2 fun d hd => zgP.1 h d (List.mem_of_mem_take hd)
theorem wfd_drop {b n : Nat} {xs : List Int} (h : wfd b xs = true) : wfd b (xs.drop n) = true :=
 zgP.2 fun d hd => zgP.1 h d (List.mem_of_mem_drop hd)
theorem zfe {b i : Nat} {d : Int} {xs : List Int} (h : wfd b xs = true) (hd : 0 ≤ d ∧ d < b) : wfd b (xs.set i d) = true :=
 zgP.2 fun e he => by
  rcases List.mem_or_eq_of_mem_set he with h1 | rfl
  ·exact zgP.1 h e h1
  ·exact hd
theorem zeW {b n : Nat} (hb : 0 < b) : wfd b (List.replicate n 0) = true :=
 zgP.2 fun e he => by
  rw [List.mem_replicate] at he
  obtain ⟨_,rfl⟩ := he
  omega
theorem val_append (b : Nat) : ∀ (xs ys : List Int),val b (xs ++ ys) = val b xs + b ^ xs.length * val b ys
 | [],ys => by simp [val]
 | d :: xs,ys => by
  simp only [List.cons_append,val,val_append b xs ys,List.length_cons,Nat.pow_succ]
  rw [Nat.mul_add,Nat.add_assoc,Nat.mul_comm (b ^ xs.length) b,Nat.mul_assoc]
theorem zfm (b : Nat) : ∀ n,val b (List.replicate n 0) = 0
 | 0 => rfl
 | n + 1 => by simp [List.replicate_succ,val,zfm b n]
theorem zcQ {b : Nat} (hb : 0 < b) : ∀ {xs : List Int},wfd b xs = true → val b xs < b ^ xs.length
 | [],_ => by simp [val]
 | d :: ds,h => by
  obtain ⟨hd,h⟩ := zfg.1 h
  have := zcQ hb h
  simp only [val,List.length_cons,Nat.pow_succ]
  have h1 : d.toNat + 1 ≤ b := by omega
  have h2 : b * (val b ds + 1) ≤ b * b ^ ds.length := Nat.mul_le_mul_left _ this
  rw [Nat.mul_add] at h2
  rw [Nat.mul_comm (b ^ ds.length) b]
  omega
theorem zhh (b : Nat) (xs : List Int) (n : Nat) (h : n ≤ xs.length) : val b xs = val b (xs.take n) + b ^ n * val b (xs.drop n) := by
 have := val_append b (xs.take n) (xs.drop n)
 rw [List.take_append_drop,List.length_take,Nat.min_eq_left h] at this
 exact this
theorem zem {b : Nat} (hb : 0 < b) : ∀ {xs : List Int} (i : Nat),wfd b xs = true → ((val b xs / b ^ i % b : Nat) : Int) = xs.getD i 0
 | [],i,_ => by simp [val]
 | d :: ds,0,h => by
  obtain ⟨hd,h⟩ := zfg.1 h
  simp only [val,Nat.pow_zero,Nat.div_one,Nat.add_mul_mod_self_left,List.getD_cons_zero]
  rw [Nat.mod_eq_of_lt (by omega)]
  omega
 | d :: ds,i + 1,h => by
  obtain ⟨hd,h⟩ := zfg.1 h
  have := zem hb i h
  simp only [val,List.getD_cons_succ]
  rw [← this,Nat.pow_succ,Nat.mul_comm (b ^ i) b,← Nat.div_div_eq_div_mul,Nat.add_mul_div_left _ _ hb,Nat.div_eq_of_lt (by omega : d.toNat < b),Nat.zero_add]
theorem dgo_val {b : Nat} (hb : 2 ≤ b) : ∀ (f n : Nat),n ≤ f → val b (dgo b f n) = n
 | 0,n,h => by
  have : n = 0 := by omega
  subst this
  rfl
 | f + 1,n,h => by
  unfold dgo
  split
  ·rename_i h0
   subst h0
   rfl
  ·rename_i h0
   have hlt : n / b < n := Nat.div_lt_self (by omega) hb
   simp only [val,Int.toNat_natCast,dgo_val hb f (n / b) (by omega)]
   exact Nat.mod_add_div n b
theorem zcz {b : Nat} (hb : 2 ≤ b) (n : Nat) : val b (zcg b n) = n := dgo_val hb n n (Nat.le_refl _)
theorem dgo_wf {b : Nat} (hb : 0 < b) : ∀ (f n : Nat),wfd b (dgo b f n) = true
 | 0,_ => rfl
 | f + 1,n => by
  unfold dgo
  split
  ·rfl
  ·rw [zfg]
   have := Nat.mod_lt n hb
   exact ⟨⟨by omega,by omega⟩,dgo_wf hb f _⟩
theorem zcS {b : Nat} (hb : 0 < b) (n : Nat) : wfd b (zcg b n) = true := dgo_wf hb n n
theorem dgo_fuel {b : Nat} (hb : 2 ≤ b) : ∀ (f g n : Nat),n ≤ f → n ≤ g → dgo b f n = dgo b g n
 | 0,g,n,h,_ => by
  obtain rfl : n = 0 := by omega
  cases g <;> simp [dgo]
 | f + 1,0,n,_,h => by
  obtain rfl : n = 0 := by omega
  simp [dgo]
 | f + 1,g + 1,n,h,h' => by
  unfold dgo
  split
  ·rfl
  ·have hlt : n / b < n := Nat.div_lt_self (by omega) hb
   rw [dgo_fuel hb f g (n / b) (by omega) (by omega)]
theorem zgt {b : Nat} (hb : 2 ≤ b) {n : Nat} (hn : 0 < n) : zcg b n = ((n % b : Nat) : Int) :: zcg b (n / b) := by
 obtain ⟨m,rfl⟩ : ∃ m,n = m + 1 := ⟨n - 1,by omega⟩
 have hlt : (m + 1) / b < m + 1 := Nat.div_lt_self (by omega) hb
 show dgo b (m + 1) (m + 1) = _
 unfold dgo
 rw [if_neg (by omega)]
 rw [dgo_fuel hb m ((m + 1) / b) ((m + 1) / b) (by omega) (Nat.le_refl _)]
 rfl
theorem zdC (b : Nat) : zcg b 0 = [] := rfl
theorem digs_val {b : Nat} (hb : 2 ≤ b) : ∀ {xs : List Int},wfd b xs = true → (∀ h : xs ≠ [],xs.getLast h ≠ 0) → zcg b (val b xs) = xs
 | [],_,_ => rfl
 | d :: ds,h,hl => by
  obtain ⟨hd,h⟩ := zfg.1 h
  have ih : zcg b (val b ds) = ds := digs_val hb h fun hne => by
   have := hl (by simp)
   rwa [List.getLast_cons hne] at this
  have hpos : 0 < val b (d :: ds) := by
   apply Nat.pos_of_ne_zero
   intro h0
   simp only [val] at h0
   have hd0 : d.toNat = 0 := by omega
   have hv0 : val b ds = 0 := by
    have : b * val b ds = 0 := by omega
    rcases Nat.mul_eq_zero.1 this with h1 | h1
    ·omega
    ·exact h1
   rw [hv0] at ih
   rw [zdC] at ih
   subst ih
   have := hl (by simp)
   simp at this
   omega
  rw [zgt hb hpos]
  simp only [val]
  rw [Nat.add_mul_mod_self_left,Nat.mod_eq_of_lt (by omega),Nat.add_mul_div_left _ _ (by omega),Nat.div_eq_of_lt (by omega : d.toNat < b),Nat.zero_add,ih]
  congr 1
  omega
theorem cutN_spec (xs : List Int) : ∀ n,n ≤ xs.length → (∀ i,cutN xs n ≤ i → i < n → xs.getD i 0 = 0) ∧ (∀ k,cutN xs n = k + 1 → xs.getD k 0 ≠ 0)
 | 0,_ => ⟨fun i _ h => absurd h (Nat.not_lt_zero i),fun k h => by cases h⟩
 | n + 1,hn => by
  unfold cutN
  split
  ·rename_i h0
   obtain ⟨h1,h2⟩ := cutN_spec xs n (by omega)
   refine ⟨fun i hi hi' => ?_,h2⟩
   by_cases h : i = n
   ·subst h; exact h0
   ·exact h1 i hi (by omega)
  ·rename_i h0
   refine ⟨fun i hi hi' => by omega,fun k hk => ?_⟩
   obtain rfl : n = k := by omega
   exact h0
theorem val_zero {b : Nat} : ∀ {xs : List Int},(∀ i,i < xs.length → xs.getD i 0 = 0) → val b xs = 0
 | [],_ => rfl
 | d :: ds,h => by
  have h0 := h 0 (by simp)
  simp only [List.getD_cons_zero] at h0
  have := val_zero (b := b) (xs := ds) fun i hi => by
   have := h (i + 1) (by simpa using hi)
   simpa using this
  simp [val,this,h0]
theorem cut_val {b : Nat} (xs : List Int) : val b (cut xs) = val b xs := by
 have hle := cutN_le xs xs.length
 rw [zhh b xs (cutN xs xs.length) hle]
 have : val b (xs.drop (cutN xs xs.length)) = 0 := val_zero fun i hi => by
  rw [List.length_drop] at hi
  have := (cutN_spec xs xs.length (Nat.le_refl _)).1 (cutN xs xs.length + i) (by omega) (by omega)
  simpa [List.getD,List.getElem?_drop] using this
 rw [this]
 rfl
theorem cut_wf {b : Nat} {xs : List Int} (h : wfd b xs = true) : wfd b (cut xs) = true := wfd_take h
theorem cut_last (xs : List Int) (h : cut xs ≠ []) : (cut xs).getLast h ≠ 0 := by
 have hle := cutN_le xs xs.length
 have hlen : (cut xs).length = cutN xs xs.length := by simp [cut,Nat.min_eq_left hle]
 have hpos : 0 < cutN xs xs.length := by
  rw [← hlen]
  exact List.length_pos_iff.2 h
 obtain ⟨k,hk⟩ : ∃ k,cutN xs xs.length = k + 1 := ⟨cutN xs xs.length - 1,by omega⟩
 have := (cutN_spec xs xs.length (Nat.le_refl _)).2 k hk
 rw [List.getLast_eq_getElem]
 have h2 : (cut xs)[(cut xs).length - 1]? = xs[k]? := by
  unfold cut
  rw [List.getElem?_take,hk]
  have : (List.take (k + 1) xs).length - 1 = k := by simp; omega
  rw [this,if_pos (by omega)]
 have h3 : (cut xs)[(cut xs).length - 1]? = some ((cut xs)[(cut xs).length - 1]'(by omega)) := List.getElem?_eq_getElem _
 intro h0
 rw [h0,h2] at h3
 rw [List.getD,h3] at this
 exact this rfl
theorem cut_eq {b : Nat} (hb : 2 ≤ b) {xs : List Int} (h : wfd b xs = true) : cut xs = zcg b (val b xs) := by
 rw [← cut_val (b := b) xs]
 exact (digs_val hb (cut_wf h) (cut_last xs)).symm
end Go.Proofs.YtlfdidaeachpoaaGreat
namespace Go.Proofs.YtlfdidaeachpoaaGreat
abbrev B32 : Nat := 4294967296
def dig (xs : List Int) (i : Int) : Int := if i < xs.length then xs.getD i.toNat 0 else 0
theorem dig_nat (xs : List Int) (i : Nat) : dig xs i = xs.getD i 0 := by
 unfold dig
 split
 ·simp
 ·rename_i h
  rw [List.getD,List.getElem?_eq_none (by omega)]
  rfl
theorem zfd {b : Nat} (hb : 0 < b) {xs : List Int} (h : wfd b xs = true) (i : Nat) : dig xs i = ((val b xs / b ^ i % b : Nat) : Int) := by
 rw [dig_nat,zem hb i h]
def plusN (b : Nat) (xs ys : List Int) : Nat → Nat → Int → List Int
 | 0,_,_ => []
 | k + 1,i,o => (o + (dig xs i + dig ys i)) % b :: plusN b xs ys k (i + 1) ((o + (dig xs i + dig ys i)) / b)
theorem zhl (b x k : Nat) : x % b ^ (k + 1) = x % b + b * (x / b % b ^ k) := by
 rw [Nat.pow_succ,Nat.mul_comm,Nat.mod_mul]
theorem plusN_val {b : Nat} (hb : 2 ≤ b) {xs ys : List Int} (hx : wfd b xs = true) (hy : wfd b ys = true) : ∀ (k i : Nat) (o : Int),0 ≤ o →
  val b (plusN b xs ys k i o) = (o.toNat + val b xs / b ^ i + val b ys / b ^ i) % b ^ k
 | 0,_,_,_ => by simp [plusN,val,Nat.mod_one]
 | k + 1,i,o,ho => by
  have hx' := zfd (by omega : 0 < b) hx i
  have hy' := zfd (by omega : 0 < b) hy i
  generalize hX : val b xs / b ^ i = X at *
  generalize hY : val b ys / b ^ i = Y at *
  have e : o + (dig xs i + dig ys i) = ((o.toNat + (X % b + Y % b) : Nat) : Int) := by rw [hx',hy']; omega
  simp only [plusN,val]
  rw [plusN_val hb hx hy k (i + 1) _ (by rw [e]; exact Int.ediv_nonneg (by omega) (by omega)),e]
  rw [Nat.pow_succ,← Nat.div_div_eq_div_mul,← Nat.div_div_eq_div_mul,hX,hY,zhl]
  have h1 : (((o.toNat + (X % b + Y % b) : Nat) : Int) % (b : Int)).toNat = (o.toNat + X + Y) % b := by
   rw [← Int.natCast_emod,Int.toNat_natCast]
   have hX2 := Nat.mod_add_div X b
   have hY2 := Nat.mod_add_div Y b
   have : o.toNat + X + Y = (o.toNat + (X % b + Y % b)) + b * (X / b + Y / b) := by rw [Nat.mul_add]; omega
   rw [this,Nat.add_mul_mod_self_left]
  have h2 : (((o.toNat + (X % b + Y % b) : Nat) : Int) / (b : Int)).toNat + X / b + Y / b = (o.toNat + X + Y) / b := by
   rw [← Int.natCast_ediv,Int.toNat_natCast]
   have hX2 := Nat.mod_add_div X b
   have hY2 := Nat.mod_add_div Y b
   have : o.toNat + X + Y = (o.toNat + (X % b + Y % b)) + b * (X / b + Y / b) := by rw [Nat.mul_add]; omega
   rw [this,Nat.add_mul_div_left _ _ (by omega)]
   omega
  rw [h1,h2]
theorem plusN_sum {b : Nat} (hb : 2 ≤ b) {xs ys : List Int} (hx : wfd b xs = true) (hy : wfd b ys = true) {k : Nat} (h1 : xs.length < k) (h2 : ys.length < k) : val b (plusN b xs ys k 0 0) = val b xs + val b ys := by
 rw [plusN_val hb hx hy k 0 0 (Int.le_refl _)]
 simp only [Int.toNat_zero,Nat.pow_zero,Nat.div_one,Nat.zero_add]
 apply Nat.mod_eq_of_lt
 have a1 := zcQ (by omega : 0 < b) hx
 have a2 := zcQ (by omega : 0 < b) hy
 obtain ⟨j,rfl⟩ : ∃ j,k = j + 1 := ⟨k - 1,by omega⟩
 have b1 : b ^ xs.length ≤ b ^ j := Nat.pow_le_pow_right (by omega) (by omega)
 have b2 : b ^ ys.length ≤ b ^ j := Nat.pow_le_pow_right (by omega) (by omega)
 have : 2 * b ^ j ≤ b ^ (j + 1) := by rw [Nat.pow_succ,Nat.mul_comm]; exact Nat.mul_le_mul_left _ hb
 omega
end Go.Proofs.YtlfdidaeachpoaaGreat
namespace Go.Proofs.YtlfdidaeachpoaaGreat
def zde (a b : Int) : Int := if a < b then -1 else if b < a then 1 else 0
def cmpN (xs ys : List Int) : Nat → Int
 | 0 => 0
 | k + 1 => if zde (dig xs k) (dig ys k) = 0 then cmpN xs ys k else zde (dig xs k) (dig ys k)
theorem mod_top (b x k : Nat) : x % b ^ (k + 1) = x % b ^ k + b ^ k * (x / b ^ k % b) := by
 rw [Nat.pow_succ,Nat.mod_mul]
theorem cmpI_eq {a b : Int} : zde a b = 0 ↔ a = b := by
 unfold zde
 constructor
 ·intro h
  split at h
  ·omega
  ·split at h <;> omega
 ·rintro rfl
  simp
theorem cmpN_val {b : Nat} (hb : 2 ≤ b) {xs ys : List Int} (hx : wfd b xs = true) (hy : wfd b ys = true) : ∀ k,cmpN xs ys k = zde ((val b xs % b ^ k : Nat) : Int) ((val b ys % b ^ k : Nat) : Int)
 | 0 => by simp [cmpN,zde,Nat.mod_one]
 | k + 1 => by
  have ih := cmpN_val hb hx hy k
  have hX := zfd (by omega : 0 < b) hx k
  have hY := zfd (by omega : 0 < b) hy k
  rw [mod_top,mod_top]
  unfold cmpN
  rw [ih,hX,hY]
  have p : 0 < b ^ k := Nat.pow_pos (by omega)
  have l1 := Nat.mod_lt (val b xs) p
  have l2 := Nat.mod_lt (val b ys) p
  generalize val b xs % b ^ k = x0 at *
  generalize val b ys % b ^ k = y0 at *
  generalize val b xs / b ^ k % b = x1 at *
  generalize val b ys / b ^ k % b = y1 at *
  generalize b ^ k = q at *
  by_cases h : x1 = y1
  ·subst h
   rw [if_pos (cmpI_eq.2 rfl)]
   unfold zde
   generalize q * x1 = z
   have e1 : ((x0 : Int) < (y0 : Int)) ↔ (((x0 + z : Nat) : Int) < ((y0 + z : Nat) : Int)) := by omega
   have e2 : ((y0 : Int) < (x0 : Int)) ↔ (((y0 + z : Nat) : Int) < ((x0 + z : Nat) : Int)) := by omega
   simp only [e1,e2]
  ·rw [if_neg fun e => h (by have := cmpI_eq.1 e; omega)]
   unfold zde
   rcases Nat.lt_or_gt_of_ne h with h1 | h1
   ·have : q * (x1 + 1) ≤ q * y1 := Nat.mul_le_mul_left _ h1
    rw [Nat.mul_add] at this
    rw [if_pos (by omega),if_pos (by omega)]
   ·have : q * (y1 + 1) ≤ q * x1 := Nat.mul_le_mul_left _ h1
    rw [Nat.mul_add] at this
    rw [if_neg (by omega),if_pos (by omega),if_neg (by omega),if_pos (by omega)]
theorem cmpN_all {b : Nat} (hb : 2 ≤ b) {xs ys : List Int} (hx : wfd b xs = true) (hy : wfd b ys = true) {k : Nat} (h1 : xs.length ≤ k) (h2 : ys.length ≤ k) : cmpN xs ys k = zde (val b xs) (val b ys) := by
 rw [cmpN_val hb hx hy k,Nat.mod_eq_of_lt,Nat.mod_eq_of_lt]
 ·exact Nat.lt_of_lt_of_le (zcQ (by omega) hy) (Nat.pow_le_pow_right (by omega) h2)
 ·exact Nat.lt_of_lt_of_le (zcQ (by omega) hx) (Nat.pow_le_pow_right (by omega) h1)
end Go.Proofs.YtlfdidaeachpoaaGreat
namespace Go.Proofs.YtlfdidaeachpoaaGreat
def bl (n : Nat) : Nat := if n = 0 then 0 else n.log2 + 1
theorem bl_le {n k : Nat} : bl n ≤ k ↔ n < 2 ^ k := by
 unfold bl
 split
 ·rename_i h
  subst h
  simp [Nat.pow_pos]
 ·rename_i h
  rw [← Nat.log2_lt h]
  omega
theorem eq_of_le {a b : Nat} (h : ∀ k,a ≤ k ↔ b ≤ k) : a = b := Nat.le_antisymm ((h b).2 (Nat.le_refl _)) ((h a).1 (Nat.le_refl _))
theorem bl_shr (n j : Nat) : bl (n / 2 ^ j) = bl n - j := by
 refine eq_of_le fun k => ?_
 rw [bl_le,Nat.div_lt_iff_lt_mul (Nat.pow_pos (by decide)),← Nat.pow_add,← bl_le]
 omega
theorem ziV {n j : Nat} (h : 2 ^ j ≤ n) : bl n = j + bl (n / 2 ^ j) := by
 rw [bl_shr]
 have : ¬ bl n ≤ j := fun h' => by have := bl_le.1 h'; omega
 omega
theorem zeP {b : Nat} (hb : 2 ≤ b) {n : Nat} (hn : 0 < n) : ∃ m,(zcg b n).length = m + 1 ∧ b ^ m ≤ n ∧ n < b ^ (m + 1) := by
 induction n using Nat.strongRecOn with
 | ind n ih =>
  rw [zgt hb hn]
  by_cases h : n / b = 0
  ·rw [h,zdC]
   refine ⟨0,rfl,hn,?_⟩
   rcases (Nat.div_eq_zero_iff).1 h with h1 | h1
   ·omega
   ·simpa using h1
  ·obtain ⟨m,h1,h2,h3⟩ := ih (n / b) (Nat.div_lt_self hn hb) (Nat.pos_of_ne_zero h)
   refine ⟨m + 1,by simp [h1],?_,?_⟩
   ·rw [Nat.pow_succ]
    exact (Nat.le_div_iff_mul_le (by omega)).1 h2
   ·rw [Nat.pow_succ]
    exact (Nat.div_lt_iff_lt_mul (by omega)).1 h3
theorem digs_get {b : Nat} (hb : 2 ≤ b) (n i : Nat) : (zcg b n).getD i 0 = ((n / b ^ i % b : Nat) : Int) := by
 rw [← zem (by omega) i (zcS (by omega) n),zcz hb]
theorem pow32 (m : Nat) : B32 ^ m = 2 ^ (32 * m) := by
 rw [Nat.pow_mul]
theorem bl_digs {n : Nat} (hn : 0 < n) : ∃ m,(zcg B32 n).length = m + 1 ∧ (zcg B32 n).getD m 0 = ((n / B32 ^ m : Nat) : Int) ∧ n / B32 ^ m < B32 ∧ bl n = 32 * m + bl (n / B32 ^ m) := by
 obtain ⟨m,h1,h2,h3⟩ := zeP (b := B32) (by decide) hn
 have h4 : n / B32 ^ m < B32 := by
  rw [Nat.div_lt_iff_lt_mul (Nat.pow_pos (by decide)),Nat.mul_comm]
  rwa [Nat.pow_succ] at h3
 refine ⟨m,h1,by rw [digs_get (by decide),Nat.mod_eq_of_lt h4],h4,?_⟩
 rw [pow32] at h2 ⊢
 exact ziV h2
theorem or_add {a b : Nat} (h : b < 2 ^ 32) : (a * 2 ^ 32) ||| b = a * 2 ^ 32 + b := by
 rw [← Nat.shiftLeft_eq,Nat.shiftLeft_add_eq_or_of_lt h]
end Go.Proofs.YtlfdidaeachpoaaGreat
namespace Go.Proofs.YtlfdidaeachpoaaGreat
theorem zhx {b : Nat} : ∀ {xs : List Int} {i : Nat} {d : Int},i < xs.length → val b (xs.set i d) + b ^ i * (xs.getD i 0).toNat = val b xs + b ^ i * d.toNat
 | [],i,d,h => by simp at h
 | x :: xs,0,d,_ => by simp [val]; omega
 | x :: xs,i + 1,d,h => by
  have := zhx (b := b) (xs := xs) (i := i) (d := d) (by simpa using h)
  simp only [List.set_cons_succ,val,List.getD_cons_succ,Nat.pow_succ]
  have e : ∀ t,b ^ i * b * t = b * (b ^ i * t) := fun t => by rw [Nat.mul_comm (b ^ i) b,Nat.mul_assoc]
  rw [e,e]
  have h2 : b * (val b (xs.set i d) + b ^ i * (xs.getD i 0).toNat) = b * (val b xs + b ^ i * d.toNat) := by rw [this]
  rw [Nat.mul_add,Nat.mul_add] at h2
  omega
def rowN (b : Nat) (x : Int) (ys : List Int) (i : Nat) : Nat → Nat → List Int → Int → List Int × Int
 | 0,_,out,o => (out,o)
 | r + 1,k,out,o => rowN b x ys i r (k + 1) (out.set (i + k) ((o + (x * ys.getD k 0 + out.getD (i + k) 0)) % b)) ((o + (x * ys.getD k 0 + out.getD (i + k) 0)) / b)
theorem step_bd {b x y z o : Int} (hx : 0 ≤ x ∧ x < b) (hy : 0 ≤ y ∧ y < b) (hz : 0 ≤ z ∧ z < b) (ho : 0 ≤ o ∧ o < b) : 0 ≤ o + (x * y + z) ∧ o + (x * y + z) < b * b := by
 have h1 : 0 ≤ x * y := Int.mul_nonneg hx.1 hy.1
 have h2 : x * y ≤ (b - 1) * (b - 1) := Int.mul_le_mul (by omega) (by omega) hy.1 (by omega)
 have h3 : (b - 1) * (b - 1) = b * b - 2 * b + 1 := by
  rw [Int.sub_mul,Int.mul_sub,Int.one_mul,Int.mul_one]
  omega
 omega
structure RowOK (b : Nat) (x : Int) (ys : List Int) (i r k : Nat) (out : List Int) (o : Int) : Prop where
 wf : wfd b (rowN b x ys i r k out o).1 = true
 len : (rowN b x ys i r k out o).1.length = out.length
 bd : 0 ≤ (rowN b x ys i r k out o).2 ∧ (rowN b x ys i r k out o).2 < b
 val : val b (rowN b x ys i r k out o).1 + b ^ (i + k + r) * (rowN b x ys i r k out o).2.toNat = val b out + b ^ (i + k) * (o.toNat + x.toNat * val b ((ys.drop k).take r))
theorem rowN_ok {b : Nat} (hb : 2 ≤ b) {x : Int} (hx : 0 ≤ x ∧ x < b) {ys : List Int} (hy : wfd b ys = true) {i : Nat} : ∀ (r k : Nat) (out : List Int) (o : Int),k + r ≤ ys.length → i + k + r ≤ out.length → wfd b out = true → (0 ≤ o ∧ o < b) → RowOK b x ys i r k out o
 | 0,k,out,o,_,_,hw,ho => ⟨hw,rfl,ho,by simp [rowN,val]⟩
 | r + 1,k,out,o,h1,h2,hw,ho => by
  have y := zhE (by omega : 0 < b) hy k
  have z := zhE (by omega : 0 < b) hw (i + k)
  have s := step_bd hx y z ho
  generalize hs : o + (x * ys.getD k 0 + out.getD (i + k) 0) = t at *
  have q1 : 0 ≤ t % (b : Int) ∧ t % (b : Int) < b := ⟨Int.emod_nonneg _ (by omega),Int.emod_lt_of_pos _ (by omega)⟩
  have q2 : 0 ≤ t / (b : Int) ∧ t / (b : Int) < b := ⟨Int.ediv_nonneg s.1 (by omega),Int.ediv_lt_of_lt_mul (by omega) s.2⟩
  obtain ⟨a1,a2,a3,a4⟩ := rowN_ok hb hx hy (i := i) r (k + 1) (out.set (i + k) (t % b)) (t / b) (by omega) (by rw [List.length_set]; omega) (zfe hw q1) q2
  have e : rowN b x ys i (r + 1) k out o = rowN b x ys i r (k + 1) (out.set (i + k) (t % b)) (t / b) := by rw [rowN,hs]
  refine ⟨by rw [e]; exact a1,by rw [e,a2,List.length_set],by rw [e]; exact a3,?_⟩
  rw [e,show i + k + (r + 1) = i + (k + 1) + r by omega,a4]
  have v := zhx (b := b) (xs := out) (i := i + k) (d := t % b) (by omega)
  have hd : (ys.drop k).take (r + 1) = ys.getD k 0 :: (ys.drop (k + 1)).take r := by
   have hk : k < ys.length := by omega
   rw [List.drop_eq_getElem_cons hk,List.take_succ_cons,List.getD,List.getElem?_eq_getElem hk]
   rfl
  rw [hd]
  simp only [val]
  generalize val b ((ys.drop (k + 1)).take r) = w at *
  generalize val b (out.set (i + k) (t % (b : Int))) = v1 at *
  generalize val b out = v0 at *
  rw [show i + (k + 1) = i + k + 1 by omega,Nat.pow_succ]
  generalize b ^ (i + k) = p at *
  have t1 : (t % (b : Int)).toNat + b * (t / (b : Int)).toNat = t.toNat := by
   have := Int.emod_add_mul_ediv t b
   have h3 : ((b * (t / (b : Int)).toNat : Nat) : Int) = b * (t / b) := by rw [Int.natCast_mul,Int.toNat_of_nonneg q2.1]
   omega
  have t2 : t.toNat = o.toNat + (x.toNat * (ys.getD k 0).toNat + (out.getD (i + k) 0).toNat) := by
   have h3 : ((x.toNat * (ys.getD k 0).toNat : Nat) : Int) = x * ys.getD k 0 := by rw [Int.natCast_mul,Int.toNat_of_nonneg hx.1,Int.toNat_of_nonneg y.1]
   omega
  generalize (t % (b : Int)).toNat = tm at *
  generalize (t / (b : Int)).toNat = td at *
  generalize (ys.getD k 0).toNat = yk at *
  generalize (out.getD (i + k) 0).toNat = ok at *
  have e1 : p * b * (td + x.toNat * w) = p * (b * td) + p * (x.toNat * (b * w)) := by
   rw [Nat.mul_add,Nat.mul_assoc,Nat.mul_assoc,Nat.mul_left_comm b x.toNat w]
  have e2 : p * (o.toNat + x.toNat * (yk + b * w)) + p * ok = p * t.toNat + p * (x.toNat * (b * w)) := by
   rw [t2,← Nat.mul_add,← Nat.mul_add,Nat.mul_add x.toNat]
   congr 1
   omega
  have e3 : p * t.toNat = p * tm + p * (b * td) := by rw [← t1,Nat.mul_add]
  rw [e1]
  omega
def mulN (b : Nat) (xs ys : List Int) : Nat → Nat → List Int → List Int
 | 0,_,out => out
 | r + 1,i,out => mulN b xs ys r (i + 1) ((rowN b (xs.getD i 0) ys i ys.length 0 out 0).1.set (i + ys.length) (rowN b (xs.getD i 0) ys i ys.length 0 out 0).2)
theorem mulN_ok {b : Nat} (hb : 2 ≤ b) {xs ys : List Int} (hx : wfd b xs = true) (hy : wfd b ys = true) : ∀ (r i : Nat) (out : List Int),i + r = xs.length → out.length = xs.length + ys.length → wfd b out = true → val b out < b ^ (i + ys.length) →
  wfd b (mulN b xs ys r i out) = true ∧ (mulN b xs ys r i out).length = xs.length + ys.length ∧ val b (mulN b xs ys r i out) = val b out + b ^ i * (val b (xs.drop i) * val b ys)
 | 0,i,out,h1,h2,h3,_ => ⟨h3,h2,by rw [List.drop_of_length_le (by omega)]; simp [mulN,val]⟩
 | r + 1,i,out,h1,h2,h3,h4 => by
  have x := zhE (by omega : 0 < b) hx i
  have hi : i < xs.length := by omega
  obtain ⟨a1,a2,a3,a4⟩ := rowN_ok hb x hy (i := i) ys.length 0 out 0 (by omega) (by omega) h3 ⟨Int.le_refl _,by omega⟩
  have hz : ((rowN b (xs.getD i 0) ys i ys.length 0 out 0).1.getD (i + ys.length) 0).toNat = 0 := by
   have same : ∀ (r k : Nat) (out : List Int) (o : Int) (j : Nat),i + k + r ≤ j → (rowN b (xs.getD i 0) ys i r k out o).1.getD j 0 = out.getD j 0 := by
    intro r
    induction r with
    | zero => intro k out o j _; rfl
    | succ r ih =>
     intro k out o j hj
     rw [rowN,ih (k + 1) _ _ j (by omega)]
     simp only [List.getD,List.getElem?_set_ne (show i + k ≠ j by omega)]
   rw [same ys.length 0 out 0 (i + ys.length) (by omega)]
   have := zem (by omega : 0 < b) (i + ys.length) h3
   rw [Nat.div_eq_of_lt h4,Nat.zero_mod] at this
   rw [← this]
   rfl
  have v2 := zhx (b := b) (xs := (rowN b (xs.getD i 0) ys i ys.length 0 out 0).1) (i := i + ys.length) (d := (rowN b (xs.getD i 0) ys i ys.length 0 out 0).2) (by rw [a2]; omega)
  rw [hz,Nat.mul_zero,Nat.add_zero] at v2
  simp only [Nat.add_zero,Int.toNat_zero,Nat.zero_add,List.drop_zero,List.take_length] at a4
  rw [← v2] at a4
  have hw := zfe (i := i + ys.length) a1 a3
  generalize hgen : (rowN b (xs.getD i 0) ys i ys.length 0 out 0).1.set (i + ys.length) (rowN b (xs.getD i 0) ys i ys.length 0 out 0).2 = out' at *
  have hl : out'.length = xs.length + ys.length := by
   rw [← hgen,List.length_set,a2,h2]
  have hbound : val b out' < b ^ (i + 1 + ys.length) := by
   rw [a4]
   have y := zcQ (by omega : 0 < b) hy
   have hxn : (xs.getD i 0).toNat + 1 ≤ b := by omega
   have m1 : (xs.getD i 0).toNat * val b ys + val b ys ≤ b * val b ys := by
    rw [← Nat.succ_mul]
    exact Nat.mul_le_mul_right _ hxn
   have m2 : b * (val b ys + 1) ≤ b * b ^ ys.length := Nat.mul_le_mul_left _ y
   have m3 : b ^ i * (((xs.getD i 0).toNat * val b ys) + b ^ ys.length) ≤ b ^ i * (b * b ^ ys.length) := by
    apply Nat.mul_le_mul_left
    rw [Nat.mul_add] at m2
    have m4 : (xs.getD i 0).toNat * val b ys ≤ (b - 1) * val b ys := Nat.mul_le_mul_right _ (by omega)
    have m5 : (b - 1) * val b ys + b ^ ys.length ≤ (b - 1) * b ^ ys.length + b ^ ys.length := by
     have : (b - 1) * val b ys ≤ (b - 1) * b ^ ys.length := Nat.mul_le_mul_left _ (by omega)
     omega
    have m6 : (b - 1) * b ^ ys.length + b ^ ys.length = b * b ^ ys.length := by
     rw [← Nat.succ_mul]
     congr 1
     omega
    omega
   rw [Nat.mul_add,← Nat.pow_add] at m3
   have m7 : b ^ i * (b * b ^ ys.length) = b ^ (i + 1 + ys.length) := by
    rw [Nat.pow_add,Nat.pow_succ,Nat.mul_assoc]
   omega
  obtain ⟨c1,c2,c3⟩ := mulN_ok hb hx hy r (i + 1) out' (by omega) hl hw hbound
  have e : mulN b xs ys (r + 1) i out = mulN b xs ys r (i + 1) out' := by rw [mulN,hgen]
  rw [e]
  refine ⟨c1,c2,?_⟩
  rw [c3,a4]
  have hd : xs.drop i = xs.getD i 0 :: xs.drop (i + 1) := by
   rw [List.drop_eq_getElem_cons hi,List.getD,List.getElem?_eq_getElem hi]
   rfl
  rw [hd]
  simp only [val]
  rw [Nat.pow_succ,Nat.add_mul,Nat.mul_add,Nat.mul_assoc,Nat.mul_assoc,Nat.add_assoc]
theorem mulN_val {b : Nat} (hb : 2 ≤ b) {xs ys : List Int} (hx : wfd b xs = true) (hy : wfd b ys = true) :
  wfd b (mulN b xs ys xs.length 0 (List.replicate (xs.length + ys.length) 0)) = true ∧ (mulN b xs ys xs.length 0 (List.replicate (xs.length + ys.length) 0)).length = xs.length + ys.length ∧
   val b (mulN b xs ys xs.length 0 (List.replicate (xs.length + ys.length) 0)) = val b xs * val b ys := by
 obtain ⟨h1,h2,h3⟩ := mulN_ok hb hx hy xs.length 0 (List.replicate (xs.length + ys.length) 0) (by omega) (by simp) (zeW (by omega)) (by rw [zfm]; exact Nat.pow_pos (by omega))
 refine ⟨h1,h2,?_⟩
 rw [h3,zfm]
 simp
end Go.Proofs.YtlfdidaeachpoaaGreat
namespace Go.Proofs.YtlfdidaeachpoaaGreat
def zeg (b d : Nat) (xs : List Int) : Nat → Nat → List Int → List Int × Nat
 | 0,r,out => (out,r)
 | k + 1,r,out => zeg b d xs k ((r * b + (xs.getD k 0).toNat) % d) (out.set k (((r * b + (xs.getD k 0).toNat) / d : Nat) : Int))
theorem ziN {b : Nat} {xs : List Int} {k : Nat} (h : k < xs.length) : val b (xs.take (k + 1)) = val b (xs.take k) + b ^ k * (xs.getD k 0).toNat := by
 rw [List.take_succ_eq_append_getElem h,val_append,List.getD,List.getElem?_eq_getElem h,List.length_take,Nat.min_eq_left (Nat.le_of_lt h)]
 simp [val]
structure ShortOK (b d : Nat) (xs : List Int) (k r : Nat) (out : List Int) : Prop where
 wf : wfd b (zeg b d xs k r out).1 = true
 len : (zeg b d xs k r out).1.length = out.length
 same : ∀ j,k ≤ j → (zeg b d xs k r out).1.getD j 0 = out.getD j 0
 quo : val b ((zeg b d xs k r out).1.take k) = (r * b ^ k + val b (xs.take k)) / d
 rest : (zeg b d xs k r out).2 = (r * b ^ k + val b (xs.take k)) % d
theorem short_bd {b d r x : Nat} (hd : 0 < d) (hr : r < d) (hx : x < b) : (r * b + x) / d < b := by
 rw [Nat.div_lt_iff_lt_mul hd]
 have : (r + 1) * b ≤ d * b := Nat.mul_le_mul_right _ hr
 rw [Nat.add_mul,Nat.one_mul] at this
 rw [Nat.mul_comm b d]
 omega
theorem shortN_ok {b d : Nat} (hb : 2 ≤ b) (hd : 0 < d) {xs : List Int} (hx : wfd b xs = true) : ∀ (k r : Nat) (out : List Int),r < d → k ≤ xs.length → k ≤ out.length → wfd b out = true → ShortOK b d xs k r out
 | 0,r,out,hr,_,_,hw => ⟨hw,rfl,fun _ _ => rfl,by simp [zeg,val,Nat.div_eq_of_lt hr],by simp [zeg,val,Nat.mod_eq_of_lt hr]⟩
 | k + 1,r,out,hr,h1,h2,hw => by
  have x := zhE (by omega : 0 < b) hx k
  have hxn : (xs.getD k 0).toNat < b := by omega
  have q := short_bd hd hr hxn
  obtain ⟨a1,a2,a3,a4,a5⟩ := shortN_ok hb hd hx k ((r * b + (xs.getD k 0).toNat) % d) (out.set k (((r * b + (xs.getD k 0).toNat) / d : Nat) : Int)) (Nat.mod_lt _ hd) (by omega) (by rw [List.length_set]; omega) (zfe hw ⟨Int.natCast_nonneg _,Int.ofNat_lt.2 q⟩)
  have e : zeg b d xs (k + 1) r out = zeg b d xs k ((r * b + (xs.getD k 0).toNat) % d) (out.set k (((r * b + (xs.getD k 0).toNat) / d : Nat) : Int)) := rfl
  rw [← e] at a1 a2 a3 a4 a5
  have hk : (zeg b d xs (k + 1) r out).1.getD k 0 = (((r * b + (xs.getD k 0).toNat) / d : Nat) : Int) := by
   rw [a3 k (Nat.le_refl _)]
   simp only [List.getD,List.getElem?_set_self (show k < out.length by omega)]
   rfl
  have hlen : k < (zeg b d xs (k + 1) r out).1.length := by rw [a2,List.length_set]; omega
  have hn : r * b ^ (k + 1) + val b (xs.take (k + 1)) = (r * b + (xs.getD k 0).toNat) * b ^ k + val b (xs.take k) := by
   rw [ziN (by omega),Nat.pow_succ,Nat.add_mul,Nat.mul_assoc r b,Nat.mul_comm b (b ^ k),Nat.mul_comm (xs.getD k 0).toNat]
   omega
  generalize (r * b + (xs.getD k 0).toNat) = t at *
  have ht : t * b ^ k + val b (xs.take k) = (t % d * b ^ k + val b (xs.take k)) + d * (t / d * b ^ k) := by
   have := Nat.mod_add_div t d
   have h3 : t * b ^ k = (t % d + d * (t / d)) * b ^ k := by rw [this]
   rw [h3,Nat.add_mul,Nat.mul_assoc]
   omega
  refine ⟨a1,by rw [a2,List.length_set],fun j hj => ?_,?_,?_⟩
  ·rw [a3 j (by omega)]
   simp only [List.getD,List.getElem?_set_ne (show k ≠ j by omega)]
  ·rw [ziN hlen,hk,a4,hn,ht,Nat.add_mul_div_left _ _ hd,Int.toNat_natCast,Nat.mul_comm (b ^ k)]
  ·rw [a5,hn,ht,Nat.add_mul_mod_self_left]
theorem short_val {b d : Nat} (hb : 2 ≤ b) (hd : 0 < d) {xs : List Int} (hx : wfd b xs = true) : wfd b (zeg b d xs xs.length 0 (List.replicate xs.length 0)).1 = true ∧ (zeg b d xs xs.length 0 (List.replicate xs.length 0)).1.length = xs.length ∧
  val b (zeg b d xs xs.length 0 (List.replicate xs.length 0)).1 = val b xs / d ∧ (zeg b d xs xs.length 0 (List.replicate xs.length 0)).2 = val b xs % d := by
 obtain ⟨a1,a2,_,a4,a5⟩ := shortN_ok hb hd hx xs.length 0 (List.replicate xs.length 0) hd (Nat.le_refl _) (by simp) (zeW (by omega))
 rw [List.length_replicate] at a2
 refine ⟨a1,a2,?_,?_⟩
 ·have := a4
  rw [List.take_of_length_le (by omega),List.take_length] at this
  simpa using this
 ·rw [List.take_length] at a5
  simpa using a5
end Go.Proofs.YtlfdidaeachpoaaGreat
namespace Go.Proofs.YtlfdidaeachpoaaGreat
def fixd (b : Nat) : Nat → Nat → List Int
 | 0,_ => []
 | m + 1,v => ((v % b : Nat) : Int) :: fixd b m (v / b)
theorem zhp (b : Nat) : ∀ m v,(fixd b m v).length = m
 | 0,_ => rfl
 | m + 1,v => by simp [fixd,zhp b m]
theorem fixd_wf {b : Nat} (hb : 0 < b) : ∀ m v,wfd b (fixd b m v) = true
 | 0,_ => rfl
 | m + 1,v => zfg.2 ⟨⟨Int.natCast_nonneg _,Int.ofNat_lt.2 (Nat.mod_lt _ hb)⟩,fixd_wf hb m _⟩
theorem fixd_val {b : Nat} : ∀ m v,val b (fixd b m v) = v % b ^ m
 | 0,v => by simp [fixd,val,Nat.mod_one]
 | m + 1,v => by
  rw [fixd,val,fixd_val m,Int.toNat_natCast,zhl]
theorem fixd_eq {b : Nat} (hb : 0 < b) : ∀ {xs : List Int},wfd b xs = true → fixd b xs.length (val b xs) = xs
 | [],_ => rfl
 | d :: ds,h => by
  obtain ⟨hd,h⟩ := zfg.1 h
  rw [List.length_cons,fixd,val,Nat.add_mul_mod_self_left,Nat.mod_eq_of_lt (by omega),Nat.add_mul_div_left _ _ hb,Nat.div_eq_of_lt (by omega : d.toNat < b),Nat.zero_add,fixd_eq hb h]
  congr 1
  omega
theorem fixd_get {b : Nat} (hb : 0 < b) {m v i : Nat} (hi : i < m) : (fixd b m v).getD i 0 = ((v / b ^ i % b : Nat) : Int) := by
 induction m generalizing v i with
 | zero => omega
 | succ m ih =>
  cases i with
  | zero => simp [fixd]
  | succ i =>
   rw [fixd,List.getD_cons_succ,ih (by omega),Nat.div_div_eq_div_mul,Nat.pow_succ,Nat.mul_comm b]
def sftN (b m : Nat) (xs : List Int) : Nat → Nat → Nat → List Int → List Int
 | 0,_,_,out => out
 | r + 1,i,o,out => sftN b m xs r (i + 1) ((o + (dig xs i).toNat * m) / b) (out.set i (((o + (dig xs i).toNat * m) % b : Nat) : Int))
theorem sftN_ok {b m : Nat} (hb : 0 < b) {xs : List Int} (hx : wfd b xs = true) : ∀ (r i o : Nat) (out : List Int),out.length = i + r → wfd b out = true →
  wfd b (sftN b m xs r i o out) = true ∧ (sftN b m xs r i o out).length = i + r ∧ val b (sftN b m xs r i o out) = val b (out.take i) + b ^ i * ((o + val b xs / b ^ i * m) % b ^ r)
 | 0,i,o,out,h1,h2 => ⟨h2,h1,by rw [List.take_of_length_le (by omega)]; simp [sftN,Nat.mod_one]⟩
 | r + 1,i,o,out,h1,h2 => by
  have hd : (dig xs i).toNat = val b xs / b ^ i % b := by rw [zfd hb hx]; exact Int.toNat_natCast _
  obtain ⟨a1,a2,a3⟩ := sftN_ok hb hx (m := m) r (i + 1) ((o + (dig xs i).toNat * m) / b) (out.set i (((o + (dig xs i).toNat * m) % b : Nat) : Int)) (by rw [List.length_set]; omega) (zfe h2 ⟨Int.natCast_nonneg _,Int.ofNat_lt.2 (Nat.mod_lt _ hb)⟩)
  refine ⟨a1,by rw [sftN,a2]; omega,?_⟩
  rw [sftN,a3,ziN (by rw [List.length_set]; omega),List.take_set_of_le (Nat.le_refl _),hd]
  simp only [List.getD,List.getElem?_set_self (show i < out.length by omega),Option.getD_some,Int.toNat_natCast]
  rw [Nat.pow_succ,← Nat.div_div_eq_div_mul]
  generalize val b xs / b ^ i = X
  rw [zhl,Nat.mul_add]
  have e : o + X * m = (o + X % b * m) + b * (X / b * m) := by
   have := Nat.mod_add_div X b
   have h3 : X * m = (X % b + b * (X / b)) * m := by rw [this]
   rw [h3,Nat.add_mul,Nat.mul_assoc]
   omega
  rw [e,Nat.add_mul_mod_self_left,Nat.add_mul_div_left _ _ hb,Nat.mul_assoc]
  omega
theorem sft_val {m : Nat} {xs : List Int} (hx : wfd B32 xs = true) (hm : m ≤ B32) : sftN B32 m xs (xs.length + 1) 0 0 (List.replicate (xs.length + 1) 0) = fixd B32 (xs.length + 1) (val B32 xs * m) := by
 obtain ⟨a1,a2,a3⟩ := sftN_ok (b := B32) (m := m) (by decide) hx (xs.length + 1) 0 0 (List.replicate (xs.length + 1) 0) (by simp) (zeW (by decide))
 have h := fixd_eq (by decide) a1
 rw [a2,a3] at h
 rw [← h]
 simp only [List.take_zero,val,Nat.pow_zero,Nat.div_one,Nat.one_mul,Nat.zero_add]
 rw [Nat.mod_eq_of_lt]
 have h1 := zcQ (b := B32) (by decide) hx
 rw [Nat.pow_succ]
 calc val B32 xs * m ≤ val B32 xs * B32 := Nat.mul_le_mul_left _ hm
  _ < B32 ^ xs.length * B32 := Nat.mul_lt_mul_of_pos_right h1 (by decide)
end Go.Proofs.YtlfdidaeachpoaaGreat
namespace Go.Proofs.YtlfdidaeachpoaaGreat
def fillN (f : Nat → Int) : Nat → Nat → List Int → List Int
 | 0,_,out => out
 | r + 1,i,out => fillN f r (i + 1) (out.set i (f i))
theorem fillN_len (f : Nat → Int) : ∀ (r i : Nat) (out : List Int),(fillN f r i out).length = out.length
 | 0,_,_ => rfl
 | r + 1,i,out => by rw [fillN,fillN_len f r,List.length_set]
theorem fillN_get (f : Nat → Int) : ∀ (r i j : Nat) (out : List Int),i + r ≤ out.length → (fillN f r i out)[j]? = if i ≤ j ∧ j < i + r then some (f j) else out[j]?
 | 0,i,j,out,_ => by rw [if_neg (by omega)]; rfl
 | r + 1,i,j,out,h => by
  rw [fillN,fillN_get f r (i + 1) j _ (by rw [List.length_set]; omega)]
  by_cases h1 : i + 1 ≤ j ∧ j < i + 1 + r
  ·rw [if_pos h1,if_pos (by omega)]
  ·rw [if_neg h1]
   by_cases h2 : i = j
   ·subst h2
    rw [if_pos (by omega),List.getElem?_set_self (by omega)]
   ·rw [List.getElem?_set_ne h2,if_neg (by omega)]
theorem list_ext_getD {xs ys : List Int} (hl : xs.length = ys.length) (h : ∀ i,i < xs.length → xs.getD i 0 = ys.getD i 0) : xs = ys := by
 apply List.ext_getElem hl
 intro i h1 h2
 have := h i h1
 rw [List.getD,List.getD,List.getElem?_eq_getElem h1,List.getElem?_eq_getElem h2] at this
 exact this
def downF (b n : Nat) (xs : List Int) (i : Nat) : Int := ((((dig xs (i + 1 : Nat)).toNat * b + (dig xs i).toNat) / 2 ^ n % b : Nat) : Int)
theorem downF_eq {n : Nat} (hn : n ≤ 32) {xs : List Int} (hx : wfd B32 xs = true) (i : Nat) : downF B32 n xs i = ((val B32 xs / 2 ^ n / B32 ^ i % B32 : Nat) : Int) := by
 unfold downF
 have h0 : (dig xs i).toNat = val B32 xs / B32 ^ i % B32 := by rw [zfd (by decide) hx]; exact Int.toNat_natCast _
 have h1 : (dig xs (i + 1 : Nat)).toNat = val B32 xs / B32 ^ i / B32 % B32 := by rw [zfd (by decide) hx,Nat.pow_succ,Nat.div_div_eq_div_mul]; exact Int.toNat_natCast _
 have hA : val B32 xs / 2 ^ n / B32 ^ i = val B32 xs / B32 ^ i / 2 ^ n := by rw [Nat.div_div_eq_div_mul,Nat.mul_comm,← Nat.div_div_eq_div_mul]
 rw [h0,h1,hA]
 generalize val B32 xs / B32 ^ i = X
 congr 1
 have e : X = (X / B32 % B32 * B32 + X % B32) + 2 ^ n * (2 ^ (32 - n) * B32 * (X / B32 / B32)) := by
  have a1 := Nat.mod_add_div X B32
  have a2 := Nat.mod_add_div (X / B32) B32
  have a3 : 2 ^ n * (2 ^ (32 - n) * B32 * (X / B32 / B32)) = B32 * (B32 * (X / B32 / B32)) := by
   rw [Nat.mul_assoc (2 ^ (32 - n)),← Nat.mul_assoc (2 ^ n),← Nat.pow_add,show n + (32 - n) = 32 by omega]
  rw [a3]
  have a4 : B32 * (X / B32) = B32 * (X / B32 % B32) + B32 * (B32 * (X / B32 / B32)) := by rw [← Nat.mul_add,a2]
  rw [Nat.mul_comm (X / B32 % B32)]
  omega
 have h2 : X / 2 ^ n = (X / B32 % B32 * B32 + X % B32) / 2 ^ n + 2 ^ (32 - n) * B32 * (X / B32 / B32) := by
  conv => lhs; rw [e]
  exact Nat.add_mul_div_left _ _ (Nat.pow_pos (by decide))
 rw [h2,Nat.mul_comm (2 ^ (32 - n)) B32,Nat.mul_assoc,Nat.add_mul_mod_self_left]
theorem down_val {n : Nat} (hn : n ≤ 32) {xs : List Int} (hx : wfd B32 xs = true) : fillN (downF B32 n xs) xs.length 0 (List.replicate xs.length 0) = fixd B32 xs.length (val B32 xs / 2 ^ n) := by
 refine list_ext_getD (by rw [fillN_len,zhp,List.length_replicate]) fun i hi => ?_
 rw [fillN_len,List.length_replicate] at hi
 rw [fixd_get (by decide) hi,List.getD,fillN_get _ _ _ _ _ (by simp),if_pos (by omega)]
 exact downF_eq hn hx i
end Go.Proofs.YtlfdidaeachpoaaGreat
namespace Go.Proofs.YtlfdidaeachpoaaGreat
def subD (x y l : Nat) : Nat × Nat := if y + l ≤ x then (x - (y + l),0) else (x + B32 - (y + l),1)
def awN (q : Nat) (vs : List Int) (j : Nat) : Nat → Nat → Nat → Nat → List Int → List Int × Nat
 | 0,_,_,l,us => (us,l)
 | r + 1,i,o,l,us => awN q vs j r (i + 1) ((o + q * (dig vs i).toNat) / B32) (subD (us.getD (j + i) 0).toNat ((o + q * (dig vs i).toNat) % B32) l).2
   (us.set (j + i) ((subD (us.getD (j + i) 0).toNat ((o + q * (dig vs i).toNat) % B32) l).1 : Int))
theorem subD_spec {x y l : Nat} (hx : x < B32) (hy : y < B32) (hl : l ≤ 1) : (subD x y l).1 < B32 ∧ (subD x y l).2 ≤ 1 ∧ (subD x y l).1 + y + l = x + B32 * (subD x y l).2 := by
 unfold subD
 have hB : B32 = 4294967296 := rfl
 split
 ·simp only; omega
 ·simp only; omega
structure AwOK (q : Nat) (vs : List Int) (j r i o l : Nat) (us : List Int) : Prop where
 wf : wfd B32 (awN q vs j r i o l us).1 = true
 len : (awN q vs j r i o l us).1.length = us.length
 le : (awN q vs j r i o l us).2 ≤ 1
 val : val B32 (awN q vs j r i o l us).1 + B32 ^ (j + i) * (o + l + q * (val B32 vs / B32 ^ i % B32 ^ r)) =
  val B32 us + B32 ^ (j + i + r) * ((awN q vs j r i o l us).2 + (o + q * (val B32 vs / B32 ^ i % B32 ^ r)) / B32 ^ r)
theorem awN_ok {q : Nat} {vs : List Int} (hv : wfd B32 vs = true) {j : Nat} : ∀ (r i o l : Nat) (us : List Int),j + i + r ≤ us.length → wfd B32 us = true → l ≤ 1 → AwOK q vs j r i o l us
 | 0,i,o,l,us,_,hw,hl => ⟨hw,rfl,hl,by simp [awN,Nat.mod_one,Nat.add_comm o l]⟩
 | r + 1,i,o,l,us,h1,hw,hl => by
  have hd : (dig vs i).toNat = val B32 vs / B32 ^ i % B32 := by rw [zfd (by decide) hv]; exact Int.toNat_natCast _
  have x := zhE (by decide : 0 < B32) hw (j + i)
  have hx : (us.getD (j + i) 0).toNat < B32 := by have : us.getD (j + i) 0 < ((B32 : Nat) : Int) := x.2; omega
  have hy : (o + q * (dig vs i).toNat) % B32 < B32 := Nat.mod_lt _ (by decide)
  obtain ⟨s1,s2,s3⟩ := subD_spec hx hy hl
  obtain ⟨a1,a2,a3,a4⟩ := awN_ok (q := q) hv (j := j) r (i + 1) ((o + q * (dig vs i).toNat) / B32) (subD (us.getD (j + i) 0).toNat ((o + q * (dig vs i).toNat) % B32) l).2
   (us.set (j + i) ((subD (us.getD (j + i) 0).toNat ((o + q * (dig vs i).toNat) % B32) l).1 : Int)) (by rw [List.length_set]; omega) (zfe hw ⟨Int.natCast_nonneg _,Int.ofNat_lt.2 s1⟩) s2
  have e : awN q vs j (r + 1) i o l us = awN q vs j r (i + 1) ((o + q * (dig vs i).toNat) / B32) (subD (us.getD (j + i) 0).toNat ((o + q * (dig vs i).toNat) % B32) l).2
   (us.set (j + i) ((subD (us.getD (j + i) 0).toNat ((o + q * (dig vs i).toNat) % B32) l).1 : Int)) := rfl
  rw [← e] at a1 a2 a3 a4
  refine ⟨a1,by rw [a2,List.length_set],a3,?_⟩
  have v := zhx (b := B32) (xs := us) (i := j + i) (d := ((subD (us.getD (j + i) 0).toNat ((o + q * (dig vs i).toNat) % B32) l).1 : Int)) (by omega)
  rw [Int.toNat_natCast] at v
  rw [show j + (i + 1) + r = j + i + (r + 1) by omega,show j + (i + 1) = j + i + 1 by omega,Nat.pow_succ B32 i,← Nat.div_div_eq_div_mul,hd] at a4
  rw [hd] at s3 v
  generalize val B32 (awN q vs j (r + 1) i o l us).1 = R at *
  generalize (awN q vs j (r + 1) i o l us).2 = L at *
  generalize val B32 vs / B32 ^ i = V at *
  generalize hsd : subD (us.getD (j + i) 0).toNat ((o + q * (V % B32)) % B32) l = sd at *
  generalize val B32 (us.set (j + i) (sd.1 : Int)) = U' at *
  generalize val B32 us = U at *
  generalize (us.getD (j + i) 0).toNat = u at *
  rw [Nat.pow_succ B32 (j + i)] at a4
  generalize B32 ^ (j + i) = P at *
  rw [zhl B32 V r]
  generalize hM : V / B32 % B32 ^ r = M at *
  have c1 : o + q * (V % B32 + B32 * M) = (o + q * (V % B32)) % B32 + B32 * ((o + q * (V % B32)) / B32 + q * M) := by
   have := Nat.mod_add_div (o + q * (V % B32)) B32
   rw [Nat.mul_add q,Nat.mul_left_comm q B32 M,Nat.mul_add B32]
   omega
  have c2 : (o + q * (V % B32 + B32 * M)) / B32 ^ (r + 1) = ((o + q * (V % B32)) / B32 + q * M) / B32 ^ r := by
   rw [Nat.pow_succ,Nat.mul_comm (B32 ^ r) B32,← Nat.div_div_eq_div_mul,c1,Nat.add_mul_div_left _ _ (by decide),Nat.div_eq_of_lt (Nat.mod_lt _ (by decide)),Nat.zero_add]
  rw [c2]
  have c3 : o + l + q * (V % B32 + B32 * M) = l + ((o + q * (V % B32)) % B32 + B32 * ((o + q * (V % B32)) / B32 + q * M)) := by omega
  rw [c3]
  generalize (o + q * (V % B32)) % B32 = y at *
  have e1 : P * (sd.1 + y + l) = P * (u + B32 * sd.2) := by rw [s3]
  rw [show j + i + (r + 1) = j + i + (r + 1) from rfl] at a4
  generalize B32 ^ (j + i + (r + 1)) * (L + ((o + q * (V % B32)) / B32 + q * M) / B32 ^ r) = W at *
  generalize (o + q * (V % B32)) / B32 = o1 at *
  generalize q * M = QM at *
  simp only [Nat.mul_add,← Nat.mul_assoc] at e1 a4 v ⊢
  omega
theorem aw_val {q : Nat} {vs : List Int} (hv : wfd B32 vs = true) {j : Nat} {us : List Int} (hu : wfd B32 us = true) (hl : j + (vs.length + 1) ≤ us.length) (hq : q * val B32 vs < B32 ^ (vs.length + 1)) :
  wfd B32 (awN q vs j (vs.length + 1) 0 0 0 us).1 = true ∧ (awN q vs j (vs.length + 1) 0 0 0 us).1.length = us.length ∧ (awN q vs j (vs.length + 1) 0 0 0 us).2 ≤ 1 ∧
   val B32 (awN q vs j (vs.length + 1) 0 0 0 us).1 + B32 ^ j * (q * val B32 vs) = val B32 us + B32 ^ (j + (vs.length + 1)) * (awN q vs j (vs.length + 1) 0 0 0 us).2 := by
 obtain ⟨a1,a2,a3,a4⟩ := awN_ok (q := q) hv (j := j) (vs.length + 1) 0 0 0 us (by omega) hu (by omega)
 refine ⟨a1,a2,a3,?_⟩
 have hlt : val B32 vs < B32 ^ (vs.length + 1) := Nat.lt_of_lt_of_le (zcQ (by decide) hv) (Nat.pow_le_pow_right (by decide) (by omega))
 simp only [Nat.add_zero,Nat.zero_add,Nat.pow_zero,Nat.div_one,Nat.mod_eq_of_lt hlt,Nat.div_eq_of_lt hq] at a4
 exact a4
def bkN (vs : List Int) (j : Nat) : Nat → Nat → Nat → List Int → List Int × Nat
 | 0,_,o,us => (us,o)
 | r + 1,i,o,us => bkN vs j r (i + 1) ((o + ((us.getD (j + i) 0).toNat + (dig vs i).toNat)) / B32) (us.set (j + i) (((o + ((us.getD (j + i) 0).toNat + (dig vs i).toNat)) % B32 : Nat) : Int))
structure BkOK (vs : List Int) (j r i o : Nat) (us : List Int) : Prop where
 wf : wfd B32 (bkN vs j r i o us).1 = true
 len : (bkN vs j r i o us).1.length = us.length
 le : (bkN vs j r i o us).2 ≤ 1
 val : val B32 (bkN vs j r i o us).1 + B32 ^ (j + i + r) * (bkN vs j r i o us).2 = val B32 us + B32 ^ (j + i) * (o + val B32 vs / B32 ^ i % B32 ^ r)
theorem bkN_ok {vs : List Int} (hv : wfd B32 vs = true) {j : Nat} : ∀ (r i o : Nat) (us : List Int),j + i + r ≤ us.length → wfd B32 us = true → o ≤ 1 → BkOK vs j r i o us
 | 0,i,o,us,_,hw,ho => ⟨hw,rfl,ho,by simp [bkN,Nat.mod_one]⟩
 | r + 1,i,o,us,h1,hw,ho => by
  have hd : (dig vs i).toNat = val B32 vs / B32 ^ i % B32 := by rw [zfd (by decide) hv]; exact Int.toNat_natCast _
  have x := zhE (by decide : 0 < B32) hw (j + i)
  have hx : (us.getD (j + i) 0).toNat < B32 := by have : us.getD (j + i) 0 < ((B32 : Nat) : Int) := x.2; omega
  have hy : (dig vs i).toNat < B32 := by rw [hd]; exact Nat.mod_lt _ (by decide)
  have hc : (o + ((us.getD (j + i) 0).toNat + (dig vs i).toNat)) / B32 ≤ 1 := by
   rw [← Nat.lt_succ_iff,Nat.div_lt_iff_lt_mul (by decide)]
   generalize (us.getD (j + i) 0).toNat = p1 at *
   generalize (dig vs i).toNat = p2 at *
   have hB : B32 = 4294967296 := rfl
   omega
  obtain ⟨a1,a2,a3,a4⟩ := bkN_ok hv (j := j) r (i + 1) ((o + ((us.getD (j + i) 0).toNat + (dig vs i).toNat)) / B32)
   (us.set (j + i) (((o + ((us.getD (j + i) 0).toNat + (dig vs i).toNat)) % B32 : Nat) : Int)) (by rw [List.length_set]; omega) (zfe hw ⟨Int.natCast_nonneg _,Int.ofNat_lt.2 (Nat.mod_lt _ (by decide))⟩) hc
  have e : bkN vs j (r + 1) i o us = bkN vs j r (i + 1) ((o + ((us.getD (j + i) 0).toNat + (dig vs i).toNat)) / B32)
   (us.set (j + i) (((o + ((us.getD (j + i) 0).toNat + (dig vs i).toNat)) % B32 : Nat) : Int)) := rfl
  rw [← e] at a1 a2 a3 a4
  refine ⟨a1,by rw [a2,List.length_set],a3,?_⟩
  have v := zhx (b := B32) (xs := us) (i := j + i) (d := (((o + ((us.getD (j + i) 0).toNat + (dig vs i).toNat)) % B32 : Nat) : Int)) (by omega)
  rw [Int.toNat_natCast] at v
  rw [show j + (i + 1) + r = j + i + (r + 1) by omega,show j + (i + 1) = j + i + 1 by omega,Nat.pow_succ B32 i,← Nat.div_div_eq_div_mul,hd] at a4
  rw [hd] at v
  generalize val B32 (bkN vs j (r + 1) i o us).1 = R at *
  generalize (bkN vs j (r + 1) i o us).2 = L at *
  generalize val B32 vs / B32 ^ i = V at *
  rw [zhl B32 V r]
  generalize (us.getD (j + i) 0).toNat = u at *
  have t1 := Nat.mod_add_div (o + (u + V % B32)) B32
  generalize val B32 (us.set (j + i) (((o + (u + V % B32)) % B32 : Nat) : Int)) = U' at *
  generalize val B32 us = U at *
  generalize (o + (u + V % B32)) % B32 = tm at *
  generalize (o + (u + V % B32)) / B32 = td at *
  rw [Nat.pow_succ B32 (j + i)] at a4
  generalize B32 ^ (j + i) = P at *
  generalize B32 ^ (j + i + (r + 1)) * L = W at *
  generalize V / B32 % B32 ^ r = M at *
  have e1 : P * (tm + B32 * td) = P * (o + (u + V % B32)) := by rw [t1]
  simp only [Nat.mul_add,← Nat.mul_assoc] at e1 a4 v ⊢
  omega
theorem bk_val {vs : List Int} (hv : wfd B32 vs = true) {j : Nat} {us : List Int} (hu : wfd B32 us = true) (hl : j + (vs.length + 1) ≤ us.length) :
  wfd B32 (bkN vs j (vs.length + 1) 0 0 us).1 = true ∧ (bkN vs j (vs.length + 1) 0 0 us).1.length = us.length ∧ (bkN vs j (vs.length + 1) 0 0 us).2 ≤ 1 ∧
   val B32 (bkN vs j (vs.length + 1) 0 0 us).1 + B32 ^ (j + (vs.length + 1)) * (bkN vs j (vs.length + 1) 0 0 us).2 = val B32 us + B32 ^ j * val B32 vs := by
 obtain ⟨a1,a2,a3,a4⟩ := bkN_ok hv (j := j) (vs.length + 1) 0 0 us (by omega) hu (by omega)
 refine ⟨a1,a2,a3,?_⟩
 have hlt : val B32 vs < B32 ^ (vs.length + 1) := Nat.lt_of_lt_of_le (zcQ (by decide) hv) (Nat.pow_le_pow_right (by decide) (by omega))
 simp only [Nat.add_zero,Nat.zero_add,Nat.pow_zero,Nat.div_one,Nat.mod_eq_of_lt hlt] at a4
 exact a4
end Go.Proofs.YtlfdidaeachpoaaGreat
namespace Go.Proofs.YtlfdidaeachpoaaGreat
structure Win (p v1 v2 vr t u2 ur V W : Nat) : Prop where
 hV : V = (v1 * B32 + v2) * p + vr
 hW : W = (t * B32 + u2) * p + ur
 hvr : vr < p
 hur : ur < p
 h2 : v2 < B32
 hu2 : u2 < B32
 norm : B32 ≤ 2 * v1
 lt : W < B32 * V
theorem Win.start {p v1 v2 vr t u2 ur V W q : Nat} (H : Win p v1 v2 vr t u2 ur V W) (hq : q * V ≤ W) : q * v1 ≤ t := by
 apply Nat.le_of_lt_succ
 have hp : 0 < B32 * p := Nat.mul_pos (by decide) (Nat.lt_of_le_of_lt (Nat.zero_le _) H.hvr)
 have h1 : q * v1 * (B32 * p) ≤ q * V := by
  rw [H.hV,Nat.mul_assoc]
  apply Nat.mul_le_mul_left
  rw [Nat.add_mul,Nat.mul_assoc]
  omega
 have h2 : W < (t + 1) * (B32 * p) := by
  rw [H.hW,Nat.add_mul,Nat.add_mul,Nat.mul_assoc,Nat.one_mul]
  have : (u2 + 1) * p ≤ B32 * p := Nat.mul_le_mul_right _ H.hu2
  rw [Nat.add_mul,Nat.one_mul] at this
  have := H.hur
  omega
 exact Nat.lt_of_mul_lt_mul_right (Nat.lt_of_le_of_lt (Nat.le_trans h1 hq) h2)
theorem Win.down {p v1 v2 vr t u2 ur V W q g r : Nat} (H : Win p v1 v2 vr t u2 ur V W) (hq : q * V ≤ W) (hr : g * v1 + r = t) (h : r * B32 + u2 < g * v2) : q < g := by
 apply Nat.lt_of_not_le
 intro hle
 have hp : 0 < p := Nat.lt_of_le_of_lt (Nat.zero_le _) H.hvr
 have h1 : g * V ≤ W := Nat.le_trans (Nat.mul_le_mul_right _ hle) hq
 have h2 : (t * B32 + u2 + 1) * p ≤ g * (v1 * B32 + v2) * p := by
  apply Nat.mul_le_mul_right
  rw [← hr,Nat.add_mul,Nat.mul_add,Nat.mul_assoc]
  omega
 have h3 : g * (v1 * B32 + v2) * p ≤ g * V := by
  rw [H.hV,Nat.mul_assoc]
  exact Nat.mul_le_mul_left _ (Nat.le_add_right _ _)
 rw [Nat.add_mul,Nat.one_mul] at h2
 have := H.hW
 have := H.hur
 omega
theorem Win.near {p v1 v2 vr t u2 ur V W q g r : Nat} (H : Win p v1 v2 vr t u2 ur V W) (hq : W < (q + 1) * V) (hr : g * v1 + r = t) (hg : g ≤ B32) (h : ¬ r * B32 + u2 < g * v2) : g ≤ q + 1 := by
 apply Nat.le_of_not_lt
 intro hlt
 have h1 : (q + 2) * V ≤ g * V := Nat.mul_le_mul_right _ hlt
 have h2 : g * V = g * (v1 * B32 + v2) * p + g * vr := by rw [H.hV,Nat.mul_add,Nat.mul_assoc]
 have h3 : g * (v1 * B32 + v2) * p ≤ (t * B32 + u2) * p := by
  apply Nat.mul_le_mul_right
  rw [← hr,Nat.add_mul,Nat.mul_add,Nat.mul_assoc]
  omega
 have h4 : g * vr ≤ B32 * vr := Nat.mul_le_mul_right _ hg
 have h5 : B32 * (vr + 1) ≤ B32 * p := Nat.mul_le_mul_left _ H.hvr
 have h6 : B32 * p ≤ V := by
  rw [H.hV]
  have hv1 : 1 ≤ v1 := by
   have := H.norm
   have hB : B32 = 4294967296 := rfl
   omega
  have h10 : B32 ≤ v1 * B32 + v2 := Nat.le_trans (Nat.le_mul_of_pos_left B32 hv1) (Nat.le_add_right _ _)
  exact Nat.le_trans (Nat.mul_le_mul_right p h10) (Nat.le_add_right _ _)
 have h7 : (q + 2) * V = (q + 1) * V + V := by rw [Nat.add_mul,Nat.add_mul]; omega
 have h8 : B32 * (vr + 1) = B32 * vr + B32 := by rw [Nat.mul_add,Nat.mul_one]
 have hB : B32 = 4294967296 := rfl
 have := H.hW
 omega
theorem Win.stop {p v1 v2 vr t u2 ur V W g r : Nat} (H : Win p v1 v2 vr t u2 ur V W) (hr : g * v1 + r = t) (hg : g ≤ B32) (h : B32 ≤ r) : g * V ≤ W := by
 have h1 : g * V = g * v1 * (B32 * p) + g * (v2 * p + vr) := by
  rw [H.hV,Nat.add_mul,Nat.add_assoc,Nat.mul_add,Nat.mul_assoc v1,Nat.mul_assoc]
 have h2 : g * (v2 * p + vr) ≤ B32 * (B32 * p) := by
  apply Nat.mul_le_mul hg
  have : (v2 + 1) * p ≤ B32 * p := Nat.mul_le_mul_right _ H.h2
  rw [Nat.add_mul,Nat.one_mul] at this
  have := H.hvr
  omega
 have h3 : (g * v1 + B32) * (B32 * p) ≤ t * (B32 * p) := Nat.mul_le_mul_right _ (by omega)
 rw [Nat.add_mul] at h3
 have h4 : t * (B32 * p) ≤ W := by
  rw [H.hW,Nat.add_mul,Nat.mul_assoc]
  omega
 omega
def gsN (v1 v2 u2 : Nat) : Nat → Nat → Nat → Nat
 | 0,g,_ => g
 | f + 1,g,r => if B32 ≤ g ∨ r * B32 + u2 < g * v2 then (if B32 ≤ r + v1 then g - 1 else gsN v1 v2 u2 f (g - 1) (r + v1)) else g
theorem gsN_ok {p v1 v2 vr t u2 ur V W q : Nat} (H : Win p v1 v2 vr t u2 ur V W) (hq : q * V ≤ W) (hq' : W < (q + 1) * V) (hqB : q < B32) : ∀ (f g r : Nat),g * v1 + r = t → q ≤ g → g ≤ B32 + 1 → (g = B32 + 1 → r + v1 < B32) → B32 ≤ r + f * v1 → 0 < f →
  q ≤ gsN v1 v2 u2 f g r ∧ gsN v1 v2 u2 f g r ≤ q + 1
 | 0,_,_,_,_,_,_,_,h => by omega
 | f + 1,g,r,hr,h1,h2,h3,h4,_ => by
  unfold gsN
  split
  ·rename_i hc
   have hg1 : q ≤ g - 1 ∧ 0 < g := by
    rcases hc with hc | hc
    ·omega
    ·have := H.down hq hr hc
     omega
   have hr' : (g - 1) * v1 + (r + v1) = t := by
    have h9 : g * v1 = (g - 1) * v1 + v1 := by
     have h10 : g = (g - 1) + 1 := by omega
     have h11 : ((g - 1) + 1) * v1 = (g - 1) * v1 + v1 := by rw [Nat.add_mul,Nat.one_mul]
     rw [← h11,← h10]
    omega
   split
   ·rename_i hb
    have hgB : g - 1 ≤ B32 := by omega
    have := H.stop hr' hgB hb
    refine ⟨hg1.1,?_⟩
    apply Nat.le_of_lt_succ
    have h5 : (g - 1) * V < (q + 1) * V := Nat.lt_of_le_of_lt this hq'
    have := Nat.lt_of_mul_lt_mul_right h5
    omega
   ·rename_i hb
    have hv : B32 ≤ 2 * v1 := H.norm
    by_cases hf : f = 0
    ·subst hf
     exfalso
     rw [Nat.zero_add,Nat.one_mul] at h4
     omega
    ·refine gsN_ok H hq hq' hqB f (g - 1) (r + v1) hr' hg1.1 (by omega) (by omega) ?_ (by omega)
     rw [Nat.add_mul,Nat.one_mul] at h4
     omega
  ·rename_i hc
   exact ⟨h1,H.near hq' hr (by omega) (by omega)⟩
end Go.Proofs.YtlfdidaeachpoaaGreat
