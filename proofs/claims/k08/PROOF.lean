import PyProof.Rows.All
import Wide.All
import OpenK.AllK
import Wide.FinOn
import HandS.ForMost
import HandS.Exc
import HandS.TryOnly
import HandS.ExcOwn
import HandS.WordsExc
import HandS.More
import HandS.Deep
import HandS.Strs
import HandS.SetFor
import HandS.TupAny
import HandS.TupMul
import HandS.Conv
import HandS.IsInst
import HandS.Walk
import HandS.Zip
import HandS.SortRule
import HandS.Lambda
import HandS.EndTab
import HandS.SortKw
import KE.SortData
import KE.SortKeyHeap
import HandS.EndOwn
import KE.DataMinMax
import HandS.ExcIs
import HandS.Style
import PySem.Challenge.RW_slotcall_k08_what_must_be_handed
set_option Elab.async false
set_option linter.all false
set_option maxRecDepth 100000
set_option maxHeartbeats 4000000
/-! # The data layer: readings over data (PyData) and a few objects that change -/
namespace Dw
open PySem L2
abbrev Frg := PySem.W.Frag
/-- what a name holds: data that never changes, an object that may, a built-in type -/
inductive PV where
  | d (x : PyData)
  | o (a : Addr)
  | ty (n : String)
  | sq (ns : List Int)
  | kt (ss : List Str)
abbrev PV.i (n : Int) : PV := .d (.int n)
abbrev PV.b (c : Bool) : PV := .d (.bool c)
abbrev PV.n : PV := .d .none
abbrev PV.s (x : Str) : PV := .d (.str x)
abbrev PV.t (xs : List PyData) : PV := .d (.tuple xs)
abbrev PV.l (xs : List PyData) : PV := .d (.list xs)
/-- what stands at an object that may change -/
inductive MO where
  | lst (xs : List PV)
  | dk (kvs : List (Key × PV))
  | ins (C dx : Addr) (fs : List (Str × PV))
  | any (o : HO)
abbrev Mu := Addr → Option MO
def mset (μ : Mu) (a : Addr) (m : MO) : Mu := fun b => if b = a then some m else μ b
theorem mset_same {μ : Mu} {a : Addr} {m : MO} : mset μ a m a = some m := by unfold mset; rw [if_pos rfl]
theorem mset_ne {μ : Mu} {a b : Addr} {m : MO} (h : b ≠ a) : mset μ a m b = μ b := by unfold mset; rw [if_neg h]
theorem mset_mset {μ : Mu} {a : Addr} {m m' : MO} : mset (mset μ a m) a m' = mset μ a m' := by
  funext b; unfold mset; split <;> rfl
theorem mset_comm {μ : Mu} {a b : Addr} {m m' : MO} (h : a ≠ b) : mset (mset μ a m) b m' = mset (mset μ b m') a m := by
  funext c; unfold mset
  by_cases h1 : c = b
  · subst h1; rw [if_pos rfl, if_neg (Ne.symm h), if_pos rfl]
  · rw [if_neg h1]
    by_cases h2 : c = a
    · rw [if_pos h2, if_pos h2]
    · rw [if_neg h2, if_neg h2, if_neg h1]
def Sub (μ μ' : Mu) : Prop := ∀ a m, μ a = some m → μ' a = some m
theorem Sub.refl (μ : Mu) : Sub μ μ := fun _ _ h => h
theorem Sub.trans {μ μ1 μ2 : Mu} (a : Sub μ μ1) (b : Sub μ1 μ2) : Sub μ μ2 := fun c m h => b c m (a c m h)
theorem Sub.new {μ : Mu} {a : Addr} {m : MO} (h : μ a = none) : Sub μ (mset μ a m) := fun b x e => by
  rw [mset_ne]; exact e
  intro z; subst z; rw [h] at e; cases e
theorem Sub.set {μ μ' : Mu} {a : Addr} {m : MO} (h : Sub μ μ') : Sub (mset μ a m) (mset μ' a m) := fun b x e => by
  by_cases hb : b = a
  · subst hb; rw [mset_same] at e ⊢; exact e
  · rw [mset_ne hb] at e ⊢; exact h b x e
theorem Sub.into {μ μ' : Mu} {a : Addr} {m : MO} (h : Sub μ μ') (hn : μ a = none) : Sub μ (mset μ' a m) := fun b x e => by
  rw [mset_ne]; exact h b x e
  intro z; subst z; rw [hn] at e; cases e
theorem ne_mu {μ : Mu} {a b : Addr} {m : MO} (h : μ a = some m) (h' : μ b = none) : a ≠ b := by
  intro e; subst e; rw [h] at h'; cases h'

mutual
/-- v stands for the data d, all of it in G -/
inductive Dq (K : Frg) (G : Hp) : V → PyData → Prop
  | non : Dq K G .non .none
  | bl (b : Bool) : Dq K G (.bl b) (.bool b)
  | int (i : Int) : Dq K G (.int i) (.int i)
  | str (x : Str) : Dq K G (.str x) (.str x)
  | lst {a : Addr} {xs : List V} {ds : List PyData} : G a = some (.lst xs) → DqAll K G xs ds → Dq K G (.ref a) (.list ds)
  | tup {a : Addr} {xs : List V} {ds : List PyData} : G a = some (.tup xs) → DqAll K G xs ds → Dq K G (.ref a) (.tuple ds)
inductive DqAll (K : Frg) (G : Hp) : List V → List PyData → Prop
  | nil : DqAll K G [] []
  | cons {v : V} {vs : List V} {d : PyData} {ds : List PyData} : Dq K G v d → DqAll K G vs ds → DqAll K G (v :: vs) (d :: ds)
end
def RelP (K : Frg) (G : Hp) (v : V) : PV → Prop
  | .d x => Dq K G v x
  | .o a => v = .ref a
  | .ty n => v = .ty n
  | .sq ns => ∃ a, v = .ref a ∧ SqL K G a (ns.map V.int)
  | .kt ss => ∃ a, v = .ref a ∧ (∀ G, SqT K G a (ss.map V.str)) ∧ ∃ o, K.lookup a = some o ∧ o.cls = .type "tuple" ∧ o.dict = none
abbrev RelL (K : Frg) (G : Hp) : List V → List PV → Prop := Paired (RelP K G)
def RelQ (K : Frg) (G : Hp) : Option V → Option PV → Prop
  | some v, some x => RelP K G v x
  | none, none => True
  | _, _ => False
abbrev RelS (K : Frg) (G : Hp) : L2.St → List (Option PV) → Prop := Paired (RelQ K G)
def RelM (K : Frg) (G : Hp) (o : HO) : MO → Prop
  | .lst xs => ∃ vs, o = .lst vs ∧ RelL K G vs xs
  | .dk kvs => ∃ vs : List (Key × V), o = .dK vs ∧ Paired (fun (p : Key × V) (q : Key × PV) => p.1 = q.1 ∧ RelP K G p.2 q.2) vs kvs
  | .ins C dx fs => ∃ vs : List (Str × V), o = .ins C dx vs ∧ Paired (fun (p : Str × V) (q : Str × PV) => p.1 = q.1 ∧ RelP K G p.2 q.2) vs fs
  | .any u => o = u

/-! ### growth of the part that never changes -/
theorem sqt_ext {K : Frg} {H H' : Hp} {a : Addr} {xs : List V} (e : Same H H') (h : SqT K H a xs) : SqT K H' a xs := by
  rcases h with (h | ⟨o, h⟩) | h
  · exact .inl (.inl (e _ _ h))
  · exact .inl (.inr ⟨o, e _ _ h⟩)
  · exact .inr h
mutual
theorem dq_ext {K : Frg} {G G' : Hp} (e : Same G G') : ∀ {v : V} {d : PyData}, Dq K G v d → Dq K G' v d
  | _, _, .non => .non
  | _, _, .bl b => .bl b
  | _, _, .int i => .int i
  | _, _, .str x => .str x
  | _, _, .lst h ha => .lst (e _ _ h) (dqa_ext e ha)
  | _, _, .tup h ha => .tup (e _ _ h) (dqa_ext e ha)
theorem dqa_ext {K : Frg} {G G' : Hp} (e : Same G G') : ∀ {vs : List V} {ds : List PyData}, DqAll K G vs ds → DqAll K G' vs ds
  | _, _, .nil => .nil
  | _, _, .cons h t => .cons (dq_ext e h) (dqa_ext e t)
end
mutual
theorem dq_dp {K : Frg} {G : Hp} : ∀ {v : V} {d : PyData}, Dq K G v d → Dp K G v d
  | _, _, .non => .non
  | _, _, .bl b => .bl b
  | _, _, .int i => .int i
  | _, _, .str x => .str x
  | _, _, .lst h ha => .lst (.inl (.inl h)) (dqa_dpa ha)
  | _, _, .tup h ha => .tup (.inl (.inl h)) (dqa_dpa ha)
theorem dqa_dpa {K : Frg} {G : Hp} : ∀ {vs : List V} {ds : List PyData}, DqAll K G vs ds → DpAll K G vs ds
  | _, _, .nil => .nil
  | _, _, .cons h t => .cons (dq_dp h) (dqa_dpa t)
end
theorem RelP.ext {K : Frg} {G G' : Hp} {v : V} {x : PV} (h : RelP K G v x) (e : Same G G') : RelP K G' v x := by
  cases x with
  | d x => exact dq_ext e h
  | o a => exact h
  | ty n => exact h
  | sq ns => obtain ⟨a, e1, h1⟩ := h; exact ⟨a, e1, e.seq h1⟩
  | kt ss => exact h
theorem RelL.ext {K : Frg} {G G' : Hp} {vs : List V} {xs : List PV} (h : RelL K G vs xs) (e : Same G G') : RelL K G' vs xs := Paired.mono (fun _ _ r => r.ext e) h
theorem RelQ.ext {K : Frg} {G G' : Hp} {v : Option V} {x : Option PV} (h : RelQ K G v x) (e : Same G G') : RelQ K G' v x := by
  cases v <;> cases x <;> first | exact h | exact RelP.ext h e
theorem RelS.ext {K : Frg} {G G' : Hp} {σ : L2.St} {ρ : List (Option PV)} (h : RelS K G σ ρ) (e : Same G G') : RelS K G' σ ρ := Paired.mono (fun _ _ r => r.ext e) h
theorem RelM.ext {K : Frg} {G G' : Hp} {o : HO} {m : MO} (h : RelM K G o m) (e : Same G G') : RelM K G' o m := by
  cases m with
  | lst xs => obtain ⟨vs, e1, r⟩ := h; exact ⟨vs, e1, r.ext e⟩
  | dk xs => obtain ⟨vs, e1, r⟩ := h; exact ⟨vs, e1, Paired.mono (fun _ _ q => ⟨q.1, q.2.ext e⟩) r⟩
  | ins C dx xs => obtain ⟨vs, e1, r⟩ := h; exact ⟨vs, e1, Paired.mono (fun _ _ q => ⟨q.1, q.2.ext e⟩) r⟩
  | any u => exact h
theorem dqAll_of {K : Frg} {G : Hp} : ∀ {vs : List V} {ds : List PyData}, RelL K G vs (ds.map .d) → DqAll K G vs ds
  | _, [], .nil => .nil
  | _, _ :: _, .cons h t => .cons h (dqAll_of t)
theorem relL_of {K : Frg} {G : Hp} : ∀ {vs : List V} {ds : List PyData}, DqAll K G vs ds → RelL K G vs (ds.map .d)
  | _, _, .nil => .nil
  | _, _, .cons h t => .cons h (relL_of t)

/-! ### the heap: what never changes (G), what may (μ) -/
/-- lists and tuples alone -/
def SeqO : HO → Prop
  | .lst _ | .tup _ | .frz _ _ => True
  | _ => False
structure Sep (K : Frg) (G : Hp) (μ : Mu) (H : Hp) : Prop where
  sub : Same G H
  nt : ∀ a o, G a = some o → SeqO o
  mu : ∀ a m, μ a = some m → G a = none ∧ ∃ o, H a = some o ∧ RelM K G o m
section
variable {K : Frg} {G G' H H' : Hp} {μ μ' : Mu} {a p : Addr} {o : HO} {m : MO}
theorem Sep.less (S : Sep K G μ' H) (h : Sub μ μ') : Sep K G μ H := ⟨S.sub, S.nt, fun a m e => S.mu a m (h a m e)⟩
theorem Sep.gfree (S : Sep K G μ H) (h : H p = none) : G p = none := S.sub.free h
theorem Sep.mfree (S : Sep K G μ H) (h : H p = none) : μ p = none := by
  cases e : μ p with
  | none => rfl
  | some m =>
    obtain ⟨_, o, q, _⟩ := S.mu p m e
    rw [h] at q; cases q
theorem same_new (h : G p = none) : Same G (upd G p o) := fun b x e => by rw [upd_ne (ne_of_none e h)]; exact e
/-- a new thing that is forgotten -/
theorem Sep.junk (S : Sep K G μ H) (h : H p = none) : Sep K G μ (upd H p o) :=
  ⟨S.sub.trans (same_new h), S.nt, fun a m e => by
    obtain ⟨g, u, q, r⟩ := S.mu a m e
    exact ⟨g, u, by rw [upd_ne (ne_of_none q h)]; exact q, r⟩⟩
/-- a new thing that never changes -/
theorem Sep.fix (S : Sep K G μ H) (h : H p = none) (ho : SeqO o := by trivial) : Sep K (upd G p o) μ (upd H p o) := by
  have hg := S.gfree h
  refine ⟨fun b x e => ?_, fun b x e => ?_, fun a m e => ?_⟩
  · by_cases hb : b = p
    · subst hb; rw [upd_same] at e ⊢; exact e
    · rw [upd_ne hb] at e ⊢; exact S.sub b x e
  · by_cases hb : b = p
    · subst hb; rw [upd_same] at e; cases e; exact ho
    · rw [upd_ne hb] at e; exact S.nt b x e
  · obtain ⟨g, u, q, r⟩ := S.mu a m e
    have hn := ne_of_none q h
    exact ⟨by rw [upd_ne hn]; exact g, u, by rw [upd_ne hn]; exact q, r.ext (same_new hg)⟩
/-- a new object -/
theorem Sep.new (S : Sep K G μ H) (h : H p = none) (r : RelM K G o m) : Sep K G (mset μ p m) (upd H p o) := by
  have hg := S.gfree h
  refine ⟨S.sub.trans (same_new h), S.nt, fun a m' e => ?_⟩
  by_cases ha : a = p
  · subst ha; rw [mset_same] at e; cases e
    exact ⟨hg, o, upd_same, r⟩
  · rw [mset_ne ha] at e
    obtain ⟨g, u, q, r'⟩ := S.mu a m' e
    exact ⟨g, u, by rw [upd_ne ha]; exact q, r'⟩
/-- an object that changes -/
theorem Sep.put (S : Sep K G μ H) (h : μ p = some m') (r : RelM K G o m) : Sep K G (mset μ p m) (upd H p o) := by
  obtain ⟨hg, _⟩ := S.mu p _ h
  refine ⟨fun b x e => ?_, S.nt, fun a m' e => ?_⟩
  · rw [upd_ne (ne_of_none e hg)]; exact S.sub b x e
  · by_cases ha : a = p
    · subst ha; rw [mset_same] at e; cases e
      exact ⟨hg, o, upd_same, r⟩
    · rw [mset_ne ha] at e
      obtain ⟨g, u, q, r'⟩ := S.mu a m' e
      exact ⟨g, u, by rw [upd_ne ha]; exact q, r'⟩
/-- an object that will not change any more -/
def mdel (μ : Mu) (a : Addr) : Mu := fun b => if b = a then none else μ b
theorem mdel_ne {b : Addr} (h : b ≠ a) : mdel μ a b = μ b := by unfold mdel; rw [if_neg h]
theorem mdel_same : mdel μ a a = none := by unfold mdel; rw [if_pos rfl]
theorem mdel_mset (h : μ a = none) : mdel (mset μ a m) a = μ := by
  funext b
  by_cases hb : b = a
  · subst hb; rw [mdel_same, h]
  · rw [mdel_ne hb, mset_ne hb]
theorem Sep.freeze (S : Sep K G μ H) (h : μ p = some m) (ho : H p = some o) (hs : SeqO o := by trivial) : Same G (upd G p o) ∧ Sep K (upd G p o) (mdel μ p) H := by
  obtain ⟨hg, _⟩ := S.mu p _ h
  refine ⟨same_new hg, fun b x e => ?_, fun b x e => ?_, fun a m' e => ?_⟩
  · by_cases hb : b = p
    · subst hb; rw [upd_same] at e; cases e; exact ho
    · rw [upd_ne hb] at e; exact S.sub b x e
  · by_cases hb : b = p
    · subst hb; rw [upd_same] at e; cases e; exact hs
    · rw [upd_ne hb] at e; exact S.nt b x e
  · by_cases ha : a = p
    · subst ha; rw [mdel_same] at e; cases e
    · rw [mdel_ne ha] at e
      obtain ⟨g, u, q, r'⟩ := S.mu a m' e
      exact ⟨by rw [upd_ne ha]; exact g, u, q, r'.ext (same_new hg)⟩
end

/-! ### slots -/
abbrev Rho := List (Option PV)
theorem RelS.get {K : Frg} {G : Hp} : ∀ {σ : L2.St} {ρ : Rho} {i : Nat} {x : PV}, RelS K G σ ρ → ρ[i]? = some (some x) → ∃ v, σ[i]? = some (some v) ∧ RelP K G v x
  | _, _, _, _, .nil, h => by simp at h
  | some v :: _, some x :: _, 0, y, .cons r _, h => by
    simp at h; subst h; exact ⟨v, rfl, r⟩
  | none :: _, some x :: _, 0, y, .cons r _, h => r.elim
  | _ :: _, none :: _, 0, y, .cons r _, h => by simp at h
  | _ :: _, _ :: _, i + 1, y, .cons _ t, h => by
    obtain ⟨v, h1, h2⟩ := RelS.get (i := i) t (by simpa using h)
    exact ⟨v, by simpa using h1, h2⟩
theorem RelS.set {K : Frg} {G : Hp} {v : Option V} {x : Option PV} (r : RelQ K G v x) : ∀ {σ : L2.St} {ρ : Rho} (i : Nat), RelS K G σ ρ → RelS K G (σ.set i v) (ρ.set i x)
  | _, _, _, .nil => .nil
  | _, _, 0, .cons _ t => .cons r t
  | _, _, i + 1, .cons q t => .cons q (RelS.set r i t)
def wipeD (ρ : Rho) : List Nat → Rho
  | [] => ρ
  | v :: vs => (wipeD ρ vs).set v none
theorem RelS.wipe {K : Frg} {G : Hp} {σ : L2.St} {ρ : Rho} (h : RelS K G σ ρ) : ∀ vs : List Nat, RelS K G (L2.wipe σ vs) (wipeD ρ vs)
  | [] => h
  | v :: vs => RelS.set (v := none) (x := none) True.intro v (RelS.wipe h vs)
def startD (N : List Str) (xs : List PV) : Rho := xs.map some ++ List.replicate (N.length - xs.length) none
theorem paired_app {α β : Type} {F : α → β → Prop} : ∀ {a c : List α} {b d : List β}, Paired F a b → Paired F c d → Paired F (a ++ c) (b ++ d)
  | _, _, _, _, .nil, s => s
  | _, _, _, _, .cons r t, s => .cons r (paired_app t s)
theorem paired_none {K : Frg} {G : Hp} : ∀ n : Nat, RelS K G (List.replicate n none) (List.replicate n none)
  | 0 => .nil
  | n + 1 => .cons True.intro (paired_none n)
theorem relS_some {K : Frg} {G : Hp} : ∀ {vs : List V} {xs : List PV}, RelL K G vs xs → RelS K G (vs.map some) (xs.map some)
  | _, _, .nil => .nil
  | _, _, .cons r t => .cons r (relS_some t)
theorem relS_start {K : Frg} {G : Hp} {N : List Str} {vs : List V} {xs : List PV} (h : RelL K G vs xs) : RelS K G (L2.start N vs) (startD N xs) := by
  unfold L2.start startD
  rw [h.length]
  exact paired_app (relS_some h) (paired_none _)

/-! ### the judgements over data -/
section
variable (K : Frg) (G0 : Hp)
def We (t : TE) (ρ : Rho) (μ : Mu) (Q : PV → Mu → Prop) : Prop :=
  ∀ (σ : L2.St) (G H : Hp), Same G0 G → RelS K G σ ρ → Sep K G μ H → ∀ R : VK, (∀ v G' H' x μ', Same G G' → RelP K G' v x → Sep K G' μ' H' → Q x μ' → R v H') → t σ H R
def Wt (t : TT) (ρ : Rho) (μ : Mu) (Q : Bool → Mu → Prop) : Prop :=
  ∀ (σ : L2.St) (G H : Hp), Same G0 G → RelS K G σ ρ → Sep K G μ H → ∀ R : Bool → Hp → Prop, (∀ b G' H' μ', Same G G' → Sep K G' μ' H' → Q b μ' → R b H') → t σ H R
def Wa (t : TA) (ρ : Rho) (μ : Mu) (Q : List PV → Mu → Prop) : Prop :=
  ∀ (σ : L2.St) (G H : Hp), Same G0 G → RelS K G σ ρ → Sep K G μ H → ∀ R : List V → Hp → Prop, (∀ vs G' H' xs μ', Same G G' → RelL K G' vs xs → Sep K G' μ' H' → Q xs μ' → R vs H') → t σ H R
def Wo (t : TO) (ρ : Rho) (μ : Mu) (Q : Option Int → Mu → Prop) : Prop :=
  ∀ (σ : L2.St) (G H : Hp), Same G0 G → RelS K G σ ρ → Sep K G μ H → ∀ R : Option Int → Hp → Prop, (∀ i G' H' μ', Same G G' → Sep K G' μ' H' → Q i μ' → R i H') → t σ H R
/-- operations on values -/
def W2 (r : R2) (x y : PV) (μ : Mu) (Q : PV → Mu → Prop) : Prop :=
  ∀ (v w : V) (G H : Hp), Same G0 G → RelP K G v x → RelP K G w y → Sep K G μ H → ∀ R : VK, (∀ v G' H' x μ', Same G G' → RelP K G' v x → Sep K G' μ' H' → Q x μ' → R v H') → r v w H R
def Wc (r : List V → Hp → VK → Prop) (xs : List PV) (μ : Mu) (Q : PV → Mu → Prop) : Prop :=
  ∀ (vs : List V) (G H : Hp), Same G0 G → RelL K G vs xs → Sep K G μ H → ∀ R : VK, (∀ v G' H' x μ', Same G G' → RelP K G' v x → Sep K G' μ' H' → Q x μ' → R v H') → r vs H R
def Wm (r : V → List V → Hp → VK → Prop) (x : PV) (xs : List PV) (μ : Mu) (Q : PV → Mu → Prop) : Prop :=
  ∀ (v : V) (vs : List V) (G H : Hp), Same G0 G → RelP K G v x → RelL K G vs xs → Sep K G μ H → ∀ R : VK, (∀ v G' H' x μ', Same G G' → RelP K G' v x → Sep K G' μ' H' → Q x μ' → R v H') → r v vs H R
structure DE where
  nx : Rho → Mu → Prop
  rt : PV → Mu → Prop
  bk : Rho → Mu → Prop := fun _ _ => False
  ct : Rho → Mu → Prop := fun _ _ => False
def Ws (t : TS) (ρ : Rho) (μ : Mu) (De : DE) : Prop :=
  ∀ (σ : L2.St) (G H : Hp), Same G0 G → RelS K G σ ρ → Sep K G μ H → ∀ D : Ends,
    (∀ σ' G' H' ρ' μ', Same G G' → RelS K G' σ' ρ' → Sep K G' μ' H' → De.nx ρ' μ' → D.nx σ' H') →
    (∀ v G' H' x μ', Same G G' → RelP K G' v x → Sep K G' μ' H' → De.rt x μ' → D.rt v H') →
    (∀ σ' G' H' ρ' μ', Same G G' → RelS K G' σ' ρ' → Sep K G' μ' H' → De.bk ρ' μ' → D.bk σ' H') →
    (∀ σ' G' H' ρ' μ', Same G G' → RelS K G' σ' ρ' → Sep K G' μ' H' → De.ct ρ' μ' → D.ct σ' H') → t D σ H
def Wg (g : TG) (x : PV) (ρ : Rho) (μ : Mu) (Q : Rho → Mu → Prop) : Prop :=
  ∀ (v : V) (σ : L2.St) (G H : Hp), Same G0 G → RelP K G v x → RelS K G σ ρ → Sep K G μ H → ∀ R : L2.St → Hp → Prop, (∀ σ' G' H' ρ' μ', Same G G' → RelS K G' σ' ρ' → Sep K G' μ' H' → Q ρ' μ' → R σ' H') → g v σ H R
def Wgs (g : TGs) (xs : List PV) (ρ : Rho) (μ : Mu) (Q : Rho → Mu → Prop) : Prop :=
  ∀ (vs : List V) (σ : L2.St) (G H : Hp), Same G0 G → RelL K G vs xs → RelS K G σ ρ → Sep K G μ H → ∀ R : L2.St → Hp → Prop, (∀ σ' G' H' ρ' μ', Same G G' → RelS K G' σ' ρ' → Sep K G' μ' H' → Q ρ' μ' → R σ' H') → g vs σ H R
/-- an iterator that gives xs while C holds of the objects -/
def ItD (G : Hp) (J : It) (xs : List PV) (C : Mu → Prop) : Prop :=
  ∀ G' μ H, Same G G' → C μ → Sep K G' μ H → (∀ i, i < xs.length → J.go i H) ∧ J.stop xs.length H ∧
    ∀ i v H' x, xs[i]? = some x → J.yld i H v H' → ∃ G'', Same G' G'' ∧ RelP K G'' v x ∧ Sep K G'' μ H'
def Wi (wi : TI) (ρ : Rho) (μ : Mu) (Q : List PV → (Mu → Prop) → Mu → Prop) : Prop :=
  ∀ (σ : L2.St) (G H : Hp), Same G0 G → RelS K G σ ρ → Sep K G μ H → ∀ R : It → Hp → Prop, (∀ J G' H' xs C μ', Same G G' → ItD K G' J xs C → Sep K G' μ' H' → Q xs C μ' → R J H') → wi σ H R
end
end Dw

namespace Dw
open PySem L2
section
variable {K : Frg} {G0 : Hp} {ρ : Rho} {μ : Mu} {Q : PV → Mu → Prop} {ta tb te : TE}
theorem sz_le {n : Nat} (h : n ≤ 100000) : n ≤ sizeLine := Nat.le_trans h (by decide)
theorem sz_lt {n : Nat} (h : n < 100000) : n < sizeLine := Nat.lt_of_lt_of_le h (by decide)
theorem mk_int {G : Hp} (i : Int) : RelP K G (.int i) (.i i) := Dq.int i
theorem mk_bl {G : Hp} (i : Bool) : RelP K G (.bl i) (.b i) := Dq.bl i
theorem mk_str {G : Hp} (i : Str) : RelP K G (.str i) (.s i) := Dq.str i
theorem mk_non {G : Hp} : RelP K G .non .n := Dq.non
theorem mk_lst {G : Hp} {a : Addr} {xs : List V} {ds : List PyData} (h : G a = some (.lst xs)) (h' : DqAll K G xs ds) : RelP K G (.ref a) (.l ds) := Dq.lst h h'
theorem mk_tup {G : Hp} {a : Addr} {xs : List V} {ds : List PyData} (h : G a = some (.tup xs)) (h' : DqAll K G xs ds) : RelP K G (.ref a) (.t ds) := Dq.tup h h'
theorem rp_int {G : Hp} {v : V} {i : Int} (h : RelP K G v (.d (.int i))) : v = .int i := by cases (show Dq K G v (.int i) from h); rfl
theorem rp_bl {G : Hp} {v : V} {i : Bool} (h : RelP K G v (.d (.bool i))) : v = .bl i := by cases (show Dq K G v (.bool i) from h); rfl
theorem rp_str {G : Hp} {v : V} {i : Str} (h : RelP K G v (.d (.str i))) : v = .str i := by cases (show Dq K G v (.str i) from h); rfl
theorem rp_non {G : Hp} {v : V} (h : RelP K G v (.d .none)) : v = .non := by cases (show Dq K G v .none from h); rfl
theorem rp_tup {G : Hp} {v : V} {ds : List PyData} (h : RelP K G v (.d (.tuple ds))) : ∃ a xs, v = .ref a ∧ G a = some (.tup xs) ∧ DqAll K G xs ds := by
  cases (show Dq K G v (.tuple ds) from h) with
  | tup h1 h2 => exact ⟨_, _, rfl, h1, h2⟩
theorem rp_lst {G : Hp} {v : V} {ds : List PyData} (h : RelP K G v (.d (.list ds))) : ∃ a xs, v = .ref a ∧ G a = some (.lst xs) ∧ DqAll K G xs ds := by
  cases (show Dq K G v (.list ds) from h) with
  | lst h1 h2 => exact ⟨_, _, rfl, h1, h2⟩
theorem dqa_len {G : Hp} : ∀ {xs : List V} {ds : List PyData}, DqAll K G xs ds → xs.length = ds.length
  | _, _, .nil => rfl
  | _, _, .cons _ t => by simp [dqa_len t]
theorem dqa_get {G : Hp} : ∀ {xs : List V} {ds : List PyData} {i : Nat} {d : PyData}, DqAll K G xs ds → ds[i]? = some d → ∃ v, xs[i]? = some v ∧ Dq K G v d
  | _, _, _, _, .nil, h => by simp at h
  | _, _, 0, _, .cons h _, e => by simp at e; subst e; exact ⟨_, rfl, h⟩
  | _, _, i + 1, _, .cons _ t, e => by
    obtain ⟨v, h1, h2⟩ := dqa_get (i := i) t (by simpa using e)
    exact ⟨v, by simpa using h1, h2⟩
theorem rel_get {G : Hp} : ∀ {vs : List V} {xs : List PV} {i : Nat} {x : PV}, RelL K G vs xs → xs[i]? = some x → ∃ v, vs[i]? = some v ∧ RelP K G v x
  | _, _, _, _, .nil, h => by simp at h
  | _, _, 0, _, .cons h _, e => by simp at e; subst e; exact ⟨_, rfl, h⟩
  | _, _, i + 1, _, .cons _ t, e => by
    obtain ⟨v, h1, h2⟩ := rel_get (i := i) t (by simpa using e)
    exact ⟨v, by simpa using h1, h2⟩
theorem ati_dqa {G : Hp} {xs : List V} {ds : List PyData} {i : Int} {d : PyData} (h : DqAll K G xs ds) (e : atI ds i = some d) : ∃ v, atI xs i = some v ∧ Dq K G v d := by
  unfold atI at e ⊢
  rw [dqa_len h]
  cases q : ixN ds.length i with
  | none => rw [q] at e; cases e
  | some j =>
    rw [q] at e
    exact dqa_get (i := j) h e
theorem ati_rel {G : Hp} {vs : List V} {xs : List PV} {i : Int} {x : PV} (h : RelL K G vs xs) (e : atI xs i = some x) : ∃ v, atI vs i = some v ∧ RelP K G v x := by
  unfold atI at e ⊢
  rw [h.length]
  cases q : ixN xs.length i with
  | none => rw [q] at e; cases e
  | some j =>
    rw [q] at e
    exact rel_get (i := j) h e

/-! ### names, constants -/
theorem we_var {i : Nat} {x : PV} (h : ρ[i]? = some (some x)) (q : Q x μ) : We K G0 (tVar i) ρ μ Q := fun σ G H e rs S R k => by
  obtain ⟨v, h1, h2⟩ := rs.get h
  exact ⟨v, h1, k v G H x μ (Same.refl _) h2 S q⟩
theorem we_int {i : Int} (q : Q (.i i) μ) : We K G0 (tC (.int i)) ρ μ Q := fun σ G H e rs S R k => k _ G H _ μ (Same.refl _) (mk_int i) S q
theorem we_bl {i : Bool} (q : Q (.b i) μ) : We K G0 (tC (.bl i)) ρ μ Q := fun σ G H e rs S R k => k _ G H _ μ (Same.refl _) (mk_bl i) S q
theorem we_str {i : Str} (q : Q (.s i) μ) : We K G0 (tC (.str i)) ρ μ Q := fun σ G H e rs S R k => k _ G H _ μ (Same.refl _) (mk_str i) S q
theorem we_non (q : Q .n μ) : We K G0 (tC .non) ρ μ Q := fun σ G H e rs S R k => k _ G H _ μ (Same.refl _) mk_non S q
theorem we_ty {n : String} (q : Q (.ty n) μ) : We K G0 (tC (.ty n)) ρ μ Q := fun σ G H e rs S R k => k _ G H (.ty n) μ (Same.refl _) rfl S q
theorem we_obj {a : Addr} (q : Q (.o a) μ) : We K G0 (tC (.ref a)) ρ μ Q := fun σ G H e rs S R k => k _ G H (.o a) μ (Same.refl _) rfl S q
theorem we_con {v : V} {x : PV} (h : ∀ G, RelP K G v x) (q : Q x μ) : We K G0 (tC v) ρ μ Q := fun σ G H e rs S R k => k _ G H x μ (Same.refl _) (h G) S q
theorem we_mono {Q' : PV → Mu → Prop} (h : We K G0 te ρ μ Q') (hq : ∀ x μ', Q' x μ' → Q x μ') : We K G0 te ρ μ Q := fun σ G H e rs S R k =>
  h σ G H e rs S R fun v G' H' x μ' e' r S' q => k v G' H' x μ' e' r S' (hq x μ' q)
/-- objects may be forgotten -/
theorem we_less (h : We K G0 te ρ μ fun x μ' => ∃ μ'', Sub μ'' μ' ∧ Q x μ'') : We K G0 te ρ μ Q := fun σ G H e rs S R k =>
  h σ G H e rs S R fun v G' H' x μ' e' r S' ⟨μ'', s, q⟩ => k v G' H' x μ'' e' r (S'.less s) q
/-- an object is from now on data -/
theorem we_freeze (h : We K G0 te ρ μ fun x μ' => ∃ a ds, x = .o a ∧ μ' a = some (.lst (ds.map .d)) ∧ Q (.l ds) (mdel μ' a)) : We K G0 te ρ μ Q := fun σ G H e rs S R k =>
  h σ G H e rs S R fun v G' H' x μ' e' r S' ⟨a, ds, hx, hm, q⟩ => by
    subst hx
    cases (show v = .ref a from r)
    obtain ⟨hg, o, ho, vs, hvs, rl⟩ := S'.mu a _ hm
    subst hvs
    obtain ⟨e2, S2⟩ := S'.freeze hm ho
    exact k _ _ H' _ _ (e'.trans e2) (mk_lst upd_same (dqa_ext e2 (dqAll_of rl))) S2 q
/-- data from now on, at any place -/
def fzV (a : Addr) (ds : List PyData) : Option PV → Option PV
  | some (.o b) => if b = a then some (.l ds) else some (.o b)
  | y => y
theorem ws_freeze {t : TS} {De : DE} (a : Addr) (ds : List PyData) (hm : μ a = some (.lst (ds.map .d))) (h : Ws K G0 t (ρ.map (fzV a ds)) (mdel μ a) De) : Ws K G0 t ρ μ De := fun σ G H e rs S D kn kr kb kc => by
  obtain ⟨hg, o, ho, vs, hvs, rl⟩ := S.mu a _ hm
  subst hvs
  obtain ⟨e2, S2⟩ := S.freeze hm ho
  have rd : Dq K (upd G a (.lst vs)) (.ref a) (.list ds) := Dq.lst upd_same (dqa_ext e2 (dqAll_of rl))
  refine h σ _ H (e.trans e2) ?_ S2 D (fun σ' G' H' ρ' μ' e' => kn σ' G' H' ρ' μ' (e2.trans e')) (fun v G' H' x μ' e' => kr v G' H' x μ' (e2.trans e'))
    (fun σ' G' H' ρ' μ' e' => kb σ' G' H' ρ' μ' (e2.trans e')) (fun σ' G' H' ρ' μ' e' => kc σ' G' H' ρ' μ' (e2.trans e'))
  clear h kn kr kb kc S S2
  induction rs with
  | nil => exact .nil
  | @cons v x l1 l2 r t ih =>
    refine .cons ?_ ih
    cases v with
    | none =>
      cases x with
      | none => exact True.intro
      | some x => exact r.elim
    | some v =>
      cases x with
      | none => exact r.elim
      | some x =>
        cases x with
        | o b =>
          cases (show v = .ref b from r)
          show RelQ K _ (some (.ref b)) (if b = a then some (.l ds) else some (.o b))
          by_cases hb : b = a
          · subst hb; rw [if_pos rfl]; exact rd
          · rw [if_neg hb]; exact rfl
        | d y => exact dq_ext e2 r
        | ty n => exact r
        | sq ns => exact RelP.ext (show RelP K G v (.sq ns) from r) e2
        | kt ss => exact r

/-! ### operators -/
theorem we_op {r : R2} (h : We K G0 ta ρ μ fun x μ1 => We K G0 tb ρ μ1 fun y μ2 => W2 K G0 r x y μ2 Q) : We K G0 (tOp r ta tb) ρ μ Q := fun σ G H e rs S R k =>
  h σ G H e rs S _ fun v G1 H1 x μ1 e1 rv S1 q1 => q1 σ G1 H1 (e.trans e1) (rs.ext e1) S1 _ fun w G2 H2 y μ2 e2 rw S2 q2 =>
    q2 v w G2 H2 ((e.trans e1).trans e2) (rv.ext e2) rw S2 R fun u G3 H3 z μ3 e3 rz S3 q3 => k u G3 H3 z μ3 ((e1.trans e2).trans e3) rz S3 q3
theorem w2_I0i {f : Int → Int → Int} {i j : Int} (q : Q (.i (f i j)) μ) : W2 K G0 (rI0 fun i j => .int (f i j)) (.i i) (.i j) μ Q := fun v w G H e rv rw S R k => by
  cases rp_int rv; cases rp_int rw
  exact ⟨i, j, rfl, rfl, k _ G H _ μ (Same.refl _) (mk_int _) S q⟩
theorem w2_I0b {f : Int → Int → Bool} {i j : Int} (q : Q (.b (f i j)) μ) : W2 K G0 (rI0 fun i j => .bl (f i j)) (.i i) (.i j) μ Q := fun v w G H e rv rw S R k => by
  cases rp_int rv; cases rp_int rw
  exact ⟨i, j, rfl, rfl, k _ G H _ μ (Same.refl _) (mk_bl _) S q⟩
theorem w2_Ii {C : Int → Int → Prop} {f : Int → Int → Int} {i j : Int} (hc : C i j) (q : Q (.i (f i j)) μ) : W2 K G0 (rI C fun i j => .int (f i j)) (.i i) (.i j) μ Q := fun v w G H e rv rw S R k => by
  cases rp_int rv; cases rp_int rw
  exact ⟨i, j, rfl, rfl, hc, k _ G H _ μ (Same.refl _) (mk_int _) S q⟩
theorem w2_eqD {d e : PyData} (hd : SeqAt.shaped d = true) (he : SeqAt.shaped e = true) (q : Q (.b (PyData.eqv d e)) μ) : W2 K G0 (rEqD K) (.d d) (.d e) μ Q := fun v w G H e0 rv rw S R k =>
  ⟨d, e, dq_dp (dq_ext S.sub rv), dq_dp (dq_ext S.sub rw), hd, he, k _ G H _ μ (Same.refl _) (mk_bl _) S q⟩
theorem w2_neD {d e : PyData} (hd : SeqAt.shaped d = true) (he : SeqAt.shaped e = true) (q : Q (.b (!PyData.eqv d e)) μ) : W2 K G0 (rNeD K) (.d d) (.d e) μ Q := fun v w G H e0 rv rw S R k =>
  ⟨d, e, dq_dp (dq_ext S.sub rv), dq_dp (dq_ext S.sub rw), hd, he, k _ G H _ μ (Same.refl _) (mk_bl _) S q⟩
theorem mo_dp {a : Addr} {ds : List PyData} {G H : Hp} (S : Sep K G μ H) (hm : μ a = some (.lst (ds.map .d))) : Dp K H (.ref a) (.list ds) := by
  obtain ⟨hg, o, ho, vs, hvs, rl⟩ := S.mu a _ hm
  subst hvs
  exact Dp.lst (.inl (.inl ho)) (dqa_dpa (dqa_ext S.sub (dqAll_of rl)))
theorem w2_neO {a : Addr} {ds : List PyData} {e : PyData} (hm : μ a = some (.lst (ds.map .d))) (hd : SeqAt.shaped (.list ds) = true) (he : SeqAt.shaped e = true) (q : Q (.b (!PyData.eqv (.list ds) e)) μ) : W2 K G0 (rNeD K) (.o a) (.d e) μ Q := fun v w G H e0 rv rw S R k => by
  cases (show v = .ref a from rv)
  exact ⟨.list ds, e, mo_dp S hm, dq_dp (dq_ext S.sub rw), hd, he, k _ G H _ μ (Same.refl _) (mk_bl _) S q⟩
theorem w2_eqO {a : Addr} {ds : List PyData} {e : PyData} (hm : μ a = some (.lst (ds.map .d))) (hd : SeqAt.shaped (.list ds) = true) (he : SeqAt.shaped e = true) (q : Q (.b (PyData.eqv (.list ds) e)) μ) : W2 K G0 (rEqD K) (.o a) (.d e) μ Q := fun v w G H e0 rv rw S R k => by
  cases (show v = .ref a from rv)
  exact ⟨.list ds, e, mo_dp S hm, dq_dp (dq_ext S.sub rw), hd, he, k _ G H _ μ (Same.refl _) (mk_bl _) S q⟩
def isN : PV → Bool
  | .d .none => true
  | _ => false
theorem isN_eq {G : Hp} {v : V} {x : PV} (r : RelP K G v x) : decide (v = .non) = isN x := by
  cases x with
  | d x =>
    have r' : Dq K G v x := r
    cases r' <;> rfl
  | o a => cases (show v = .ref a from r); rfl
  | ty n => cases (show v = .ty n from r); rfl
  | sq ns => obtain ⟨a, rfl, _⟩ := r; rfl
  | kt ns => obtain ⟨a, rfl, _⟩ := r; rfl
theorem w2_isN {x : PV} (q : Q (.b (isN x)) μ) : W2 K G0 (fun x y H Q => y = .non ∧ Q (.bl (decide (x = .non))) H) x .n μ Q := fun v w G H e rv rw S R k => by
  refine ⟨rp_non rw, ?_⟩
  rw [isN_eq rv]
  exact k _ G H _ μ (Same.refl _) (mk_bl _) S q
theorem w2_notN {x : PV} (q : Q (.b (!isN x)) μ) : W2 K G0 (fun x y H Q => y = .non ∧ Q (.bl (!decide (x = .non))) H) x .n μ Q := fun v w G H e rv rw S R k => by
  refine ⟨rp_non rw, ?_⟩
  rw [isN_eq rv]
  exact k _ G H _ μ (Same.refl _) (mk_bl _) S q
/-- items -/
theorem w2_ixT {ds : List PyData} {i : Int} {d : PyData} (h : atI ds i = some d) (q : Q (.d d) μ) : W2 K G0 (rIx K) (.t ds) (.i i) μ Q := fun v w G H e rv rw S R k => by
  cases rp_int rw
  obtain ⟨a, xs, rfl, h1, h2⟩ := rp_tup rv
  obtain ⟨u, h3, h4⟩ := ati_dqa h2 h
  exact .inr (.inl ⟨a, xs, i, u, rfl, rfl, (.inl (.inl (S.sub _ _ h1))), h3, k _ G H (.d d) μ (Same.refl _) h4 S q⟩)
theorem w2_ixL {ds : List PyData} {i : Int} {d : PyData} (h : atI ds i = some d) (q : Q (.d d) μ) : W2 K G0 (rIx K) (.l ds) (.i i) μ Q := fun v w G H e rv rw S R k => by
  cases rp_int rw
  obtain ⟨a, xs, rfl, h1, h2⟩ := rp_lst rv
  obtain ⟨u, h3, h4⟩ := ati_dqa h2 h
  exact .inl ⟨a, xs, i, u, rfl, rfl, .inl (.inl (S.sub _ _ h1)), h3, k _ G H (.d d) μ (Same.refl _) h4 S q⟩
theorem w2_ixO {a : Addr} {xs : List PV} {i : Int} {x : PV} (hm : μ a = some (.lst xs)) (h : atI xs i = some x) (q : Q x μ) : W2 K G0 (rIx K) (.o a) (.i i) μ Q := fun v w G H e rv rw S R k => by
  cases rp_int rw
  cases (show v = .ref a from rv)
  obtain ⟨hg, o, ho, vs, hvs, rl⟩ := S.mu a _ hm
  subst hvs
  obtain ⟨u, h3, h4⟩ := ati_rel rl h
  exact .inl ⟨a, vs, i, u, rfl, rfl, .inl (.inl ho), h3, k _ G H _ μ (Same.refl _) h4 S q⟩
theorem ati_map {α β : Type} {f : α → β} {ns : List α} {i : Int} {n : α} (h : atI ns i = some n) : atI (ns.map f) i = some (f n) := by
  unfold atI at h ⊢
  rw [List.length_map]
  cases q : ixN ns.length i with
  | none => rw [q] at h; cases h
  | some j =>
    rw [q] at h
    have h' : ns[j]? = some n := h
    show (ns.map f)[j]? = some (f n)
    rw [List.getElem?_map, h']; rfl
theorem w2_ixS {ns : List Int} {i n : Int} (h : atI ns i = some n) (q : Q (.i n) μ) : W2 K G0 (rIx K) (.sq ns) (.i i) μ Q := fun v w G H e rv rw S R k => by
  cases rp_int rw
  obtain ⟨a, rfl, h1⟩ := rv
  exact .inl ⟨a, _, i, _, rfl, rfl, S.sub.seq h1, ati_map h, k _ G H _ μ (Same.refl _) (mk_int n) S q⟩
/-- in, not in: flat things -/
def flatD : PyData → Bool
  | .none | .bool _ | .int _ | .str _ => true
  | _ => false
theorem flat_eq {G : Hp} {v : V} {d : PyData} (h : Dq K G v d) (f : flatD d = true) : flatV v = true := by
  cases h <;> first | rfl | cases f
theorem eqv_eq {G : Hp} {v w : V} {d e : PyData} (h : Dq K G v d) (h' : Dq K G w e) (f : flatD d = true) (f' : flatD e = true) : eqV v w = PyData.eqv d e := by
  cases h <;> cases h' <;> first | rfl | cases f | cases f' | (simp [eqV, PyData.eqv])
theorem allFlat_eq {G : Hp} : ∀ {vs : List V} {ds : List PyData}, DqAll K G vs ds → ds.all flatD = true → vs.all flatV = true
  | _, _, .nil, _ => rfl
  | _, _, .cons h t, f => by
    simp only [List.all_cons, Bool.and_eq_true] at f ⊢
    exact ⟨flat_eq h f.1, allFlat_eq t f.2⟩
theorem inV_eq {G : Hp} {v : V} {d : PyData} (h : Dq K G v d) (f : flatD d = true) : ∀ {vs : List V} {ds : List PyData}, DqAll K G vs ds → ds.all flatD = true → inV v vs = ds.any fun y => PyData.eqv y d
  | _, _, .nil, _ => rfl
  | _, _, .cons h1 t, g => by
    simp only [List.all_cons, Bool.and_eq_true] at g
    show (eqV _ v || inV v _) = _
    rw [inV_eq h f t g.2, eqv_eq h1 h g.1 f]; rfl
theorem w2_inT {neg : Bool} {d : PyData} {ds : List PyData} (hd : flatD d = true) (hf : ds.all flatD = true) (q : Q (.b (if neg then !(ds.any fun y => PyData.eqv y d) else ds.any fun y => PyData.eqv y d)) μ) : W2 K G0 (rIn K neg) (.d d) (.t ds) μ Q := fun v w G H e rv rw S R k => by
  obtain ⟨a, xs, rfl, h1, h2⟩ := rp_tup rw
  refine ⟨a, xs, rfl, .inr ((.inl (.inl (S.sub _ _ h1)))), flat_eq rv hd, allFlat_eq h2 hf, ?_⟩
  rw [inV_eq rv hd h2 hf]
  exact k _ G H _ μ (Same.refl _) (mk_bl _) S q
theorem w2_inL {neg : Bool} {d : PyData} {ds : List PyData} (hd : flatD d = true) (hf : ds.all flatD = true) (q : Q (.b (if neg then !(ds.any fun y => PyData.eqv y d) else ds.any fun y => PyData.eqv y d)) μ) : W2 K G0 (rIn K neg) (.d d) (.l ds) μ Q := fun v w G H e rv rw S R k => by
  obtain ⟨a, xs, rfl, h1, h2⟩ := rp_lst rw
  refine ⟨a, xs, rfl, .inl (.inl (.inl (S.sub _ _ h1))), flat_eq rv hd, allFlat_eq h2 hf, ?_⟩
  rw [inV_eq rv hd h2 hf]
  exact k _ G H _ μ (Same.refl _) (mk_bl _) S q
theorem w2_inD {d : PyData} {ds : List PyData} (hd : SeqAt.shaped d = true) (hf : SeqAt.shaped (.list ds) = true) (q : Q (.b (ds.any fun y => PyData.eqv y d)) μ) : W2 K G0 (rInD K) (.d d) (.l ds) μ Q := fun v w G H e rv rw S R k =>
  ⟨d, ds, dq_dp (dq_ext S.sub rv), dq_dp (dq_ext S.sub rw), hd, hf, k _ G H _ μ (Same.refl _) (mk_bl _) S q⟩
theorem w2_notInD {d : PyData} {ds : List PyData} (hd : SeqAt.shaped d = true) (hf : SeqAt.shaped (.list ds) = true) (q : Q (.b (!ds.any fun y => PyData.eqv y d)) μ) : W2 K G0 (rNotInD K) (.d d) (.l ds) μ Q := fun v w G H e rv rw S R k =>
  ⟨d, ds, dq_dp (dq_ext S.sub rv), dq_dp (dq_ext S.sub rw), hd, hf, k _ G H _ μ (Same.refl _) (mk_bl _) S q⟩
/-- lists and tuples joined, lists repeated -/
theorem dqa_app {G : Hp} : ∀ {xs ys : List V} {ds es : List PyData}, DqAll K G xs ds → DqAll K G ys es → DqAll K G (xs ++ ys) (ds ++ es)
  | _, _, _, _, .nil, h => h
  | _, _, _, _, .cons h t, h' => .cons h (dqa_app t h')
theorem w2_cat {ds es : List PyData} (hl : ds.length + es.length ≤ 100000) (q : Q (.l (ds ++ es)) μ) : W2 K G0 rCat (.l ds) (.l es) μ Q := fun v w G H e rv rw S R k => by
  obtain ⟨a, xs, rfl, h1, h2⟩ := rp_lst rv
  obtain ⟨b, ys, rfl, h3, h4⟩ := rp_lst rw
  refine ⟨a, b, xs, ys, rfl, rfl, S.sub _ _ h1, S.sub _ _ h3, sz_le (by rw [dqa_len h2, dqa_len h4]; exact hl), fun p hp => ?_⟩
  have hg := S.gfree hp
  exact k _ (upd G p (.lst (xs ++ ys))) _ _ μ (same_new hg) (mk_lst upd_same (dqa_ext (same_new hg) (dqa_app h2 h4))) (S.fix hp) q
theorem w2_catT {ds es : List PyData} (hl : ds.length + es.length ≤ 100000) (q : Q (.t (ds ++ es)) μ) : W2 K G0 (rCatA K) (.t ds) (.t es) μ Q := fun v w G H e rv rw S R k => by
  obtain ⟨a, xs, rfl, h1, h2⟩ := rp_tup rv
  obtain ⟨b, ys, rfl, h3, h4⟩ := rp_tup rw
  refine ⟨a, b, xs, ys, rfl, rfl, (.inl (.inl (S.sub _ _ h1))), (.inl (.inl (S.sub _ _ h3))), sz_le (by rw [dqa_len h2, dqa_len h4]; exact hl), fun hx => ?_, fun _ hy => ?_, fun _ _ p hp => ?_⟩
  · subst hx
    cases h2
    exact k _ G H _ μ (Same.refl _) (mk_tup h3 h4) S q
  · subst hy
    cases h4
    rw [List.append_nil] at q
    exact k _ G H _ μ (Same.refl _) (mk_tup h1 h2) S q
  · have hg := S.gfree hp
    exact k _ (upd G p (.tup (xs ++ ys))) _ _ μ (same_new hg) (mk_tup upd_same (dqa_ext (same_new hg) (dqa_app h2 h4))) (S.fix hp) q
theorem dqa_rep {G : Hp} {xs : List V} {ds : List PyData} (h : DqAll K G xs ds) : ∀ n : Nat, DqAll K G (List.replicate n xs).flatten (List.replicate n ds).flatten
  | 0 => .nil
  | n + 1 => by
    simp only [List.replicate_succ, List.flatten_cons]
    exact dqa_app h (dqa_rep h n)
theorem w2_rep {ds : List PyData} {n : Int} (h1 : -100000 ≤ n ∧ n ≤ 100000) (hl : ds.length * n.toNat ≤ 100000) (q : Q (.l (List.replicate n.toNat ds).flatten) μ) : W2 K G0 rRep (.l ds) (.i n) μ Q := fun v w G H e rv rw S R k => by
  cases rp_int rw
  obtain ⟨a, xs, rfl, h2, h3⟩ := rp_lst rv
  refine ⟨a, n, xs, rfl, rfl, S.sub _ _ h2, by omega, by omega, sz_le (by rw [dqa_len h3]; exact hl), fun p hp => ?_⟩
  have hg := S.gfree hp
  exact k _ (upd G p (.lst (List.replicate n.toNat xs).flatten)) _ _ μ (same_new hg) (mk_lst upd_same (dqa_ext (same_new hg) (dqa_rep h3 _))) (S.fix hp) q

/-! ### arguments, displays -/
theorem wa_nil {QA : List PV → Mu → Prop} (q : QA [] μ) : Wa K G0 tNil ρ μ QA := fun σ G H e rs S R k => k [] G H [] μ (Same.refl _) .nil S q
theorem wa_cons {QA : List PV → Mu → Prop} {tr : TA} (h : We K G0 ta ρ μ fun x μ1 => Wa K G0 tr ρ μ1 fun xs μ2 => QA (x :: xs) μ2) : Wa K G0 (tCons ta tr) ρ μ QA := fun σ G H e rs S R k =>
  h σ G H e rs S _ fun v G1 H1 x μ1 e1 rv S1 q1 => q1 σ G1 H1 (e.trans e1) (rs.ext e1) S1 _ fun vs G2 H2 xs μ2 e2 rl S2 q2 => k (v :: vs) G2 H2 (x :: xs) μ2 (e1.trans e2) (.cons (rv.ext e2) rl) S2 q2
def unD : List PV → Option (List PyData)
  | [] => some []
  | .d x :: r => (unD r).map (x :: ·)
  | _ :: _ => none
theorem unD_rel {G : Hp} : ∀ {vs : List V} {xs : List PV} {ds : List PyData}, RelL K G vs xs → unD xs = some ds → DqAll K G vs ds
  | _, _, _, .nil, h => by cases h; exact .nil
  | _, .d x :: r, ds, .cons hv t, h => by
    unfold unD at h
    cases q : unD r with
    | none => rw [q] at h; cases h
    | some es => rw [q] at h; cases h; exact .cons hv (unD_rel t q)
  | _, .o _ :: r, ds, .cons hv t, h => by cases h
  | _, .ty _ :: r, ds, .cons hv t, h => by cases h
  | _, .sq _ :: r, ds, .cons hv t, h => by cases h
  | _, .kt _ :: r, ds, .cons hv t, h => by cases h
theorem unD_map : ∀ ds : List PyData, unD (ds.map .d) = some ds
  | [] => rfl
  | d :: ds => by show (unD (ds.map .d)).map (d :: ·) = _; rw [unD_map ds]; rfl
theorem we_tup {t : TA} (h : Wa K G0 t ρ μ fun xs μ' => ∃ ds, unD xs = some ds ∧ ds.length ≤ 100000 ∧ Q (.t ds) μ') : We K G0 (tTup t) ρ μ Q := fun σ G H e rs S R k =>
  h σ G H e rs S _ fun vs G1 H1 xs μ1 e1 rl S1 ⟨ds, hd, hl, q⟩ => by
    have hq := unD_rel rl hd
    refine ⟨sz_le (by rw [dqa_len hq]; exact hl), fun p hp => ?_⟩
    have hg := S1.gfree hp
    exact k _ (upd G1 p (.tup vs)) _ _ μ1 (e1.trans (same_new hg)) (mk_tup upd_same (dqa_ext (same_new hg) hq)) (S1.fix hp) q
theorem we_lst {t : TA} (h : Wa K G0 t ρ μ fun xs μ' => ∃ ds, unD xs = some ds ∧ ds.length ≤ 100000 ∧ Q (.l ds) μ') : We K G0 (tLst t) ρ μ Q := fun σ G H e rs S R k =>
  h σ G H e rs S _ fun vs G1 H1 xs μ1 e1 rl S1 ⟨ds, hd, hl, q⟩ => by
    have hq := unD_rel rl hd
    refine ⟨sz_le (by rw [dqa_len hq]; exact hl), fun p hp => ?_⟩
    have hg := S1.gfree hp
    exact k _ (upd G1 p (.lst vs)) _ _ μ1 (e1.trans (same_new hg)) (mk_lst upd_same (dqa_ext (same_new hg) hq)) (S1.fix hp) q
theorem we_lstM {t : TA} (h : Wa K G0 t ρ μ fun xs μ' => xs.length ≤ 100000 ∧ ∀ a, μ' a = none → Q (.o a) (mset μ' a (.lst xs))) : We K G0 (tLst t) ρ μ Q := fun σ G H e rs S R k =>
  h σ G H e rs S _ fun vs G1 H1 xs μ1 e1 rl S1 ⟨hl, q⟩ => by
    refine ⟨sz_le (by rw [rl.length]; exact hl), fun p hp => ?_⟩
    exact k _ G1 _ (.o p) _ e1 rfl (S1.new (m := .lst xs) hp ⟨vs, rfl, rl⟩) (q p (S1.mfree hp))

/-! ### tests, and, or, not, if -/
variable {t u : TT} {QT : Bool → Mu → Prop}
theorem wt_test (h : We K G0 te ρ μ fun x μ1 => ∃ c, x = .b c ∧ QT c μ1) : Wt K G0 (tTest te) ρ μ QT := fun σ G H e rs S R k =>
  h σ G H e rs S _ fun v G1 H1 x μ1 e1 rv S1 ⟨c, hc, q⟩ => by
    subst hc; cases rp_bl rv
    exact ⟨c, rfl, k c G1 H1 μ1 e1 S1 q⟩
theorem wt_B (h : We K G0 te ρ μ fun x μ1 => ∃ c, x = .b c ∧ QT c μ1) : Wt K G0 (tB te) ρ μ QT := fun σ G H e rs S R k =>
  h σ G H e rs S _ fun v G1 H1 x μ1 e1 rv S1 ⟨c, hc, q⟩ => by
    subst hc; cases rp_bl rv
    exact ⟨c, rfl, k c G1 H1 μ1 e1 S1 q⟩
theorem wt_yes (q : QT true μ) : Wt K G0 tYes ρ μ QT := fun σ G H e rs S R k => k true G H μ (Same.refl _) S q
theorem wt_and (h : Wt K G0 t ρ μ fun c μ1 => (c = true → Wt K G0 u ρ μ1 QT) ∧ (c = false → QT false μ1)) : Wt K G0 (tAnd t u) ρ μ QT := fun σ G H e rs S R k =>
  h σ G H e rs S _ fun c G1 H1 μ1 e1 S1 ⟨q1, q2⟩ => by
    cases c with
    | true => exact iteT (q1 rfl σ G1 H1 (e.trans e1) (rs.ext e1) S1 R fun b G2 H2 μ2 e2 => k b G2 H2 μ2 (e1.trans e2))
    | false => exact iteF (k false G1 H1 μ1 e1 S1 (q2 rfl))
theorem wt_or (h : Wt K G0 t ρ μ fun c μ1 => (c = true → QT true μ1) ∧ (c = false → Wt K G0 u ρ μ1 QT)) : Wt K G0 (tOr t u) ρ μ QT := fun σ G H e rs S R k =>
  h σ G H e rs S _ fun c G1 H1 μ1 e1 S1 ⟨q1, q2⟩ => by
    cases c with
    | false => exact iteF (q2 rfl σ G1 H1 (e.trans e1) (rs.ext e1) S1 R fun b G2 H2 μ2 e2 => k b G2 H2 μ2 (e1.trans e2))
    | true => exact iteT (k true G1 H1 μ1 e1 S1 (q1 rfl))
theorem wt_not (h : Wt K G0 t ρ μ fun c μ1 => QT (!c) μ1) : Wt K G0 (tNot t) ρ μ QT := fun σ G H e rs S R k =>
  h σ G H e rs S _ fun c G1 H1 μ1 e1 S1 q => k (!c) G1 H1 μ1 e1 S1 q
theorem wt_truth (h : We K G0 te ρ μ fun x μ1 => ∃ c, x = .b c ∧ QT c μ1) : Wt K G0 (fun σ H Q => te σ H fun x H' => ∃ k, TruV K x H' k ∧ Q k H') ρ μ QT := fun σ G H e rs S R k =>
  h σ G H e rs S _ fun v G1 H1 x μ1 e1 rv S1 ⟨c, hc, q⟩ => by
    subst hc; cases rp_bl rv
    exact ⟨c, rfl, k c G1 H1 μ1 e1 S1 q⟩
theorem we_if (h : Wt K G0 t ρ μ fun c μ1 => (c = true → We K G0 ta ρ μ1 Q) ∧ (c = false → We K G0 tb ρ μ1 Q)) : We K G0 (tIf t ta tb) ρ μ Q := fun σ G H e rs S R k =>
  h σ G H e rs S _ fun c G1 H1 μ1 e1 S1 ⟨q1, q2⟩ => by
    cases c with
    | true => exact iteT (q1 rfl σ G1 H1 (e.trans e1) (rs.ext e1) S1 R fun v G2 H2 x μ2 e2 => k v G2 H2 x μ2 (e1.trans e2))
    | false => exact iteF (q2 rfl σ G1 H1 (e.trans e1) (rs.ext e1) S1 R fun v G2 H2 x μ2 e2 => k v G2 H2 x μ2 (e1.trans e2))
theorem we_and (h : We K G0 ta ρ μ fun x μ1 => ∃ c, x = .b c ∧ (c = true → We K G0 tb ρ μ1 Q) ∧ (c = false → Q (.b false) μ1)) : We K G0 (tAndV ta tb) ρ μ Q := fun σ G H e rs S R k =>
  h σ G H e rs S _ fun v G1 H1 x μ1 e1 rv S1 ⟨c, hc, q1, q2⟩ => by
    subst hc; cases rp_bl rv
    refine ⟨c, rfl, ?_⟩
    cases c with
    | true => exact iteT (q1 rfl σ G1 H1 (e.trans e1) (rs.ext e1) S1 R fun v G2 H2 x μ2 e2 => k v G2 H2 x μ2 (e1.trans e2))
    | false => exact iteF (k _ G1 H1 _ μ1 e1 (mk_bl _) S1 (q2 rfl))
theorem we_or (h : We K G0 ta ρ μ fun x μ1 => ∃ c, x = .b c ∧ (c = true → Q (.b true) μ1) ∧ (c = false → We K G0 tb ρ μ1 Q)) : We K G0 (tOrV ta tb) ρ μ Q := fun σ G H e rs S R k =>
  h σ G H e rs S _ fun v G1 H1 x μ1 e1 rv S1 ⟨c, hc, q1, q2⟩ => by
    subst hc; cases rp_bl rv
    refine ⟨c, rfl, ?_⟩
    cases c with
    | false => exact iteF (q2 rfl σ G1 H1 (e.trans e1) (rs.ext e1) S1 R fun v G2 H2 x μ2 e2 => k v G2 H2 x μ2 (e1.trans e2))
    | true => exact iteT (k _ G1 H1 _ μ1 e1 (mk_bl _) S1 (q1 rfl))
theorem we_not (h : We K G0 ta ρ μ fun x μ1 => ∃ c, x = .b c ∧ Q (.b (!c)) μ1) : We K G0 (tNotV ta) ρ μ Q := fun σ G H e rs S R k =>
  h σ G H e rs S _ fun v G1 H1 x μ1 e1 rv S1 ⟨c, hc, q⟩ => by
    subst hc; cases rp_bl rv
    exact ⟨c, rfl, k _ G1 H1 _ μ1 e1 (mk_bl _) S1 q⟩
theorem we_chain {r r' : R2} {tc : TE} (h : We K G0 ta ρ μ fun x μ1 => We K G0 tb ρ μ1 fun y μ2 => W2 K G0 r x y μ2 fun z μ3 => ∃ c, z = .b c ∧ (c = true → We K G0 tc ρ μ3 fun w μ4 => W2 K G0 r' y w μ4 Q) ∧ (c = false → Q (.b false) μ3)) :
    We K G0 (tChain r r' ta tb tc) ρ μ Q := fun σ G H e rs S R k =>
  h σ G H e rs S _ fun v G1 H1 x μ1 e1 rv S1 q1 => q1 σ G1 H1 (e.trans e1) (rs.ext e1) S1 _ fun w G2 H2 y μ2 e2 rw S2 q2 =>
    q2 v w G2 H2 ((e.trans e1).trans e2) (rv.ext e2) rw S2 _ fun u G3 H3 z μ3 e3 rz S3 ⟨c, hc, q3, q4⟩ => by
      subst hc; cases rp_bl rz
      have e13 := (e1.trans e2).trans e3
      refine ⟨c, rfl, ?_⟩
      cases c with
      | true => exact iteT (q3 rfl σ G3 H3 (e.trans e13) (rs.ext e13) S3 _ fun u' G4 H4 z' μ4 e4 rz' S4 q5 => q5 w u' G4 H4 ((e.trans e13).trans e4) (rw.ext (e3.trans e4)) rz' S4 R fun u5 G5 H5 z5 μ5 e5 => k u5 G5 H5 z5 μ5 ((e13.trans e4).trans e5))
      | false => exact iteF (k _ G3 H3 _ μ3 e13 (mk_bl _) S3 (q4 rfl))
end
end Dw

namespace Dw
open PySem L2
section
variable {K : Frg} {G0 : Hp} {ρ : Rho} {μ : Mu} {Q : PV → Mu → Prop} {ta tb te : TE} {t : TA}
/-! ### promises over data -/
def SpA {α : Type} (K : Frg) (inp : α → List PV) (pre : α → Mu → Prop) (post : α → Mu → PV → Mu → Prop) : Sp := fun vs H Q E => ∃ G μ a, RelL K G vs (inp a) ∧ Sep K G μ H ∧ pre a μ ∧
  ∀ v G' H' x μ', Same G G' → RelP K G' v x → Sep K G' μ' H' → post a μ x μ' → Q v H'
def SpX {α : Type} (K : Frg) (inp : α → List PV) (pre : α → Mu → Prop) (post : α → Mu → PV → Mu → Prop) (exn : α → Mu → Addr → Mu → Prop) : Sp := fun vs H Q E => ∃ G μ a, RelL K G vs (inp a) ∧ Sep K G μ H ∧ pre a μ ∧
  (∀ v G' H' x μ', Same G G' → RelP K G' v x → Sep K G' μ' H' → post a μ x μ' → Q v H') ∧ ∀ C G' H' μ', Same G G' → Sep K G' μ' H' → exn a μ C μ' → E (.ref C) none H'
theorem we_call {α : Type} {inp : α → List PV} {pre : α → Mu → Prop} {post : α → Mu → PV → Mu → Prop} {E : XK} (h : Wa K G0 t ρ μ fun xs μ1 => ∃ a, xs = inp a ∧ pre a μ1 ∧ ∀ x μ2, post a μ1 x μ2 → Q x μ2) :
    We K G0 (tCall (SpA K inp pre post) [] E t) ρ μ Q := fun σ G H e rs S R k =>
  h σ G H e rs S _ fun vs G1 H1 xs μ1 e1 rl S1 ⟨a, hx, hp, hq⟩ => by
    subst hx
    rw [List.append_nil]
    exact ⟨G1, μ1, a, rl, S1, hp, fun v G' H' x μ' e' r S' ps => k v G' H' x μ' (e1.trans e') r S' (hq x μ' ps)⟩
/-- what a def's errors are told to -/
def EOk (K : Frg) (G0 : Hp) (E : XK) (Ed : Addr → Mu → Prop) : Prop := ∀ C G H μ, Same G0 G → Sep K G μ H → Ed C μ → E (.ref C) none H
theorem we_callX {α : Type} {inp : α → List PV} {pre : α → Mu → Prop} {post : α → Mu → PV → Mu → Prop} {exn : α → Mu → Addr → Mu → Prop} {E : XK} {Ed : Addr → Mu → Prop} (hE : EOk K G0 E Ed)
    (h : Wa K G0 t ρ μ fun xs μ1 => ∃ a, xs = inp a ∧ pre a μ1 ∧ (∀ x μ2, post a μ1 x μ2 → Q x μ2) ∧ ∀ C μ2, exn a μ1 C μ2 → Ed C μ2) :
    We K G0 (tCall (SpX K inp pre post exn) [] E t) ρ μ Q := fun σ G H e rs S R k =>
  h σ G H e rs S _ fun vs G1 H1 xs μ1 e1 rl S1 ⟨a, hx, hp, hq, hn⟩ => by
    subst hx
    rw [List.append_nil]
    exact ⟨G1, μ1, a, rl, S1, hp, fun v G' H' x μ' e' r S' ps => k v G' H' x μ' (e1.trans e') r S' (hq x μ' ps), fun C G' H' μ' e' S' xn => hE C G' H' μ' (e.trans (e1.trans e')) S' (hn C μ' xn)⟩

/-! ### fields, methods, new objects -/
def putP (f : Str) (v : PV) : List (Str × PV) → List (Str × PV)
  | [] => [(f, v)]
  | (g, x) :: r => if g = f then (g, v) :: r else (g, x) :: putP f v r
abbrev RelF (K : Frg) (G : Hp) : List (Str × V) → List (Str × PV) → Prop := Paired (fun (p : Str × V) (q : Str × PV) => p.1 = q.1 ∧ RelP K G p.2 q.2)
theorem relF_look {G : Hp} {f : Str} : ∀ {vs : List (Str × V)} {fs : List (Str × PV)} {y : PV}, RelF K G vs fs → fs.lookup f = some y → ∃ v, vs.lookup f = some v ∧ RelP K G v y
  | _, _, _, .nil, h => by simp at h
  | (g, v) :: _, (g', x) :: _, y, .cons ⟨e, r⟩ t, h => by
    cases (show g = g' from e)
    by_cases hb : (f == g) = true
    · simp only [List.lookup, hb] at h ⊢
      cases h; exact ⟨v, rfl, r⟩
    · simp only [List.lookup, Bool.not_eq_true _ ▸ hb] at h ⊢
      exact relF_look t h
theorem relF_none {G : Hp} {f : Str} : ∀ {vs : List (Str × V)} {fs : List (Str × PV)}, RelF K G vs fs → fs.lookup f = none → vs.lookup f = none
  | _, _, .nil, h => rfl
  | (g, v) :: _, (g', x) :: _, .cons ⟨e, r⟩ t, h => by
    cases (show g = g' from e)
    by_cases hb : (f == g) = true
    · simp only [List.lookup, hb] at h; cases h
    · simp only [List.lookup, Bool.not_eq_true _ ▸ hb] at h ⊢
      exact relF_none t h
theorem relF_put {G : Hp} {f : Str} {v : V} {y : PV} (r : RelP K G v y) : ∀ {vs : List (Str × V)} {fs : List (Str × PV)}, RelF K G vs fs → RelF K G (putF f v vs) (putP f y fs)
  | _, _, .nil => .cons ⟨rfl, r⟩ .nil
  | (g, w) :: _, (g', x) :: _, .cons ⟨e, q⟩ t => by
    cases (show g = g' from e)
    unfold putF putP
    by_cases hg : g = f
    · rw [if_pos hg, if_pos hg]; exact .cons ⟨rfl, r⟩ t
    · rw [if_neg hg, if_neg hg]; exact .cons ⟨rfl, q⟩ (relF_put r t)
theorem we_fld {f : Str} (h : We K G0 ta ρ μ fun x μ1 => ∃ a C dx fs y, x = .o a ∧ μ1 a = some (.ins C dx fs) ∧ Cls K C ∧ NoAttr K C f ∧ fs.lookup f = some y ∧ Q y μ1) : We K G0 (tFld K ta f) ρ μ Q := fun σ G H e rs S R k =>
  h σ G H e rs S _ fun v G1 H1 x μ1 e1 rv S1 ⟨a, C, dx, fs, y, hx, hm, hc, hn, hl, q⟩ => by
    subst hx
    cases (show v = .ref a from rv)
    obtain ⟨hg, o, ho, vs, hvs, rl⟩ := S1.mu a _ hm
    subst hvs
    obtain ⟨u, h3, h4⟩ := relF_look rl hl
    exact ⟨a, C, dx, vs, u, rfl, ho, hc, hn, h3, k u G1 H1 y μ1 e1 h4 S1 q⟩
theorem we_meth {α : Type} {inp : α → List PV} {pre : α → Mu → Prop} {post : α → Mu → PV → Mu → Prop} {E : XK} {C : Addr} {m : Str}
    (h : We K G0 ta ρ μ fun x μ1 => ∃ a dx fs, x = .o a ∧ μ1 a = some (.ins C dx fs) ∧ fs.lookup m = none ∧ Wa K G0 t ρ μ1 fun xs μ2 => ∃ b, x :: xs = inp b ∧ pre b μ2 ∧ ∀ x μ3, post b μ2 x μ3 → Q x μ3) :
    We K G0 (tMeth C m (SpA K inp pre post) [] E ta t) ρ μ Q := fun σ G H e rs S R k =>
  h σ G H e rs S _ fun v G1 H1 x μ1 e1 rv S1 ⟨a, dx, fs, hx, hm, hl, q⟩ => by
    subst hx
    cases (show v = .ref a from rv)
    obtain ⟨hg, o, ho, vs, hvs, rl⟩ := S1.mu a _ hm
    subst hvs
    refine ⟨a, dx, vs, rfl, ho, relF_none rl hl, q σ G1 H1 (e.trans e1) (rs.ext e1) S1 _ fun ws G2 H2 xs μ2 e2 rw S2 ⟨b, hx, hp, hq⟩ => ?_⟩
    rw [List.append_nil]
    refine ⟨G2, μ2, b, ?_, S2, hp, fun v G' H' x μ' e' r S' ps => k v G' H' x μ' (e1.trans (e2.trans e')) r S' (hq x μ' ps)⟩
    rw [← hx]
    exact .cons (show RelP K G2 (.ref a) (.o a) from rfl) rw
theorem we_make {α : Type} {inp : α → List PV} {pre : α → Mu → Prop} {post : α → Mu → PV → Mu → Prop} {E : XK} {C : Addr}
    (h : Wa K G0 t ρ μ fun xs μ1 => ∀ p dx, μ1 p = none → ∃ a, .o p :: xs = inp a ∧ pre a (mset μ1 p (.ins C dx [])) ∧ ∀ x μ2, post a (mset μ1 p (.ins C dx [])) x μ2 → x = .n ∧ Q (.o p) μ2) :
    We K G0 (tMake C (SpA K inp pre post) [] E t) ρ μ Q := fun σ G H e rs S R k =>
  h σ G H e rs S _ fun vs G1 H1 xs μ1 e1 rl S1 hh => by
    intro p dx hp hd hne
    rw [List.append_nil]
    obtain ⟨a, hx, hpre, hq⟩ := hh p dx (S1.mfree hp)
    refine ⟨G1, mset μ1 p (.ins C dx []), a, ?_, ?_, hpre, fun v G' H' x μ' e' r S' ps => ?_⟩
    · rw [← hx]
      exact .cons (show RelP K G1 (.ref p) (.o p) from rfl) rl
    · exact (S1.junk hd).new (by rw [upd_ne (Ne.symm hne)]; exact hp) ⟨[], rfl, .nil⟩
    · obtain ⟨h1, h2⟩ := hq x μ' ps
      subst h1
      exact ⟨rp_non r, k _ G' H' (.o p) μ' (e1.trans e') rfl S' h2⟩

/-! ### built-ins by name -/
theorem we_cb {r : List V → Hp → VK → Prop} (h : Wa K G0 t ρ μ fun xs μ1 => Wc K G0 r xs μ1 Q) : We K G0 (tCB r t) ρ μ Q := fun σ G H e rs S R k =>
  h σ G H e rs S _ fun vs G1 H1 xs μ1 e1 rl S1 q => q vs G1 H1 (e.trans e1) rl S1 R fun v G2 H2 x μ2 e2 => k v G2 H2 x μ2 (e1.trans e2)
theorem rl1 {G : Hp} {vs : List V} {x : PV} (h : RelL K G vs [x]) : ∃ v, vs = [v] ∧ RelP K G v x := by
  cases h with
  | cons a b => cases b; exact ⟨_, rfl, a⟩
theorem rl2 {G : Hp} {vs : List V} {x y : PV} (h : RelL K G vs [x, y]) : ∃ v w, vs = [v, w] ∧ RelP K G v x ∧ RelP K G w y := by
  cases h with
  | cons a b => obtain ⟨w, rfl, hw⟩ := rl1 b; exact ⟨_, w, rfl, a, hw⟩
abbrev rLn (K : Frg) : List V → Hp → VK → Prop := fun xs H Q => ∃ p ys, xs = [.ref p] ∧ (SqL K H p ys ∨ SqT K H p ys) ∧ Q (.int ys.length) H
theorem wc_lenT {ds : List PyData} (q : Q (.i (ds.length : Int)) μ) : Wc K G0 (rLn K) [.t ds] μ Q := fun vs G H e rl S R k => by
  obtain ⟨v, rfl, rv⟩ := rl1 rl
  obtain ⟨a, xs, rfl, h1, h2⟩ := rp_tup rv
  refine ⟨a, xs, rfl, .inr ((.inl (.inl (S.sub _ _ h1)))), ?_⟩
  rw [dqa_len h2]
  exact k _ G H _ μ (Same.refl _) (mk_int _) S q
theorem wc_lenL {ds : List PyData} (q : Q (.i (ds.length : Int)) μ) : Wc K G0 (rLn K) [.l ds] μ Q := fun vs G H e rl S R k => by
  obtain ⟨v, rfl, rv⟩ := rl1 rl
  obtain ⟨a, xs, rfl, h1, h2⟩ := rp_lst rv
  refine ⟨a, xs, rfl, .inl (.inl (.inl (S.sub _ _ h1))), ?_⟩
  rw [dqa_len h2]
  exact k _ G H _ μ (Same.refl _) (mk_int _) S q
theorem wc_lenO {a : Addr} {xs : List PV} (hm : μ a = some (.lst xs)) (q : Q (.i (xs.length : Int)) μ) : Wc K G0 (rLn K) [.o a] μ Q := fun vs G H e rl S R k => by
  obtain ⟨v, rfl, rv⟩ := rl1 rl
  cases (show v = .ref a from rv)
  obtain ⟨hg, o, ho, ws, hvs, rw⟩ := S.mu a _ hm
  subst hvs
  refine ⟨a, ws, rfl, .inl (.inl (.inl ho)), ?_⟩
  rw [rw.length]
  exact k _ G H _ μ (Same.refl _) (mk_int _) S q
theorem wc_lenS {ns : List Int} (q : Q (.i (ns.length : Int)) μ) : Wc K G0 (rLn K) [.sq ns] μ Q := fun vs G H e rl S R k => by
  obtain ⟨v, rfl, rv⟩ := rl1 rl
  obtain ⟨a, rfl, h1⟩ := rv
  refine ⟨a, _, rfl, .inl (S.sub.seq h1), ?_⟩
  rw [List.length_map]
  exact k _ G H _ μ (Same.refl _) (mk_int _) S q
abbrev rIntC : List V → Hp → VK → Prop := fun xs H Q => (∃ i, xs = [.int i] ∧ Q (.int i) H) ∨ ∃ k, xs = [.bl k] ∧ Q (.int (if k then 1 else 0)) H
theorem wc_intB {b : Bool} (q : Q (.i (if b then 1 else 0)) μ) : Wc K G0 rIntC [.b b] μ Q := fun vs G H e rl S R k => by
  obtain ⟨v, rfl, rv⟩ := rl1 rl
  cases rp_bl rv
  exact .inr ⟨b, rfl, k _ G H _ μ (Same.refl _) (mk_int _) S q⟩
abbrev rMin2 : List V → Hp → VK → Prop := fun xs H Q => ∃ i j, xs = [.int i, .int j] ∧ Q (.int (if j < i then j else i)) H
theorem wc_min2 {i j : Int} (q : Q (.i (if j < i then j else i)) μ) : Wc K G0 rMin2 [.i i, .i j] μ Q := fun vs G H e rl S R k => by
  obtain ⟨v, w, rfl, rv, rw⟩ := rl2 rl
  cases rp_int rv; cases rp_int rw
  exact ⟨i, j, rfl, k _ G H _ μ (Same.refl _) (mk_int _) S q⟩
abbrev rListC (K : Frg) : List V → Hp → VK → Prop := fun xs H Q => ∃ p ys, xs = [.ref p] ∧ (SqL K H p ys ∨ SqT K H p ys) ∧ ∀ l, H l = none → Q (.ref l) (upd H l (.lst ys))
theorem wc_listL {ds : List PyData} (q : Q (.l ds) μ) : Wc K G0 (rListC K) [.l ds] μ Q := fun vs G H e rl S R k => by
  obtain ⟨v, rfl, rv⟩ := rl1 rl
  obtain ⟨a, xs, rfl, h1, h2⟩ := rp_lst rv
  refine ⟨a, xs, rfl, .inl (.inl (.inl (S.sub _ _ h1))), fun p hp => ?_⟩
  have hg := S.gfree hp
  exact k _ (upd G p (.lst xs)) _ _ μ (same_new hg) (mk_lst upd_same (dqa_ext (same_new hg) h2)) (S.fix hp) q
theorem wc_listLM {ds : List PyData} (q : ∀ p, μ p = none → Q (.o p) (mset μ p (.lst (ds.map .d)))) : Wc K G0 (rListC K) [.l ds] μ Q := fun vs G H e rl S R k => by
  obtain ⟨v, rfl, rv⟩ := rl1 rl
  obtain ⟨a, xs, rfl, h1, h2⟩ := rp_lst rv
  refine ⟨a, xs, rfl, .inl (.inl (.inl (S.sub _ _ h1))), fun p hp => ?_⟩
  exact k _ G _ (.o p) _ (Same.refl _) rfl (S.new (m := .lst (ds.map .d)) hp ⟨xs, rfl, relL_of h2⟩) (q p (S.mfree hp))
theorem wc_listT {ds : List PyData} (q : Q (.l ds) μ) : Wc K G0 (rListC K) [.t ds] μ Q := fun vs G H e rl S R k => by
  obtain ⟨v, rfl, rv⟩ := rl1 rl
  obtain ⟨a, xs, rfl, h1, h2⟩ := rp_tup rv
  refine ⟨a, xs, rfl, .inr ((.inl (.inl (S.sub _ _ h1)))), fun p hp => ?_⟩
  have hg := S.gfree hp
  exact k _ (upd G p (.lst xs)) _ _ μ (same_new hg) (mk_lst upd_same (dqa_ext (same_new hg) h2)) (S.fix hp) q
abbrev rTupC (K : Frg) : List V → Hp → VK → Prop := fun xs H Q => ∃ p ys, xs = [.ref p] ∧ ((SqL K H p ys ∧ ∀ l, H l = none → Q (.ref l) (upd H l (.tup ys))) ∨ (SqT K H p ys ∧ Q (.ref p) H))
theorem wc_tupL {ds : List PyData} (q : Q (.t ds) μ) : Wc K G0 (rTupC K) [.l ds] μ Q := fun vs G H e rl S R k => by
  obtain ⟨v, rfl, rv⟩ := rl1 rl
  obtain ⟨a, xs, rfl, h1, h2⟩ := rp_lst rv
  refine ⟨a, xs, rfl, .inl ⟨.inl (.inl (S.sub _ _ h1)), fun p hp => ?_⟩⟩
  have hg := S.gfree hp
  exact k _ (upd G p (.tup xs)) _ _ μ (same_new hg) (mk_tup upd_same (dqa_ext (same_new hg) h2)) (S.fix hp) q
theorem wc_tupO {a : Addr} {ds : List PyData} (hm : μ a = some (.lst (ds.map .d))) (q : Q (.t ds) μ) : Wc K G0 (rTupC K) [.o a] μ Q := fun vs G H e rl S R k => by
  obtain ⟨v, rfl, rv⟩ := rl1 rl
  cases (show v = .ref a from rv)
  obtain ⟨hg, o, ho, ws, hvs, rw⟩ := S.mu a _ hm
  subst hvs
  refine ⟨a, ws, rfl, .inl ⟨.inl (.inl ho), fun p hp => ?_⟩⟩
  have hg := S.gfree hp
  exact k _ (upd G p (.tup ws)) _ _ μ (same_new hg) (mk_tup upd_same (dqa_ext (same_new hg) (dqAll_of rw))) (S.fix hp) q
/-- isinstance -/
def tyN : PyData → String
  | .none => "NoneType" | .bool _ => "bool" | .int _ => "int" | .str _ => "str" | .list _ => "list" | .tuple _ => "tuple" | .dict _ => "dict"
theorem tyX_of {G H : Hp} {v : V} {d : PyData} (h : Dq K G v d) (s : Same G H) : TyX K H v (.type (tyN d)) := by
  cases h with
  | non => exact .base .non
  | bl b => exact .base (.bl b)
  | int i => exact .base (.int i)
  | str x => exact .base (.str x)
  | lst h1 _ => exact .base (.lst (s _ _ h1))
  | tup h1 _ =>
    exact .base (.tup (s _ _ h1))
theorem wc_isi {d : PyData} {T : String} {b : Bool} (hb : kitB (tyN d) T = some b) (q : Q (.b b) μ) : Wc K G0 (rIsi K) [.d d, .ty T] μ Q := fun vs G H e rl S R k => by
  obtain ⟨v, w, rfl, rv, rw⟩ := rl2 rl
  cases (show w = .ty T from rw)
  exact ⟨v, .ty T, .type (tyN d), .type T, b, rfl, .ty T, tyX_of rv S.sub, kit_ty hb, k _ G H _ μ (Same.refl _) (mk_bl _) S q⟩
theorem kitAny2 {a b c : String} {p q : Bool} (h1 : kitB a b = some p) (h2 : kitB a c = some q) : PySem.W.kitAny K (.type a) [.type b, .type c] = some (p || q) := by
  refine kitAny_cons (kit_ty h1) (fun e => ?_) (fun e => by rw [e]; rfl)
  subst e
  refine kitAny_cons (kit_ty h2) (fun e => ?_) (fun e => by rw [e]; rfl)
  subst e
  rfl
theorem we_isiT {T U : String} (h : We K G0 te ρ μ fun x μ1 => ∃ d p q, x = .d d ∧ kitB (tyN d) T = some p ∧ kitB (tyN d) U = some q ∧ Q (.b (p || q)) μ1) :
    We K G0 (tCB (rIsiT K) (tCons te (tCons (tTup (tCons (tC (.ty T)) (tCons (tC (.ty U)) tNil))) tNil))) ρ μ Q := fun σ G H e rs S R k =>
  h σ G H e rs S _ fun v G1 H1 x μ1 e1 rv S1 ⟨d, p, q, hx, h1, h2, hq⟩ => by
    subst hx
    refine ⟨by show 2 ≤ sizeLine; decide, fun tp htp => ?_⟩
    refine ⟨v, tp, _, .type (tyN d), [.type T, .type U], p || q, rfl, upd_same, .cons (.ty T) (.cons (.ty U) .nil), tyX_of rv (S1.sub.trans (same_new htp)), kitAny2 h1 h2, ?_⟩
    exact k _ G1 _ _ μ1 e1 (mk_bl _) (S1.junk htp) hq
/-- sorted of whole numbers, fewer than 64 -/
theorem dq_ints {G : Hp} : ∀ {vs : List V} {ns : List Int}, DqAll K G vs (ns.map .int) → vs = ns.map .int
  | _, [], .nil => rfl
  | _, _ :: _, .cons h t => by cases h; rw [dq_ints t]; rfl
theorem ints_dq {G : Hp} : ∀ ns : List Int, DqAll K G (ns.map V.int) (ns.map PyData.int)
  | [] => .nil
  | n :: ns => .cons (.int n) (ints_dq ns)
theorem wc_sorted {ns : List Int} (hl : ns.length < 64) (q : ∀ ns' : List Int, ns'.Perm ns → ns'.Pairwise (· ≤ ·) → Q (.l (ns'.map .int)) μ) : Wc K G0 (rSorted K) [.l (ns.map .int)] μ Q := fun vs G H e rl S R k => by
  obtain ⟨v, rfl, rv⟩ := rl1 rl
  obtain ⟨a, xs, rfl, h1, h2⟩ := rp_lst rv
  cases dq_ints h2
  refine ⟨a, ns, rfl, .inl (.inl (S.sub _ _ h1)), hl, fun ns' p hp hw hn => ?_⟩
  have hg := S.gfree hn
  exact k _ (upd G p (.lst (ns'.map V.int))) _ _ μ (same_new hg) (mk_lst upd_same (ints_dq _)) (S.fix hn) (q ns' hp hw)
theorem we_listRg (h : We K G0 te ρ μ fun x μ1 => ∃ n : Int, x = .i n ∧ 0 ≤ n ∧ n ≤ 100000 ∧ ∀ p, μ1 p = none → Q (.o p) (mset μ1 p (.lst ((List.range n.toNat).map fun (i : Nat) => PV.i (i : Int))))) :
    We K G0 (tLstRg (tRg1 te)) ρ μ Q := fun σ G H e rs S R k =>
  h σ G H e rs S _ fun v G1 H1 x μ1 e1 rv S1 ⟨n, hx, h0, h1, q⟩ => by
    subst hx; cases rp_int rv
    refine ⟨n, rfl, RgOk.of_le (by decide) (by omega) (by decide) (by omega), fun p hp => ?_⟩
    refine k _ G1 _ (.o p) _ e1 rfl (S1.new (m := .lst _) hp ⟨_, rfl, ?_⟩) (q p (S1.mfree hp))
    show RelL K G1 ((List.range (n - 0).toNat).map fun i => V.int (0 + (i : Nat))) _
    rw [Int.sub_zero]
    generalize List.range n.toNat = l
    induction l with
    | nil => exact .nil
    | cons i l ih => exact .cons (by show RelP K G1 (V.int (0 + ((i : Nat) : Int))) (PV.i (i : Int)); rw [Int.zero_add]; exact mk_int _) ih

/-! ### methods of built-in types -/
def TyD (K : Frg) (T : String) (x : PV) (μ : Mu) : Prop := ∀ v G H, RelP K G v x → Sep K G μ H → tyV K T v H
theorem tyd_l {ds : List PyData} : TyD K "list" (.l ds) μ := fun v G H rv S => by
  obtain ⟨a, xs, rfl, h1, h2⟩ := rp_lst rv
  exact .inl ⟨rfl, xs, .inl (.inl (S.sub _ _ h1))⟩
theorem tyd_o {a : Addr} {xs : List PV} (hm : μ a = some (.lst xs)) : TyD K "list" (.o a) μ := fun v G H rv S => by
  cases (show v = .ref a from rv)
  obtain ⟨hg, o, ho, ws, hvs, rw⟩ := S.mu a _ hm
  subst hvs
  exact .inl ⟨rfl, ws, .inl (.inl ho)⟩
theorem we_bm {T : String} {r : V → List V → Hp → VK → Prop} {to : TE} (h : We K G0 to ρ μ fun x μ1 => TyD K T x μ1 ∧ Wa K G0 t ρ μ1 fun xs μ2 => Wm K G0 r x xs μ2 Q) : We K G0 (tBM K T r to t) ρ μ Q := fun σ G H e rs S R k =>
  h σ G H e rs S _ fun v G1 H1 x μ1 e1 rv S1 ⟨ty, q⟩ => ⟨ty v G1 H1 rv S1, q σ G1 H1 (e.trans e1) (rs.ext e1) S1 _ fun vs G2 H2 xs μ2 e2 rl S2 q2 =>
    q2 v vs G2 H2 (e.trans (e1.trans e2)) (rv.ext e2) rl S2 R fun u G3 H3 z μ3 e3 => k u G3 H3 z μ3 ((e1.trans e2).trans e3)⟩
theorem we_bm0 {T : String} {r : V → List V → Hp → VK → Prop} {to : TE} (h : We K G0 to ρ μ fun x μ1 => TyD K T x μ1 ∧ Wm K G0 r x [] μ1 Q) : We K G0 (tBM0 K T r to) ρ μ Q := fun σ G H e rs S R k =>
  h σ G H e rs S _ fun v G1 H1 x μ1 e1 rv S1 ⟨ty, q⟩ => ⟨ty v G1 H1 rv S1, q v [] G1 H1 (e.trans e1) rv .nil S1 R fun u G3 H3 z μ3 e3 => k u G3 H3 z μ3 (e1.trans e3)⟩
theorem wm_append {a : Addr} {xs : List PV} {y : PV} (hm : μ a = some (.lst xs)) (hl : xs.length < 100000) (q : Q .n (mset μ a (.lst (xs ++ [y])))) : Wm K G0 rAppend (.o a) [y] μ Q := fun v vs G H e rv rl S R k => by
  cases (show v = .ref a from rv)
  obtain ⟨u, rfl, ru⟩ := rl1 rl
  obtain ⟨hg, o, ho, ws, hvs, rw⟩ := S.mu a _ hm
  subst hvs
  exact ⟨a, ws, u, rfl, rfl, ho, sz_lt (by rw [rw.length]; exact hl), k _ G _ _ _ (Same.refl _) mk_non (S.put (m := .lst (xs ++ [y])) hm ⟨_, rfl, paired_app rw (.cons ru .nil)⟩) q⟩
abbrev rInsert : V → List V → Hp → VK → Prop := fun x vs H Q => ∃ (l : Addr) (xs : List V) (i : Int) (y : V), x = .ref l ∧ vs = [.int i, y] ∧ H l = some (.lst xs) ∧ xs.length < sizeLine ∧ 0 ≤ i ∧ i < 2 ^ 63 ∧
    Q .non (upd H l (.lst (xs.take i.toNat ++ [y] ++ xs.drop i.toNat)))
theorem rel_take {G : Hp} : ∀ (n : Nat) {vs : List V} {xs : List PV}, RelL K G vs xs → RelL K G (vs.take n) (xs.take n)
  | 0, _, _, _ => .nil
  | _ + 1, _, _, .nil => .nil
  | n + 1, _, _, .cons h t => .cons h (rel_take n t)
theorem rel_drop {G : Hp} : ∀ (n : Nat) {vs : List V} {xs : List PV}, RelL K G vs xs → RelL K G (vs.drop n) (xs.drop n)
  | 0, _, _, h => h
  | _ + 1, _, _, .nil => .nil
  | n + 1, _, _, .cons h t => rel_drop n t
theorem rel_erase {G : Hp} : ∀ (n : Nat) {vs : List V} {xs : List PV}, RelL K G vs xs → RelL K G (vs.eraseIdx n) (xs.eraseIdx n)
  | _, _, _, .nil => .nil
  | 0, _, _, .cons h t => t
  | n + 1, _, _, .cons h t => .cons h (rel_erase n t)
theorem rel_set {G : Hp} {v : V} {x : PV} (r : RelP K G v x) : ∀ (n : Nat) {vs : List V} {xs : List PV}, RelL K G vs xs → RelL K G (vs.set n v) (xs.set n x)
  | _, _, _, .nil => .nil
  | 0, _, _, .cons h t => .cons r t
  | n + 1, _, _, .cons h t => .cons h (rel_set r n t)
theorem wm_insert {a : Addr} {xs : List PV} {i : Int} {y : PV} (hm : μ a = some (.lst xs)) (hl : xs.length < 100000) (h0 : 0 ≤ i) (h1 : i < 100000) (q : Q .n (mset μ a (.lst (xs.take i.toNat ++ [y] ++ xs.drop i.toNat)))) : Wm K G0 rInsert (.o a) [.i i, y] μ Q := fun v vs G H e rv rl S R k => by
  cases (show v = .ref a from rv)
  obtain ⟨w, u, rfl, rw0, ru⟩ := rl2 rl
  cases rp_int rw0
  obtain ⟨hg, o, ho, ws, hvs, rw⟩ := S.mu a _ hm
  subst hvs
  exact ⟨a, ws, i, u, rfl, rfl, ho, sz_lt (by rw [rw.length]; exact hl), h0, by omega, k _ G _ _ _ (Same.refl _) mk_non (S.put (m := .lst _) hm ⟨_, rfl, paired_app (paired_app (rel_take _ rw) (.cons ru .nil)) (rel_drop _ rw)⟩) q⟩
theorem wm_popAt {a : Addr} {xs : List PV} {i : Int} {x : PV} (hm : μ a = some (.lst xs)) (h0 : 0 ≤ i) (h1 : i < 100000) (hx : xs[i.toNat]? = some x) (q : Q x (mset μ a (.lst (xs.eraseIdx i.toNat)))) : Wm K G0 rPopAt (.o a) [.i i] μ Q := fun v vs G H e rv rl S R k => by
  cases (show v = .ref a from rv)
  obtain ⟨w, rfl, rw0⟩ := rl1 rl
  cases rp_int rw0
  obtain ⟨hg, o, ho, ws, hvs, rw⟩ := S.mu a _ hm
  subst hvs
  obtain ⟨u, h3, h4⟩ := rel_get rw hx
  have hlt : i.toNat < xs.length := (List.getElem?_eq_some_iff.mp hx).1
  have hw := rw.length
  refine ⟨a, ws, i, i.toNat, u, rfl, rfl, ho, by omega, by omega, ?_, h3, k _ G _ x _ (Same.refl _) h4 (S.put (m := .lst _) hm ⟨_, rfl, rel_erase _ rw⟩) q⟩
  have hlt2 : i.toNat < ws.length := by omega
  unfold seqIndex?
  simp only [show ¬ i < 0 by omega, if_false, if_neg (show ¬ i < 0 by omega)]
  first
    | (simp [hlt2]; done)
    | (simp [h0, hlt2]; omega)
    | (rw [if_pos]; omega)

/-! ### slices -/
def Wsl (K : Frg) (G0 : Hp) (r : V → Option Int → Option Int → Hp → VK → Prop) (x : PV) (lo hi : Option Int) (μ : Mu) (Q : PV → Mu → Prop) : Prop :=
  ∀ (v : V) (G H : Hp), Same G0 G → RelP K G v x → Sep K G μ H → ∀ R : VK, (∀ v G' H' x μ', Same G G' → RelP K G' v x → Sep K G' μ' H' → Q x μ' → R v H') → r v lo hi H R
theorem wo_none {QO : Option Int → Mu → Prop} (q : QO none μ) : Wo K G0 tNoPart ρ μ QO := fun σ G H e rs S R k => k none G H μ (Same.refl _) S q
theorem wo_some {QO : Option Int → Mu → Prop} (h : We K G0 te ρ μ fun x μ1 => ∃ i, x = .i i ∧ QO (some i) μ1) : Wo K G0 (tPart te) ρ μ QO := fun σ G H e rs S R k =>
  h σ G H e rs S _ fun v G1 H1 x μ1 e1 rv S1 ⟨i, hx, q⟩ => by
    subst hx; cases rp_int rv
    exact ⟨i, rfl, k _ G1 H1 μ1 e1 S1 q⟩
theorem we_sl {r : V → Option Int → Option Int → Hp → VK → Prop} {tl th : TO} (h : We K G0 te ρ μ fun x μ1 => Wo K G0 tl ρ μ1 fun l μ2 => Wo K G0 th ρ μ2 fun u μ3 => Wsl K G0 r x l u μ3 Q) : We K G0 (tSl r te tl th) ρ μ Q := fun σ G H e rs S R k =>
  h σ G H e rs S _ fun v G1 H1 x μ1 e1 rv S1 q1 => q1 σ G1 H1 (e.trans e1) (rs.ext e1) S1 _ fun l G2 H2 μ2 e2 S2 q2 => q2 σ G2 H2 (e.trans (e1.trans e2)) (rs.ext (e1.trans e2)) S2 _ fun u G3 H3 μ3 e3 S3 q3 =>
    q3 v G3 H3 (e.trans ((e1.trans e2).trans e3)) (rv.ext (e2.trans e3)) S3 R fun z G4 H4 y μ4 e4 => k z G4 H4 y μ4 (((e1.trans e2).trans e3).trans e4)
def cutD {α : Type} (xs : List α) (lo hi : Option Int) : List α := (xs.drop (HT.sIx xs.length 0 lo)).take (HT.sIx xs.length xs.length hi - HT.sIx xs.length 0 lo)
theorem dqa_take {G : Hp} : ∀ (n : Nat) {vs : List V} {xs : List PyData}, DqAll K G vs xs → DqAll K G (vs.take n) (xs.take n)
  | 0, _, _, _ => .nil
  | _ + 1, _, _, .nil => .nil
  | n + 1, _, _, .cons h t => .cons h (dqa_take n t)
theorem dqa_drop {G : Hp} : ∀ (n : Nat) {vs : List V} {xs : List PyData}, DqAll K G vs xs → DqAll K G (vs.drop n) (xs.drop n)
  | 0, _, _, h => h
  | _ + 1, _, _, .nil => .nil
  | n + 1, _, _, .cons h t => dqa_drop n t
theorem dqa_cut {G : Hp} {vs : List V} {ds : List PyData} {lo hi : Option Int} (h : DqAll K G vs ds) : DqAll K G (cutV vs lo hi) (cutD ds lo hi) := by
  unfold cutV cutD
  rw [dqa_len h]
  exact dqa_take _ (dqa_drop _ h)
theorem wsl_T {ds : List PyData} {lo hi : Option Int} (q : Q (.t (cutD ds lo hi)) μ) : Wsl K G0 (rSlA K) (.t ds) lo hi μ Q := fun v G H e rv S R k => by
  obtain ⟨a, xs, rfl, h1, h2⟩ := rp_tup rv
  refine ⟨a, xs, rfl, (.inl (.inl (S.sub _ _ h1))), fun hw => ?_, fun _ p hp => ?_⟩
  · have hc : cutD ds lo hi = ds := by
      unfold cutD
      rw [← dqa_len h2, hw.1, hw.2, Nat.sub_zero, List.drop_zero, List.take_of_length_le (by rw [dqa_len h2]; exact Nat.le_refl _)]
    rw [hc] at q
    exact k _ G H _ μ (Same.refl _) (mk_tup h1 h2) S q
  · have hg := S.gfree hp
    exact k _ (upd G p _) _ _ μ (same_new hg) (mk_tup upd_same (dqa_ext (same_new hg) (dqa_cut h2))) (S.fix hp) q
theorem wsl_L {ds : List PyData} {lo hi : Option Int} (q : Q (.l (cutD ds lo hi)) μ) : Wsl K G0 (rSlL K) (.l ds) lo hi μ Q := fun v G H e rv S R k => by
  obtain ⟨a, xs, rfl, h1, h2⟩ := rp_lst rv
  refine ⟨a, xs, rfl, .inl (.inl (S.sub _ _ h1)), fun p hp => ?_⟩
  have hg := S.gfree hp
  exact k _ (upd G p _) _ _ μ (same_new hg) (mk_lst upd_same (dqa_ext (same_new hg) (dqa_cut h2))) (S.fix hp) q
theorem wsl_O {a : Addr} {ds : List PyData} {lo hi : Option Int} (hm : μ a = some (.lst (ds.map .d))) (q : Q (.l (cutD ds lo hi)) μ) : Wsl K G0 (rSlL K) (.o a) lo hi μ Q := fun v G H e rv S R k => by
  cases (show v = .ref a from rv)
  obtain ⟨hg, o, ho, ws, hvs, rw⟩ := S.mu a _ hm
  subst hvs
  refine ⟨a, ws, rfl, .inl (.inl ho), fun p hp => ?_⟩
  have hg := S.gfree hp
  exact k _ (upd G p _) _ _ μ (same_new hg) (mk_lst upd_same (dqa_ext (same_new hg) (dqa_cut (dqAll_of rw)))) (S.fix hp) q
end
end Dw

namespace Dw
open PySem L2
section
variable {K : Frg} {G0 : Hp} {ρ : Rho} {μ : Mu} {Q : PV → Mu → Prop} {ta tb te : TE} {t : TA} {De : DE} {s u : TS}
/-! ### statements -/
theorem ws_next (q : De.nx ρ μ) : Ws K G0 tNext ρ μ De := fun σ G H e rs S D kn kr kb kc => kn σ G H ρ μ (Same.refl _) rs S q
theorem ws_never {P : Prop} (h : False) : Ws K G0 tNever ρ μ De := h.elim
theorem ws_seq (h : Ws K G0 s ρ μ { nx := fun ρ' μ' => Ws K G0 u ρ' μ' De, rt := De.rt, bk := De.bk, ct := De.ct }) : Ws K G0 (tSeq s u) ρ μ De := fun σ G H e rs S D kn kr kb kc =>
  h σ G H e rs S _ (fun σ' G' H' ρ' μ' e' rs' S' q => q σ' G' H' (e.trans e') rs' S' D (fun a b c d f g => kn a b c d f (e'.trans g)) (fun a b c d f g => kr a b c d f (e'.trans g)) (fun a b c d f g => kb a b c d f (e'.trans g)) (fun a b c d f g => kc a b c d f (e'.trans g))) kr kb kc
theorem ws_drop (h : We K G0 te ρ μ fun _ μ' => De.nx ρ μ') : Ws K G0 (tDrop te) ρ μ De := fun σ G H e rs S D kn kr kb kc =>
  h σ G H e rs S _ fun v G1 H1 x μ1 e1 rv S1 q => kn σ G1 H1 ρ μ1 e1 (rs.ext e1) S1 q
theorem ws_ret (h : We K G0 te ρ μ De.rt) : Ws K G0 (tRet te) ρ μ De := fun σ G H e rs S D kn kr kb kc =>
  h σ G H e rs S _ fun v G1 H1 x μ1 e1 rv S1 q => kr v G1 H1 x μ1 e1 rv S1 q
theorem ws_retN (q : De.rt .n μ) : Ws K G0 tRetN ρ μ De := fun σ G H e rs S D kn kr kb kc => kr _ G H .n μ (Same.refl _) mk_non S q
theorem ws_if {c : TT} (h : Wt K G0 c ρ μ fun b μ1 => (b = true → Ws K G0 s ρ μ1 De) ∧ (b = false → Ws K G0 u ρ μ1 De)) : Ws K G0 (tIfS c s u) ρ μ De := fun σ G H e rs S D kn kr kb kc =>
  h σ G H e rs S _ fun b G1 H1 μ1 e1 S1 ⟨q1, q2⟩ => by
    cases b with
    | true => exact iteT (q1 rfl σ G1 H1 (e.trans e1) (rs.ext e1) S1 D (fun a b c d f g => kn a b c d f (e1.trans g)) (fun a b c d f g => kr a b c d f (e1.trans g)) (fun a b c d f g => kb a b c d f (e1.trans g)) (fun a b c d f g => kc a b c d f (e1.trans g)))
    | false => exact iteF (q2 rfl σ G1 H1 (e.trans e1) (rs.ext e1) S1 D (fun a b c d f g => kn a b c d f (e1.trans g)) (fun a b c d f g => kr a b c d f (e1.trans g)) (fun a b c d f g => kb a b c d f (e1.trans g)) (fun a b c d f g => kc a b c d f (e1.trans g)))
theorem ws_asg {g : TG} (h : We K G0 te ρ μ fun x μ1 => Wg K G0 g x ρ μ1 De.nx) : Ws K G0 (tAsg te g) ρ μ De := fun σ G H e rs S D kn kr kb kc =>
  h σ G H e rs S _ fun v G1 H1 x μ1 e1 rv S1 q => q v σ G1 H1 (e.trans e1) rv (rs.ext e1) S1 _ fun a b c d f g => kn a b c d f (e1.trans g)
theorem ws_set {i : Nat} (h : We K G0 te ρ μ fun x μ1 => De.nx (ρ.set i (some x)) μ1) : Ws K G0 (tAsg te (gName i)) ρ μ De := fun σ G H e rs S D kn kr kb kc =>
  h σ G H e rs S _ fun v G1 H1 x μ1 e1 rv S1 q => kn _ G1 H1 _ μ1 e1 (RelS.set (v := some v) (x := some x) rv i (rs.ext e1)) S1 q
variable {QG : Rho → Mu → Prop}
theorem wg_name {i : Nat} {x : PV} (q : QG (ρ.set i (some x)) μ) : Wg K G0 (gName i) x ρ μ QG := fun v σ G H e rv rs S R k =>
  k _ G H _ μ (Same.refl _) (RelS.set (v := some v) (x := some x) rv i rs) S q
theorem wgs_nil (q : QG ρ μ) : Wgs K G0 gNil [] ρ μ QG := fun vs σ G H e rv rs S R k => by
  cases rv
  exact ⟨rfl, k σ G H ρ μ (Same.refl _) rs S q⟩
theorem wgs_cons {g : TG} {gs : TGs} {x : PV} {xs : List PV} (h : Wg K G0 g x ρ μ fun ρ1 μ1 => Wgs K G0 gs xs ρ1 μ1 QG) : Wgs K G0 (gCons g gs) (x :: xs) ρ μ QG := fun vs σ G H e rv rs S R k => by
  cases rv with
  | cons r t =>
    exact ⟨_, _, rfl, h _ σ G H e r rs S _ fun σ' G' H' ρ' μ' e' rs' S' q => q _ σ' G' H' (e.trans e') (RelL.ext t e') rs' S' R fun a b c d f g => k a b c d f (e'.trans g)⟩
theorem wg_tup {n : Nat} {gs : TGs} {ds : List PyData} (hn : ds.length = n) (h : Wgs K G0 gs (ds.map .d) ρ μ QG) : Wg K G0 (gTup K n gs) (.t ds) ρ μ QG := fun v σ G H e rv rs S R k => by
  obtain ⟨a, xs, rfl, h1, h2⟩ := rp_tup rv
  exact ⟨a, xs, rfl, (.inl (.inl (S.sub _ _ h1))), (dqa_len h2).trans hn, h xs σ G H e (relL_of h2) rs S R k⟩
/-- o[i] = e, a list -/
def Wst (K : Frg) (G0 : Hp) (r : TSet) (o i x : PV) (μ : Mu) (Q : Mu → Prop) : Prop :=
  ∀ (vo vi v : V) (G H : Hp), Same G0 G → RelP K G vo o → RelP K G vi i → RelP K G v x → Sep K G μ H → ∀ R : Hp → Prop, (∀ G' H' μ', Same G G' → Sep K G' μ' H' → Q μ' → R H') → r vo vi v H R
theorem wg_sub {to ti : TE} {r : TSet} {x : PV} (h : We K G0 to ρ μ fun o μ1 => We K G0 ti ρ μ1 fun i μ2 => Wst K G0 r o i x μ2 fun μ3 => QG ρ μ3) : Wg K G0 (gSub to ti r) x ρ μ QG := fun v σ G H e rv rs S R k =>
  h σ G H e rs S _ fun vo G1 H1 o μ1 e1 ro S1 q1 => q1 σ G1 H1 (e.trans e1) (rs.ext e1) S1 _ fun vi G2 H2 i μ2 e2 ri S2 q2 =>
    q2 vo vi v G2 H2 (e.trans (e1.trans e2)) (ro.ext e2) ri (rv.ext (e1.trans e2)) S2 _ fun G3 H3 μ3 e3 S3 q3 => k σ G3 H3 ρ μ3 ((e1.trans e2).trans e3) (rs.ext ((e1.trans e2).trans e3)) S3 q3
theorem wst_list {QM : Mu → Prop} {a : Addr} {xs : List PV} {i : Int} {j : Nat} {x : PV} (hm : μ a = some (.lst xs)) (hj : ixN xs.length i = some j) (q : QM (mset μ a (.lst (xs.set j x)))) : Wst K G0 rSetL (.o a) (.i i) x μ QM := fun vo vi v G H e ro ri rv S R k => by
  cases (show vo = .ref a from ro)
  cases rp_int ri
  obtain ⟨hg, o, ho, ws, hvs, rw⟩ := S.mu a _ hm
  subst hvs
  exact ⟨a, ws, i, j, rfl, rfl, ho, by rw [rw.length]; exact hj, k G _ _ (Same.refl _) (S.put (m := .lst _) hm ⟨_, rfl, rel_set rv j rw⟩) q⟩
theorem ws_fld {f : Str} {tv : TE} (h : We K G0 tv ρ μ fun y μ1 => We K G0 ta ρ μ1 fun x μ2 => ∃ a C dx fs, x = .o a ∧ μ2 a = some (.ins C dx fs) ∧ Cls K C ∧ NoAttr K C f ∧ fs.length < 1000 ∧ De.nx ρ (mset μ2 a (.ins C dx (putP f y fs)))) :
    Ws K G0 (sFld K ta tv f) ρ μ De := fun σ G H e rs S D kn kr kb kc =>
  h σ G H e rs S _ fun v G1 H1 y μ1 e1 rv S1 q1 => q1 σ G1 H1 (e.trans e1) (rs.ext e1) S1 _ fun w G2 H2 x μ2 e2 rw S2 ⟨a, C, dx, fs, hx, hm, hc, hn, hl, q⟩ => by
    subst hx
    cases (show w = .ref a from rw)
    obtain ⟨hg, o, ho, vs, hvs, rl⟩ := S2.mu a _ hm
    subst hvs
    exact ⟨a, C, dx, vs, rfl, ho, hc, hn, by rw [rl.length]; exact hl, kn σ G2 _ ρ _ (e1.trans e2) (rs.ext (e1.trans e2)) (S2.put (m := .ins C dx (putP f y fs)) hm ⟨_, rfl, relF_put (rv.ext e2) rl⟩) q⟩

/-! ### loops -/
theorem ws_for {wi : TI} {g : TG} {tb : TS} (h : Wi K G0 wi ρ μ fun xs C μ1 => ∃ I : Nat → Rho → Mu → Prop, I 0 ρ μ1 ∧ (∀ i ρ μ, i ≤ xs.length → I i ρ μ → C μ) ∧
      (∀ i x ρ μ, xs[i]? = some x → I i ρ μ → Wg K G0 g x ρ μ fun ρ' μ' => Ws K G0 tb ρ' μ' { nx := I (i + 1), ct := I (i + 1), bk := De.nx, rt := De.rt }) ∧ ∀ ρ μ, I xs.length ρ μ → De.nx ρ μ) :
    Ws K G0 (tFor wi g tb) ρ μ De := fun σ G H e rs S D kn kr kb kc =>
  h σ G H e rs S _ fun J G1 H1 xs C μ1 e1 it S1 ⟨I, h0, hC, hs, hd⟩ => by
    refine ⟨fun i m σ H => ∃ (G2 : Hp) (ρ : Rho) (μ : Mu), m = xs.length - i ∧ i ≤ xs.length ∧ Same G1 G2 ∧ RelS K G2 σ ρ ∧ Sep K G2 μ H ∧ I i ρ μ, ⟨xs.length, G1, ρ, μ1, rfl, Nat.zero_le _, Same.refl _, rs.ext e1, S1, h0⟩, ?_⟩
    rintro i m σ2 H2 ⟨G2, ρ2, μ2, rfl, hi, e2, rs2, S2, hI⟩
    obtain ⟨go, stop, yld⟩ := it G2 μ2 H2 e2 (hC i ρ2 μ2 hi hI) S2
    by_cases hlt : i < xs.length
    · refine .inr ⟨go i hlt, fun σ3 H3 => ∃ (G3 : Hp) (ρ3 : Rho) (μ3 : Mu), Same G1 G3 ∧ RelS K G3 σ3 ρ3 ∧ Sep K G3 μ3 H3 ∧ I (i + 1) ρ3 μ3, ?_, ?_⟩
      · rintro σ3 H3 ⟨G3, ρ3, μ3, e3, rs3, S3, hI3⟩
        exact ⟨xs.length - (i + 1), by omega, G3, ρ3, μ3, rfl, hlt, e3, rs3, S3, hI3⟩
      · intro v H3 hy
        obtain ⟨G3, e3, rv, S3⟩ := yld i v H3 xs[i] (by simp [hlt]) hy
        have e13 := e2.trans e3
        refine hs i xs[i] ρ2 μ2 (by simp [hlt]) hI v σ2 G3 H3 (e.trans (e1.trans e13)) rv (rs2.ext e3) S3 _ fun σ4 G4 H4 ρ4 μ4 e4 rs4 S4 q4 => ?_
        have e14 := e13.trans e4
        exact q4 σ4 G4 H4 (e.trans (e1.trans e14)) rs4 S4 _ (fun σ' G' H' ρ' μ' e' rs' S' hI' => ⟨G', ρ', μ', e14.trans e', rs', S', hI'⟩) (fun a b c d f g => kr a b c d f (e1.trans (e14.trans g)))
          (fun a b c d f g => kn a b c d f (e1.trans (e14.trans g))) (fun σ' G' H' ρ' μ' e' rs' S' hI' => ⟨G', ρ', μ', e14.trans e', rs', S', hI'⟩)
    · have hieq : i = xs.length := by omega
      subst hieq
      exact .inl ⟨stop, kn σ2 G2 H2 ρ2 μ2 (e1.trans e2) rs2 S2 (hd ρ2 μ2 hI)⟩
/-- [elt for ..]: D the new list -/
theorem we_lcM {wi : TI} {g : TG} {tt : TT} {vs : List Nat} (h : Wi K G0 wi ρ μ fun xs C μ1 => ∀ D, μ1 D = none → ∃ I : Nat → List PV → Mu → Prop, I 0 [] (mset μ1 D (.lst [])) ∧
      (∀ i acc μ, i ≤ xs.length → I i acc μ → C μ ∧ μ D = some (.lst acc) ∧ acc.length ≤ 99999) ∧
      (∀ i x acc μ, xs[i]? = some x → I i acc μ → Wg K G0 g x (wipeD ρ vs) μ fun ρ' μ' => Wt K G0 tt ρ' μ' fun b μ2 => if b = true then We K G0 te ρ' μ2 fun y μ3 => μ3 D = some (.lst acc) ∧ I (i + 1) (acc ++ [y]) (mset μ3 D (.lst (acc ++ [y]))) else I (i + 1) acc μ2) ∧
      ∀ acc μ, I xs.length acc μ → Q (.o D) μ)
    (hw : ∀ (v : V) (σ : L2.St) (H : Hp) (R : L2.St → Hp → Prop), g v (L2.wipe σ vs) H R → g v (L2.wipe σ vs) H fun σ2 H2 => L2.wipe σ2 vs = L2.wipe σ vs ∧ R σ2 H2) :
    We K G0 (tLc wi g tt te vs) ρ μ Q := fun σ G H e rs S R k =>
  h σ G H e rs S _ fun J G1 H1 xs C μ1 e1 it S1 hh => by
    intro D hD
    obtain ⟨I, h0, hC, hs, hd⟩ := hh D (S1.mfree hD)
    refine ⟨fun i m H => ∃ (G2 : Hp) (acc : List PV) (μ : Mu), m = xs.length - i ∧ i ≤ xs.length ∧ Same G1 G2 ∧ Sep K G2 μ H ∧ I i acc μ, ⟨xs.length, G1, [], _, rfl, Nat.zero_le _, Same.refl _, S1.new (m := .lst []) hD ⟨[], rfl, .nil⟩, h0⟩, ?_⟩
    rintro i m H2 ⟨G2, acc, μ2, rfl, hi, e2, S2, hI⟩
    obtain ⟨hc, hmD, hlen⟩ := hC i acc μ2 hi hI
    obtain ⟨go, stop, yld⟩ := it G2 μ2 H2 e2 hc S2
    by_cases hlt : i < xs.length
    · refine .inr ⟨go i hlt, fun H3 => ∃ (G3 : Hp) (acc3 : List PV) (μ3 : Mu), Same G1 G3 ∧ Sep K G3 μ3 H3 ∧ I (i + 1) acc3 μ3, ?_, ?_⟩
      · rintro H3 ⟨G3, acc3, μ3, e3, S3, hI3⟩
        exact ⟨xs.length - (i + 1), by omega, G3, acc3, μ3, rfl, hlt, e3, S3, hI3⟩
      · intro v H3 hy
        obtain ⟨G3, e3, rv, S3⟩ := yld i v H3 xs[i] (by simp [hlt]) hy
        have e13 := e2.trans e3
        refine hw v σ H3 _ (hs i xs[i] acc μ2 (by simp [hlt]) hI v (L2.wipe σ vs) G3 H3 (e.trans (e1.trans e13)) rv ((rs.ext (e1.trans e13)).wipe vs) S3 _ fun σ4 G4 H4 ρ4 μ4 e4 rs4 S4 q4 => ?_)
        have e14 := e13.trans e4
        refine q4 σ4 G4 H4 (e.trans (e1.trans e14)) rs4 S4 _ fun b G5 H5 μ5 e5 S5 q5 => ?_
        cases b with
        | false =>
          rw [if_neg Bool.false_ne_true] at q5
          exact iteF ⟨G5, acc, μ5, e14.trans e5, S5, q5⟩
        | true =>
          rw [if_pos rfl] at q5
          refine iteT (q5 σ4 G5 H5 (e.trans (e1.trans (e14.trans e5))) (rs4.ext e5) S5 _ fun y G6 H6 x6 μ6 e6 r6 S6 ⟨hm6, hI6⟩ => ?_)
          obtain ⟨hg, o, ho, ws, hvs, rw⟩ := S6.mu D _ hm6
          subst hvs
          exact ⟨ws, ho, sz_lt (by rw [rw.length]; omega), G6, acc ++ [x6], _, (e14.trans e5).trans e6, S6.put (m := .lst (acc ++ [x6])) hm6 ⟨_, rfl, paired_app rw (.cons r6 .nil)⟩, hI6⟩
    · have hieq : i = xs.length := by omega
      subst hieq
      exact .inl ⟨stop, k _ G2 H2 (.o D) μ2 (e1.trans e2) rfl S2 (hd acc μ2 hI)⟩
end
end Dw

namespace Dw
open PySem L2
/-! ### a comprehension's own slots -/
theorem wipe_get (σ : L2.St) (j : Nat) : ∀ vs : List Nat, (L2.wipe σ vs)[j]? = if j ∈ vs then (σ[j]?).map (fun _ => none) else σ[j]?
  | [] => by simp [L2.wipe]
  | v :: vs => by
    show ((L2.wipe σ vs).set v none)[j]? = _
    rw [List.getElem?_set]
    by_cases h : v = j
    · subst h
      rw [if_pos rfl, if_pos List.mem_cons_self, L2.wipe_length]
      by_cases hl : v < σ.length
      · rw [if_pos hl, List.getElem?_eq_getElem hl]; rfl
      · rw [if_neg hl, List.getElem?_eq_none (by omega)]; rfl
    · rw [if_neg h, wipe_get σ j vs]
      by_cases hm : j ∈ vs
      · rw [if_pos hm, if_pos (List.mem_cons_of_mem _ hm)]
      · rw [if_neg hm, if_neg (by simp [hm]; exact fun e => h e.symm)]
theorem wipe_eq {σ σ' : L2.St} {vs : List Nat} (hl : σ.length = σ'.length) (h : ∀ j, j ∉ vs → σ[j]? = σ'[j]?) : L2.wipe σ vs = L2.wipe σ' vs := by
  apply List.ext_getElem?
  intro j
  rw [wipe_get, wipe_get]
  by_cases hm : j ∈ vs
  · rw [if_pos hm, if_pos hm]
    by_cases hj : j < σ.length
    · rw [List.getElem?_eq_getElem hj, List.getElem?_eq_getElem (by omega)]; rfl
    · rw [List.getElem?_eq_none (by omega), List.getElem?_eq_none (by omega)]
  · rw [if_neg hm, if_neg hm, h j hm]
theorem wipe_set {σ : L2.St} {vs : List Nat} {i : Nat} {x : Option V} (hi : i ∈ vs) : L2.wipe (σ.set i x) vs = L2.wipe σ vs :=
  wipe_eq (by simp) fun j hj => by rw [List.getElem?_set_ne]; intro z; subst z; exact hj hi
theorem wipe_wipe {σ : L2.St} {vs : List Nat} : L2.wipe (L2.wipe σ vs) vs = L2.wipe σ vs :=
  wipe_eq (L2.wipe_length _ _) fun j hj => by rw [wipe_get, if_neg hj]
abbrev HwOk (g : TG) (vs : List Nat) : Prop := ∀ (v : V) (σ : L2.St) (H : Hp) (R : L2.St → Hp → Prop), g v (L2.wipe σ vs) H R → g v (L2.wipe σ vs) H fun σ2 H2 => L2.wipe σ2 vs = L2.wipe σ vs ∧ R σ2 H2
theorem hw_name {i : Nat} {vs : List Nat} (hi : i ∈ vs) : HwOk (gName i) vs := fun v σ H R h => ⟨(wipe_set hi).trans wipe_wipe, h⟩
theorem hw_tup2 {K : Frg} {i j n : Nat} {vs : List Nat} (hi : i ∈ vs) (hj : j ∈ vs) : HwOk (gTup K n (gCons (gName i) (gCons (gName j) gNil))) vs := fun v σ H R h => by
  obtain ⟨a, xs, e, hs, hl, x, r, e1, y, r2, e2, e3, q⟩ := h
  exact ⟨a, xs, e, hs, hl, x, r, e1, y, r2, e2, e3, (wipe_set hj).trans ((wipe_set hi).trans wipe_wipe), q⟩
theorem hw_tup3 {K : Frg} {i j k n : Nat} {vs : List Nat} (hi : i ∈ vs) (hj : j ∈ vs) (hk : k ∈ vs) : HwOk (gTup K n (gCons (gName i) (gCons (gName j) (gCons (gName k) gNil)))) vs := fun v σ H R h => by
  obtain ⟨a, xs, e, hs, hl, x, r, e1, y, r2, e2, z, r3, e3, e4, q⟩ := h
  exact ⟨a, xs, e, hs, hl, x, r, e1, y, r2, e2, z, r3, e3, e4, (wipe_set hk).trans ((wipe_set hj).trans ((wipe_set hi).trans wipe_wipe)), q⟩
section
variable {K : Frg} {G0 : Hp} {ρ : Rho} {μ : Mu} {Q : PV → Mu → Prop} {ta tb te : TE} {t : TA} {De : DE} {s u : TS}
/-! ### what is walked -/
variable {QI : List PV → (Mu → Prop) → Mu → Prop}
abbrev tru : Mu → Prop := fun _ => True
theorem wi_rng {ta : TA} (h : Wa K G0 ta ρ μ fun xs μ1 => ∃ j : Int, xs = [.i j] ∧ -100000 ≤ j ∧ j ≤ 100000 ∧ QI ((List.range j.toNat).map fun (i : Nat) => PV.i (i : Int)) tru μ1) : Wi K G0 (iRng1 ta) ρ μ QI := fun σ G H e rs S R k =>
  h σ G H e rs S _ fun vs G1 H1 xs μ1 e1 rl S1 ⟨j, hx, h0, h1, q⟩ => by
    subst hx
    obtain ⟨v, rfl, rv⟩ := rl1 rl
    cases rp_int rv
    refine ⟨j, rfl, by omega, by omega, k _ G1 H1 _ _ μ1 e1 (fun G' μ' H' e' _ S' => ?_) S1 q⟩
    have hlen : ((List.range j.toNat).map fun (i : Nat) => PV.i (i : Int)).length = j.toNat := by simp
    rw [hlen]
    refine ⟨fun i hi => hi, Nat.le_refl _, fun i v H'' x hx hy => ?_⟩
    obtain ⟨rfl, rfl⟩ := hy
    have hi : i < j.toNat := by
      have := (List.getElem?_eq_some_iff.mp hx).1
      rwa [hlen] at this
    rw [List.getElem?_map, List.getElem?_range hi] at hx
    cases hx
    refine ⟨G', Same.refl _, ?_, S'⟩
    rw [Int.zero_add]
    exact mk_int _
theorem wi_rng2 {ta : TA} (h : Wa K G0 ta ρ μ fun xs μ1 => ∃ a b : Int, xs = [.i a, .i b] ∧ -100000 ≤ a ∧ a ≤ 100000 ∧ -100000 ≤ b ∧ b ≤ 100000 ∧ QI ((List.range (b - a).toNat).map fun (i : Nat) => PV.i (a + (i : Int))) tru μ1) : Wi K G0 (iRng2 ta) ρ μ QI := fun σ G H e rs S R k =>
  h σ G H e rs S _ fun vs G1 H1 xs μ1 e1 rl S1 ⟨a, b, hx, h0, h1, h2, h3, q⟩ => by
    subst hx
    obtain ⟨v, w, rfl, rv, rw⟩ := rl2 rl
    cases rp_int rv; cases rp_int rw
    refine ⟨a, b, rfl, ⟨by omega, by omega, by omega, by omega⟩, k _ G1 H1 _ _ μ1 e1 (fun G' μ' H' e' _ S' => ?_) S1 q⟩
    have hlen : ((List.range (b - a).toNat).map fun (i : Nat) => PV.i (a + (i : Int))).length = (b - a).toNat := by simp
    rw [hlen]
    refine ⟨fun i hi => hi, Nat.le_refl _, fun i v H'' x hx hy => ?_⟩
    obtain ⟨rfl, rfl⟩ := hy
    have hi : i < (b - a).toNat := by
      have := (List.getElem?_eq_some_iff.mp hx).1
      rwa [hlen] at this
    rw [List.getElem?_map, List.getElem?_range hi] at hx
    cases hx
    exact ⟨G', Same.refl _, mk_int _, S'⟩
theorem itd_tup {G : Hp} {a : Addr} {xs : List V} {ds : List PyData} (h1 : G a = some (.tup xs)) (h2 : DqAll K G xs ds) : ItD K G (Itt K a) (ds.map .d) tru := fun G' μ H e _ S => by
  have h3 : SqT K H a xs := .inl (.inl ((e.trans S.sub) _ _ h1))
  rw [List.length_map, ← dqa_len h2]
  refine ⟨fun i hi => ⟨xs, xs[i], h3, by simp [hi]⟩, ⟨xs, h3, Nat.le_refl _⟩, fun i v H' x hx hy => ?_⟩
  obtain ⟨rfl, hy⟩ := hy
  rw [List.getElem?_map] at hx
  cases hd : ds[i]? with
  | none => rw [hd] at hx; cases hx
  | some d =>
    rw [hd] at hx; cases hx
    obtain ⟨w, hw, rw⟩ := dqa_get h2 hd
    have := hy xs h3
    rw [hw] at this; cases this
    exact ⟨G', Same.refl _, dq_ext e rw, S⟩
theorem itd_lst {G : Hp} {a : Addr} {xs : List V} {ds : List PyData} (h1 : G a = some (.lst xs)) (h2 : DqAll K G xs ds) : ItD K G (Itl K a) (ds.map .d) tru := fun G' μ H e _ S => by
  have h3 : SqL K H a xs := .inl (.inl ((e.trans S.sub) _ _ h1))
  rw [List.length_map, ← dqa_len h2]
  refine ⟨fun i hi => ⟨xs, xs[i], h3, by simp [hi]⟩, ⟨xs, h3, Nat.le_refl _⟩, fun i v H' x hx hy => ?_⟩
  obtain ⟨rfl, hy⟩ := hy
  rw [List.getElem?_map] at hx
  cases hd : ds[i]? with
  | none => rw [hd] at hx; cases hx
  | some d =>
    rw [hd] at hx; cases hx
    obtain ⟨w, hw, rw⟩ := dqa_get h2 hd
    have := hy xs h3
    rw [hw] at this; cases this
    exact ⟨G', Same.refl _, dq_ext e rw, S⟩
theorem wi_tup (h : We K G0 te ρ μ fun x μ1 => ∃ ds, x = .t ds ∧ QI (ds.map .d) tru μ1) : Wi K G0 (iTup K te) ρ μ QI := fun σ G H e rs S R k =>
  h σ G H e rs S _ fun v G1 H1 x μ1 e1 rv S1 ⟨ds, hx, q⟩ => by
    subst hx
    obtain ⟨a, xs, rfl, h1, h2⟩ := rp_tup rv
    exact ⟨a, rfl, ⟨xs, (.inl (.inl (S1.sub _ _ h1)))⟩, k _ G1 H1 _ _ μ1 e1 (itd_tup h1 h2) S1 q⟩
theorem wi_lst (h : We K G0 te ρ μ fun x μ1 => ∃ ds, x = .l ds ∧ QI (ds.map .d) tru μ1) : Wi K G0 (iList K te) ρ μ QI := fun σ G H e rs S R k =>
  h σ G H e rs S _ fun v G1 H1 x μ1 e1 rv S1 ⟨ds, hx, q⟩ => by
    subst hx
    obtain ⟨a, xs, rfl, h1, h2⟩ := rp_lst rv
    exact ⟨a, rfl, ⟨xs, .inl (.inl (S1.sub _ _ h1))⟩, k _ G1 H1 _ _ μ1 e1 (itd_lst h1 h2) S1 q⟩
/-- a list that may change, but does not while it is walked -/
theorem wi_obj (h : We K G0 te ρ μ fun x μ1 => ∃ a xs, x = .o a ∧ μ1 a = some (.lst xs) ∧ QI xs (fun μ => μ a = some (.lst xs)) μ1) : Wi K G0 (iList K te) ρ μ QI := fun σ G H e rs S R k =>
  h σ G H e rs S _ fun v G1 H1 x μ1 e1 rv S1 ⟨a, xs, hx, hm, q⟩ => by
    subst hx
    cases (show v = .ref a from rv)
    obtain ⟨hg, o, ho, ws, hvs, rw⟩ := S1.mu a _ hm
    subst hvs
    refine ⟨a, rfl, ⟨ws, .inl (.inl ho)⟩, k _ G1 H1 xs _ μ1 e1 (fun G' μ' H' e' hc S' => ?_) S1 q⟩
    obtain ⟨_, o, ho', ws', hvs, rw'⟩ := S'.mu a _ hc
    subst hvs
    have h3 : SqL K H' a ws' := .inl (.inl ho')
    rw [← rw'.length]
    refine ⟨fun i hi => ⟨ws', ws'[i], h3, by simp [hi]⟩, ⟨ws', h3, Nat.le_refl _⟩, fun i v H'' x hx hy => ?_⟩
    obtain ⟨rfl, hy⟩ := hy
    obtain ⟨w, hw, rw2⟩ := rel_get rw' hx
    have := hy ws' h3
    rw [hw] at this; cases this
    exact ⟨G', Same.refl _, rw2, S'⟩
/-- zip of two tuples, of two lists, of one length -/
theorem zip_pv {ds es : List PyData} {i : Nat} {x : PV} (hx : (List.zipWith (fun a b => PV.t [a, b]) ds es)[i]? = some x) : ∃ d e, ds[i]? = some d ∧ es[i]? = some e ∧ x = .t [d, e] := by
  rw [List.getElem?_zipWith] at hx
  cases hd : ds[i]? with
  | none => rw [hd] at hx; cases hx
  | some d =>
    cases he : es[i]? with
    | none => rw [hd, he] at hx; cases hx
    | some e => rw [hd, he] at hx; cases hx; exact ⟨d, e, rfl, rfl, rfl⟩
theorem wi_zipT {ta : TA} (h : Wa K G0 ta ρ μ fun xs μ1 => ∃ ds es, xs = [.t ds, .t es] ∧ ds.length = es.length ∧ QI (List.zipWith (fun a b => PV.t [a, b]) ds es) tru μ1) : Wi K G0 (RZ.iZipA K ta) ρ μ QI := fun σ G H e rs S R k =>
  h σ G H e rs S _ fun vs G1 H1 xs μ1 e1 rl S1 ⟨ds, es, hx, hl, q⟩ => by
    subst hx
    obtain ⟨v, w, rfl, rv, rw⟩ := rl2 rl
    obtain ⟨a, xs, rfl, h1, h2⟩ := rp_tup rv
    obtain ⟨b, ys, rfl, h3, h4⟩ := rp_tup rw
    refine ⟨a, b, xs, ys, rfl, .inr ⟨(.inl (.inl (S1.sub _ _ h1))), (.inl (.inl (S1.sub _ _ h3))), k _ G1 H1 _ _ μ1 e1 (fun G' μ' H' e' _ S' => ?_) S1 q⟩⟩
    have q1 : SqT K H' a xs := (.inl (.inl ((e'.trans S'.sub) _ _ h1)))
    have q3 : SqT K H' b ys := (.inl (.inl ((e'.trans S'.sub) _ _ h3)))
    have l1 := dqa_len h2
    have l2 := dqa_len h4
    have hlen : (List.zipWith (fun a b => PV.t [a, b]) ds es).length = xs.length := by rw [List.length_zipWith]; omega
    rw [hlen]
    refine ⟨fun i hi => ⟨xs, ys, xs[i], ys[i]'(by omega), q1, q3, by simp [hi], by simp [show i < ys.length by omega]⟩, ⟨xs, ys, q1, q3, .inl (Nat.le_refl _)⟩, fun i v H'' x hx hy => ?_⟩
    obtain ⟨T, x1, y1, rfl, hT, rfl, hx1, hy1⟩ := hy
    obtain ⟨d, f, hd, hf, rfl⟩ := zip_pv hx
    obtain ⟨w1, hw1, rw1⟩ := dqa_get h2 hd
    obtain ⟨w2, hw2, rw2⟩ := dqa_get h4 hf
    have z1 : some w1 = some x1 := hw1.symm.trans (hx1 xs q1)
    have z2 : some w2 = some y1 := hw2.symm.trans (hy1 ys q3)
    injection z1 with z1
    injection z2 with z2
    subst z1
    subst z2
    have hg := S'.gfree hT
    have en := same_new (o := HO.tup [w1, w2]) hg
    exact ⟨_, en, mk_tup upd_same (.cons (dq_ext (e'.trans en) rw1) (.cons (dq_ext (e'.trans en) rw2) .nil)), S'.fix hT⟩
/-! ### comprehensions without a change -/
theorem we_lcO {wi : TI} {g : TG} {tt : TT} {vs : List Nat} (f : PV → Option PyData) (hw : HwOk g vs) (h : Wi K G0 wi ρ μ fun xs C μ1 => xs.length ≤ 99999 ∧ (∀ μ', Sub μ1 μ' → C μ') ∧
      (∀ x, x ∈ xs → ∀ μ', Sub μ1 μ' → Wg K G0 g x (wipeD ρ vs) μ' fun ρ' μ'' => Sub μ' μ'' ∧ Wt K G0 tt ρ' μ'' fun b μ2 => Sub μ' μ2 ∧ (b = true → We K G0 te ρ' μ2 fun y μ3 => Sub μ' μ3 ∧ ∃ d, f x = some d ∧ y = .d d) ∧ (b = false → f x = none)) ∧
      ∀ D, μ1 D = none → Q (.o D) (mset μ1 D (.lst ((xs.filterMap f).map .d)))) : We K G0 (tLc wi g tt te vs) ρ μ Q := by
  refine we_less (we_lcM ?_ hw)
  refine fun σ G H e rs S R k => h σ G H e rs S R fun J G' H' xs C μ' e' it S' ⟨hl, hC, hs, hq⟩ => k J G' H' xs C μ' e' it S' ?_
  intro D hD
  have hsub : ∀ acc, Sub μ' (mset μ' D (.lst acc)) := fun acc => Sub.new hD
  refine ⟨fun i acc μ => acc = ((xs.take i).filterMap f).map .d ∧ Sub (mset μ' D (.lst acc)) μ, ⟨rfl, Sub.refl _⟩, ?_, ?_, ?_⟩
  · rintro i acc μ hi ⟨rfl, hs2⟩
    refine ⟨hC _ ((hsub _).trans hs2), hs2 D _ mset_same, ?_⟩
    rw [List.length_map]
    exact Nat.le_trans (List.length_filterMap_le _ _) (Nat.le_trans (by rw [List.length_take]; omega) hl)
  · rintro i x acc μ hx ⟨rfl, hs2⟩
    have hmem : x ∈ xs := List.mem_of_getElem? hx
    have htake : xs.take (i + 1) = xs.take i ++ [x] := by rw [List.take_add_one, hx]; rfl
    have key := hs x hmem μ ((hsub _).trans hs2)
    intro v σ2 G2 H2 e2 rv rs2 S2 R2 k2
    refine key v σ2 G2 H2 e2 rv rs2 S2 R2 fun σ3 G3 H3 ρ3 μ3 e3 rs3 S3 ⟨hs3, q3⟩ => k2 σ3 G3 H3 ρ3 μ3 e3 rs3 S3 ?_
    intro σ4 G4 H4 e4 rs4 S4 R4 k4
    refine q3 σ4 G4 H4 e4 rs4 S4 R4 fun b G5 H5 μ5 e5 S5 ⟨hs5, qt, qf⟩ => k4 b G5 H5 μ5 e5 S5 ?_
    cases b with
    | false =>
      rw [if_neg Bool.false_ne_true]
      refine ⟨?_, hs2.trans hs5⟩
      rw [htake, List.filterMap_append, List.filterMap_cons, qf rfl]; simp
    | true =>
      rw [if_pos rfl]
      refine we_mono (qt rfl) fun y μ6 ⟨hs6, d, hd, hy⟩ => ?_
      subst hy
      refine ⟨hs6 D _ (hs2 D _ mset_same), ?_, ?_⟩
      · rw [htake, List.filterMap_append, List.filterMap_cons, hd]; simp
      · intro b m hb
        by_cases hbD : b = D
        · subst hbD; rw [mset_same] at hb ⊢; exact hb
        · rw [mset_ne hbD] at hb ⊢
          exact hs6 b m (hs2 b m (by rw [mset_ne hbD]; exact hb))
  · rintro acc μ ⟨rfl, hs2⟩
    rw [List.take_length] at hs2
    exact ⟨_, hs2, hq D hD⟩
/-- the list is data from now on -/
theorem we_lc {wi : TI} {g : TG} {tt : TT} {vs : List Nat} (f : PV → Option PyData) (hw : HwOk g vs) (h : Wi K G0 wi ρ μ fun xs C μ1 => xs.length ≤ 99999 ∧ (∀ μ', Sub μ1 μ' → C μ') ∧
      (∀ x, x ∈ xs → ∀ μ', Sub μ1 μ' → Wg K G0 g x (wipeD ρ vs) μ' fun ρ' μ'' => Sub μ' μ'' ∧ Wt K G0 tt ρ' μ'' fun b μ2 => Sub μ' μ2 ∧ (b = true → We K G0 te ρ' μ2 fun y μ3 => Sub μ' μ3 ∧ ∃ d, f x = some d ∧ y = .d d) ∧ (b = false → f x = none)) ∧
      Q (.l (xs.filterMap f)) μ1) : We K G0 (tLc wi g tt te vs) ρ μ Q := by
  refine we_freeze (we_lcO f hw ?_)
  refine fun σ G H e rs S R k => h σ G H e rs S R fun J G' H' xs C μ' e' it S' ⟨hl, hC, hs, hq⟩ => k J G' H' xs C μ' e' it S' ⟨hl, hC, hs, fun D hD => ⟨D, _, rfl, mset_same, ?_⟩⟩
  rw [mdel_mset hD]
  exact hq
end
end Dw

namespace Dw
open PySem L2 PyProof.Rows
section
variable {K : Frg} {G0 : Hp} {ρ : Rho} {μ : Mu} {Q : PV → Mu → Prop} {ta tb te td ty tv : TE} {t : TA} {De : DE} {s u : TS}
/-! ### dicts with keys that are whole numbers or texts -/
abbrev RelK (K : Frg) (G : Hp) : List (Key × V) → List (Key × PV) → Prop := Paired (fun (p : Key × V) (q : Key × PV) => p.1 = q.1 ∧ RelP K G p.2 q.2)
def kP : Key → PV
  | .inl i => .i i
  | .inr x => .s x
theorem kP_rel {G : Hp} {v : V} {k : Key} (h : RelP K G v (kP k)) : v = kV k := by
  cases k with
  | inl i => exact rp_int h
  | inr x => exact rp_str h
def valP (kvs : List (Key × PV)) (k : Key) : Option PV := (kvs.find? fun kv => decide (kv.1 = k)).map (·.2)
def putKP (kvs : List (Key × PV)) (k : Key) (v : PV) : List (Key × PV) :=
  if (kvs.any fun kv => decide (kv.1 = k)) = true then kvs.map (fun kv => if kv.1 = k then (kv.1, v) else kv) else kvs ++ [(k, v)]
theorem relK_find {G : Hp} {k : Key} : ∀ {vs : List (Key × V)} {kvs : List (Key × PV)}, RelK K G vs kvs → (valP kvs k = none ∧ valV vs k = none) ∨ ∃ y v, valP kvs k = some y ∧ valV vs k = some v ∧ RelP K G v y
  | _, _, .nil => .inl ⟨rfl, rfl⟩
  | (g, v) :: _, (g', x) :: _, .cons ⟨e, r⟩ t => by
    cases (show g = g' from e)
    unfold valP valV
    by_cases hg : g = k
    · subst hg
      simp only [List.find?_cons, decide_true, Option.map_some]
      exact .inr ⟨x, v, rfl, rfl, r⟩
    · simp only [List.find?_cons, decide_eq_false hg]
      exact relK_find t
theorem relK_some {G : Hp} {k : Key} {vs : List (Key × V)} {kvs : List (Key × PV)} (h : RelK K G vs kvs) : (valV vs k).isSome = (valP kvs k).isSome := by
  rcases relK_find (k := k) h with ⟨h1, h2⟩ | ⟨y, v, h1, h2, _⟩ <;> rw [h1, h2] <;> rfl
theorem relK_get {G : Hp} {k : Key} {vs : List (Key × V)} {kvs : List (Key × PV)} {y : PV} (h : RelK K G vs kvs) (e : valP kvs k = some y) : ∃ v, valV vs k = some v ∧ RelP K G v y := by
  rcases relK_find (k := k) h with ⟨h1, h2⟩ | ⟨y', v, h1, h2, r⟩
  · rw [h1] at e; cases e
  · rw [h1] at e; cases e; exact ⟨v, h2, r⟩
theorem relK_any {G : Hp} {k : Key} : ∀ {vs : List (Key × V)} {kvs : List (Key × PV)}, RelK K G vs kvs → (vs.any fun kv => decide (kv.1 = k)) = (kvs.any fun kv => decide (kv.1 = k))
  | _, _, .nil => rfl
  | (g, v) :: _, (g', x) :: _, .cons ⟨e, r⟩ t => by
    cases (show g = g' from e)
    simp only [List.any_cons, relK_any t]
theorem relK_put {G : Hp} {k : Key} {v : V} {y : PV} (r : RelP K G v y) {vs : List (Key × V)} {kvs : List (Key × PV)} (h : RelK K G vs kvs) : RelK K G (putK vs k v) (putKP kvs k y) := by
  unfold putK putKP
  rw [relK_any h]
  split
  · rename_i hh
    clear hh
    induction h with
    | nil => exact .nil
    | @cons p q l1 l2 e t ih =>
      obtain ⟨g, w⟩ := p
      obtain ⟨g', x⟩ := q
      obtain ⟨e1, e2⟩ := e
      cases (show g = g' from e1)
      refine .cons ?_ ih
      show (if g = k then (g, v) else (g, w)).1 = (if g = k then (g, y) else (g, x)).1 ∧ RelP K G (if g = k then (g, v) else (g, w)).2 (if g = k then (g, y) else (g, x)).2
      by_cases hg : g = k
      · rw [if_pos hg, if_pos hg]; exact ⟨rfl, r⟩
      · rw [if_neg hg, if_neg hg]; exact ⟨rfl, e2⟩
  · exact paired_app h (.cons ⟨rfl, r⟩ .nil)
theorem relK_keys {G : Hp} : ∀ {vs : List (Key × V)} {kvs : List (Key × PV)}, RelK K G vs kvs → vs.map (·.1) = kvs.map (·.1)
  | _, _, .nil => rfl
  | (g, v) :: _, (g', x) :: _, .cons ⟨e, r⟩ t => by
    cases (show g = g' from e)
    simp only [List.map_cons, relK_keys t]
theorem we_dnew (h : ∀ p, μ p = none → Q (.o p) (mset μ p (.dk []))) : We K G0 tDNewK ρ μ Q := fun σ G H e rs S R k => fun p hp =>
  k _ G _ (.o p) _ (Same.refl _) rfl (S.new (m := .dk []) hp ⟨[], rfl, .nil⟩) (h p (S.mfree hp))
theorem we_dget (h : We K G0 td ρ μ fun x μ1 => We K G0 ty ρ μ1 fun y μ2 => ∃ a kvs k z, x = .o a ∧ y = kP k ∧ μ2 a = some (.dk kvs) ∧ valP kvs k = some z ∧ Q z μ2) : We K G0 (tDGet td ty) ρ μ Q := fun σ G H e rs S R k =>
  h σ G H e rs S _ fun v G1 H1 x μ1 e1 rv S1 q1 => q1 σ G1 H1 (e.trans e1) (rs.ext e1) S1 _ fun w G2 H2 y μ2 e2 rw S2 ⟨a, kvs, kk, z, hx, hy, hm, hz, q⟩ => by
    subst hx; subst hy
    cases (show v = .ref a from rv)
    cases kP_rel rw
    obtain ⟨hg, o, ho, vs, hvs, rl⟩ := S2.mu a _ hm
    subst hvs
    obtain ⟨u, h3, h4⟩ := relK_get rl hz
    exact ⟨a, u, rfl, by rw [← h3]; exact DGet.k ho, k u G2 H2 z μ2 (e1.trans e2) h4 S2 q⟩
theorem we_din (h : We K G0 ty ρ μ fun y μ1 => We K G0 td ρ μ1 fun x μ2 => ∃ a kvs k, x = .o a ∧ y = kP k ∧ μ2 a = some (.dk kvs) ∧ Q (.b (valP kvs k).isSome) μ2) : We K G0 (tDIn ty td) ρ μ Q := fun σ G H e rs S R k =>
  h σ G H e rs S _ fun w G1 H1 y μ1 e1 rw S1 q1 => q1 σ G1 H1 (e.trans e1) (rs.ext e1) S1 _ fun v G2 H2 x μ2 e2 rv S2 ⟨a, kvs, kk, hx, hy, hm, q⟩ => by
    subst hx; subst hy
    cases (show v = .ref a from rv)
    cases kP_rel rw
    obtain ⟨hg, o, ho, vs, hvs, rl⟩ := S2.mu a _ hm
    subst hvs
    refine ⟨a, _, rfl, DGet.k ho, ?_⟩
    rw [relK_some rl]
    exact k _ G2 H2 _ μ2 (e1.trans e2) (mk_bl _) S2 q
theorem ws_dput (h : We K G0 tv ρ μ fun z μ1 => We K G0 td ρ μ1 fun x μ2 => We K G0 ty ρ μ2 fun y μ3 => ∃ a kvs k, x = .o a ∧ y = kP k ∧ μ3 a = some (.dk kvs) ∧ kvs.length < 100000 ∧ De.nx ρ (mset μ3 a (.dk (putKP kvs k z)))) :
    Ws K G0 (sDPut td ty tv) ρ μ De := fun σ G H e rs S D kn kr kb kc =>
  h σ G H e rs S _ fun w G1 H1 z μ1 e1 rw S1 q1 => q1 σ G1 H1 (e.trans e1) (rs.ext e1) S1 _ fun v G2 H2 x μ2 e2 rv S2 q2 => q2 σ G2 H2 (e.trans (e1.trans e2)) (rs.ext (e1.trans e2)) S2 _ fun y G3 H3 y3 μ3 e3 ry S3 ⟨a, kvs, kk, hx, hy, hm, hl, q⟩ => by
    subst hx; subst hy
    cases (show v = .ref a from rv)
    cases kP_rel ry
    obtain ⟨hg, o, ho, vs, hvs, rl⟩ := S3.mu a _ hm
    subst hvs
    have e13 := (e1.trans e2).trans e3
    exact ⟨a, _, rfl, DPut.k ho (sz_lt (by rw [rl.length]; exact hl)), kn σ G3 _ ρ _ e13 (rs.ext e13) (S3.put (m := .dk _) hm ⟨_, rfl, relK_put (rw.ext (e2.trans e3)) rl⟩) q⟩
/-- sorted(d), whole numbers as keys -/
abbrev rSortDI : List V → Hp → VK → Prop := fun xs H Q => ∃ (a : Addr) (kvs : List (Key × V)) (ks : List Int), xs = [.ref a] ∧ Rd H a (.dK kvs) ∧ kvs.map (·.1) = ks.map Sum.inl ∧ ks.length < 64 ∧ ∀ (ys : List Int) (p : Addr), ys.Perm ks → ys.Pairwise (· ≤ ·) → H p = none → Q (.ref p) (upd H p (.lst (ys.map V.int)))
theorem wc_sortedD {a : Addr} {kvs : List (Key × PV)} {ks : List Int} (hm : μ a = some (.dk kvs)) (hk : kvs.map (·.1) = ks.map Sum.inl) (hl : ks.length < 64) (q : ∀ ys : List Int, ys.Perm ks → ys.Pairwise (· ≤ ·) → Q (.l (ys.map .int)) μ) : Wc K G0 rSortDI [.o a] μ Q := fun vs G H e rl S R k => by
  obtain ⟨v, rfl, rv⟩ := rl1 rl
  cases (show v = .ref a from rv)
  obtain ⟨hg, o, ho, ws, hvs, rw⟩ := S.mu a _ hm
  subst hvs
  refine ⟨a, ws, ks, rfl, .inl ho, (relK_keys rw).trans hk, hl, fun ys p hp hw hn => ?_⟩
  have hg := S.gfree hn
  exact k _ (upd G p (.lst (ys.map V.int))) _ _ μ (same_new hg) (mk_lst upd_same (ints_dq _)) (S.fix hn) (q ys hp hw)
/-! ### the module's tuple of texts -/
theorem strs_dq {G : Hp} : ∀ ss : List Str, DqAll K G (ss.map V.str) (ss.map PyData.str)
  | [] => .nil
  | n :: ns => .cons (.str n) (strs_dq ns)
theorem allStr : ∀ ss : List Str, (ss.map PyData.str).all flatD = true
  | [] => rfl
  | s :: ss => by simp only [List.map_cons, List.all_cons, allStr ss]; rfl
theorem anyStr (z : Str) : ∀ ss : List Str, ((ss.map PyData.str).any fun y => PyData.eqv y (.str z)) = decide (z ∈ ss)
  | [] => rfl
  | x :: ss => by
    simp only [List.map_cons, List.any_cons, anyStr z ss, PyData.eqv]
    by_cases hx : x = z
    · subst hx; simp
    · have h1 : (x == z) = false := beq_eq_false_iff_ne.mpr hx
      have h2 : ¬ z = x := fun e => hx e.symm
      rw [h1]; simp [h2]
theorem w2_inK {neg : Bool} {z : Str} {ss : List Str} (q : Q (.b (if neg then !decide (z ∈ ss) else decide (z ∈ ss))) μ) : W2 K G0 (rIn K neg) (.s z) (.kt ss) μ Q := fun v w G H e rv rw S R k => by
  obtain ⟨a, rfl, h1, _⟩ := rw
  cases rp_str rv
  refine ⟨a, _, rfl, .inr (h1 H), rfl, allFlat_eq (K := K) (G := G) (strs_dq ss) (allStr ss), ?_⟩
  rw [inV_eq (K := K) (G := G) (.str z) rfl (strs_dq ss) (allStr ss)]
  have he := anyStr z ss
  rw [he]
  exact k _ G H _ μ (Same.refl _) (mk_bl _) S q
abbrev rIdxK (K : Frg) : V → List V → Hp → VK → Prop := fun x xs H Q => ∃ p, ∃ ys : List Str, ∃ z j, x = .ref p ∧ xs = [.str z] ∧ SqT K H p (ys.map V.str) ∧ ys[j]? = some z ∧ (∀ m, m < j → ys[m]? ≠ some z) ∧ Q (.int (j : Nat)) H
theorem tyd_k {ss : List Str} : TyD K "tuple" (.kt ss) μ := fun v G H rv S => by
  obtain ⟨a, rfl, _, h⟩ := rv
  exact .inr (.inl ⟨rfl, h⟩)
theorem wm_idxK {ss : List Str} {z : Str} {j : Nat} (hj : ss[j]? = some z) (hn : ∀ m, m < j → ss[m]? ≠ some z) (q : Q (.i (j : Int)) μ) : Wm K G0 (rIdxK K) (.kt ss) [.s z] μ Q := fun v vs G H e rv rl S R k => by
  obtain ⟨a, rfl, h1, _⟩ := rv
  obtain ⟨w, rfl, rw⟩ := rl1 rl
  cases rp_str rw
  exact ⟨a, ss, z, j, rfl, rfl, h1 H, hj, hn, k _ G H _ μ (Same.refl _) (mk_int _) S q⟩
/-! ### list.index of data -/
theorem wm_indexD {ds : List PyData} {d z : PyData} {j : Nat} (hs : SeqAt.shaped (.list ds) = true) (hd : SeqAt.shaped d = true) (hj : ds[j]? = some z) (hz : PyData.eqv z d = true) (hn : ∀ (m : Nat) (z' : PyData), m < j → ds[m]? = some z' → PyData.eqv z' d = false) (q : Q (.i (j : Int)) μ) : Wm K G0 (rIndexD K) (.l ds) [.d d] μ Q := fun v vs G H e rv rl S R k => by
  obtain ⟨w, rfl, rw⟩ := rl1 rl
  obtain ⟨a, xs, rfl, h1, h2⟩ := rp_lst rv
  exact ⟨a, w, d, ds, j, z, rfl, rfl, dq_dp (dq_ext S.sub rv), dq_dp (dq_ext S.sub rw), hs, hd, hj, hz, hn, k _ G H _ μ (Same.refl _) (mk_int _) S q⟩
end
/-! ### a def keeps its promise -/
section
variable {P : Program} {w : World} {K : Frg} {mg : Str → Option Value} {base : Heap}
/-- what a body over data is to reach: the promise, objects of its own forgotten -/
def retD (post : PV → Mu → Prop) : DE := { nx := fun _ μ' => ∃ μ'', Sub μ'' μ' ∧ post .n μ'', rt := fun x μ' => ∃ μ'', Sub μ'' μ' ∧ post x μ'' }
theorem ok_D {α : Type} {inp : α → List PV} {pre : α → Mu → Prop} {post : α → Mu → PV → Mu → Prop} {x qual : Str} {st : Stmt} {f : Addr} {fd : FuncData} {N ps : List Str} {k : Nat} (F : Fun K x qual st f fd) (S : FnScope N ps (defScope st)) (hlen : ∀ a, (inp a).length = ps.length)
    (hbody : ∀ (cdv : Value) (A : Around) (outer : List Env) (s : Shared) (H : Hp) (E : XK), Room k (A.deeper (envOfC qual (defScope st) s.heap.objs.size f cdv)) → ∀ a μ, pre a μ →
      ∃ t, PSs (cxOf CX0 P w K mg base N qual (defScope st) f cdv A outer s H E).nox (defBody st) t ∧ ∀ G0, Ws K G0 t (startD N (inp a)) μ (retD (post a μ))) : FnOk P w K mg base CX0 (k + 1) f fd ps (SpA K inp pre post) := by
  refine F.ok S (fun vs H Q E h => ?_) (fun cdv A outer s H vs Q E hr h => ?_)
  · obtain ⟨G, μ, a, rl, _⟩ := h
    rw [rl.length]; exact hlen a
  · obtain ⟨G, μ, a, rl, sep, hp, hQ⟩ := h
    obtain ⟨t, ht, hw⟩ := hbody cdv A outer s H E hr a μ hp
    refine ⟨t, ht, hw G (L2.start N vs) G H (Same.refl _) (relS_start rl) sep _ ?_ ?_ (fun _ _ _ _ _ _ _ _ z => z.elim) (fun _ _ _ _ _ _ _ _ z => z.elim)⟩
    · rintro σ' G' H' ρ' μ' e' rs' S' ⟨μ'', hs, hpo⟩
      exact hQ _ G' H' .n μ'' e' mk_non (S'.less hs) hpo
    · rintro v G' H' x μ' e' rv S' ⟨μ'', hs, hpo⟩
      exact hQ v G' H' x μ'' e' rv (S'.less hs) hpo
end
end Dw

namespace Dw
open PySem L2 PyProof.Rows
/-- a def that the module's name nm holds, by its promise -/
structure Cal (P : Program) (w : World) (K : Frg) (mg : Str → Option Value) (base : Heap) (CX : CXT) (k : Nat) (nm : Str) (ps : List Str) (sp : Sp) : Prop where
  ex : ∃ f fd, mg nm = some (.ref f) ∧ PySem.W.keepIn K (.ref f) = true ∧ Binds K fd ps [] ∧ FnOk P w K mg base CX k f fd ps sp
/-- the built-ins' names are not bound anew -/
structure Blt (mg : Str → Option Value) : Prop where
  len : mg "len" = none
  range : mg "range" = none
  isinstance : mg "isinstance" = none
  int : mg "int" = none
  bool : mg "bool" = none
  tuple : mg "tuple" = none
  list : mg "list" = none
  str : mg "str" = none
  sorted : mg "sorted" = none
  min : mg "min" = none
  max : mg "max" = none
  zip : mg "zip" = none
  set : mg "set" = none
  dict : mg "dict" = none
section
variable {X : Cx} {x : Str} {p pos : Pos} {e : Expr} {es : List Expr} {t : TA} {k j : Nat} {ps : List Str} {sp : Sp} {te ta tb : TE} {a b : Expr}
theorem pe_cal (C : Cal X.prog X.w X.K X.mg X.base CX0 k x ps sp) (hr : Room j X.A) (ha : PA X (e :: es) t) (hk : k ≤ j := by first | decide | omega) (hg : Gl X x := by rfl) (hdb : (x == ("__debug__" : Str)) = false := by decide)
    (he : starEach (e :: es) X.env = (false, eval e X.env) :: starEach es X.env := by rfl) (hpl : (backTo pos (starEach es X.env)).any (·.1) = false := by rfl) : PE X (.Call (.Name x p) (e :: es) [] pos) (tCall sp [] E0 t) := by
  obtain ⟨f, fd, gl, kp, bn, G⟩ := C.ex
  exact pe_call G (hr.mono hk) hg gl kp bn .nil pass0 ha hdb he hpl
theorem pe_gint {n : Int} (h : ∃ u, X.mg x = some (.int n u)) (hg : Gl X x := by rfl) (hdb : (x == ("__debug__" : Str)) = false := by decide) (hN : ¬ x = ("__name__" : Str) := by decide +kernel) : PE X (.Name x pos) (tC (.int n)) := by
  obtain ⟨u, h⟩ := h
  first
    | exact pe_glob hg h ⟨u, rfl⟩
    | exact pe_glob hg h ⟨u, rfl⟩ hdb
/-- a call that is never reached -/
theorem cal_never {P : Program} {w : World} {K : Frg} {mg : Str → Option Value} {base : Heap} {k : Nat} {nm : Str} {f : Addr} {fd : FuncData} {ps : List Str} (gl : mg nm = some (.ref f)) (kp : PySem.W.keepIn K (.ref f) = true) (bn : Binds K fd ps []) :
    Cal P w K mg base CX0 k nm ps (fun _ _ _ _ => False) := ⟨f, fd, gl, kp, bn, ⟨fun _ _ _ _ h => h.elim, fun _ _ _ _ _ _ _ _ _ _ _ _ _ h => h.elim⟩⟩
theorem hu64 {A : Around} (hr : Room k A) : A.units + 64 < cLine := by have := hr.un; omega
theorem hu65 {A : Around} (hr : Room k A) : A.units + 65 < cLine := by have := hr.un; omega
abbrev q_eq (hr : Room k X.A) := op_eqD (X := X) (hu64 hr)
abbrev q_ne (hr : Room k X.A) := op_neD (X := X) (hu64 hr)
end
end Dw

namespace Dw
open PySem L2 PyProof.Rows
/-! ### defs that may raise -/
/-- an own error class over ValueError -/
structure ExcC (K : Frg) (mg : Str → Option Value) (nm : Str) (C : Addr) : Prop where
  x : PySem.W.excIn K C [.type "ValueError", .type "Exception", .type "BaseException", .type "object"] "ValueError.__new__" = true
  g : mg nm = some (.ref C)
  k : PySem.W.keepIn K (.ref C) = true
  b : PySem.W.subIn K (.ref C) (.type "BaseException") = some true
  t : PySem.W.typeIn K (.ref C) = some (.type "type")
/-- the wish of a def's errors over data, own objects forgotten -/
def lessE (exn : Addr → Mu → Prop) : Addr → Mu → Prop := fun C μ' => ∃ μ'', Sub μ'' μ' ∧ exn C μ''
section
variable {P : Program} {w : World} {K : Frg} {mg : Str → Option Value} {base : Heap}
theorem ok_X {α : Type} {inp : α → List PV} {pre : α → Mu → Prop} {post : α → Mu → PV → Mu → Prop} {exn : α → Mu → Addr → Mu → Prop} {x qual : Str} {st : Stmt} {f : Addr} {fd : FuncData} {N ps : List Str} {k : Nat} (F : Fun K x qual st f fd) (S : FnScope N ps (defScope st)) (hlen : ∀ a, (inp a).length = ps.length)
    (hbody : ∀ (cdv : Value) (A : Around) (outer : List Env) (s : Shared) (H : Hp) (E : XK), Room k (A.deeper (envOfC qual (defScope st) s.heap.objs.size f cdv)) → ∀ a μ, pre a μ →
      ∃ t, PSs (cxOf (L2.CX P w) P w K mg base N qual (defScope st) f cdv A outer s H E) (defBody st) t ∧ ∀ G0, EOk K G0 E (lessE (exn a μ)) → Ws K G0 t (startD N (inp a)) μ (retD (post a μ))) : FnOk P w K mg base (L2.CX P w) (k + 1) f fd ps (SpX K inp pre post exn) := by
  refine F.okX S (fun vs H Q E h => ?_) (fun cdv A outer s H vs Q E hr h => ?_)
  · obtain ⟨G, μ, a, rl, _⟩ := h
    rw [rl.length]; exact hlen a
  · obtain ⟨G, μ, a, rl, sep, hp, hQ, hE⟩ := h
    obtain ⟨t, ht, hw⟩ := hbody cdv A outer s H E hr a μ hp
    refine ⟨t, ht, hw G ?_ (L2.start N vs) G H (Same.refl _) (relS_start rl) sep _ ?_ ?_ (fun _ _ _ _ _ _ _ _ z => z.elim) (fun _ _ _ _ _ _ _ _ z => z.elim)⟩
    · rintro C G' H' μ' e' S' ⟨μ'', hs, hx⟩
      exact hE C G' H' μ'' e' (S'.less hs) hx
    · rintro σ' G' H' ρ' μ' e' rs' S' ⟨μ'', hs, hpo⟩
      exact hQ _ G' H' .n μ'' e' mk_non (S'.less hs) hpo
    · rintro v G' H' x μ' e' rv S' ⟨μ'', hs, hpo⟩
      exact hQ v G' H' x μ'' e' rv (S'.less hs) hpo
end
section
variable {K : Frg} {G0 : Hp} {ρ : Rho} {μ : Mu} {De : DE}
theorem ws_raise {C : Addr} {E : XK} {Ed : Addr → Mu → Prop} (hE : EOk K G0 E Ed) (q : Ed C μ) : Ws K G0 (fun _ σ H => (fun (_ : L2.St) (H : Hp) (Q : XK) => Q (.ref C) none H) σ H fun cls d H' => (fun cls d (_ : L2.St) H => E cls d H) cls d σ H') ρ μ De := fun σ G H e rs S D kn kr kb kc =>
  hE C G H μ e S q
end
section
variable {X : Cx} {x : Str} {p pos : Pos} {e : Expr} {es : List Expr} {t : TA} {k j : Nat} {ps : List Str} {sp : Sp}
/-- a call of a def that may raise, within one that may; within one that does not -/
theorem pe_calX {E : XK} (C : Cal X.prog X.w X.K X.mg X.base (L2.CX X.prog X.w) k x ps sp) (hr : Room j X.A) (tk : Takes X (fun cls d _ H => E cls d H)) (ha : PA X (e :: es) t) (hk : k ≤ j := by first | decide | omega) (hg : Gl X x := by rfl) (hdb : (x == ("__debug__" : Str)) = false := by decide)
    (he : starEach (e :: es) X.env = (false, eval e X.env) :: starEach es X.env := by rfl) (hpl : (backTo pos (starEach es X.env)).any (·.1) = false := by rfl) : PE X (.Call (.Name x p) (e :: es) [] pos) (tCall sp [] E t) := by
  obtain ⟨f, fd, gl, kp, bn, G⟩ := C.ex
  exact pe_call G (hr.mono hk) hg gl kp bn .nil (passes_call tk fun _ _ _ _ h => h) ha hdb he hpl
theorem pe_calL (C : Cal X.prog X.w X.K X.mg X.base (L2.CX X.prog X.w) k x ps sp) (hr : Room j X.A) (ha : PA X (e :: es) t) (hk : k ≤ j := by first | decide | omega) (hg : Gl X x := by rfl) (hdb : (x == ("__debug__" : Str)) = false := by decide)
    (he : starEach (e :: es) X.env = (false, eval e X.env) :: starEach es X.env := by rfl) (hpl : (backTo pos (starEach es X.env)).any (·.1) = false := by rfl) : PE X (.Call (.Name x p) (e :: es) [] pos) (tCall sp [] E0 t) := by
  obtain ⟨f, fd, gl, kp, bn, G⟩ := C.ex
  exact pe_call G (hr.mono hk) hg gl kp bn .nil passL ha hdb he hpl
end
section
variable {K : Frg} {G0 : Hp} {ρ : Rho} {μ : Mu} {Q : PV → Mu → Prop} {t : TA}
/-- a call of a def that may raise, but does not here -/
theorem we_callL {α : Type} {inp : α → List PV} {pre : α → Mu → Prop} {post : α → Mu → PV → Mu → Prop} {exn : α → Mu → Addr → Mu → Prop}
    (h : Wa K G0 t ρ μ fun xs μ1 => ∃ a, xs = inp a ∧ pre a μ1 ∧ (∀ x μ2, post a μ1 x μ2 → Q x μ2) ∧ ∀ C μ2, ¬ exn a μ1 C μ2) :
    We K G0 (tCall (SpX K inp pre post exn) [] E0 t) ρ μ Q :=
  we_callX (Ed := fun _ _ => False) (fun _ _ _ _ _ _ h => h.elim) (fun σ G H e rs S R k => h σ G H e rs S R fun vs G1 H1 xs μ1 e1 rl S1 ⟨a, h1, h2, h3, h4⟩ => k vs G1 H1 xs μ1 e1 rl S1 ⟨a, h1, h2, h3, fun C μ2 z => h4 C μ2 z⟩)
end
section
variable {K : Frg} {G0 : Hp} {ρ : Rho} {μ : Mu} {Q : PV → Mu → Prop} {QG : Rho → Mu → Prop} {ta : TE} {gs : TGs}
theorem wg_tup2 {a b : PyData} (h : Wgs K G0 gs [.d a, .d b] ρ μ QG) : Wg K G0 (gTup K 2 gs) (.t [a, b]) ρ μ QG := wg_tup rfl h
theorem wg_tup3 {a b c : PyData} (h : Wgs K G0 gs [.d a, .d b, .d c] ρ μ QG) : Wg K G0 (gTup K 3 gs) (.t [a, b, c]) ρ μ QG := wg_tup rfl h
theorem wg_tup4 {a b c d : PyData} (h : Wgs K G0 gs [.d a, .d b, .d c, .d d] ρ μ QG) : Wg K G0 (gTup K 4 gs) (.t [a, b, c, d]) ρ μ QG := wg_tup rfl h
theorem we_un {f : Int → Int} (h : We K G0 ta ρ μ fun x μ1 => ∃ i, x = .i i ∧ Q (.i (f i)) μ1) : We K G0 (tUn (rU fun i => .int (f i)) ta) ρ μ Q := fun σ G H e rs S R k =>
  h σ G H e rs S _ fun v G1 H1 x μ1 e1 rv S1 ⟨i, hx, q⟩ => by
    subst hx; cases rp_int rv
    exact ⟨i, rfl, k _ G1 H1 _ μ1 e1 (mk_int _) S1 q⟩
end
end Dw

namespace Dw
open PySem L2 PyProof.Rows
/-! ### the rules with the written part named -/
section
variable {X : Cx} {k : Nat}
theorem kix (K : Frg) (h : X.K = K := by rfl) : IxR X (rIx K) := h ▸ ix_seq
theorem kslT (K : Frg) (h : X.K = K := by rfl) : SlR X (rSlA K) := h ▸ sl_tupA
theorem kslL (K : Frg) (h : X.K = K := by rfl) : SlR X (rSlL K) := h ▸ sl_list
theorem keq (K : Frg) (hr : Room k X.A) (h : X.K = K := by rfl) : OpR X (compareOp .Eq) (rEqD K) := h ▸ op_eqD (hu64 hr)
theorem kne (K : Frg) (hr : Room k X.A) (h : X.K = K := by rfl) : OpR X (compareOp .NotEq) (rNeD K) := h ▸ op_neD (hu64 hr)
theorem kin (K : Frg) (h : X.K = K := by rfl) : OpR X (compareOp .In) (rIn K false) := h ▸ op_in_seq
theorem knin (K : Frg) (h : X.K = K := by rfl) : OpR X (compareOp .NotIn) (rIn K true) := h ▸ op_notIn_seq
theorem kinD (K : Frg) (hr : Room k X.A) (h : X.K = K := by rfl) : OpR X (compareOp .In) (rInD K) := h ▸ op_inD (hu65 hr)
theorem kninD (K : Frg) (hr : Room k X.A) (h : X.K = K := by rfl) : OpR X (compareOp .NotIn) (rNotInD K) := h ▸ op_notInD (hu65 hr)
theorem kcat (K : Frg) (h : X.K = K := by rfl) : OpR X (binaryOp .Add) (rCatA K) := h ▸ op_catA
theorem klen (K : Frg) (h : X.K = K := by rfl) : CallR X (.builtin "len") (rLn K) := h ▸ call_len_seq
theorem kisi (K : Frg) (h : X.K = K := by rfl) : CallR X (.builtin "isinstance") (rIsi K) := h ▸ call_isi
theorem kisiT (K : Frg) (h : X.K = K := by rfl) : CallR X (.builtin "isinstance") (rIsiT K) := h ▸ call_isiT
theorem klst (K : Frg) (h : X.K = K := by rfl) : CallR X (.type "list") (rListC K) := h ▸ call_list_of
theorem ktup (K : Frg) (h : X.K = K := by rfl) : CallR X (.type "tuple") (rTupC K) := h ▸ call_tuple_of
theorem ksorted (K : Frg) (h : X.K = K := by rfl) : CallR X (.builtin "sorted") (rSorted K) := h ▸ cr_sorted
theorem ksortedP (K : Frg) (h : X.K = K := by rfl) : CallR X (.builtin "sorted") (rSortedPO K) := h ▸ cr_sortedPO
theorem kidxK (K : Frg) (h : X.K = K := by rfl) : MtR X "tuple.index" (rIdxK K) := h ▸ mt_tup_index
theorem kindexD (K : Frg) (hr : Room k X.A) (h : X.K = K := by rfl) : MtR X "list.index" (rIndexD K) := h ▸ mt_indexD (hu65 hr)
theorem pkList (K : Frg) {tg l : Expr} {tl : TE} (hl : PE X l tl) (h : X.K = K := by rfl) : PI X tg l (iList K tl) := h ▸ pi_list hl
theorem pkTup (K : Frg) {tg l : Expr} {tl : TE} (hl : PE X l tl) (h : X.K = K := by rfl) : PI X tg l (iTup K tl) := h ▸ pi_tup hl
theorem pkFld (K : Frg) {e : Expr} {f : Str} {ta : TE} {pos : Pos} (he : PE X e ta) (hb : attributeBase e f X.env (eval e X.env) = eval e X.env := by rfl) (h : X.K = K := by rfl) : PE X (.Attribute e f pos) (tFld K ta f) := h ▸ pe_fld he hb
theorem pkZip (K : Frg) {e e2 : Expr} {ta : TA} {p pos tpos : Pos} {elts : List Expr} {kk : Nat} (hg : Gl X "zip") (hm : X.mg "zip" = none) (ha : PA X [e, e2] ta)
    (hs : starEach [e, e2] X.env = (false, eval e X.env) :: starEach [e2] X.env := by rfl) (hpl : (backTo pos (starEach [e2] X.env)).any (·.1) = false := by rfl) (h : X.K = K := by rfl) :
    PI X (.Tuple elts kk tpos) (.Call (.Name "zip" p) [e, e2] [] pos) (RZ.iZipA K ta) := h ▸ RZ.pi_zipA hg hm ha hs hpl
theorem pkTG (K : Frg) (n : Nat) {es : List Expr} {k : Nat} {t : TGs} {pos : Pos} (hc : X.calm = true) (h : PGs X es t) (hn : (assignEach es X.env).length = n := by rfl) (hst : (assignEach es X.env).findIdx? (·.1) = none := by rfl) (hk : X.K = K := by rfl) : PG X (.Tuple es k pos) (gTup K n t) := hk ▸ pg_tup hc h hn hst
end
section
variable {X : Cx} {o e : Expr} {es : List Expr} {to : TE} {t : TA} {name : Str} {apos cpos : Pos} {T id : String} {r : V → List V → Hp → VK → Prop}
theorem pkBm (K : Frg) (pa : PlainAttrs T) (slot : Slot T name id) (hty : typeOf (.builtin id) = pure (.type "method_descriptor")) (hm : MtR X id r) (ho : PE X o to) (ha : PA X (e :: es) t)
    (hbase : attributeBase o name X.env (eval o X.env) = eval o X.env := by rfl)
    (hfew : ((backTo cpos (starEach (e :: es) X.env)).all (fun x => !x.1) && (backToKw cpos (keywordEach [] X.env)).all (fun x => x.1.isSome)
      && decide ((e :: es).length + ([] : List Keyword).length + (if ([] : List Keyword).isEmpty then 0 else 1) < 30)) = true := by rfl)
    (hline : (apos.endLine == cpos.line) = true := by rfl) (hs : starEach (e :: es) X.env = (false, eval e X.env) :: starEach es X.env := by rfl) (hplain : (backTo cpos (starEach es X.env)).any (·.1) = false := by rfl) (h : X.K = K := by rfl) :
    PE X (.Call (.Attribute o name apos) (e :: es) [] cpos) (tBM K T r to t) := h ▸ pe_bm pa slot hty hm ho ha hbase hfew hline hs hplain
theorem pkBm0 (K : Frg) (pa : PlainAttrs T) (slot : Slot T name id) (hty : typeOf (.builtin id) = pure (.type "method_descriptor")) (hm : MtR X id r) (ho : PE X o to)
    (hbase : attributeBase o name X.env (eval o X.env) = eval o X.env := by rfl) (hline : (apos.endLine == cpos.line) = true := by rfl) (h : X.K = K := by rfl) : PE X (.Call (.Attribute o name apos) [] [] cpos) (tBM0 K T r to) := h ▸ pe_bm0 pa slot hty hm ho hbase hline
end
end Dw

namespace Dw
open PySem L2 PyProof.Rows
section
variable {K : Frg} {G0 : Hp} {ρ : Rho} {μ : Mu} {Q : PV → Mu → Prop} {te : TE}
/-! ### comprehensions over a list of things, told by functions of them -/
theorem we_lcI {wi : TI} {g : TG} {tt : TT} {vs : List Nat} (fs : List (Option PyData)) (hw : HwOk g vs) (h : Wi K G0 wi ρ μ fun xs C μ1 => xs.length = fs.length ∧ xs.length ≤ 99999 ∧ (∀ μ', Sub μ1 μ' → C μ') ∧
      (∀ (i : Nat) (x : PV) (o : Option PyData), xs[i]? = some x → fs[i]? = some o → ∀ μ', Sub μ1 μ' → Wg K G0 g x (wipeD ρ vs) μ' fun ρ' μ'' => Sub μ' μ'' ∧ Wt K G0 tt ρ' μ'' fun b μ2 => Sub μ' μ2 ∧ (b = true → We K G0 te ρ' μ2 fun y μ3 => Sub μ' μ3 ∧ ∃ d, o = some d ∧ y = .d d) ∧ (b = false → o = none)) ∧
      ∀ D, μ1 D = none → Q (.o D) (mset μ1 D (.lst ((fs.filterMap id).map .d)))) : We K G0 (tLc wi g tt te vs) ρ μ Q := by
  refine we_less (we_lcM ?_ hw)
  refine fun σ G H e rs S R k => h σ G H e rs S R fun J G' H' xs C μ' e' it S' ⟨hlen, hl, hC, hs, hq⟩ => k J G' H' xs C μ' e' it S' ?_
  intro D hD
  have hsub : ∀ acc, Sub μ' (mset μ' D (.lst acc)) := fun acc => Sub.new hD
  refine ⟨fun i acc μ => acc = ((fs.take i).filterMap id).map .d ∧ Sub (mset μ' D (.lst acc)) μ, ⟨rfl, Sub.refl _⟩, ?_, ?_, ?_⟩
  · rintro i acc μ hi ⟨rfl, hs2⟩
    refine ⟨hC _ ((hsub _).trans hs2), hs2 D _ mset_same, ?_⟩
    rw [List.length_map]
    exact Nat.le_trans (List.length_filterMap_le _ _) (Nat.le_trans (by rw [List.length_take]; omega) hl)
  · rintro i x acc μ hx ⟨rfl, hs2⟩
    have hi : i < fs.length := by rw [← hlen]; exact (List.getElem?_eq_some_iff.mp hx).1
    have hfi : fs[i]? = some fs[i] := List.getElem?_eq_getElem hi
    have htake : fs.take (i + 1) = fs.take i ++ [fs[i]] := by rw [List.take_add_one, hfi]; rfl
    have key := hs i x _ hx hfi μ ((hsub _).trans hs2)
    intro v σ2 G2 H2 e2 rv rs2 S2 R2 k2
    refine key v σ2 G2 H2 e2 rv rs2 S2 R2 fun σ3 G3 H3 ρ3 μ3 e3 rs3 S3 ⟨hs3, q3⟩ => k2 σ3 G3 H3 ρ3 μ3 e3 rs3 S3 ?_
    intro σ4 G4 H4 e4 rs4 S4 R4 k4
    refine q3 σ4 G4 H4 e4 rs4 S4 R4 fun b G5 H5 μ5 e5 S5 ⟨hs5, qt, qf⟩ => k4 b G5 H5 μ5 e5 S5 ?_
    cases b with
    | false =>
      rw [if_neg Bool.false_ne_true]
      refine ⟨?_, hs2.trans hs5⟩
      rw [htake, List.filterMap_append, qf rfl]; simp
    | true =>
      rw [if_pos rfl]
      refine we_mono (qt rfl) fun y μ6 ⟨hs6, d, hd, hy⟩ => ?_
      subst hy
      refine ⟨hs6 D _ (hs2 D _ mset_same), ?_, ?_⟩
      · rw [htake, List.filterMap_append, hd]; simp
      · intro b m hb
        by_cases hbD : b = D
        · subst hbD; rw [mset_same] at hb ⊢; exact hb
        · rw [mset_ne hbD] at hb ⊢
          exact hs6 b m (hs2 b m (by rw [mset_ne hbD]; exact hb))
  · rintro acc μ ⟨rfl, hs2⟩
    rw [hlen, List.take_length] at hs2
    exact ⟨_, hs2, hq D hD⟩
theorem fm_if {α : Type} (l : List α) (p : α → Bool) (g : α → PyData) : (l.map fun a => if p a = true then some (g a) else none).filterMap id = (l.filter p).map g := by
  induction l with
  | nil => rfl
  | cons a l ih =>
    cases hp : p a with
    | true => simp [hp, ih]
    | false => simp [hp, ih]
/-- the target one name -/
theorem we_lcAO {α : Type} {wi : TI} {tt : TT} {i : Nat} (l : List α) (enc : α → PV) (p : α → Bool) (g : α → PyData) (h : Wi K G0 wi ρ μ fun xs C μ1 => xs = l.map enc ∧ l.length ≤ 99999 ∧ (∀ μ', Sub μ1 μ' → C μ') ∧
      (∀ a ∈ l, ∀ μ', Sub μ1 μ' → Wt K G0 tt ((wipeD ρ [i]).set i (some (enc a))) μ' fun b μ2 => Sub μ' μ2 ∧ b = p a ∧ (p a = true → We K G0 te ((wipeD ρ [i]).set i (some (enc a))) μ2 fun y μ3 => Sub μ' μ3 ∧ y = .d (g a))) ∧
      ∀ D, μ1 D = none → Q (.o D) (mset μ1 D (.lst (((l.filter p).map g).map .d)))) : We K G0 (tLc wi (gName i) tt te [i]) ρ μ Q := by
  refine we_lcI (l.map fun a => if p a = true then some (g a) else none) (hw_name (by simp)) ?_
  refine fun σ G H e rs S R k => h σ G H e rs S R fun J G' H' xs C μ' e' it S' ⟨hx, hl, hC, hs, hq⟩ => k J G' H' xs C μ' e' it S' ?_
  subst hx
  refine ⟨by rw [List.length_map, List.length_map], by rw [List.length_map]; exact hl, hC, ?_, by rw [fm_if]; exact hq⟩
  intro j x o hx ho μ1 hs1
  rw [List.getElem?_map] at hx ho
  cases ha : l[j]? with
  | none => rw [ha] at hx; cases hx
  | some a =>
    rw [ha] at hx ho
    cases hx; cases ho
    refine wg_name ⟨Sub.refl _, ?_⟩
    intro σ4 G4 H4 e4 rs4 S4 R4 k4
    refine hs a (List.mem_of_getElem? ha) μ1 hs1 σ4 G4 H4 e4 rs4 S4 R4 fun b G5 H5 μ5 e5 S5 ⟨h1, h2, h3⟩ => k4 b G5 H5 μ5 e5 S5 ⟨h1, fun hb => ?_, fun hb => ?_⟩
    · exact we_mono (h3 (h2 ▸ hb)) fun y μ6 ⟨q1, q2⟩ => ⟨q1, g a, if_pos (h2 ▸ hb), q2⟩
    · exact if_neg (by rw [← h2, hb]; decide)
theorem we_lcA {α : Type} {wi : TI} {tt : TT} {i : Nat} (l : List α) (enc : α → PV) (p : α → Bool) (g : α → PyData) (h : Wi K G0 wi ρ μ fun xs C μ1 => xs = l.map enc ∧ l.length ≤ 99999 ∧ (∀ μ', Sub μ1 μ' → C μ') ∧
      (∀ a ∈ l, ∀ μ', Sub μ1 μ' → Wt K G0 tt ((wipeD ρ [i]).set i (some (enc a))) μ' fun b μ2 => Sub μ' μ2 ∧ b = p a ∧ (p a = true → We K G0 te ((wipeD ρ [i]).set i (some (enc a))) μ2 fun y μ3 => Sub μ' μ3 ∧ y = .d (g a))) ∧
      Q (.l ((l.filter p).map g)) μ1) : We K G0 (tLc wi (gName i) tt te [i]) ρ μ Q := by
  refine we_freeze (we_lcAO l enc p g ?_)
  refine fun σ G H e rs S R k => h σ G H e rs S R fun J G' H' xs C μ' e' it S' ⟨hx, hl, hC, hs, hq⟩ => k J G' H' xs C μ' e' it S' ⟨hx, hl, hC, hs, fun D hD => ⟨D, _, rfl, mset_same, ?_⟩⟩
  rw [mdel_mset hD]
  exact hq
/-- no test -/
theorem we_lcB {α : Type} {wi : TI} {i : Nat} (l : List α) (enc : α → PV) (g : α → PyData) (h : Wi K G0 wi ρ μ fun xs C μ1 => xs = l.map enc ∧ l.length ≤ 99999 ∧ (∀ μ', Sub μ1 μ' → C μ') ∧
      (∀ a ∈ l, ∀ μ', Sub μ1 μ' → We K G0 te ((wipeD ρ [i]).set i (some (enc a))) μ' fun y μ3 => Sub μ' μ3 ∧ y = .d (g a)) ∧
      Q (.l (l.map g)) μ1) : We K G0 (tLc wi (gName i) tYes te [i]) ρ μ Q := by
  refine we_lcA l enc (fun _ => true) g ?_
  refine fun σ G H e rs S R k => h σ G H e rs S R fun J G' H' xs C μ' e' it S' ⟨hx, hl, hC, hs, hq⟩ => k J G' H' xs C μ' e' it S' ⟨hx, hl, hC, fun a ha μ1 hs1 => wt_yes ⟨Sub.refl _, rfl, fun _ => hs a ha μ1 hs1⟩, ?_⟩
  rw [List.filter_eq_self.mpr (fun _ _ => rfl)]
  exact hq
end
end Dw

namespace Dw
open PySem L2 PyProof.Rows
/-- a method, a class that is made, by their promises -/
structure CalM (P : Program) (w : World) (K : Frg) (mg : Str → Option Value) (base : Heap) (C : Addr) (k : Nat) (nm : Str) (ps : List Str) (sp : Sp) : Prop where
  ex : ∃ f fd, Meth K C nm f ∧ Binds K fd ps [] ∧ FnOk P w K mg base CX0 k f fd ps sp
structure CalN (P : Program) (w : World) (K : Frg) (mg : Str → Option Value) (base : Heap) (C : Addr) (k : Nat) (nm : Str) (ps : List Str) (sp : Sp) : Prop where
  ex : ∃ f fd, mg nm = some (.ref C) ∧ Mk K C f ∧ Binds K fd ps [] ∧ FnOk P w K mg base CX0 k f fd ps sp
section
variable {X : Cx} {x m : Str} {p pos apos : Pos} {e o : Expr} {es : List Expr} {t : TA} {ta : TE} {k j : Nat} {ps : List Str} {sp : Sp} {C : Addr}
theorem pk_meth {pl : Sem Bool} (he : PE X o ta) (c : Cls X.K C) (M : CalM X.prog X.w X.K X.mg X.base C k m ps sp) (hr : Room j X.A) (ha : PA X (e :: es) t) (hk : k ≤ j := by first | decide | omega)
    (hst : starEach (e :: es) X.env = (false, eval e X.env) :: starEach es X.env := by rfl) (hpl : (backTo pos (starEach es X.env)).any (·.1) = false := by rfl)
    (ht : eval (.Call (.Attribute o m apos) (e :: es) [] pos) X.env = (do
      let ov ← eval o X.env
      standAt apos.atName
      let (f, first) ← holding [ov] (getMethod ov m pl)
      callWith pos f first (backTo pos (starEach (e :: es) X.env)) (backToKw pos (keywordEach [] X.env))) := by rfl) :
    PE X (.Call (.Attribute o m apos) (e :: es) [] pos) (tMeth C m sp [] E0 ta t) := by
  obtain ⟨f, fd, hm, hb, F⟩ := M.ex
  exact pe_meth he c hm F (hr.mono hk) hb .nil pass0 ha hst hpl ht
theorem pk_meth0 {pl : Sem Bool} (he : PE X o ta) (c : Cls X.K C) (M : CalM X.prog X.w X.K X.mg X.base C k m ps sp) (hr : Room j X.A) (hk : k ≤ j := by first | decide | omega)
    (ht : eval (.Call (.Attribute o m apos) [] [] pos) X.env = (do
      let ov ← eval o X.env
      standAt apos.atName
      let (f, first) ← holding [ov] (getMethod ov m pl)
      callWith pos f first (backTo pos (starEach [] X.env)) (backToKw pos (keywordEach [] X.env))) := by rfl) :
    PE X (.Call (.Attribute o m apos) [] [] pos) (tMeth C m sp [] E0 ta tNil) := by
  obtain ⟨f, fd, hm, hb, F⟩ := M.ex
  exact pe_meth0 he c hm F (hr.mono hk) hb .nil pass0 ht
theorem pk_make (N : CalN X.prog X.w X.K X.mg X.base C k x ps sp) (hr : Room j X.A) (ha : PA X (e :: es) t) (hk : k + 1 ≤ j := by first | decide | omega) (hg : Gl X x := by rfl)
    (hdb : (x == ("__debug__" : Str)) = false := by decide) (he : starEach (e :: es) X.env = (false, eval e X.env) :: starEach es X.env := by rfl) (hpl : (backTo pos (starEach es X.env)).any (·.1) = false := by rfl) :
    PE X (.Call (.Name x p) (e :: es) [] pos) (tMake C sp [] E0 t) := by
  obtain ⟨f, fd, hm, M, hb, F⟩ := N.ex
  exact pe_make M F (hr.mono hk) hg hm hb .nil pass0 ha hdb he hpl
theorem pkFldS (K : Frg) {f : Str} {tv : TE} {value : Expr} {pos' : Pos} (ha : PE X o ta) (hv : PE X value tv) (hs : swapsWith value (some (.Attribute o f pos')) pos.line X.env = pure false := by rfl) (h : X.K = K := by rfl) : PS X (.Assign [.Attribute o f pos'] value pos) (sFld K ta tv f) := h ▸ ps_fld ha hv hs
end
end Dw

namespace Dw
open PySem L2 PyProof.Rows
/-! ### list.count of flat things -/
theorem cntU {x : V} : ∀ {xs : List V} {us : List Value}, Vals xs us → xs.all flatV = true → us.countP (eqU x) = xs.countP fun y => eqV y x
  | _, _, .nil, _ => rfl
  | _, _, .cons r t, f => by
    simp only [List.all_cons, Bool.and_eq_true] at f
    simp only [List.countP_cons, cntU t f.2, eqU_of r f.1]
def rCntF (K : Frg) : V → List V → Hp → VK → Prop := fun x xs H Q => ∃ p ys y, x = .ref p ∧ xs = [y] ∧ SqL K H p ys ∧ flatV y = true ∧ ys.all flatV = true ∧ Q (.int ((ys.countP fun z => eqV z y : Nat) : Int)) H
section
variable {X : Cx}
theorem mt_countF (K : Frg) (hK : X.K = K := by rfl) : MtR X "list.count" (rCntF K) := by
  subst hK
  intro pins s σ H x xs v us Q I rx rxs h
  obtain ⟨p, ys, y, rfl, rfl, hs, fy, fa, q⟩ := h
  cases rx
  obtain ⟨u, rfl, ru⟩ := rxs.one
  obtain ⟨its, rv, ⟨⟨cls, dd, data, sl⟩, n, ho, hc, hdn, hd⟩, hlen⟩ := I.list hs
  simp only at hc hd
  subst hc hd
  refine call_meets PySem.F.slot_list_count ⟨_, ho, rfl⟩ PySem.F.entry_list_count (PySem.F.args_list_count_2 _ _)
    (SeqAt.list_countAt p its.toArray n dd sl u (eqU y)) ⟨ho, fun z hz => mem_eqAt ru fy rv fa z (by simpa using hz), ?_⟩
  refine ⟨.int ((ys.countP fun z => eqV z y : Nat) : Int), H, I.tok _, ⟨s.toks, ?_⟩, q⟩
  show Value.int ((its.toArray.toList.countP (eqU y) : Nat) : Int) s.toks = Value.int ((ys.countP fun z => eqV z y : Nat) : Int) s.toks
  rw [show its.toArray.toList = its from rfl, cntU rv fa]
end
section
variable {K : Frg} {G0 : Hp} {ρ : Rho} {μ : Mu} {Q : PV → Mu → Prop}
theorem cntD {G : Hp} {v : V} {d : PyData} (h : Dq K G v d) (f : flatD d = true) : ∀ {vs : List V} {ds : List PyData}, DqAll K G vs ds → ds.all flatD = true → (vs.countP fun z => eqV z v) = ds.countP fun z => PyData.eqv z d
  | _, _, .nil, _ => rfl
  | _, _, .cons h1 t, g => by
    simp only [List.all_cons, Bool.and_eq_true] at g
    simp only [List.countP_cons, cntD h f t g.2, eqv_eq h1 h g.1 f]
theorem wm_count {ds : List PyData} {d : PyData} (hd : flatD d = true) (hf : ds.all flatD = true) (q : Q (.i ((ds.countP fun z => PyData.eqv z d : Nat) : Int)) μ) : Wm K G0 (rCntF K) (.l ds) [.d d] μ Q := fun v vs G H e rv rl S R k => by
  obtain ⟨w, rfl, rw⟩ := rl1 rl
  obtain ⟨a, xs, rfl, h1, h2⟩ := rp_lst rv
  refine ⟨a, xs, w, rfl, rfl, .inl (.inl (S.sub _ _ h1)), flat_eq rw hd, allFlat_eq h2 hf, ?_⟩
  rw [cntD rw hd h2 hf]
  exact k _ G H _ μ (Same.refl _) (mk_int _) S q
/-! ### sorted of pairs of whole numbers -/
def encP (p : Int × Int) : PyData := .tuple [.int p.1, .int p.2]
def keyP (G : Hp) : V → Int × Int
  | .ref t => match G t with
    | some (.tup [.int i, .int j]) => (i, j)
    | _ => (0, 0)
  | _ => (0, 0)
theorem dq_pair {G : Hp} {v : V} {p : Int × Int} (h : Dq K G v (encP p)) : ∃ t, v = .ref t ∧ G t = some (.tup [.int p.1, .int p.2]) ∧ keyP G v = p := by
  unfold encP at h
  cases h with
  | @tup a xs ds h1 h2 =>
    cases h2 with
    | cons d1 d2 =>
      cases d1
      cases d2 with
      | cons d3 d4 =>
        cases d3; cases d4
        refine ⟨a, rfl, h1, ?_⟩
        show (match G a with | some (.tup [.int i, .int j]) => (i, j) | _ => (0, 0)) = p
        rw [h1]
theorem dqs_pair {G : Hp} : ∀ {vs : List V} {ps : List (Int × Int)}, DqAll K G vs (ps.map encP) → vs.map (keyP G) = ps ∧ ∀ v ∈ vs, ∃ t, v = .ref t ∧ G t = some (.tup [.int (keyP G v).1, .int (keyP G v).2]) ∧ Dq K G v (encP (keyP G v))
  | _, [], .nil => ⟨rfl, fun v h => by cases h⟩
  | v :: vs, p :: ps, .cons h t => by
    obtain ⟨t0, e0, g0, k0⟩ := dq_pair h
    obtain ⟨h1, h2⟩ := dqs_pair t
    refine ⟨by rw [List.map_cons, k0, h1], fun u hu => ?_⟩
    rcases List.mem_cons.mp hu with rfl | hu
    · rw [k0]; exact ⟨t0, e0, g0, h⟩
    · exact h2 u hu
theorem dqs_back {G : Hp} : ∀ {vs : List V}, (∀ v ∈ vs, Dq K G v (encP (keyP G v))) → DqAll K G vs ((vs.map (keyP G)).map encP)
  | [], _ => .nil
  | v :: vs, h => .cons (h v List.mem_cons_self) (dqs_back fun u hu => h u (List.mem_cons_of_mem _ hu))
theorem wc_sortedP {ps : List (Int × Int)} (q : ∀ qs : List (Int × Int), qs.Perm ps → qs.Pairwise (fun a b => SrtO.lexB b a = false) → Q (.l (qs.map encP)) μ) : Wc K G0 (rSortedPO K) [.l (ps.map encP)] μ Q := fun vs G H e rl S R k => by
  obtain ⟨v, rfl, rv⟩ := rl1 rl
  obtain ⟨a, xs, rfl, h1, h2⟩ := rp_lst rv
  obtain ⟨e1, e2⟩ := dqs_pair h2
  refine ⟨a, xs, keyP G, rfl, .inl (.inl (S.sub _ _ h1)), fun x hx => ?_, fun ys p hs hb hn => ?_⟩
  · obtain ⟨t, h3, h4, _⟩ := e2 x hx
    exact ⟨t, h3, S.sub _ _ h4⟩
  · have hg := S.gfree hn
    have en := same_new (o := HO.lst ys) hg
    have hd : DqAll K G ys ((ys.map (keyP G)).map encP) := dqs_back fun u hu => by
      obtain ⟨_, _, _, h5⟩ := e2 u (hb.perm.mem_iff.mp hu)
      exact h5
    refine k _ (upd G p (.lst ys)) _ _ μ en (mk_lst upd_same (dqa_ext en hd)) (S.fix hn) (q _ ?_ ?_)
    · rw [← e1]; exact hb.perm.map _
    · exact List.pairwise_map.mpr hs
theorem wt_mono {t : TT} {QT Q' : Bool → Mu → Prop} (h : Wt K G0 t ρ μ Q') (hq : ∀ b μ', Q' b μ' → QT b μ') : Wt K G0 t ρ μ QT := fun σ G H e rs S R k =>
  h σ G H e rs S R fun b G' H' μ' e' S' q => k b G' H' μ' e' S' (hq b μ' q)
end
end Dw

/-! # data: what the program's tests tell of any data -/
namespace Sc
open PySem L2 PyProof.Rows Dw
def isNum (d : PyData) (b : Int) : Bool := match d with
  | .int i => decide (0 ≤ i) && decide (i < b)
  | _ => false
def isIntT : PyData → Bool
  | .int _ | .bool _ => true
  | _ => false
def isBoolT : PyData → Bool
  | .bool _ => true
  | _ => false
def isTupT : PyData → Bool
  | .tuple _ => true
  | _ => false
def isListT : PyData → Bool
  | .list _ => true
  | _ => false
def isStrT : PyData → Bool
  | .str _ => true
  | _ => false
theorem kit_int (d : PyData) : kitB (tyN d) "int" = some (isIntT d) := by
  cases d
  · show kitB "NoneType" "int" = some false; decide +kernel
  · show kitB "bool" "int" = some true; decide +kernel
  · show kitB "int" "int" = some true; decide +kernel
  · show kitB "str" "int" = some false; decide +kernel
  · show kitB "list" "int" = some false; decide +kernel
  · show kitB "tuple" "int" = some false; decide +kernel
  · show kitB "dict" "int" = some false; decide +kernel
theorem kit_bool (d : PyData) : kitB (tyN d) "bool" = some (isBoolT d) := by
  cases d
  · show kitB "NoneType" "bool" = some false; decide +kernel
  · show kitB "bool" "bool" = some true; decide +kernel
  · show kitB "int" "bool" = some false; decide +kernel
  · show kitB "str" "bool" = some false; decide +kernel
  · show kitB "list" "bool" = some false; decide +kernel
  · show kitB "tuple" "bool" = some false; decide +kernel
  · show kitB "dict" "bool" = some false; decide +kernel
theorem kit_tuple (d : PyData) : kitB (tyN d) "tuple" = some (isTupT d) := by
  cases d
  · show kitB "NoneType" "tuple" = some false; decide +kernel
  · show kitB "bool" "tuple" = some false; decide +kernel
  · show kitB "int" "tuple" = some false; decide +kernel
  · show kitB "str" "tuple" = some false; decide +kernel
  · show kitB "list" "tuple" = some false; decide +kernel
  · show kitB "tuple" "tuple" = some true; decide +kernel
  · show kitB "dict" "tuple" = some false; decide +kernel
theorem kit_list (d : PyData) : kitB (tyN d) "list" = some (isListT d) := by
  cases d
  · show kitB "NoneType" "list" = some false; decide +kernel
  · show kitB "bool" "list" = some false; decide +kernel
  · show kitB "int" "list" = some false; decide +kernel
  · show kitB "str" "list" = some false; decide +kernel
  · show kitB "list" "list" = some true; decide +kernel
  · show kitB "tuple" "list" = some false; decide +kernel
  · show kitB "dict" "list" = some false; decide +kernel
theorem kit_str (d : PyData) : kitB (tyN d) "str" = some (isStrT d) := by
  cases d
  · show kitB "NoneType" "str" = some false; decide +kernel
  · show kitB "bool" "str" = some false; decide +kernel
  · show kitB "int" "str" = some false; decide +kernel
  · show kitB "str" "str" = some true; decide +kernel
  · show kitB "list" "str" = some false; decide +kernel
  · show kitB "tuple" "str" = some false; decide +kernel
  · show kitB "dict" "str" = some false; decide +kernel
theorem ex_b {c : Bool} {Q : Bool → Prop} (h : Q c) : ∃ c', PV.b c = PV.b c' ∧ Q c' := ⟨c, rfl, h⟩
theorem ex_i {c : Int} {Q : Int → Prop} (h : Q c) : ∃ c', PV.i c = PV.i c' ∧ Q c' := ⟨c, rfl, h⟩
theorem ex_t {c : List PyData} {Q : List PyData → Prop} (h : Q c) : ∃ c', PV.t c = PV.t c' ∧ Q c' := ⟨c, rfl, h⟩
theorem ex_l {c : List PyData} {Q : List PyData → Prop} (h : Q c) : ∃ c', PV.l c = PV.l c' ∧ Q c' := ⟨c, rfl, h⟩
theorem getD_lt {α : Type} {xs : List α} {j : Nat} {d : α} (h : j < xs.length) : xs.getD j d = xs[j] := by simp [List.getD, h]
theorem ati_n {α : Type} {xs : List α} {n : Nat} {d : α} (h : xs[n]? = some d) : atI xs (n : Int) = some d := by
  have hl := (List.getElem?_eq_some_iff.mp h).1
  unfold atI ixN
  rw [if_pos (by omega), if_pos (by omega)]
  exact h
theorem ati_0 {α : Type} {x : α} {r : List α} : atI (x :: r) 0 = some x := ati_n (n := 0) rfl
theorem ati_1 {α : Type} {x y : α} {r : List α} : atI (x :: y :: r) 1 = some y := ati_n (n := 1) rfl
theorem ati_2 {α : Type} {x y z : α} {r : List α} : atI (x :: y :: z :: r) 2 = some z := ati_n (n := 2) rfl
theorem eqv_int (a b : Int) : PyData.eqv (.int a) (.int b) = decide (a = b) := by
  show (a == b) = _
  by_cases h : a = b <;> simp [h]
theorem eqv_str (a b : Str) : PyData.eqv (.str a) (.str b) = decide (a = b) := by
  show (a == b) = _
  by_cases h : a = b <;> simp [h]
/-! ### shapes of data for == -/
def Shp : Nat → PyData → Bool
  | _, .none | _, .bool _ | _, .int _ => true
  | _, .str x => PyData.canLay0 (.str x)
  | n + 1, .list xs => xs.all (Shp n)
  | n + 1, .tuple xs => xs.all (Shp n)
  | _, _ => false
theorem all_lay {n : Nat} (ih : ∀ d, Shp n d = true → d.canLay0 = true ∧ d.depth ≤ n) : ∀ xs : List PyData, xs.all (Shp n) = true → PyData.canLayAll0 xs = true ∧ PyData.depthAll xs ≤ n
  | [], _ => ⟨rfl, Nat.zero_le _⟩
  | x :: xs, h => by
    simp only [List.all_cons, Bool.and_eq_true] at h
    obtain ⟨a, b⟩ := ih x h.1
    obtain ⟨c, d⟩ := all_lay ih xs h.2
    refine ⟨?_, ?_⟩
    · show (x.canLay0 && PyData.canLayAll0 xs) = true
      rw [a, c]; rfl
    · show max x.depth (PyData.depthAll xs) ≤ n
      omega
theorem shp_lay : ∀ (n : Nat) (d : PyData), Shp n d = true → d.canLay0 = true ∧ d.depth ≤ n
  | 0, d, h => by
    cases d with
    | none => exact ⟨rfl, Nat.le_refl _⟩
    | bool b => exact ⟨rfl, Nat.le_refl _⟩
    | int i => exact ⟨rfl, Nat.le_refl _⟩
    | str x => exact ⟨h, Nat.le_refl _⟩
    | _ => cases h
  | n + 1, d, h => by
    cases d with
    | none => exact ⟨rfl, Nat.zero_le _⟩
    | bool b => exact ⟨rfl, Nat.zero_le _⟩
    | int i => exact ⟨rfl, Nat.zero_le _⟩
    | str x => exact ⟨h, Nat.zero_le _⟩
    | list xs =>
      obtain ⟨a, b⟩ := all_lay (shp_lay n) xs h
      exact ⟨a, Nat.succ_le_succ b⟩
    | tuple xs =>
      obtain ⟨a, b⟩ := all_lay (shp_lay n) xs h
      exact ⟨a, Nat.succ_le_succ b⟩
    | dict _ => cases h
theorem shaped_of (n : Nat) {d : PyData} (h : Shp n d = true) (hn : n ≤ 64 := by decide) : SeqAt.shaped d = true := by
  obtain ⟨a, b⟩ := shp_lay n d h
  unfold SeqAt.shaped
  rw [a, decide_eq_true (Nat.le_trans b hn)]; rfl
theorem shp_mono {n m : Nat} (hm : n ≤ m) : ∀ {d : PyData}, Shp n d = true → Shp m d = true := by
  induction n generalizing m with
  | zero => intro d h; cases d <;> first | (cases m <;> exact h) | cases h
  | succ n ih =>
    intro d h
    cases m with
    | zero => omega
    | succ m =>
      cases d with
      | list xs =>
        show xs.all (Shp m) = true
        rw [List.all_eq_true]
        exact fun x hx => ih (by omega) ((List.all_eq_true.mp h) x hx)
      | tuple xs =>
        show xs.all (Shp m) = true
        rw [List.all_eq_true]
        exact fun x hx => ih (by omega) ((List.all_eq_true.mp h) x hx)
      | _ => exact h
theorem eqv_tup_nil (xs : List PyData) : PyData.eqv (.tuple xs) (.tuple []) = xs.isEmpty := by cases xs <;> rfl
theorem eqv_list_nil (xs : List PyData) : PyData.eqv (.list xs) (.list []) = xs.isEmpty := by cases xs <;> rfl
end Sc

/-! # what faces.py's tests tell, over any data -/
namespace Sc
open PySem L2 PyProof.Rows Dw
abbrev kNum : Str := "num"
abbrev kSay : Str := "say"
abbrev kSlot : Str := "slot"
abbrev kPlus : Str := "plus"
abbrev kPlace : Str := "place"
abbrev kAny : Str := "any"
abbrev kName : Str := "name"
abbrev sorts3 : List Str := [kPlace, kAny, kName]
def isPlainD : PyData → Bool
  | .tuple [h, x] => ([PyData.str kNum, PyData.str kSay].any fun y => PyData.eqv y h) && isNum x 100
  | _ => false
def isExprD (ahead : List PyData) : Nat → PyData → Bool
  | 0, d => isPlainD d || match d with
    | .tuple [h, x] => PyData.eqv h (.str kSlot) && (isNum x 10 && ahead.any fun y => PyData.eqv y x)
    | _ => false
  | n + 1, d => isPlainD d || match d with
    | .tuple [h, x] => PyData.eqv h (.str kSlot) && (isNum x 10 && ahead.any fun y => PyData.eqv y x)
    | .tuple [h, x, y] => (!PyData.eqv h (.str kSlot)) && (PyData.eqv h (.str kPlus) && (isExprD ahead n x && isExprD ahead n y))
    | _ => false
/-- heads of tuples are flat, the shape is not deep -/
def Tame : Nat → PyData → Prop
  | 0, d => Shp 3 d = true ∧ match d with
    | .tuple (h :: _) => flatD h = true
    | _ => True
  | n + 1, d => Shp (n + 4) d = true ∧ match d with
    | .tuple (h :: r) => flatD h = true ∧ ∀ x ∈ r, Tame n x
    | _ => True
theorem Tame.shp {n : Nat} {d : PyData} (h : Tame n d) : Shp (n + 3) d = true := by cases n <;> exact h.1
theorem Tame.head {n : Nat} {x : PyData} {r : List PyData} (h : Tame n (.tuple (x :: r))) : flatD x = true := by
  cases n with
  | zero => exact h.2
  | succ n => exact h.2.1
def idxS (s : Str) : Nat := if s = kPlace then 0 else if s = kAny then 1 else 2
def sortOk (sorts : List Str) (s : Str) : Bool := match sorts.getLast? with
  | none => true
  | some l => !decide (idxS s < idxS l)
def dfltOk (ahead : List PyData) : PyData → Bool
  | .none => true
  | d => isExprD ahead 1 d
def isSlotD (ahead : List PyData) (sorts : List Str) : PyData → Bool
  | .tuple [n, .str s, d] => isNum n 10 && (!(ahead.any fun y => PyData.eqv y n) && (decide (s ∈ sorts3) && (sortOk sorts s && dfltOk ahead d)))
  | _ => false
def SlotPre (d : PyData) : Prop := ∀ n s e, d = .tuple [n, s, e] → (∃ z, s = .str z) ∧ Tame 1 e
theorem ne_pa : ¬ kPlace = kAny := by decide +kernel
theorem ne_pn : ¬ kPlace = kName := by decide +kernel
theorem ne_an : ¬ kAny = kName := by decide +kernel
theorem idx_find {s : Str} (h : s ∈ sorts3) : sorts3[idxS s]? = some s ∧ ∀ m, m < idxS s → sorts3[m]? ≠ some s := by
  simp only [sorts3, List.mem_cons, List.not_mem_nil, or_false] at h
  unfold idxS
  rcases h with rfl | rfl | rfl
  · rw [if_pos rfl]; exact ⟨rfl, fun m hm => absurd hm (Nat.not_lt_zero _)⟩
  · rw [if_neg (Ne.symm ne_pa), if_pos rfl]
    refine ⟨rfl, fun m hm => ?_⟩
    obtain rfl : m = 0 := by omega
    intro z; injection z with z; exact ne_pa z
  · rw [if_neg (Ne.symm ne_pn), if_neg (Ne.symm ne_an)]
    refine ⟨rfl, fun m hm => ?_⟩
    rcases (show m = 0 ∨ m = 1 by omega) with rfl | rfl
    · intro z; injection z with z; exact ne_pn z
    · intro z; injection z with z; exact ne_an z
theorem shp_sort {s : Str} (h : s ∈ sorts3) : Shp 0 (.str s) = true := by
  simp only [sorts3, List.mem_cons, List.not_mem_nil, or_false] at h
  rcases h with rfl | rfl | rfl <;> decide +kernel
theorem shp_sorts {sorts : List Str} (h : ∀ s ∈ sorts, s ∈ sorts3) : Shp 1 (.list (sorts.map .str)) = true := by
  show (sorts.map PyData.str).all (Shp 0) = true
  rw [List.all_eq_true]
  intro x hx
  obtain ⟨s, hs, rfl⟩ := List.mem_map.mp hx
  exact shp_sort (h s hs)
theorem ati_last {α β : Type} {f : α → β} {xs : List α} {l : α} (h : xs.getLast? = some l) : atI (xs.map f) (-1) = some (f l) := by
  cases xs with
  | nil => cases h
  | cons x r =>
    unfold atI ixN
    rw [if_neg (by decide), if_pos (by rw [List.length_map, List.length_cons]; omega)]
    show ((x :: r).map f)[((-1 : Int) + (((x :: r).map f).length : Int)).toNat]? = some (f l)
    rw [List.getElem?_map]
    rw [List.getLast?_eq_getElem?] at h
    have e : ((-1 : Int) + (((x :: r).map f).length : Int)).toNat = (x :: r).length - 1 := by rw [List.length_map, List.length_cons]; omega
    rw [e, h]; rfl
/-! ### whole faces, calls -/
def nameD : PyData → PyData
  | .tuple (n :: _) => n
  | d => d
def sortD : PyData → Str
  | .tuple (_ :: .str s :: _) => s
  | _ => kPlace
def slotAt (slots : List PyData) (k : Nat) : Bool := isSlotD ((slots.take k).map nameD) ((slots.take k).map sortD) (slots.getD k .none)
def isFaceD (slots : List PyData) (rest more : PyData) : Bool := decide (slots.length ≤ 6) && (isBoolT rest && (isBoolT more && (List.range slots.length).all (slotAt slots)))
theorem slot_form {ahead : List PyData} {sorts : List Str} {d : PyData} (h : isSlotD ahead sorts d = true) : ∃ n s e, d = .tuple [.int n, .str s, e] ∧ s ∈ sorts3 := by
  unfold isSlotD at h
  split at h
  · rename_i n s e
    simp only [Bool.and_eq_true] at h
    obtain ⟨h1, h2, h3, _⟩ := h
    cases n with
    | int i => exact ⟨i, s, e, rfl, of_decide_eq_true h3⟩
    | _ => cases h1
  · cases h
theorem cut_take {α : Type} (xs : List α) (k : Nat) (h : k ≤ xs.length) : cutD xs none (some (k : Int)) = xs.take k := by
  unfold Dw.cutD
  rw [HT.sIx_none, HT.sIx_nat, List.drop_zero, Nat.sub_zero, Nat.min_eq_left h]
theorem cut_drop {α : Type} (xs : List α) (k : Nat) (h : k ≤ xs.length) : cutD xs (some (k : Int)) none = xs.drop k := by
  unfold Dw.cutD
  rw [HT.sIx_none, HT.sIx_nat, Nat.min_eq_left h, List.take_of_length_le (by rw [List.length_drop]; omega)]
def isThingD : PyData → Bool
  | .tuple [n, e] => isPlainD e && (match n with
    | .none => true
    | n => isNum n 10)
  | _ => false
end Sc

/-! # faces, calls: plain Lean, and how they stand in Python -/
namespace Sc
open PySem L2 PyProof.Rows Dw
inductive Srt where
  | place | any | name
  deriving DecidableEq
inductive Ex where
  | num (n : Int) | say (n : Int) | slot (n : Int) | plus (a b : Ex)
  deriving DecidableEq
structure Slot where
  name : Int
  sort : Srt
  dflt : Option Ex
  deriving DecidableEq
structure Face where
  slots : List Slot
  rest : Bool
  more : Bool
  deriving DecidableEq
def Srt.str : Srt → Str
  | .place => kPlace
  | .any => kAny
  | .name => kName
def encE : Ex → PyData
  | .num n => .tuple [.str kNum, .int n]
  | .say n => .tuple [.str kSay, .int n]
  | .slot n => .tuple [.str kSlot, .int n]
  | .plus a b => .tuple [.str kPlus, encE a, encE b]
def encO : Option Ex → PyData
  | none => .none
  | some e => encE e
def encS (s : Slot) : PyData := .tuple [.int s.name, .str s.sort.str, encO s.dflt]
def encF (f : Face) : PyData := .tuple [.tuple (f.slots.map encS), .bool f.rest, .bool f.more]
theorem str_place (s : Srt) : decide (s.str = kPlace) = decide (s = .place) := by
  cases s
  · rfl
  · rw [decide_eq_false (show ¬ Srt.any.str = kPlace from Ne.symm ne_pa)]; rfl
  · rw [decide_eq_false (show ¬ Srt.name.str = kPlace from Ne.symm ne_pn)]; rfl
theorem str_name (s : Srt) : decide (s.str = kName) = decide (s = .name) := by
  cases s
  · rw [decide_eq_false (show ¬ Srt.place.str = kName from ne_pn)]; rfl
  · rw [decide_eq_false (show ¬ Srt.any.str = kName from ne_an)]; rfl
  · rfl
theorem shp_srt (s : Srt) : SeqAt.shaped (.str s.str) = true := by cases s <;> decide +kernel
def optI : Option Nat → PyData
  | none => .none
  | some k => .int (k : Int)
def hitS (n : Int) (s : Slot) : Bool := decide (s.name = n) && !decide (s.sort = .place)
def hitK (f : Face) (n : Int) (k : Nat) : Bool := match f.slots[k]? with
  | some s => hitS n s
  | none => false
def slotNamed (f : Face) (n : Int) : Option Nat := ((List.range f.slots.length).filter (hitK f n)).head?
def placesOf (f : Face) : Nat := (f.slots.filter fun s => !decide (s.sort = .name)).length
def isCallD (call : List PyData) : Bool := decide (call.length ≤ 10) && call.all isThingD
def ThingPre (d : PyData) : Prop := ∀ n e, d = .tuple [n, e] → ∃ m, Tame m e
end Sc

/-! # matching, as the program does it -/
namespace Sc
open PySem L2 PyProof.Rows Dw
structure MS where
  filled : List (Option Nat)
  rest : List Nat
  more : List (Int × Nat)
  many : Nat
inductive Clash where
  | over (k : Nat) | unknown (n : Int) | twice (n : Int) | lacks (n : Int)
  deriving DecidableEq
inductive Out where
  | clash (c : Clash)
  | fits (filled : List (Option Nat)) (rest : List Nat) (more : List (Int × Nat))
  deriving DecidableEq
abbrev kTwice : Str := "twice"
abbrev kOver : Str := "over"
abbrev kUnknown : Str := "unknown"
abbrev kLacks : Str := "lacks"
abbrev kFits : Str := "fits"
def encC : Clash → PyData
  | .over k => .tuple [.str kOver, .int (k : Int)]
  | .unknown n => .tuple [.str kUnknown, .int n]
  | .twice n => .tuple [.str kTwice, .int n]
  | .lacks n => .tuple [.str kLacks, .int n]
def encM (l : List (Int × Nat)) : PyData := .tuple (l.map fun p => .tuple [.int p.1, .int (p.2 : Int)])
def encOut : Out → PyData
  | .clash c => encC c
  | .fits a b c => .tuple [.str kFits, .tuple (a.map optI), .tuple (b.map fun (k : Nat) => PyData.int (k : Int)), encM c]
def encOC : Option Clash → PyData
  | none => .none
  | some c => encC c
def putM (f : Face) (st : MS) (slot num : Nat) : Except Clash MS := match st.filled[slot]? with
  | some (some _) => .error (.twice (match f.slots[slot]? with | some s => s.name | none => 0))
  | _ => .ok { st with filled := st.filled.set slot (some num) }
def byPlace (f : Face) (st : MS) (num : Nat) : Except Clash MS :=
  let st' := { st with many := st.many + 1 }
  if st.many < placesOf f then putM f st' st.many num
  else if f.rest = true then .ok { st' with rest := st.rest ++ [num] } else .error (.over num)
def hasM (l : List (Int × Nat)) (n : Int) : Bool := l.any fun p => decide (p.1 = n)
def byName (f : Face) (st : MS) (n : Int) (num : Nat) : Except Clash MS := match slotNamed f n with
  | some k => putM f st k num
  | none => if f.more = true then (if hasM st.more n = true then .error (.twice n) else .ok { st with more := st.more ++ [(n, num)] }) else .error (.unknown n)
def lackK (f : Face) (st : MS) (k : Nat) : Bool := match f.slots[k]?, st.filled[k]? with
  | some s, some none => decide (s.dflt = none)
  | _, _ => false
def nameK (f : Face) (k : Nat) : Int := match f.slots[k]? with | some s => s.name | none => 0
def lacking (f : Face) (st : MS) : Option Int := ((List.range st.filled.length).find? (lackK f st)).map (nameK f)
/-- sorted whole numbers -/
def ins (n : Int) : List Int → List Int
  | [] => [n]
  | m :: r => if n ≤ m then n :: m :: r else m :: ins n r
def srt : List Int → List Int
  | [] => []
  | n :: r => ins n (srt r)
def lookM (l : List (Int × Nat)) (n : Int) : Nat := match l.find? fun p => decide (p.1 = n) with
  | some p => p.2
  | none => 0
def sortM (l : List (Int × Nat)) : List (Int × Nat) := (srt (l.map (·.1))).map fun n => (n, lookM l n)
def goNames (f : Face) : Nat → List (Option Int) → MS → Except Clash MS
  | _, [], st => .ok st
  | i, none :: r, st => match byPlace f st i with
    | .error c => .error c
    | .ok st' => goNames f (i + 1) r st'
  | i, some n :: r, st => match byName f st n i with
    | .error c => .error c
    | .ok st' => goNames f (i + 1) r st'
def initM (f : Face) : MS := ⟨List.replicate f.slots.length none, [], [], 0⟩
def endM (f : Face) (st : MS) : Out := match lacking f st with
  | some n => .clash (.lacks n)
  | none => .fits st.filled st.rest (sortM st.more)
def matchOf (f : Face) (names : List (Option Int)) : Out := match goNames f 0 names (initM f) with
  | .error c => .clash c
  | .ok st => endM f st
/-! ### sorting -/
theorem ins_perm (n : Int) : ∀ l : List Int, (ins n l).Perm (n :: l)
  | [] => .refl _
  | m :: r => by
    unfold ins
    split
    · exact .refl _
    · exact ((ins_perm n r).cons m).trans (.swap n m r)
theorem srt_perm : ∀ l : List Int, (srt l).Perm l
  | [] => .refl _
  | n :: r => (ins_perm n (srt r)).trans ((srt_perm r).cons n)
theorem ins_sorted (n : Int) : ∀ l : List Int, l.Pairwise (· ≤ ·) → (ins n l).Pairwise (· ≤ ·)
  | [], _ => by simp [ins]
  | m :: r, h => by
    unfold ins
    rw [List.pairwise_cons] at h
    split
    · rename_i hn
      rw [List.pairwise_cons, List.pairwise_cons]
      refine ⟨fun x hx => ?_, h.1, h.2⟩
      rcases List.mem_cons.mp hx with rfl | hx
      · exact hn
      · exact Int.le_trans hn (h.1 x hx)
    · rename_i hn
      rw [List.pairwise_cons]
      refine ⟨fun x hx => ?_, ins_sorted n r h.2⟩
      rcases List.mem_cons.mp ((ins_perm n r).mem_iff.mp hx) with rfl | hx
      · omega
      · exact h.1 x hx
theorem srt_sorted : ∀ l : List Int, (srt l).Pairwise (· ≤ ·)
  | [] => .nil
  | n :: r => ins_sorted n _ (srt_sorted r)
theorem sorted_unique : ∀ {a b : List Int}, a.Perm b → a.Pairwise (· ≤ ·) → b.Pairwise (· ≤ ·) → a = b
  | [], b, p, _, _ => by rw [List.nil_perm.mp p]
  | x :: a, [], p, _, _ => by have := p.length_eq; simp at this
  | x :: a, y :: b, p, ha, hb => by
    rw [List.pairwise_cons] at ha hb
    have hxy : x = y := by
      have h1 : x ∈ y :: b := p.mem_iff.mp List.mem_cons_self
      have h2 : y ∈ x :: a := p.mem_iff.mpr List.mem_cons_self
      rcases List.mem_cons.mp h1 with rfl | h1
      · rfl
      rcases List.mem_cons.mp h2 with rfl | h2
      · rfl
      have := hb.1 x h1
      have := ha.1 y h2
      omega
    subst hxy
    rw [sorted_unique ((List.perm_cons x).mp p) ha.2 hb.2]
theorem srt_eq {a b : List Int} (p : a.Perm b) (h : a.Pairwise (· ≤ ·)) : a = srt b := sorted_unique (p.trans (srt_perm b).symm) h (srt_sorted b)
def stepN (f : Face) (st : MS) (x : Option Int) (i : Nat) : Except Clash MS := match x with
  | none => byPlace f st i
  | some n => byName f st n i
theorem go_cons (f : Face) (i : Nat) (x : Option Int) (r : List (Option Int)) (st : MS) : goNames f i (x :: r) st = match stepN f st x i with
    | .error c => .error c
    | .ok st' => goNames f (i + 1) r st' := by
  cases x <;> rfl
theorem go_app (f : Face) : ∀ (l r : List (Option Int)) (i : Nat) (st : MS), goNames f i (l ++ r) st = match goNames f i l st with
    | .error c => .error c
    | .ok st' => goNames f (i + l.length) r st'
  | [], r, i, st => rfl
  | x :: l, r, i, st => by
    rw [List.cons_append, go_cons, go_cons]
    cases stepN f st x i with
    | error c => rfl
    | ok st' =>
      show goNames f (i + 1) (l ++ r) st' = _
      rw [go_app f l r (i + 1) st', List.length_cons, show i + 1 + l.length = i + (l.length + 1) by omega]
theorem find_range {p : Nat → Bool} {n i : Nat} (hi : i < n) (hp : p i = true) (hn : ∀ j, j < i → p j = false) : (List.range n).find? p = some i := by
  rw [List.find?_eq_some_iff_getElem]
  refine ⟨hp, i, by simpa using hi, by simp, fun j hj => ?_⟩
  have := hn j hj
  simp [this]
theorem find_none {p : Nat → Bool} {n : Nat} (hn : ∀ j, j < n → p j = false) : (List.range n).find? p = none := by
  rw [List.find?_eq_none]
  intro x hx
  simp [hn x (List.mem_range.mp hx)]
theorem places_le (f : Face) : placesOf f ≤ f.slots.length := List.length_filter_le _ _
theorem hit_lt {f : Face} {n : Int} {k : Nat} (h : slotNamed f n = some k) : k < f.slots.length := by
  have := List.mem_of_head? h
  exact List.mem_range.mp (List.mem_filter.mp this).1
/-- lengths kept -/
structure Len (f : Face) (st st' : MS) : Prop where
  a : st'.filled.length = st.filled.length
  b : st'.rest.length ≤ st.rest.length + 1
  c : st'.more.length ≤ st.more.length + 1
theorem put_len {f : Face} {st st' : MS} {k n : Nat} (h : putM f st k n = .ok st') : Len f st st' := by
  unfold putM at h
  split at h
  · cases h
  · cases h; exact ⟨by simp, Nat.le_succ _, Nat.le_succ _⟩
theorem step_len {f : Face} {st st' : MS} {x : Option Int} {i : Nat} (h : stepN f st x i = .ok st') : Len f st st' := by
  cases x with
  | none =>
    simp only [stepN, byPlace] at h
    split at h
    · have := put_len h
      exact ⟨this.a, this.b, this.c⟩
    · split at h
      · cases h; exact ⟨rfl, by simp, Nat.le_succ _⟩
      · cases h
  | some n =>
    simp only [stepN, byName] at h
    split at h
    · exact put_len h
    · split at h
      · split at h
        · cases h
        · cases h; exact ⟨rfl, Nat.le_succ _, by simp⟩
      · cases h
end Sc

/-! # faces and calls that are let by -/
namespace Sc
open PySem L2 PyProof.Rows Dw
structure Thing where
  name : Option Int
  e : Ex
def encN : Option Int → PyData
  | none => .none
  | some n => .int n
def encT (t : Thing) : PyData := .tuple [encN t.name, encE t.e]
def PlainE : Ex → Prop
  | .num n | .say n => 0 ≤ n ∧ n < 100
  | _ => False
def ExOk (ahead : List Int) : Nat → Ex → Prop
  | _, .num n | _, .say n => 0 ≤ n ∧ n < 100
  | _, .slot n => (0 ≤ n ∧ n < 10) ∧ n ∈ ahead
  | n + 1, .plus a b => ExOk ahead n a ∧ ExOk ahead n b
  | 0, .plus _ _ => False
def Srt.rank : Srt → Nat
  | .place => 0
  | .any => 1
  | .name => 2
structure SlotOk (pre : List Slot) (s : Slot) : Prop where
  n0 : 0 ≤ s.name
  n1 : s.name < 10
  nw : ∀ t ∈ pre, t.name ≠ s.name
  so : ∀ t, pre.getLast? = some t → t.sort.rank ≤ s.sort.rank
  df : ∀ e, s.dflt = some e → ExOk (pre.map (·.name)) 1 e
structure Face.Ok (f : Face) : Prop where
  len : f.slots.length ≤ 6
  each : ∀ k (h : k < f.slots.length), SlotOk (f.slots.take k) f.slots[k]
structure Thing.Ok (t : Thing) : Prop where
  nm : ∀ n, t.name = some n → 0 ≤ n ∧ n < 10
  pl : PlainE t.e
theorem num_ne_say : ¬ kNum = kSay := by decide +kernel
theorem eqv_sp (a : Str) (d : PyData) : PyData.eqv (.str a) d = true ↔ d = .str a := by
  cases d with
  | str b => rw [eqv_str]; simp [eq_comm]
  | _ => simp [PyData.eqv]
theorem eqv_ps (a : Str) (d : PyData) : PyData.eqv d (.str a) = true ↔ d = .str a := by
  cases d with
  | str b => rw [eqv_str]; simp
  | _ => simp [PyData.eqv]
theorem isNum_iff (d : PyData) (b : Int) : isNum d b = true ↔ ∃ i, d = .int i ∧ 0 ≤ i ∧ i < b := by
  cases d with
  | int i => simp [isNum]
  | _ => simp [isNum]
theorem isPlain_iff (d : PyData) : isPlainD d = true ↔ ∃ e, PlainE e ∧ d = encE e := by
  constructor
  · intro h
    unfold isPlainD at h
    split at h
    · rename_i hd x
      simp only [Bool.and_eq_true, List.any_cons, List.any_nil, Bool.or_false, Bool.or_eq_true] at h
      obtain ⟨i, rfl, hi⟩ := (isNum_iff _ _).mp h.2
      rcases h.1 with h1 | h1
      · rw [(eqv_sp _ _).mp h1]; exact ⟨.num i, hi, rfl⟩
      · rw [(eqv_sp _ _).mp h1]; exact ⟨.say i, hi, rfl⟩
    · cases h
  · rintro ⟨e, he, rfl⟩
    cases e with
    | num n =>
      simp only [encE, isPlainD, Bool.and_eq_true, List.any_cons, Bool.or_eq_true]
      exact ⟨.inl ((eqv_sp _ _).mpr rfl), (isNum_iff _ _).mpr ⟨n, rfl, he⟩⟩
    | say n =>
      simp only [encE, isPlainD, Bool.and_eq_true, List.any_cons, Bool.or_eq_true]
      exact ⟨.inr (.inl ((eqv_sp _ _).mpr rfl)), (isNum_iff _ _).mpr ⟨n, rfl, he⟩⟩
    | slot n => cases he
    | plus a b => cases he
theorem any_int (ahead : List Int) (i : Int) : ((ahead.map PyData.int).any fun y => PyData.eqv y (.int i)) = decide (i ∈ ahead) := by
  induction ahead with
  | nil => rfl
  | cons a r ih =>
    simp only [List.map_cons, List.any_cons, ih, eqv_int]
    by_cases h : a = i
    · subst h; simp
    · have h2 : ¬ i = a := fun e => h e.symm
      simp [h, h2]
theorem isExpr_iff (ahead : List Int) : ∀ (n : Nat) (d : PyData), isExprD (ahead.map .int) n d = true ↔ ∃ e, ExOk ahead n e ∧ d = encE e := by
  intro n
  induction n with
  | zero =>
    intro d
    simp only [isExprD, Bool.or_eq_true, isPlain_iff]
    constructor
    · rintro (⟨e, he, rfl⟩ | h)
      · exact ⟨e, (by cases e <;> first | exact he | cases he), rfl⟩
      · split at h
        · simp only [Bool.and_eq_true] at h
          obtain ⟨h1, h2, h3⟩ := h
          rw [(eqv_ps _ _).mp h1]
          obtain ⟨i, rfl, hi⟩ := (isNum_iff _ _).mp h2
          rw [any_int] at h3
          exact ⟨.slot i, ⟨hi, of_decide_eq_true h3⟩, rfl⟩
        · cases h
    · rintro ⟨e, he, rfl⟩
      cases e with
      | num n => exact .inl ⟨.num n, he, rfl⟩
      | say n => exact .inl ⟨.say n, he, rfl⟩
      | slot n =>
        right
        simp only [encE, Bool.and_eq_true]
        exact ⟨(eqv_ps _ _).mpr rfl, (isNum_iff _ _).mpr ⟨n, rfl, he.1⟩, by rw [any_int]; exact decide_eq_true he.2⟩
      | plus a b => cases he
  | succ n ih =>
    intro d
    simp only [isExprD, Bool.or_eq_true, isPlain_iff]
    constructor
    · rintro (⟨e, he, rfl⟩ | h)
      · exact ⟨e, (by cases e <;> first | exact he | cases he), rfl⟩
      · split at h
        · simp only [Bool.and_eq_true] at h
          obtain ⟨h1, h2, h3⟩ := h
          rw [(eqv_ps _ _).mp h1]
          obtain ⟨i, rfl, hi⟩ := (isNum_iff _ _).mp h2
          rw [any_int] at h3
          exact ⟨.slot i, ⟨hi, of_decide_eq_true h3⟩, rfl⟩
        · simp only [Bool.and_eq_true] at h
          obtain ⟨_, h1, h2, h3⟩ := h
          rw [(eqv_ps _ _).mp h1]
          obtain ⟨a, ha, rfl⟩ := (ih _).mp h2
          obtain ⟨b, hb, rfl⟩ := (ih _).mp h3
          exact ⟨.plus a b, ⟨ha, hb⟩, rfl⟩
        · cases h
    · rintro ⟨e, he, rfl⟩
      cases e with
      | num n => exact .inl ⟨.num n, he, rfl⟩
      | say n => exact .inl ⟨.say n, he, rfl⟩
      | slot n =>
        right
        simp only [encE, Bool.and_eq_true]
        exact ⟨(eqv_ps _ _).mpr rfl, (isNum_iff _ _).mpr ⟨n, rfl, he.1⟩, by rw [any_int]; exact decide_eq_true he.2⟩
      | plus a b =>
        right
        simp only [encE, Bool.and_eq_true]
        refine ⟨?_, (eqv_ps _ _).mpr rfl, (ih _).mpr ⟨a, he.1, rfl⟩, (ih _).mpr ⟨b, he.2, rfl⟩⟩
        rw [eqv_str, decide_eq_false (show ¬ kPlus = kSlot by decide +kernel)]; rfl
theorem idx_rank (s : Srt) : idxS s.str = s.rank := by
  cases s
  · exact if_pos rfl
  · exact (if_neg (Ne.symm ne_pa)).trans (if_pos rfl)
  · exact (if_neg (Ne.symm ne_pn)).trans (if_neg (Ne.symm ne_an))
theorem str_mem (s : Srt) : s.str ∈ sorts3 := by cases s <;> simp [Srt.str, sorts3]
theorem str_of {z : Str} (h : z ∈ sorts3) : ∃ s : Srt, z = s.str := by
  simp only [sorts3, List.mem_cons, List.not_mem_nil, or_false] at h
  rcases h with rfl | rfl | rfl
  · exact ⟨.place, rfl⟩
  · exact ⟨.any, rfl⟩
  · exact ⟨.name, rfl⟩
theorem sortOk_iff (pre : List Slot) (s : Srt) : sortOk (pre.map fun t => t.sort.str) s.str = true ↔ ∀ t, pre.getLast? = some t → t.sort.rank ≤ s.rank := by
  unfold sortOk
  rw [List.getLast?_map]
  cases h : pre.getLast? with
  | none => simp
  | some t =>
    simp only [Option.map_some, Bool.not_eq_true', decide_eq_false_iff_not, Nat.not_lt, idx_rank, Option.some.injEq]
    constructor
    · intro h1 t' e; subst e; exact h1
    · intro h1; exact h1 t rfl
theorem encE_none {e : Ex} : encE e ≠ .none := by cases e <;> intro h <;> cases h
theorem dfltOk_iff (ahead : List Int) (d : PyData) : dfltOk (ahead.map .int) d = true ↔ ∃ o : Option Ex, d = encO o ∧ ∀ e, o = some e → ExOk ahead 1 e := by
  constructor
  · intro h
    by_cases hd : d = .none
    · subst hd; exact ⟨none, rfl, fun e h => (by cases h)⟩
    · have h' : isExprD (ahead.map .int) 1 d = true := by cases d <;> first | exact h | exact absurd rfl hd
      obtain ⟨e, he, rfl⟩ := (isExpr_iff ahead 1 d).mp h'
      exact ⟨some e, rfl, fun e' h => by cases h; exact he⟩
  · rintro ⟨o, rfl, ho⟩
    cases o with
    | none => rfl
    | some e =>
      have h' : isExprD (ahead.map .int) 1 (encE e) = true := (isExpr_iff ahead 1 _).mpr ⟨e, ho e rfl, rfl⟩
      show dfltOk (ahead.map .int) (encE e) = true
      cases e <;> exact h'
theorem isSlot_iff (pre : List Slot) (d : PyData) : isSlotD (pre.map fun t => PyData.int t.name) (pre.map fun t => t.sort.str) d = true ↔ ∃ s, SlotOk pre s ∧ d = encS s := by
  have hm : (pre.map fun t => PyData.int t.name) = (pre.map (·.name)).map .int := by rw [List.map_map]; rfl
  rw [hm]
  constructor
  · intro h
    obtain ⟨n, z, e, rfl, hz⟩ := slot_form h
    obtain ⟨so, rfl⟩ := str_of hz
    simp only [isSlotD, Bool.and_eq_true] at h
    obtain ⟨h1, h2, _, h4, h5⟩ := h
    obtain ⟨i, hi, h0⟩ := (isNum_iff _ _).mp h1
    cases hi
    rw [any_int] at h2
    obtain ⟨o, rfl, ho⟩ := (dfltOk_iff _ _).mp h5
    refine ⟨⟨n, so, o⟩, ⟨h0.1, h0.2, fun t ht e => ?_, (sortOk_iff pre so).mp h4, ho⟩, rfl⟩
    have : n ∈ pre.map (·.name) := List.mem_map.mpr ⟨t, ht, e⟩
    rw [decide_eq_true this] at h2
    cases h2
  · rintro ⟨s, hs, rfl⟩
    simp only [encS, isSlotD, Bool.and_eq_true]
    refine ⟨(isNum_iff _ _).mpr ⟨_, rfl, hs.n0, hs.n1⟩, ?_, decide_eq_true (str_mem _), (sortOk_iff pre s.sort).mpr hs.so, (dfltOk_iff _ _).mpr ⟨_, rfl, hs.df⟩⟩
    rw [any_int, decide_eq_false]
    · rfl
    · intro hmem
      obtain ⟨t, ht, e⟩ := List.mem_map.mp hmem
      exact hs.nw t ht e
theorem slotAt_enc (ss : List Slot) (k : Nat) (h : k < ss.length) : slotAt (ss.map encS) k = isSlotD ((ss.take k).map fun t => PyData.int t.name) ((ss.take k).map fun t => t.sort.str) (encS ss[k]) := by
  unfold slotAt
  rw [← List.map_take, List.map_map, List.map_map, getD_lt (by rw [List.length_map]; exact h), List.getElem_map]
  rfl
theorem face_of {slots : List PyData} {rest more : PyData} (h : isFaceD slots rest more = true) : ∃ f : Face, f.Ok ∧ slots = f.slots.map encS ∧ rest = .bool f.rest ∧ more = .bool f.more := by
  simp only [isFaceD, Bool.and_eq_true, decide_eq_true_eq, List.all_eq_true, List.mem_range] at h
  obtain ⟨h1, h2, h3, h4⟩ := h
  obtain ⟨r, rfl⟩ : ∃ r, rest = .bool r := by cases rest <;> first | exact ⟨_, rfl⟩ | cases h2
  obtain ⟨m, rfl⟩ : ∃ r, more = .bool r := by cases more <;> first | exact ⟨_, rfl⟩ | cases h3
  have key : ∀ n, n ≤ slots.length → ∃ ss : List Slot, slots.take n = ss.map encS ∧ ∀ k (h : k < ss.length), SlotOk (ss.take k) ss[k] := by
    intro n
    induction n with
    | zero => intro _; exact ⟨[], by simp, fun k h => absurd h (Nat.not_lt_zero _)⟩
    | succ n ih =>
      intro hn
      obtain ⟨ss, hss, hok⟩ := ih (by omega)
      have hlen : ss.length = n := by
        have := congrArg List.length hss
        rw [List.length_take, List.length_map] at this; omega
      have h5 := h4 n (by omega)
      unfold slotAt at h5
      rw [hss, List.map_map, List.map_map, getD_lt (by omega)] at h5
      obtain ⟨s, hs, he⟩ := (isSlot_iff ss _).mp h5
      refine ⟨ss ++ [s], ?_, ?_⟩
      · rw [List.take_add_one, hss, List.getElem?_eq_getElem (by omega), he, List.map_append]; rfl
      · intro k hk
        rw [List.length_append, List.length_singleton] at hk
        by_cases hkn : k < ss.length
        · rw [List.getElem_append_left hkn, List.take_append_of_le_length (by omega)]
          exact hok k hkn
        · have hkk : k = ss.length := by omega
          subst hkk
          rw [List.getElem_append_right (Nat.le_refl _), List.take_left]
          simpa using hs
  obtain ⟨ss, hss, hok⟩ := key slots.length (Nat.le_refl _)
  rw [List.take_length] at hss
  subst hss
  rw [List.length_map] at h1
  exact ⟨⟨ss, r, m⟩, ⟨h1, hok⟩, rfl, rfl, rfl⟩
theorem face_ok {f : Face} (h : f.Ok) : isFaceD (f.slots.map encS) (.bool f.rest) (.bool f.more) = true := by
  simp only [isFaceD, Bool.and_eq_true, decide_eq_true_eq, List.all_eq_true, List.mem_range, List.length_map]
  refine ⟨h.len, rfl, rfl, fun k hk => ?_⟩
  rw [slotAt_enc _ _ hk]
  exact (isSlot_iff _ _).mpr ⟨_, h.each k hk, rfl⟩
theorem thing_iff (d : PyData) : isThingD d = true ↔ ∃ t : Thing, t.Ok ∧ d = encT t := by
  constructor
  · intro h
    unfold isThingD at h
    split at h
    · rename_i n e
      simp only [Bool.and_eq_true] at h
      obtain ⟨h1, h2⟩ := h
      obtain ⟨ex, he, rfl⟩ := (isPlain_iff _).mp h1
      by_cases hn : n = .none
      · subst hn; exact ⟨⟨none, ex⟩, ⟨fun n h => (by cases h), he⟩, rfl⟩
      · have h2' : isNum n 10 = true := by cases n <;> first | exact h2 | exact absurd rfl hn
        obtain ⟨i, rfl, hi⟩ := (isNum_iff _ _).mp h2'
        exact ⟨⟨some i, ex⟩, ⟨fun n h => (by cases h; exact hi), he⟩, rfl⟩
    · cases h
  · rintro ⟨⟨n, e⟩, ht, rfl⟩
    simp only [encT, isThingD, Bool.and_eq_true]
    refine ⟨(isPlain_iff _).mpr ⟨e, ht.pl, rfl⟩, ?_⟩
    cases n with
    | none => rfl
    | some i => exact (isNum_iff _ _).mpr ⟨i, rfl, ht.nm i rfl⟩
theorem call_of {call : List PyData} (h : isCallD call = true) : ∃ c : List Thing, c.length ≤ 10 ∧ (∀ t ∈ c, t.Ok) ∧ call = c.map encT := by
  simp only [isCallD, Bool.and_eq_true, decide_eq_true_eq, List.all_eq_true] at h
  obtain ⟨h1, h2⟩ := h
  suffices hh : ∃ c : List Thing, (∀ t ∈ c, t.Ok) ∧ call = c.map encT by
    obtain ⟨c, h3, rfl⟩ := hh
    exact ⟨c, by simpa using h1, h3, rfl⟩
  clear h1
  induction call with
  | nil => exact ⟨[], fun t h => (by cases h), rfl⟩
  | cons d r ih =>
    obtain ⟨t, ht, rfl⟩ := (thing_iff d).mp (h2 d List.mem_cons_self)
    obtain ⟨c, hc, rfl⟩ := ih fun x hx => h2 x (List.mem_cons_of_mem _ hx)
    exact ⟨t :: c, fun x hx => (by rcases List.mem_cons.mp hx with rfl | hx; exact ht; exact hc x hx), rfl⟩
theorem call_ok {c : List Thing} (hl : c.length ≤ 10) (h : ∀ t ∈ c, t.Ok) : isCallD (c.map encT) = true := by
  simp only [isCallD, Bool.and_eq_true, decide_eq_true_eq, List.all_eq_true, List.length_map]
  refine ⟨hl, fun x hx => ?_⟩
  obtain ⟨t, ht, rfl⟩ := List.mem_map.mp hx
  exact (thing_iff _).mpr ⟨t, h t ht, rfl⟩
/-! ### the promises' conditions -/
theorem tame_enc : ∀ (n : Nat) (e : Ex) (ahead : List Int), ExOk ahead n e → Tame n (encE e) := by
  have hk : ∀ m, Shp m (.str kNum) = true ∧ Shp m (.str kSay) = true ∧ Shp m (.str kSlot) = true ∧ Shp m (.str kPlus) = true := fun m => by
    refine ⟨?_, ?_, ?_, ?_⟩ <;> exact shp_mono (Nat.zero_le m) (by decide +kernel)
  have t2 : ∀ (n : Nat) (k : Str) (i : Int), (∀ m, Shp m (.str k) = true) → Tame n (.tuple [.str k, .int i]) := fun n k i h => by
    have hs : ∀ m, Shp (m + 1) (.tuple [.str k, .int i]) = true := fun m => by
      show ([PyData.str k, .int i].all (Shp m)) = true
      simp only [List.all_cons, h m, List.all_nil]; cases m <;> rfl
    cases n with
    | zero => exact ⟨hs 2, rfl⟩
    | succ n =>
      refine ⟨hs (n + 3), rfl, fun x hx => ?_⟩
      simp only [List.mem_singleton] at hx
      subst hx
      cases n <;> exact ⟨rfl, trivial⟩
  intro n
  induction n with
  | zero =>
    intro e ahead h
    cases e with
    | num i => exact t2 0 _ i fun m => (hk m).1
    | say i => exact t2 0 _ i fun m => (hk m).2.1
    | slot i => exact t2 0 _ i fun m => (hk m).2.2.1
    | plus a b => cases h
  | succ n ih =>
    intro e ahead h
    cases e with
    | num i => exact t2 _ _ i fun m => (hk m).1
    | say i => exact t2 _ _ i fun m => (hk m).2.1
    | slot i => exact t2 _ _ i fun m => (hk m).2.2.1
    | plus a b =>
      have ha := ih a ahead h.1
      have hb := ih b ahead h.2
      refine ⟨?_, rfl, fun x hx => ?_⟩
      · show ([PyData.str kPlus, encE a, encE b].all (Shp (n + 3))) = true
        simp only [List.all_cons, List.all_nil, Bool.and_true, (hk (n + 3)).2.2.2, ha.shp, hb.shp]
      · simp only [List.mem_cons, List.not_mem_nil, or_false] at hx
        rcases hx with rfl | rfl
        · exact ha
        · exact hb
theorem tame_plain {e : Ex} (h : PlainE e) : Tame 0 (encE e) := tame_enc 0 e [] (by cases e <;> first | exact h | cases h)
theorem tame_none (n : Nat) : Tame n .none := by cases n <;> exact ⟨rfl, trivial⟩
theorem slotPre_enc {pre : List Slot} {s : Slot} (h : SlotOk pre s) : SlotPre (encS s) := by
  rintro n z e he
  cases he
  refine ⟨⟨_, rfl⟩, ?_⟩
  cases hd : s.dflt with
  | none => exact tame_none 1
  | some e => exact tame_enc 1 e _ (h.df e hd)
theorem facePre {f : Face} (h : f.Ok) : (∀ s ∈ f.slots.map encS, SlotPre s) ∧ (f.slots.map encS).length ≤ 1000 := by
  refine ⟨fun d hd => ?_, by have := h.len; rw [List.length_map]; omega⟩
  obtain ⟨s, hs, rfl⟩ := List.mem_map.mp hd
  obtain ⟨k, hk, rfl⟩ := List.getElem_of_mem hs
  exact slotPre_enc (h.each k hk)
theorem shp_thing {t : Thing} (h : t.Ok) : Shp 4 (encT t) = true := by
  show ([encN t.name, encE t.e].all (Shp 3)) = true
  have h1 : Shp 3 (encN t.name) = true := by cases t.name <;> rfl
  simp only [List.all_cons, List.all_nil, Bool.and_true, h1, (tame_plain h.pl).shp]
theorem callPre {c : List Thing} (hl : c.length ≤ 10) (h : ∀ t ∈ c, t.Ok) : (∀ t ∈ c.map encT, ThingPre t) ∧ Shp 8 (.list (c.map encT)) = true ∧ (c.map encT).length ≤ 1000 := by
  refine ⟨fun d hd => ?_, ?_, by rw [List.length_map]; omega⟩
  · obtain ⟨t, ht, rfl⟩ := List.mem_map.mp hd
    rintro n e he
    cases he
    exact ⟨0, tame_plain (h t ht).pl⟩
  · show (c.map encT).all (Shp 7) = true
    rw [List.all_eq_true]
    intro d hd
    obtain ⟨t, ht, rfl⟩ := List.mem_map.mp hd
    exact shp_mono (by decide) (shp_thing (h t ht))
end Sc

/-! # matching, as the laws do it -/
namespace Sc
open PySem L2 PyProof.Rows Dw
inductive Go where
  | slot (k : Nat) | rest | more (n : Int) | over (k : Nat) | unknown (n : Int)
  deriving DecidableEq
abbrev kRest : Str := "rest"
abbrev kMore : Str := "more"
def encG : Go → PyData
  | .slot k => .tuple [.str kSlot, .int (k : Int)]
  | .rest => .tuple [.str kRest]
  | .more n => .tuple [.str kMore, .int n]
  | .over k => .tuple [.str kOver, .int (k : Int)]
  | .unknown n => .tuple [.str kUnknown, .int n]
def Go.word : Go → Str
  | .slot _ => kSlot
  | .rest => kRest
  | .more _ => kMore
  | .over _ => kOver
  | .unknown _ => kUnknown
def placeK (f : Face) (k : Nat) : Bool := match f.slots[k]? with
  | some s => !decide (s.sort = .name)
  | none => false
def lawFor (f : Face) (names : List (Option Int)) (i : Nat) : Go := match names[i]? with
  | some (some n) => match slotNamed f n with
    | some k => .slot k
    | none => if f.more = true then .more n else .unknown n
  | _ => let k := (names.take i).countP (fun x => decide (x = none))
    if placeK f k = true then .slot k else if f.rest = true then .rest else .over i
def goesOf (f : Face) (names : List (Option Int)) : List Go := (List.range names.length).map (lawFor f names)
def bad (f : Face) (goes : List Go) (i : Nat) : Option Clash := match goes[i]? with
  | some (.over k) => some (.over k)
  | some (.unknown n) => some (.unknown n)
  | some (.slot k) => if Go.slot k ∈ goes.take i then some (.twice (nameK f k)) else none
  | some (.more n) => if Go.more n ∈ goes.take i then some (.twice n) else none
  | _ => none
def lackL (f : Face) (goes : List Go) (k : Nat) : Bool := !decide (Go.slot k ∈ goes) && (match f.slots[k]? with | some s => decide (s.dflt = none) | none => false)
def idxG (goes : List Go) (g : Go) : Option Nat := if g ∈ goes then some (goes.idxOf g) else none
def restG (goes : List Go) : List Nat := (List.range goes.length).filter fun (k : Nat) => decide (goes[k]? = some Go.rest)
def moreK (goes : List Go) (k : Nat) : Option (Int × Nat) := match goes[k]? with
  | some (Go.more n) => some (n, k)
  | _ => none
def moreG (goes : List Go) : List (Int × Nat) := (List.range goes.length).filterMap (moreK goes)
def lawEnd (f : Face) (goes : List Go) : Out := match (List.range f.slots.length).find? (lackL f goes) with
  | some k => .clash (.lacks (nameK f k))
  | none => .fits ((List.range f.slots.length).map fun k => idxG goes (.slot k)) (restG goes) (sortM (moreG goes))
def lawMatched (f : Face) (names : List (Option Int)) : Out := match (List.range names.length).findSome? (bad f (goesOf f names)) with
  | some c => .clash c
  | none => lawEnd f (goesOf f names)
theorem goes_len (f : Face) (names : List (Option Int)) : (goesOf f names).length = names.length := by simp [goesOf]
theorem goes_get (f : Face) (names : List (Option Int)) {i : Nat} (h : i < names.length) : (goesOf f names)[i]? = some (lawFor f names i) := by
  unfold goesOf; rw [List.getElem?_map, List.getElem?_range h]; rfl
theorem shp_go (g : Go) : Shp 2 (encG g) = true := by
  have h : ∀ (k : Str), Shp 0 (.str k) = true → ∀ n : Int, Shp 2 (.tuple [.str k, .int n]) = true := fun k hk n => by
    show ([PyData.str k, .int n].all (Shp 1)) = true
    simp only [List.all_cons, List.all_nil, shp_mono (Nat.zero_le 1) hk]; rfl
  cases g with
  | slot k => exact h _ (by decide +kernel) _
  | rest => show ([PyData.str kRest].all (Shp 1)) = true; decide +kernel
  | more n => exact h _ (by decide +kernel) _
  | over k => exact h _ (by decide +kernel) _
  | unknown n => exact h _ (by decide +kernel) _
theorem shp_goes (l : List Go) : Shp 3 (.list (l.map encG)) = true := by
  show (l.map encG).all (Shp 2) = true
  rw [List.all_eq_true]
  intro x hx
  obtain ⟨g, _, rfl⟩ := List.mem_map.mp hx
  exact shp_go g
theorem eqv_sn (a b : Str) (m n : Int) : PyData.eqv (.tuple [.str a, .int m]) (.tuple [.str b, .int n]) = (decide (a = b) && decide (m = n)) := by
  show (PyData.eqv (.str a) (.str b) && (PyData.eqv (.int m) (.int n) && true)) = _
  rw [eqv_str, eqv_int, Bool.and_true]
theorem eqv_go (g h : Go) : PyData.eqv (encG g) (encG h) = decide (g = h) := by
  have n1 : ¬ kSlot = kMore := by decide +kernel
  have n2 : ¬ kSlot = kOver := by decide +kernel
  have n3 : ¬ kSlot = kUnknown := by decide +kernel
  have n4 : ¬ kMore = kOver := by decide +kernel
  have n5 : ¬ kMore = kUnknown := by decide +kernel
  have n6 : ¬ kOver = kUnknown := by decide +kernel
  have r1 : ∀ (k : Str) (n : Int), PyData.eqv (.tuple [.str k, .int n]) (.tuple [.str kRest]) = false := fun k n => by
    show (PyData.eqv (.str k) (.str kRest) && false) = false
    rw [Bool.and_false]
  have r2 : ∀ (k : Str) (n : Int), PyData.eqv (.tuple [.str kRest]) (.tuple [.str k, .int n]) = false := fun k n => by
    show (PyData.eqv (.str kRest) (.str k) && false) = false
    rw [Bool.and_false]
  cases g <;> cases h <;> simp only [encG]
  case rest.rest => show (PyData.eqv (.str kRest) (.str kRest) && true) = _; rw [eqv_str]; simp
  all_goals first
    | (rw [r1]; simp; done)
    | (rw [r2]; simp; done)
    | (rw [eqv_sn]; simp [n1, n2, n3, n4, n5, n6, Ne.symm n1, Ne.symm n2, Ne.symm n3, Ne.symm n4, Ne.symm n5, Ne.symm n6]; try omega)
theorem any_go (l : List Go) (g : Go) : ((l.map encG).any fun y => PyData.eqv y (encG g)) = decide (g ∈ l) := by
  induction l with
  | nil => rfl
  | cons a r ih =>
    simp only [List.map_cons, List.any_cons, ih, eqv_go]
    by_cases h : a = g
    · subst h; simp
    · have h2 : ¬ g = a := fun e => h e.symm
      simp [h, h2]
end Sc

/-! # the two ways of matching are one -/
namespace Sc
open PySem L2 PyProof.Rows Dw
theorem rank_mono {f : Face} (h : f.Ok) : ∀ (j : Nat) (hj : j < f.slots.length) (i : Nat) (hi : i ≤ j), (f.slots[i]'(by omega)).sort.rank ≤ f.slots[j].sort.rank := by
  intro j
  induction j with
  | zero =>
    intro hj i hi
    have e : i = 0 := by omega
    subst e
    exact Nat.le_refl _
  | succ j ih =>
    intro hj i hi
    by_cases he : i = j + 1
    · subst he; exact Nat.le_refl _
    · refine Nat.le_trans (ih (by omega) i (by omega)) ?_
      refine (h.each (j + 1) hj).so f.slots[j] ?_
      rw [List.getLast?_eq_getElem?, List.length_take, Nat.min_eq_left (by omega), List.getElem?_take, if_pos (by omega)]
      exact List.getElem?_eq_getElem (by omega)
theorem filter_lt : ∀ (ss : List Slot), ss.Pairwise (fun a b => a.sort.rank ≤ b.sort.rank) → ∀ k : Nat, (k < (ss.filter fun s => !decide (s.sort = .name)).length) ↔ ∃ s, ss[k]? = some s ∧ s.sort ≠ .name
  | [], _, k => by simp
  | a :: r, hp, k => by
    rw [List.pairwise_cons] at hp
    by_cases ha : a.sort = .name
    · have hall : ∀ b ∈ r, b.sort = .name := fun b hb => by
        have := hp.1 b hb
        rw [ha] at this
        cases hs : b.sort with
        | name => rfl
        | place => rw [hs] at this; exact absurd this (by decide)
        | any => rw [hs] at this; exact absurd this (by decide)
      have hf : (a :: r).filter (fun s => !decide (s.sort = .name)) = [] := by
        rw [List.filter_eq_nil_iff]
        intro b hb
        rcases List.mem_cons.mp hb with rfl | hb
        · simp [ha]
        · simp [hall b hb]
      rw [hf]
      simp only [List.length_nil, Nat.not_lt_zero, false_iff]
      rintro ⟨s, hs, hn⟩
      have : s ∈ a :: r := List.mem_of_getElem? hs
      rcases List.mem_cons.mp this with rfl | hb
      · exact hn ha
      · exact hn (hall s hb)
    · rw [List.filter_cons, if_pos (by simp [ha]), List.length_cons]
      cases k with
      | zero => simp [ha]
      | succ k =>
        rw [List.getElem?_cons_succ]
        rw [← filter_lt r hp.2 k]
        exact Nat.succ_lt_succ_iff
theorem places_iff {f : Face} (h : f.Ok) (k : Nat) : (k < placesOf f) ↔ placeK f k = true := by
  unfold placesOf
  rw [filter_lt f.slots ?_ k]
  · unfold placeK
    constructor
    · rintro ⟨s, hs, hn⟩; rw [hs]; simp [hn]
    · intro hp
      cases hs : f.slots[k]? with
      | none => rw [hs] at hp; cases hp
      | some s => rw [hs] at hp; exact ⟨s, rfl, by simpa using hp⟩
  · rw [List.pairwise_iff_getElem]
    intro i j hi hj hij
    exact rank_mono h j hj i (Nat.le_of_lt hij)
theorem idx_snoc (l : List Go) (g h : Go) : idxG (l ++ [g]) h = if h ∈ l then idxG l h else if h = g then some l.length else none := by
  unfold idxG
  by_cases hl : h ∈ l
  · rw [if_pos (List.mem_append_left _ hl), if_pos hl, if_pos hl, List.idxOf_append, if_pos hl]
  · rw [if_neg hl]
    by_cases hg : h = g
    · subst hg
      rw [if_pos (by simp), if_pos rfl, List.idxOf_append, if_neg hl]
      simp
    · rw [if_neg (by simp [hl, hg]), if_neg hg]
structure RelG (f : Face) (names : List (Option Int)) (goes : List Go) (i : Nat) (st : MS) : Prop where
  many : st.many = (names.take i).countP fun x => decide (x = none)
  len : st.filled.length = f.slots.length
  fil : ∀ k, k < f.slots.length → st.filled[k]? = some (idxG (goes.take i) (.slot k))
  rst : st.rest = (List.range i).filter fun (k : Nat) => decide (goes[k]? = some Go.rest)
  mor : st.more = (List.range i).filterMap (moreK goes)
theorem has_iff (goes : List Go) (n : Int) : ∀ i, i ≤ goes.length → hasM ((List.range i).filterMap (moreK goes)) n = decide (Go.more n ∈ goes.take i)
  | 0, _ => by simp [hasM]
  | i + 1, hi => by
    have ih := has_iff goes n i (by omega)
    have hg : goes[i]? = some goes[i] := List.getElem?_eq_getElem (by omega)
    have htk : goes.take (i + 1) = goes.take i ++ [goes[i]] := by rw [List.take_add_one, hg]; rfl
    rw [List.range_succ, List.filterMap_append, htk]
    have happ : ∀ a b : List (Int × Nat), hasM (a ++ b) n = (hasM a n || hasM b n) := fun a b => by unfold hasM; rw [List.any_append]
    rw [happ, ih]
    have hlast : hasM (List.filterMap (moreK goes) [i]) n = decide (goes[i] = Go.more n) := by
      cases hgi : goes[i] with
      | more m =>
        rw [hgi] at hg
        simp only [List.filterMap_cons, List.filterMap_nil, moreK, hg, hasM, List.any_cons, List.any_nil, Bool.or_false]
        by_cases e : m = n <;> simp [e]
      | _ =>
        rw [hgi] at hg
        simp [List.filterMap_cons, moreK, hg, hasM]
    rw [hlast]
    rw [Bool.eq_iff_iff, Bool.or_eq_true, decide_eq_true_iff, decide_eq_true_iff, decide_eq_true_iff, List.mem_append, List.mem_singleton]
    exact or_congr Iff.rfl ⟨fun e => e.symm, fun e => e.symm⟩
theorem put_rel {f : Face} {goes : List Go} {i k : Nat} {fl : List (Option Nat)} (hi : i < goes.length) (hg : goes[i]? = some (.slot k)) (hk : k < f.slots.length) (hn : Go.slot k ∉ goes.take i)
    (len : fl.length = f.slots.length) (fil : ∀ k, k < f.slots.length → fl[k]? = some (idxG (goes.take i) (.slot k))) : ∀ k', k' < f.slots.length → (fl.set k (some i))[k']? = some (idxG (goes.take (i + 1)) (.slot k')) := by
  intro k' hk'
  have htk : goes.take (i + 1) = goes.take i ++ [.slot k] := by rw [List.take_add_one, hg]; rfl
  rw [htk, idx_snoc, List.getElem?_set]
  by_cases e : k = k'
  · subst e
    rw [if_pos rfl, if_pos (by omega), if_neg hn, if_pos rfl, List.length_take, Nat.min_eq_left (Nat.le_of_lt hi)]
  · rw [if_neg e, fil k' hk']
    have hne : ¬ Go.slot k' = Go.slot k := fun h => e (by cases h; rfl)
    by_cases hm : Go.slot k' ∈ goes.take i
    · rw [if_pos hm]
    · rw [if_neg hm, if_neg hne]
      unfold idxG; rw [if_neg hm]
theorem keep_rel {f : Face} {goes : List Go} {i : Nat} {g : Go} {fl : List (Option Nat)} (hg : goes[i]? = some g) (hng : ∀ k, g ≠ .slot k)
    (fil : ∀ k, k < f.slots.length → fl[k]? = some (idxG (goes.take i) (.slot k))) : ∀ k', k' < f.slots.length → fl[k']? = some (idxG (goes.take (i + 1)) (.slot k')) := by
  intro k' hk'
  have htk : goes.take (i + 1) = goes.take i ++ [g] := by rw [List.take_add_one, hg]; rfl
  rw [htk, idx_snoc, fil k' hk']
  by_cases hm : Go.slot k' ∈ goes.take i
  · rw [if_pos hm]
  · rw [if_neg hm, if_neg (fun h => hng k' h.symm)]
    unfold idxG; rw [if_neg hm]
theorem step_rel {f : Face} (hf : f.Ok) {names : List (Option Int)} {i : Nat} {st : MS} (hi : i < names.length) (R : RelG f names (goesOf f names) i st) :
    match bad f (goesOf f names) i with
    | some c => stepN f st names[i] i = .error c
    | none => ∃ st', stepN f st names[i] i = .ok st' ∧ RelG f names (goesOf f names) (i + 1) st' := by
  have hgi := goes_get f names hi
  have hgl := goes_len f names
  have hii : i < (goesOf f names).length := by omega
  have hni : names[i]? = some names[i] := List.getElem?_eq_getElem hi
  have hcnt : (names.take (i + 1)).countP (fun x => decide (x = none)) = (names.take i).countP (fun x => decide (x = none)) + (if names[i] = none then 1 else 0) := by
    rw [List.take_add_one, hni, List.countP_append]
    simp [List.countP_cons]
  have hrst : ∀ g, (goesOf f names)[i]? = some g → ((List.range (i + 1)).filter fun (k : Nat) => decide ((goesOf f names)[k]? = some Go.rest)) = ((List.range i).filter fun (k : Nat) => decide ((goesOf f names)[k]? = some Go.rest)) ++ (if g = .rest then [i] else []) := by
    intro g hg
    rw [List.range_succ, List.filter_append]
    congr 1
    by_cases e : g = .rest
    · subst e; simp [List.filter_cons, hg]
    · simp [List.filter_cons, hg, e]
  have hmor : ∀ g, (goesOf f names)[i]? = some g → (List.range (i + 1)).filterMap (moreK (goesOf f names)) = (List.range i).filterMap (moreK (goesOf f names)) ++ (match g with | .more n => [(n, i)] | _ => []) := by
    intro g hg
    rw [List.range_succ, List.filterMap_append]
    congr 1
    cases g <;> simp [List.filterMap_cons, moreK, hg]
  -- filling the slot k
  have slotCase : ∀ (k : Nat) (m : Nat), (goesOf f names)[i]? = some (.slot k) → m = (names.take (i + 1)).countP (fun x => decide (x = none)) → k < f.slots.length →
      match bad f (goesOf f names) i with
      | some c => putM f { st with many := m } k i = .error c
      | none => ∃ st', putM f { st with many := m } k i = .ok st' ∧ RelG f names (goesOf f names) (i + 1) st' := by
    intro k m hg hm hk
    have hfk := R.fil k hk
    unfold bad
    rw [hg]
    by_cases hin : Go.slot k ∈ (goesOf f names).take i
    · simp only [if_pos hin]
      unfold putM
      rw [show ({ st with many := m } : MS).filled[k]? = some (idxG ((goesOf f names).take i) (.slot k)) from hfk]
      unfold idxG
      rw [if_pos hin]
      rfl
    · simp only [if_neg hin]
      refine ⟨{ st with many := m, filled := st.filled.set k (some i) }, ?_, hm, by simp [R.len], put_rel hii hg hk hin R.len R.fil, ?_, ?_⟩
      · unfold putM
        rw [show ({ st with many := m } : MS).filled[k]? = some (idxG ((goesOf f names).take i) (.slot k)) from hfk]
        unfold idxG
        rw [if_neg hin]
      · show st.rest = _
        rw [hrst _ hg, R.rst]; simp
      · show st.more = _
        rw [hmor _ hg, R.mor]; simp
  cases hn : names[i] with
  | none =>
    rw [hn] at hcnt hni
    simp only [if_true] at hcnt
    have hlf : lawFor f names i = (if placeK f st.many = true then .slot st.many else if f.rest = true then .rest else .over i) := by
      unfold lawFor; rw [hni, R.many]
    show match bad f (goesOf f names) i with
      | some c => byPlace f st i = .error c
      | none => ∃ st', byPlace f st i = .ok st' ∧ RelG f names (goesOf f names) (i + 1) st'
    by_cases hp : placeK f st.many = true
    · rw [if_pos hp] at hlf
      rw [hlf] at hgi
      have hlt : st.many < placesOf f := (places_iff hf _).mpr hp
      have := slotCase st.many (st.many + 1) hgi (by rw [hcnt, R.many]) (Nat.lt_of_lt_of_le hlt (places_le f))
      unfold byPlace
      simp only [if_pos hlt]
      exact this
    · have hnlt : ¬ st.many < placesOf f := fun h => hp ((places_iff hf _).mp h)
      rw [if_neg hp] at hlf
      unfold byPlace
      simp only [if_neg hnlt]
      by_cases hr : f.rest = true
      · rw [if_pos hr] at hlf
        rw [hlf] at hgi
        have hb : bad f (goesOf f names) i = none := by unfold bad; rw [hgi]
        rw [hb]
        simp only [if_pos hr]
        refine ⟨_, rfl, by show st.many + 1 = _; rw [hcnt, R.many], R.len, keep_rel hgi (fun k h => by cases h) R.fil, ?_, ?_⟩
        · show st.rest ++ [i] = _
          rw [hrst _ hgi, R.rst]; simp
        · show st.more = _
          rw [hmor _ hgi, R.mor]; simp
      · rw [if_neg hr] at hlf
        rw [hlf] at hgi
        have hb : bad f (goesOf f names) i = some (.over i) := by unfold bad; rw [hgi]
        rw [hb]
        simp only [if_neg hr]
  | some n =>
    rw [hn] at hcnt hni
    have hcnt : (names.take (i + 1)).countP (fun x => decide (x = none)) = (names.take i).countP (fun x => decide (x = none)) := by rw [hcnt]; simp
    have hlf : lawFor f names i = (match slotNamed f n with | some k => .slot k | none => if f.more = true then .more n else .unknown n) := by
      unfold lawFor; rw [hni] <;> rfl
    show match bad f (goesOf f names) i with
      | some c => byName f st n i = .error c
      | none => ∃ st', byName f st n i = .ok st' ∧ RelG f names (goesOf f names) (i + 1) st'
    cases hs : slotNamed f n with
    | some k =>
      rw [hs] at hlf
      rw [hlf] at hgi
      have := slotCase k st.many hgi (by rw [hcnt, R.many]) (hit_lt hs)
      unfold byName
      simp only [hs]
      exact this
    | none =>
      rw [hs] at hlf
      unfold byName
      simp only [hs]
      by_cases hm : f.more = true
      · simp only [if_pos hm] at hlf ⊢
        rw [hlf] at hgi
        have hh : hasM st.more n = decide (Go.more n ∈ (goesOf f names).take i) := by rw [R.mor]; exact has_iff _ n i (by omega)
        unfold bad
        rw [hgi]
        by_cases hin : Go.more n ∈ (goesOf f names).take i
        · simp only [if_pos hin]
          rw [hh, decide_eq_true hin, if_pos rfl]
        · simp only [if_neg hin]
          rw [hh, decide_eq_false hin, if_neg Bool.false_ne_true]
          refine ⟨_, rfl, by show st.many = _; rw [hcnt, R.many], R.len, keep_rel hgi (fun k h => by cases h) R.fil, ?_, ?_⟩
          · show st.rest = _
            rw [hrst _ hgi, R.rst]; simp
          · show st.more ++ [(n, i)] = _
            rw [hmor _ hgi, R.mor]
      · simp only [if_neg hm] at hlf ⊢
        rw [hlf] at hgi
        have hb : bad f (goesOf f names) i = some (.unknown n) := by unfold bad; rw [hgi]
        rw [hb]
theorem init_rel (f : Face) (names : List (Option Int)) : RelG f names (goesOf f names) 0 (initM f) := by
  refine ⟨by simp [initM], by simp [initM], fun k hk => ?_, by simp [initM], by simp [initM]⟩
  rw [show (initM f).filled = List.replicate f.slots.length none from rfl, List.getElem?_replicate, if_pos hk]
  simp [idxG]
theorem go_rel {f : Face} (hf : f.Ok) (names : List (Option Int)) : ∀ i, i ≤ names.length → match (List.range i).findSome? (bad f (goesOf f names)) with
    | some c => goNames f 0 (names.take i) (initM f) = .error c
    | none => ∃ st, goNames f 0 (names.take i) (initM f) = .ok st ∧ RelG f names (goesOf f names) i st := by
  intro i
  induction i with
  | zero => intro _; exact ⟨_, rfl, init_rel f names⟩
  | succ i ih =>
    intro hi
    have h1 := ih (by omega)
    have hii : i < names.length := by omega
    have htk : names.take (i + 1) = names.take i ++ [names[i]] := by rw [List.take_add_one, List.getElem?_eq_getElem hii]; rfl
    rw [List.range_succ, List.findSome?_append, htk, go_app]
    cases hb : (List.range i).findSome? (bad f (goesOf f names)) with
    | some c =>
      rw [hb] at h1
      simp only at h1
      rw [h1]
      rfl
    | none =>
      rw [hb] at h1
      obtain ⟨st, hg, R⟩ := h1
      have h2 := step_rel hf hii R
      rw [hg]
      have hgo : goNames f (0 + (names.take i).length) [names[i]] st = stepN f st names[i] i := by
        rw [List.length_take, Nat.min_eq_left (Nat.le_of_lt hii), Nat.zero_add, go_cons]
        cases stepN f st names[i] i <;> rfl
      simp only [hgo, Option.none_or, List.findSome?_cons, List.findSome?_nil]
      cases hbi : bad f (goesOf f names) i with
      | some c => rw [hbi] at h2; exact h2
      | none => rw [hbi] at h2; exact h2
theorem match_eq {f : Face} (hf : f.Ok) (names : List (Option Int)) : matchOf f names = lawMatched f names := by
  have h := go_rel hf names names.length (Nat.le_refl _)
  rw [List.take_length] at h
  unfold matchOf lawMatched
  cases hb : (List.range names.length).findSome? (bad f (goesOf f names)) with
  | some c => rw [hb] at h; simp only at h; rw [h]
  | none =>
    rw [hb] at h
    obtain ⟨st, hg, R⟩ := h
    rw [hg]
    show endM f st = lawEnd f (goesOf f names)
    have hgl := goes_len f names
    have htk : (goesOf f names).take names.length = goesOf f names := by rw [← hgl, List.take_length]
    have hfil : ∀ k, k < f.slots.length → st.filled[k]? = some (idxG (goesOf f names) (.slot k)) := fun k hk => by rw [R.fil k hk, htk]
    have hlk : ∀ k, k < f.slots.length → lackK f st k = lackL f (goesOf f names) k := by
      intro k hk
      unfold lackK lackL
      rw [List.getElem?_eq_getElem hk, hfil k hk]
      unfold idxG
      by_cases hm : Go.slot k ∈ goesOf f names
      · rw [if_pos hm]; simp [hm]
      · rw [if_neg hm]; simp [hm]
    have hfind : (List.range f.slots.length).find? (lackK f st) = (List.range f.slots.length).find? (lackL f (goesOf f names)) := by
      have : ∀ l : List Nat, (∀ k ∈ l, k < f.slots.length) → l.find? (lackK f st) = l.find? (lackL f (goesOf f names)) := by
        intro l
        induction l with
        | nil => intro _; rfl
        | cons k l ih =>
          intro hl
          rw [List.find?_cons, List.find?_cons, hlk k (hl k List.mem_cons_self), ih fun x hx => hl x (List.mem_cons_of_mem _ hx)]
      exact this _ fun k hk => List.mem_range.mp hk
    unfold endM lawEnd lacking
    rw [R.len, hfind]
    cases (List.range f.slots.length).find? (lackL f (goesOf f names)) with
    | some k => rfl
    | none =>
      show Out.fits st.filled st.rest (sortM st.more) = _
      have e1 : st.filled = (List.range f.slots.length).map fun k => idxG (goesOf f names) (.slot k) := by
        apply List.ext_getElem?
        intro k
        rw [List.getElem?_map]
        by_cases hk : k < f.slots.length
        · rw [hfil k hk, List.getElem?_range hk]; rfl
        · rw [List.getElem?_eq_none (by rw [R.len]; omega), List.getElem?_eq_none (by simp; omega)]; rfl
      have e2 : st.rest = restG (goesOf f names) := by rw [R.rst]; unfold restG; rw [hgl]
      have e3 : st.more = moreG (goesOf f names) := by rw [R.mor]; unfold moreG; rw [hgl]
      rw [e1, e2, e3]
end Sc

/-! # faces and calls are told apart by their data -/
namespace Sc
open PySem L2 PyProof.Rows Dw
theorem tup_inj {xs ys : List PyData} (h : PyData.tuple xs = .tuple ys) : xs = ys := by injection h
theorem str_inj {a b : Str} (h : PyData.str a = .str b) : a = b := by injection h
theorem int_inj {a b : Int} (h : PyData.int a = .int b) : a = b := by injection h
theorem bool_inj {a b : Bool} (h : PyData.bool a = .bool b) : a = b := by injection h
theorem rank_inj {a b : Srt} (h : a.rank = b.rank) : a = b := by cases a <;> cases b <;> first | rfl | cases h
theorem srt_inj {a b : Srt} (h : a.str = b.str) : a = b := rank_inj (by rw [← idx_rank, ← idx_rank, h])
theorem k12 : ¬ kNum = kSay := by decide +kernel
theorem k13 : ¬ kNum = kSlot := by decide +kernel
theorem k14 : ¬ kNum = kPlus := by decide +kernel
theorem k23 : ¬ kSay = kSlot := by decide +kernel
theorem k24 : ¬ kSay = kPlus := by decide +kernel
theorem k34 : ¬ kSlot = kPlus := by decide +kernel
theorem head_inj {a b : Str} {r q : List PyData} (h : PyData.tuple (.str a :: r) = .tuple (.str b :: q)) : a = b ∧ r = q := by
  have h1 := tup_inj h
  rw [List.cons.injEq] at h1
  exact ⟨str_inj h1.1, h1.2⟩
theorem one_inj {a b : PyData} (h : [a] = [b]) : a = b := by injection h
theorem encE_inj : ∀ (a b : Ex), encE a = encE b → a = b
  | .num n, b, h => by
    cases b with
    | num m => rw [int_inj (one_inj (head_inj h).2)]
    | say m => exact absurd (head_inj h).1 k12
    | slot m => exact absurd (head_inj h).1 k13
    | plus x y => exact absurd (head_inj h).1 k14
  | .say n, b, h => by
    cases b with
    | num m => exact absurd (head_inj h).1.symm k12
    | say m => rw [int_inj (one_inj (head_inj h).2)]
    | slot m => exact absurd (head_inj h).1 k23
    | plus x y => exact absurd (head_inj h).1 k24
  | .slot n, b, h => by
    cases b with
    | num m => exact absurd (head_inj h).1.symm k13
    | say m => exact absurd (head_inj h).1.symm k23
    | slot m => rw [int_inj (one_inj (head_inj h).2)]
    | plus x y => exact absurd (head_inj h).1 k34
  | .plus x y, b, h => by
    cases b with
    | num m => exact absurd (head_inj h).1.symm k14
    | say m => exact absurd (head_inj h).1.symm k24
    | slot m => exact absurd (head_inj h).1.symm k34
    | plus x' y' =>
      have h2 := (head_inj h).2
      rw [List.cons.injEq] at h2
      rw [encE_inj x x' h2.1, encE_inj y y' (one_inj h2.2)]
theorem encO_inj {a b : Option Ex} (h : encO a = encO b) : a = b := by
  cases a with
  | none =>
    cases b with
    | none => rfl
    | some y => exact absurd (show encE y = .none from h.symm) encE_none
  | some x =>
    cases b with
    | none => exact absurd (show encE x = .none from h) encE_none
    | some y => rw [encE_inj x y h]
theorem encS_inj {a b : Slot} (h : encS a = encS b) : a = b := by
  have h1 := tup_inj h
  rw [List.cons.injEq, List.cons.injEq] at h1
  cases a; cases b
  simp only [Slot.mk.injEq]
  exact ⟨int_inj h1.1, srt_inj (str_inj h1.2.1), encO_inj (one_inj h1.2.2)⟩
theorem encN_inj {a b : Option Int} (h : encN a = encN b) : a = b := by
  cases a <;> cases b
  · rfl
  · cases h
  · cases h
  · rw [int_inj h]
theorem encT_inj {a b : Thing} (h : encT a = encT b) : a = b := by
  have h1 := tup_inj h
  rw [List.cons.injEq] at h1
  cases a; cases b
  simp only [Thing.mk.injEq]
  exact ⟨encN_inj h1.1, encE_inj _ _ (one_inj h1.2)⟩
theorem map_inj {α β : Type} {g : α → β} (hg : ∀ a b, g a = g b → a = b) : ∀ {l r : List α}, l.map g = r.map g → l = r
  | [], [], _ => rfl
  | [], _ :: _, h => by cases h
  | _ :: _, [], h => by cases h
  | a :: l, b :: r, h => by
    rw [List.map_cons, List.map_cons, List.cons.injEq] at h
    rw [hg a b h.1, map_inj hg h.2]
theorem face_inj {f g : Face} (h : (f.slots.map encS, PyData.bool f.rest, PyData.bool f.more) = (g.slots.map encS, PyData.bool g.rest, PyData.bool g.more)) : f = g := by
  simp only [Prod.mk.injEq] at h
  cases f; cases g
  simp only [Face.mk.injEq]
  exact ⟨map_inj (fun _ _ => encS_inj) h.1, bool_inj h.2.1, bool_inj h.2.2⟩
theorem call_inj {c d : List Thing} (h : c.map encT = d.map encT) : c = d := map_inj (fun _ _ => encT_inj) h
theorem matched_eq {f g : Face} {c d : List Thing} (hf : f.Ok) (h1 : (f.slots.map encS, PyData.bool f.rest, PyData.bool f.more) = (g.slots.map encS, PyData.bool g.rest, PyData.bool g.more)) (h2 : c.map encT = d.map encT) :
    encOut (matchOf g (d.map (·.name))) = encOut (lawMatched f (c.map (·.name))) := by
  cases face_inj h1; cases call_inj h2
  rw [match_eq hf]
theorem all_some {α : Type} {o : Option α} {p : α → Bool} (h : o.all p = true) : ∀ t, o = some t → p t = true := by
  rintro t rfl; exact h
def srtAt (t k : Nat) : Srt := if k < t then .place else .any
def slots7 (t : Nat) : List Slot := (List.range 6).map fun (k : Nat) => ⟨(k : Int), srtAt t k, none⟩
theorem slots7_ok {t : Nat} (ht : t < 4) : ∀ k (hk : k < (slots7 t).length), SlotOk ((slots7 t).take k) (slots7 t)[k] := by
  intro k hk
  have hk6 : k < 6 := by simpa [slots7] using hk
  rcases (show t = 0 ∨ t = 1 ∨ t = 2 ∨ t = 3 by omega) with rfl | rfl | rfl | rfl <;>
  rcases (show k = 0 ∨ k = 1 ∨ k = 2 ∨ k = 3 ∨ k = 4 ∨ k = 5 by omega) with rfl | rfl | rfl | rfl | rfl | rfl <;>
  exact ⟨by clear hk6; decide +revert, by clear hk6; decide +revert, by clear hk6; decide +revert, fun s hs => of_decide_eq_true (all_some (p := fun s => decide (s.sort.rank ≤ _)) (by clear hs hk6; decide +revert) s hs), fun e he => (by cases he)⟩
def face7 (rest more : Bool) (t : Nat) : Face := ⟨slots7 t, rest, more⟩
theorem face7_ok (rest more : Bool) {t : Nat} (ht : t < 4) : (face7 rest more t).Ok := ⟨by simp [face7, slots7], slots7_ok ht⟩
def call7 (n : Nat) : List Thing := ⟨some 5, .num 1⟩ :: List.replicate n ⟨none, .num 2⟩
theorem call7_ok (n : Nat) : ∀ t ∈ call7 n, t.Ok := by
  intro t ht
  rcases List.mem_cons.mp ht with rfl | ht
  · exact ⟨fun n h => (by cases h; decide), by show (0 : Int) ≤ 1 ∧ (1 : Int) < 100; decide⟩
  · cases (List.mem_replicate.mp ht).2
    exact ⟨fun n h => (by cases h), by show (0 : Int) ≤ 2 ∧ (2 : Int) < 100; decide⟩
theorem call7_len (n : Nat) : (call7 n).length = n + 1 := by simp [call7]
theorem flat_rep {α : Type} (x : α) : ∀ n : Nat, (List.replicate n [x]).flatten = List.replicate n x
  | 0 => rfl
  | n + 1 => by rw [List.replicate_succ, List.flatten_cons, flat_rep x n, List.replicate_succ]; rfl
theorem call7_enc (n : Nat) : [PyData.tuple [.int 5, .tuple [.str "num", .int 1]]] ++ (List.replicate n [PyData.tuple [.none, .tuple [.str "num", .int 2]]]).flatten = (call7 n).map encT := by
  rw [flat_rep, call7, List.map_cons, List.map_replicate]; rfl
theorem sort_at {t k : Nat} (ht : t < 4) (hk : k < 6) : atI ((List.replicate t [PyData.str "place"]).flatten ++ (List.replicate 6 [PyData.str "any"]).flatten) (k : Int) = some (.str (srtAt t k).str) := by
  rcases (show t = 0 ∨ t = 1 ∨ t = 2 ∨ t = 3 by omega) with rfl | rfl | rfl | rfl <;>
  rcases (show k = 0 ∨ k = 1 ∨ k = 2 ∨ k = 3 ∨ k = 4 ∨ k = 5 by omega) with rfl | rfl | rfl | rfl | rfl | rfl <;>
  exact ati_n rfl
end Sc

/-! # what is worked out -/
namespace Sc
open PySem L2 PyProof.Rows Dw
def encWs (ws : List (Int × Int)) : List (Key × PV) := ws.map fun p => (Sum.inl p.1, PV.i p.2)
def lookW (ws : List (Int × Int)) (n : Int) : Int := match ws.find? fun p => decide (p.1 = n) with
  | some p => p.2
  | none => 0
def valE (ws : List (Int × Int)) : Ex → Int
  | .num n => n
  | .say n => n
  | .slot n => lookW ws n
  | .plus a b => valE ws a + valE ws b
def sayE : Ex → List Int
  | .num _ => []
  | .say n => [n]
  | .slot _ => []
  | .plus a b => sayE a ++ sayE b
theorem val_lookW {n : Int} : ∀ {ws : List (Int × Int)}, n ∈ ws.map (·.1) → valP (encWs ws) (Sum.inl n) = some (.i (lookW ws n))
  | [], h => by cases h
  | p :: ws, h => by
    unfold valP encWs lookW
    by_cases hp : p.1 = n
    · subst hp
      simp [List.find?_cons]
    · have hk : ¬ (Sum.inl p.1 : Key) = Sum.inl n := fun e => hp (Sum.inl.inj e)
      rw [List.map_cons, List.find?_cons, List.find?_cons]
      simp only [decide_eq_false hp, decide_eq_false hk]
      have h' : n ∈ ws.map (·.1) := by
        rcases List.mem_cons.mp h with e | h
        · exact absurd e.symm hp
        · exact h
      exact val_lookW h'
theorem put_newW {ws : List (Int × Int)} {n v : Int} (h : n ∉ ws.map (·.1)) : putKP (encWs ws) (Sum.inl n) (.i v) = encWs (ws ++ [(n, v)]) := by
  unfold putKP
  have : ((encWs ws).any fun kv => decide (kv.1 = Sum.inl n)) = false := by
    rw [List.any_eq_false]
    intro kv hkv
    obtain ⟨p, hp, rfl⟩ := List.mem_map.mp hkv
    simp only [decide_eq_true_eq]
    intro e
    exact h (List.mem_map.mpr ⟨p, hp, Sum.inl.inj e⟩)
  rw [this, if_neg Bool.false_ne_true]
  unfold encWs
  rw [List.map_append]
  rfl
/-- what a thing's number has come to -/
def numK (nums : List Int) (k : Nat) : Int := nums.getD k 0
def dfE (s : Slot) : Ex := s.dflt.getD (.num 0)
def stepW (nums : List Int) (s : Slot) (o : Option Nat) (st : List (Int × Int) × List Int) : List (Int × Int) × List Int := match o with
  | some k => (st.1 ++ [(s.name, numK nums k)], st.2)
  | none => (st.1 ++ [(s.name, valE st.1 (dfE s))], st.2 ++ sayE (dfE s))
def goW (nums : List Int) : List (Slot × Option Nat) → List (Int × Int) × List Int → List (Int × Int) × List Int
  | [], st => st
  | p :: r, st => goW nums r (stepW nums p.1 p.2 st)
theorem goW_app (nums : List Int) : ∀ (l r : List (Slot × Option Nat)) (st), goW nums (l ++ r) st = goW nums r (goW nums l st)
  | [], _, _ => rfl
  | p :: l, r, st => goW_app nums l r (stepW nums p.1 p.2 st)
def numsOf (c : List Thing) : List Int := c.map fun t => valE [] t.e
def saidOf (c : List Thing) : List Int := (c.map fun t => sayE t.e).flatten
def encI (l : List Int) : PyData := .tuple (l.map .int)
def encDone (f : Face) (c : List Thing) : Out → PyData
  | .clash k => .tuple [encI (saidOf c), encC k]
  | .fits a b m =>
    .tuple [encI (goW (numsOf c) (f.slots.zip a) ([], saidOf c)).2,
      .tuple [.str kFits, encI (f.slots.map fun s => lookW (goW (numsOf c) (f.slots.zip a) ([], saidOf c)).1 s.name), encI (b.map (numK (numsOf c))), .tuple (m.map fun p => .tuple [.int p.1, .int (numK (numsOf c) p.2)])]]
structure Fits (f : Face) (n : Nat) (a : List (Option Nat)) (b : List Nat) (m : List (Int × Nat)) : Prop where
  len : a.length = f.slots.length
  fa : ∀ (i k : Nat), a[i]? = some (some k) → k < n
  df : ∀ (i : Nat) (h : i < f.slots.length), a[i]? = some none → f.slots[i].dflt ≠ none
  fb : ∀ k ∈ b, k < n
  fm : ∀ p ∈ m, p.2 < n
  lb : b.length ≤ n
  lm : m.length ≤ n
theorem fits_of {f : Face} {names : List (Option Int)} {a : List (Option Nat)} {b : List Nat} {m : List (Int × Nat)} (h : lawMatched f names = .fits a b m) : Fits f names.length a b m := by
  unfold lawMatched at h
  split at h
  · cases h
  · unfold lawEnd at h
    split at h
    · cases h
    · rename_i hfind
      have hgl := goes_len f names
      generalize goesOf f names = goes at *
      injection h with h1 h2 h3
      rw [← hgl]
      refine ⟨?_, ?_, ?_, ?_, ?_, ?_, ?_⟩
      · rw [← h1]; simp
      · intro i k hi
        rw [← h1, List.getElem?_map] at hi
        cases hr : (List.range f.slots.length)[i]? with
        | none => rw [hr] at hi; cases hi
        | some j =>
          rw [hr] at hi
          have hi : idxG goes (.slot j) = some k := Option.some.inj hi
          unfold idxG at hi
          split at hi
          · rename_i hm
            cases hi
            exact List.idxOf_lt_length_of_mem hm
          · cases hi
      · intro i hi hn hd
        rw [← h1, List.getElem?_map, List.getElem?_range hi] at hn
        have hn : idxG goes (.slot i) = none := Option.some.inj hn
        have hl := List.find?_eq_none.mp hfind i (List.mem_range.mpr hi)
        unfold idxG at hn
        split at hn
        · cases hn
        · rename_i hm
          apply hl
          unfold lackL
          rw [List.getElem?_eq_getElem hi]
          simp [hm, hd]
      · intro k hk
        rw [← h2] at hk
        exact List.mem_range.mp (List.mem_filter.mp hk).1
      · intro p hp
        rw [← h3] at hp
        obtain ⟨n, hn, rfl⟩ := List.mem_map.mp hp
        have hn := (srt_perm _).mem_iff.mp hn
        show lookM (moreG goes) n < goes.length
        unfold lookM
        split
        · rename_i q hq
          have hq := List.mem_of_find?_eq_some hq
          obtain ⟨k, hk, hk2⟩ := List.mem_filterMap.mp hq
          unfold moreK at hk2
          split at hk2
          · cases hk2
            exact List.mem_range.mp hk
          · cases hk2
        · rename_i hq
          obtain ⟨q, hq1, hq2⟩ := List.mem_map.mp hn
          have := List.find?_eq_none.mp hq q hq1
          simp [hq2] at this
      · rw [← h2]
        exact Nat.le_trans (List.length_filter_le _ _) (by rw [List.length_range]; exact Nat.le_refl _)
      · rw [← h3]
        unfold sortM
        rw [List.length_map, (srt_perm _).length_eq, List.length_map]
        exact Nat.le_trans (List.length_filterMap_le _ _) (by rw [List.length_range]; exact Nat.le_refl _)
end Sc

/-! # comprehensions whose element changes one object -/
namespace Dw
open PySem L2 PyProof.Rows
/-- all but one object stays -/
def OffA (row : Addr) (μ μ' : Mu) : Prop := ∀ b o, b ≠ row → μ b = some o → μ' b = some o
theorem OffA.refl {row : Addr} {μ : Mu} : OffA row μ μ := fun _ _ _ h => h
theorem OffA.trans {row : Addr} {μ μ1 μ2 : Mu} (h : OffA row μ μ1) (h' : OffA row μ1 μ2) : OffA row μ μ2 := fun b o hb e => h' b o hb (h b o hb e)
theorem OffA.put {row : Addr} {μ μ' : Mu} {x : MO} (h : OffA row μ μ') : OffA row μ (mset μ' row x) := fun b o hb e => by
  rw [mset_ne hb]; exact h b o hb e
theorem OffA.new {row a : Addr} {μ μ' : Mu} {x : MO} (h : OffA row μ μ') (hn : μ a = none) : OffA row μ (mset μ' a x) := fun b o hb e => by
  rw [mset_ne (ne_mu e hn)]; exact h b o hb e
theorem OffA.sub {row : Addr} {μ μ' : Mu} (h : OffA row μ μ') {x : MO} (hx : μ' row = some x) : Sub (mset μ row x) μ' := fun b o hb => by
  by_cases hbr : b = row
  · subst hbr; rw [mset_same] at hb; cases hb; exact hx
  · rw [mset_ne hbr] at hb; exact h b o hbr hb
section
variable {K : Frg} {G0 : Hp} {ρ : Rho} {μ : Mu} {Q : PV → Mu → Prop} {te : TE}
theorem we_lcW {α : Type} {wi : TI} {i : Nat} (l : List α) (enc : α → PV) (g : α → PyData) (aS : Addr) (st : Nat → MO) (h : Wi K G0 wi ρ μ fun xs C μ1 => xs = l.map enc ∧ l.length ≤ 99999 ∧ μ1 aS = some (st 0) ∧ (∀ μ', OffA aS μ1 μ' → C μ') ∧
      (∀ (j : Nat) (a : α), l[j]? = some a → ∀ μ', OffA aS μ1 μ' → μ' aS = some (st j) → We K G0 te ((wipeD ρ [i]).set i (some (enc a))) μ' fun y μ3 => y = .d (g a) ∧ OffA aS μ' μ3 ∧ μ3 aS = some (st (j + 1))) ∧
      Q (.l (l.map g)) (mset μ1 aS (st l.length))) : We K G0 (tLc wi (gName i) tYes te [i]) ρ μ Q := by
  refine we_less (we_freeze (we_lcM ?_ (hw_name (by simp))))
  refine fun σ G H e rs S R k => h σ G H e rs S R fun J G' H' xs C μ' e' it S' ⟨hx, hl, h0, hC, hs, hq⟩ => k J G' H' xs C μ' e' it S' ?_
  subst hx
  intro D hD
  have hDS : D ≠ aS := (ne_mu h0 hD).symm
  refine ⟨fun j acc μ2 => acc = ((l.take j).map g).map .d ∧ OffA aS μ' μ2 ∧ μ2 aS = some (st j) ∧ μ2 D = some (.lst acc), ⟨by simp, OffA.refl.new hD, by rw [mset_ne hDS.symm]; exact h0, mset_same⟩, ?_, ?_, ?_⟩
  · rintro j acc μ2 hj ⟨rfl, ho, ha, hd⟩
    refine ⟨hC _ ho, hd, ?_⟩
    rw [List.length_map, List.length_map, List.length_take]
    omega
  · rintro j x acc μ2 hj ⟨rfl, ho, ha, hd⟩
    rw [List.getElem?_map] at hj
    cases hlj : l[j]? with
    | none => rw [hlj] at hj; cases hj
    | some a =>
      rw [hlj] at hj
      cases hj
      refine wg_name (wt_yes ?_)
      rw [if_pos rfl]
      have hb := hs j a hlj μ2 ho ha
      refine fun σ G H e rs S R k => hb σ G H e rs S R fun v G' H' y μ3 e' rv S' ⟨hy, ho3, ha3⟩ => k v G' H' y μ3 e' rv S' ?_
      subst hy
      have hd3 := ho3 D _ hDS hd
      refine ⟨hd3, ?_, (ho.trans ho3).new hD, by rw [mset_ne hDS.symm]; exact ha3, mset_same⟩
      rw [List.take_add_one, hlj, List.map_append, List.map_append]
      rfl
  · rintro acc μ2 ⟨rfl, ho, ha, hd⟩
    rw [List.length_map, List.take_length] at hd
    rw [List.length_map] at ha
    refine ⟨D, l.map g, rfl, hd, mset μ' aS (st l.length), fun b o hb => ?_, hq⟩
    have hbD : b ≠ D := fun e => by subst e; rw [mset_ne hDS, hD] at hb; cases hb
    rw [mdel_ne hbD]
    exact ho.sub ha b o hb
/-- two names, no test -/
theorem we_lcT {α : Type} {wi : TI} {i j : Nat} (l : List α) (e1 e2 g : α → PyData) (h : Wi K G0 wi ρ μ fun xs C μ1 => xs = l.map (fun a => PV.t [e1 a, e2 a]) ∧ l.length ≤ 99999 ∧ (∀ μ', Sub μ1 μ' → C μ') ∧
      (∀ a ∈ l, ∀ μ', Sub μ1 μ' → We K G0 te (((wipeD ρ [i, j]).set i (some (.d (e1 a)))).set j (some (.d (e2 a)))) μ' fun y μ3 => Sub μ' μ3 ∧ y = .d (g a)) ∧
      Q (.l (l.map g)) μ1) : We K G0 (tLc wi (gTup K 2 (gCons (gName i) (gCons (gName j) gNil))) tYes te [i, j]) ρ μ Q := by
  refine we_freeze (we_lcI (l.map fun a => some (g a)) (hw_tup2 (by simp) (by simp)) ?_)
  refine fun σ G H e rs S R k => h σ G H e rs S R fun J G' H' xs C μ' e' it S' ⟨hx, hl, hC, hs, hq⟩ => k J G' H' xs C μ' e' it S' ?_
  subst hx
  refine ⟨by rw [List.length_map, List.length_map], by rw [List.length_map]; exact hl, hC, ?_, fun D hD => ⟨D, _, rfl, mset_same, ?_⟩⟩
  · intro n x o hx ho μ1 hs1
    rw [List.getElem?_map] at hx ho
    cases ha : l[n]? with
    | none => rw [ha] at hx; cases hx
    | some a =>
      rw [ha] at hx ho
      cases hx; cases ho
      refine wg_tup2 (wgs_cons (wg_name (wgs_cons (wg_name (wgs_nil ?_)))))
      refine ⟨Sub.refl _, wt_yes ⟨Sub.refl _, fun _ => ?_, fun h => (nomatch h)⟩⟩
      exact we_mono (hs a (List.mem_of_getElem? ha) μ1 hs1) fun y μ6 ⟨q1, q2⟩ => ⟨q1, g a, rfl, q2⟩
  · rw [mdel_mset hD, show (l.map fun a => some (g a)).filterMap id = l.map g by induction l with
      | nil => rfl
      | cons a l ih => simp]
    exact hq
theorem sub_put {μ μ' : Mu} {a : Addr} {x : MO} (h : Sub μ μ') (hn : μ a = none) : Sub μ (mset μ' a x) := fun b o e => by
  rw [mset_ne (ne_mu e hn)]; exact h b o e
/-- a, b = x, y -/
theorem ws_par {i j : Nat} {ta : TA} {De : DE} (h : Wa K G0 ta ρ μ fun xs μ' => ∃ v w, xs = [v, w] ∧ De.nx ((ρ.set i (some v)).set j (some w)) μ') : Ws K G0 (tPar i j ta) ρ μ De := fun σ G H e rs S D kn kr kb kc =>
  h σ G H e rs S _ fun vs G1 H1 xs μ1 e1 rl S1 ⟨x, y, hx, q⟩ => by
    subst hx
    obtain ⟨v, w, rfl, rv, rw⟩ := rl2 rl
    exact ⟨v, w, rfl, kn _ G1 H1 _ μ1 e1 (RelS.set (v := some w) (x := some y) rw j (RelS.set (v := some v) (x := some x) rv i (rs.ext e1))) S1 q⟩
end
end Dw

/-! # small data -/
namespace Sc
open PySem L2 PyProof.Rows Dw
/-- not deep, no long lists in it -/
def Small : Nat → PyData → Prop
  | 0, d => Shp 0 d = true
  | n + 1, d => Shp (n + 1) d = true ∧ match d with
    | .tuple xs | .list xs => xs.length ≤ 1000 ∧ ∀ x ∈ xs, Small n x
    | _ => True
theorem Small.shp {n : Nat} {d : PyData} (h : Small n d) : Shp n d = true := by cases n <;> first | exact h | exact h.1
theorem eqv_same {n : Nat} {d : PyData} (h : Shp n d = true) : PyData.eqv d d = true := SeqAt.eqv_refl d (shp_lay n d h).1
theorem ws_cut {K : Frg} {G0 : Hp} {s u : TS} {ρ : Rho} {μ : Mu} {De : DE} (I : Rho → Mu → Prop) (h1 : Ws K G0 s ρ μ { nx := I, rt := De.rt, bk := De.bk, ct := De.ct }) (h2 : ∀ ρ' μ', I ρ' μ' → Ws K G0 u ρ' μ' De) : Ws K G0 (tSeq s u) ρ μ De :=
  ws_seq fun σ G H e rs S D kn kr kb kc => h1 σ G H e rs S D (fun a b c d f g i j q => kn a b c d f g i j (h2 d f q)) kr kb kc
/-! ### data that are compared -/
theorem small_int {n : Nat} {i : Int} : Small n (.int i) := by cases n <;> first | rfl | exact ⟨rfl, trivial⟩
theorem small_none {n : Nat} : Small n .none := by cases n <;> first | rfl | exact ⟨rfl, trivial⟩
theorem small_str {n : Nat} {x : Str} (h : PyData.canLay0 (.str x) = true) : Small n (.str x) := by cases n <;> first | exact h | exact ⟨h, trivial⟩
theorem small_tup {n : Nat} {xs : List PyData} (hl : xs.length ≤ 1000) (h : ∀ x ∈ xs, Small n x) : Small (n + 1) (.tuple xs) :=
  ⟨by show xs.all (Shp n) = true; rw [List.all_eq_true]; exact fun x hx => (h x hx).shp, hl, h⟩
theorem small_two {n : Nat} {a b : PyData} (ha : Small n a) (hb : Small n b) : Small (n + 1) (.tuple [a, b]) :=
  small_tup (by simp) fun x hx => by
    rcases List.mem_cons.mp hx with rfl | hx
    · exact ha
    · rw [List.mem_singleton.mp hx]; exact hb
theorem small_clash (c : Clash) : Small 3 (encC c) := by
  cases c <;> exact small_two (small_str (by decide +kernel)) small_int
theorem small_out {f : Face} {names : List (Option Int)} (h1 : f.slots.length ≤ 1000) (h2 : names.length ≤ 1000) : Small 3 (encOut (lawMatched f names)) := by
  unfold lawMatched
  split
  · exact small_clash _
  · unfold lawEnd
    split
    · exact small_clash (.lacks _)
    · refine small_tup (by simp) fun x hx => ?_
      rcases List.mem_cons.mp hx with rfl | hx
      · exact small_str (by decide +kernel)
      rcases List.mem_cons.mp hx with rfl | hx
      · refine small_tup (by simpa using h1) fun y hy => ?_
        obtain ⟨o, _, rfl⟩ := List.mem_map.mp hy
        cases o
        · exact small_none
        · exact small_int
      rcases List.mem_cons.mp hx with rfl | hx
      · refine small_tup ?_ fun y hy => ?_
        · rw [List.length_map]
          refine Nat.le_trans (List.length_filter_le _ _) ?_
          rw [List.length_range, goes_len]; exact h2
        · obtain ⟨o, _, rfl⟩ := List.mem_map.mp hy
          exact small_int
      rw [List.mem_singleton.mp hx]
      refine small_tup ?_ fun y hy => ?_
      · unfold sortM
        rw [List.length_map, List.length_map, (srt_perm _).length_eq, List.length_map]
        refine Nat.le_trans (List.length_filterMap_le _ _) ?_
        rw [List.length_range, goes_len]; exact h2
      · obtain ⟨o, _, rfl⟩ := List.mem_map.mp hy
        exact small_two small_int small_int
theorem small_ints {n : Nat} {l : List Int} (h : l.length ≤ 1000) : Small (n + 1) (encI l) := by
  refine small_tup (by rw [List.length_map]; exact h) fun x hx => ?_
  obtain ⟨i, _, rfl⟩ := List.mem_map.mp hx
  exact small_int
theorem small_up : ∀ {n : Nat} {d : PyData}, Small n d → Small (n + 1) d := by
  intro n
  induction n with
  | zero =>
    intro d h
    cases d <;> first | exact ⟨rfl, trivial⟩ | exact ⟨h, trivial⟩ | cases h
  | succ n ih =>
    intro d h
    obtain ⟨h1, h2⟩ := h
    refine ⟨shp_mono (Nat.le_succ _) h1, ?_⟩
    cases d with
    | tuple xs => exact ⟨h2.1, fun x hx => ih (h2.2 x hx)⟩
    | list xs => exact ⟨h2.1, fun x hx => ih (h2.2 x hx)⟩
    | _ => trivial
theorem shp_all {n : Nat} {xs : List PyData} (h : ∀ x ∈ xs, Shp n x = true) : Shp (n + 1) (.tuple xs) = true := by
  show xs.all (Shp n) = true
  rw [List.all_eq_true]; exact h
theorem shp_allL {n : Nat} {xs : List PyData} (h : ∀ x ∈ xs, Shp n x = true) : Shp (n + 1) (.list xs) = true := by
  show xs.all (Shp n) = true
  rw [List.all_eq_true]; exact h
theorem shp_optI (o : Option Nat) : Shp 0 (optI o) = true := by cases o <;> rfl
theorem shp_encI (l : List Int) : Shp 1 (encI l) = true := shp_all fun x hx => by
  obtain ⟨i, _, rfl⟩ := List.mem_map.mp hx
  rfl
theorem mset_id {μ : Mu} {a : Addr} {m : MO} (h : μ a = some m) : mset μ a m = μ := by
  funext b
  by_cases hb : b = a
  · subst hb; rw [mset_same]; exact h.symm
  · rw [mset_ne hb]
theorem sayE_len {ahead : List Int} : ∀ (n : Nat) (e : Ex), ExOk ahead n e → (sayE e).length ≤ 2 ^ n := by
  intro n
  induction n with
  | zero =>
    intro e h
    cases e with
    | plus a b => cases h
    | _ => simp [sayE]
  | succ n ih =>
    intro e h
    cases e with
    | num m => simp [sayE]
    | say m => simp only [sayE, List.length_singleton]; exact Nat.one_le_two_pow
    | slot m => simp [sayE]
    | plus a b =>
      have h1 := ih a h.1
      have h2 := ih b h.2
      simp only [sayE, List.length_append, Nat.pow_succ]
      omega
abbrev WArg := Ex × (List (Int × Int) × Addr) × (List Int × Addr)
structure WPre (n : Nat) (a : WArg) (μ : Mu) : Prop where
  ex : ExOk (a.2.1.1.map (·.1)) n a.1
  mw : μ a.2.1.2 = some (.dk (encWs a.2.1.1))
  ms : μ a.2.2.2 = some (.lst (a.2.2.1.map PV.i))
  len : a.2.2.1.length + 2 ^ n ≤ 1000
abbrev wIn (a : WArg) : List PV := [.d (encE a.1), .o a.2.1.2, .o a.2.2.2]
abbrev wPost (a : WArg) (μ : Mu) (x : PV) (μ' : Mu) : Prop := x = .i (valE a.2.1.1 a.1) ∧ μ' = mset μ a.2.2.2 (.lst ((a.2.2.1 ++ sayE a.1).map PV.i))
theorem goW_keys (nums : List Int) : ∀ (l : List (Slot × Option Nat)) (st : List (Int × Int) × List Int), (goW nums l st).1.map (·.1) = st.1.map (·.1) ++ l.map (fun p => p.1.name)
  | [], st => by simp [goW]
  | p :: l, st => by
    rw [goW, goW_keys nums l]
    obtain ⟨s, o⟩ := p
    cases o <;> simp [stepW]
theorem said_len {c : List Thing} (h : ∀ t ∈ c, t.Ok) : (saidOf c).length ≤ c.length := by
  induction c with
  | nil => simp [saidOf]
  | cons t c ih =>
    have h1 := ih fun x hx => h x (List.mem_cons_of_mem _ hx)
    have h2 := sayE_len (ahead := []) 0 t.e (by have := (h t List.mem_cons_self).pl; cases he : t.e <;> rw [he] at this <;> first | exact this | cases this)
    unfold saidOf at *
    simp only [List.map_cons, List.flatten_cons, List.length_append, List.length_cons]
    omega
theorem plain_ex {e : Ex} (h : PlainE e) (ahead : List Int) : ExOk ahead 0 e := by
  cases e <;> first | exact h | cases h
theorem zip_get {ss : List Slot} {a : List (Option Nat)} {i : Nat} {x : PV} (h : (List.zipWith (fun a b => PV.t [a, b]) (ss.map encS) (a.map optI))[i]? = some x) :
    ∃ (hs : i < ss.length) (ha : i < a.length), x = .t [encS ss[i], optI a[i]] := by
  have hi := (List.getElem?_eq_some_iff.mp h).1
  simp only [List.length_zipWith, List.length_map] at hi
  have hs : i < ss.length := by omega
  have ha : i < a.length := by omega
  refine ⟨hs, ha, ?_⟩
  rw [List.getElem?_zipWith, List.getElem?_map, List.getElem?_map, List.getElem?_eq_getElem hs, List.getElem?_eq_getElem ha] at h
  exact (Option.some.inj h).symm
theorem nums_get {c : List Thing} {k : Nat} (h : k < c.length) : ((numsOf c).map PyData.int)[k]? = some (.int (numK (numsOf c) k)) := by
  have hl : k < (numsOf c).length := by unfold numsOf; rw [List.length_map]; exact h
  rw [List.getElem?_map, List.getElem?_eq_getElem hl]
  unfold numK
  rw [getD_lt hl]
  rfl
theorem ati_3 {α : Type} {x y z v : α} {r : List α} : atI (x :: y :: z :: v :: r) 3 = some v := ati_n (n := 3) rfl
theorem map_dI (l : List Int) : l.map PV.i = (l.map PyData.int).map PV.d := by rw [List.map_map]; rfl
theorem said_snoc (l : List Thing) (t : Thing) : saidOf (l ++ [t]) = saidOf l ++ sayE t.e := by
  unfold saidOf
  rw [List.map_append, List.flatten_append]
  simp
theorem clash_head (k : Clash) : ∃ z r, encC k = .tuple (.str z :: r) ∧ SeqAt.shaped (.str z) = true ∧ PyData.eqv (.str z) (.str kFits) = false := by
  cases k <;> exact ⟨_, _, rfl, by decide +kernel, by decide +kernel⟩
theorem isN_opt (o : Option Nat) : isN (.d (optI o)) = decide (o = none) := by cases o <;> rfl
theorem numsP_get {c : List Thing} {k : Nat} (h : k < c.length) : ((numsOf c).map PV.i)[k]? = some (.i (numK (numsOf c) k)) := by
  have hl : k < (numsOf c).length := by unfold numsOf; rw [List.length_map]; exact h
  rw [List.getElem?_map, List.getElem?_eq_getElem hl]
  unfold numK
  rw [getD_lt hl]
  rfl
theorem goW_len {f : Face} (hf : f.Ok) (nums : List Int) (a : List (Option Nat)) (st : List (Int × Int) × List Int) : ∀ i, (goW nums ((f.slots.zip a).take i) st).2.length ≤ st.2.length + 2 * i
  | 0 => by simp [goW]
  | i + 1 => by
    have ih := goW_len hf nums a st i
    cases hz : (f.slots.zip a)[i]? with
    | none => rw [List.take_add_one, hz]; simp only [Option.toList_none, List.append_nil]; omega
    | some p =>
      have hp := List.getElem?_zip_eq_some.mp hz
      have hi := (List.getElem?_eq_some_iff.mp hp.1).1
      have he : f.slots[i] = p.1 := (List.getElem?_eq_some_iff.mp hp.1).2
      have hS := hf.each i hi
      rw [List.take_add_one, hz, goW_app]
      show (stepW nums p.1 p.2 (goW nums ((f.slots.zip a).take i) st)).2.length ≤ _
      unfold stepW
      cases p.2 with
      | some k => show (goW nums ((f.slots.zip a).take i) st).2.length ≤ _; omega
      | none =>
        show ((goW nums ((f.slots.zip a).take i) st).2 ++ sayE (dfE p.1)).length ≤ _
        have hd : (sayE (dfE p.1)).length ≤ 2 := by
          rw [← he]
          unfold dfE
          cases hdf : f.slots[i].dflt with
          | none => simp [sayE]
          | some e => exact sayE_len 1 e (hS.df e hdf)
        rw [List.length_append]
        omega
theorem small_done {f : Face} {c : List Thing} (hf : f.Ok) (hl : c.length ≤ 10) (hc : ∀ t ∈ c, t.Ok) : Small 4 (encDone f c (lawMatched f (c.map (·.name)))) := by
  have hs := said_len hc
  have h6 := hf.len
  cases hout : lawMatched f (c.map (·.name)) with
  | clash k => exact small_two (small_ints (by omega)) (small_clash k)
  | fits a b m =>
    have FT := fits_of hout
    rw [List.length_map] at FT
    have hg := goW_len hf (numsOf c) a ([], saidOf c) 6
    rw [List.take_of_length_le (by rw [List.length_zip]; omega)] at hg
    have hg : (goW (numsOf c) (f.slots.zip a) ([], saidOf c)).2.length ≤ (saidOf c).length + 2 * 6 := hg
    refine small_two (small_ints (by omega)) (small_tup (by simp) fun x hx => ?_)
    rcases List.mem_cons.mp hx with rfl | hx
    · exact small_str (by decide +kernel)
    rcases List.mem_cons.mp hx with rfl | hx
    · exact small_ints (by rw [List.length_map]; omega)
    rcases List.mem_cons.mp hx with rfl | hx
    · exact small_ints (by rw [List.length_map]; have := FT.lb; omega)
    rw [List.mem_singleton.mp hx]
    refine small_tup (by rw [List.length_map]; have := FT.lm; omega) fun y hy => ?_
    obtain ⟨p, _, rfl⟩ := List.mem_map.mp hy
    exact small_two small_int small_int
theorem shp_intl (ns : List Int) : Shp 1 (.list (ns.map .int)) = true := by
  show (ns.map PyData.int).all (Shp 0) = true
  rw [List.all_eq_true]
  intro x hx
  obtain ⟨k, _, rfl⟩ := List.mem_map.mp hx
  rfl
end Sc

/-! # things in another order -/
namespace Sc
open PySem L2 PyProof.Rows Dw
/-! ### sorted lists of whole numbers -/
theorem nat_sorted_unique : ∀ {a b : List Nat}, a.Perm b → a.Pairwise (· < ·) → b.Pairwise (· < ·) → a = b
  | [], b, p, _, _ => (p.nil_eq).symm ▸ rfl
  | x :: a, [], p, _, _ => absurd p.length_eq (by simp)
  | x :: a, y :: b, p, ha, hb => by
    rw [List.pairwise_cons] at ha hb
    have hx : x ∈ y :: b := p.mem_iff.mp List.mem_cons_self
    have hy : y ∈ x :: a := p.mem_iff.mpr List.mem_cons_self
    have hxy : x = y := by
      rcases List.mem_cons.mp hx with e | hx
      · exact e
      · rcases List.mem_cons.mp hy with e | hy
        · exact e.symm
        · have h1 := hb.1 x hx
          have h2 := ha.1 y hy
          omega
    subst hxy
    rw [nat_sorted_unique ((List.perm_cons x).mp p) ha.2 hb.2]
theorem split_eq {x : Nat} : ∀ {a a' b b' : List Nat}, a ++ x :: b = a' ++ x :: b' → x ∉ a → x ∉ a' → a = a'
  | [], [], _, _, _, _, _ => rfl
  | [], y :: a', _, _, h, _, h2 => by
    simp only [List.nil_append, List.cons_append, List.cons.injEq] at h
    exact absurd (by rw [h.1]; exact List.mem_cons_self) h2
  | y :: a, [], _, _, h, h1, _ => by
    simp only [List.nil_append, List.cons_append, List.cons.injEq] at h
    exact absurd (by rw [h.1]; exact List.mem_cons_self) h1
  | y :: a, y' :: a', b, b', h, h1, h2 => by
    simp only [List.cons_append, List.cons.injEq] at h
    rw [h.1, split_eq h.2 (fun e => h1 (List.mem_cons_of_mem _ e)) (fun e => h2 (List.mem_cons_of_mem _ e))]
theorem range_sorted (n : Nat) : (List.range n).Pairwise (· < ·) := List.pairwise_lt_range
/-- an order of the things that keeps those by place as they are -/
structure Mix (names : List (Option Int)) (ord : List Nat) : Prop where
  perm : ord.Perm (List.range names.length)
  keep : (ord.filter fun k => decide (names[k]? = some none)).Pairwise (· < ·)
section
variable {names : List (Option Int)} {ord : List Nat}
theorem Mix.len (h : Mix names ord) : ord.length = names.length := by rw [h.perm.length_eq, List.length_range]
theorem Mix.lt (h : Mix names ord) {k : Nat} (hk : k ∈ ord) : k < names.length := List.mem_range.mp (h.perm.mem_iff.mp hk)
theorem Mix.mem (h : Mix names ord) {k : Nat} (hk : k < names.length) : k ∈ ord := h.perm.mem_iff.mpr (List.mem_range.mpr hk)
theorem Mix.nodup (h : Mix names ord) : ord.Nodup := h.perm.nodup_iff.mpr List.nodup_range
theorem Mix.places (h : Mix names ord) : (ord.filter fun k => decide (names[k]? = some none)) = (List.range names.length).filter fun k => decide (names[k]? = some none) :=
  nat_sorted_unique (h.perm.filter _) h.keep ((range_sorted _).filter _)
end
/-- the names in that order -/
def mixN (names : List (Option Int)) (ord : List Nat) : List (Option Int) := ord.map fun k => names.getD k none
theorem mixN_get {names : List (Option Int)} {ord : List Nat} (h : Mix names ord) {j : Nat} (hj : j < ord.length) : (mixN names ord)[j]? = names[ord[j]]? := by
  unfold mixN
  have hk := h.lt (List.getElem_mem hj)
  rw [List.getElem?_map, List.getElem?_eq_getElem hj, List.getElem?_eq_getElem hk]
  show some (names.getD ord[j] none) = _
  rw [getD_lt hk]
theorem cnt_filter (names : List (Option Int)) : ∀ n, n ≤ names.length → (names.take n).countP (fun x => decide (x = none)) = ((List.range n).filter fun k => decide (names[k]? = some none)).length
  | 0, _ => by simp
  | n + 1, h => by
    have hn : n < names.length := by omega
    rw [List.take_add_one, List.getElem?_eq_getElem hn, List.countP_append, cnt_filter names n (by omega), List.range_succ, List.filter_append, List.length_append]
    congr 1
    rw [List.filter_cons, List.getElem?_eq_getElem hn]
    simp only [Option.toList_some, List.countP_cons, List.countP_nil, Option.some.injEq]
    by_cases e : names[n] = none <;> simp [e]
theorem cnt_mix {names : List (Option Int)} {ord : List Nat} (h : Mix names ord) : ∀ j, j ≤ ord.length → ((mixN names ord).take j).countP (fun x => decide (x = none)) = ((ord.take j).filter fun k => decide (names[k]? = some none)).length
  | 0, _ => by simp
  | j + 1, hj => by
    have hj' : j < ord.length := by omega
    have hl : (mixN names ord).length = ord.length := by unfold mixN; rw [List.length_map]
    rw [List.take_add_one, mixN_get h hj', List.countP_append, cnt_mix h j (by omega), List.take_add_one (l := ord), List.getElem?_eq_getElem hj', List.filter_append, List.length_append]
    congr 1
    have hk := h.lt (List.getElem_mem hj')
    rw [List.getElem?_eq_getElem hk]
    simp only [Option.toList_some, List.countP_cons, List.countP_nil, List.filter_cons, List.filter_nil, List.getElem?_eq_getElem hk, Option.some.injEq]
    by_cases e : names[ord[j]] = none <;> simp [e]
theorem cnt_eq {names : List (Option Int)} {ord : List Nat} (h : Mix names ord) {j : Nat} (hj : j < ord.length) (hn : names[ord[j]]? = some none) :
    ((mixN names ord).take j).countP (fun x => decide (x = none)) = (names.take ord[j]).countP (fun x => decide (x = none)) := by
  have hk := h.lt (List.getElem_mem hj)
  rw [cnt_mix h j (by omega), cnt_filter names _ (by omega)]
  congr 1
  have hU := h.places
  have e1 : ord = ord.take j ++ ord[j] :: ord.drop (j + 1) := by
    rw [← List.drop_eq_getElem_cons hj, List.take_append_drop]
  have e2 : List.range names.length = List.range ord[j] ++ ord[j] :: (List.range names.length).drop (ord[j] + 1) := by
    have hr : ord[j] < (List.range names.length).length := by rw [List.length_range]; exact hk
    have h3 : (List.range names.length).take ord[j] = List.range ord[j] := by rw [List.take_range, Nat.min_eq_left (by omega)]
    have h4 := List.drop_eq_getElem_cons hr
    rw [List.getElem_range] at h4
    rw [← h4, ← h3, List.take_append_drop]
  have e1f : (ord.filter fun k => decide (names[k]? = some none)) = (ord.take j).filter (fun k => decide (names[k]? = some none)) ++ ord[j] :: (ord.drop (j + 1)).filter (fun k => decide (names[k]? = some none)) := by
    conv => lhs; rw [e1]
    rw [List.filter_append, List.filter_cons, if_pos (by simp [hn])]
  have e2f : ((List.range names.length).filter fun k => decide (names[k]? = some none)) = (List.range ord[j]).filter (fun k => decide (names[k]? = some none)) ++ ord[j] :: ((List.range names.length).drop (ord[j] + 1)).filter (fun k => decide (names[k]? = some none)) := by
    conv => lhs; rw [e2]
    rw [List.filter_append, List.filter_cons, if_pos (by simp [hn])]
  rw [e1f, e2f] at hU
  refine split_eq hU (fun hm => ?_) (fun hm => ?_)
  · have hm := (List.mem_filter.mp hm).1
    have hnd := h.nodup
    rw [e1, List.nodup_append] at hnd
    exact hnd.2.2 _ hm _ List.mem_cons_self rfl
  · have hm := List.mem_range.mp (List.mem_filter.mp hm).1
    omega
/-- where a thing goes, told anew -/
def Go.here (j : Nat) : Go → Go
  | .over _ => .over j
  | g => g
theorem for_mix {f : Face} {names : List (Option Int)} {ord : List Nat} (h : Mix names ord) {j : Nat} (hj : j < ord.length) : lawFor f (mixN names ord) j = (lawFor f names ord[j]).here j := by
  have hk := h.lt (List.getElem_mem hj)
  unfold lawFor
  rw [mixN_get h hj]
  rw [List.getElem?_eq_getElem hk]
  cases hn : names[ord[j]] with
  | some n =>
    simp only
    cases slotNamed f n with
    | some k => rfl
    | none =>
      simp only
      by_cases hm : f.more = true
      · simp only [if_pos hm]; rfl
      · simp only [if_neg hm]; rfl
  | none =>
    simp only
    rw [cnt_eq h hj (by rw [List.getElem?_eq_getElem hk, hn])]
    by_cases hp : placeK f ((names.take ord[j]).countP fun x => decide (x = none)) = true
    · simp only [if_pos hp]; rfl
    · simp only [if_neg hp]
      by_cases hr : f.rest = true
      · simp only [if_pos hr]; rfl
      · simp only [if_neg hr]; rfl
/-! ### what makes a call fit -/
def okGo : Go → Bool
  | .over _ => false
  | .unknown _ => false
  | _ => true
structure Clean (goes : List Go) : Prop where
  ok : ∀ (i : Nat) (g : Go), goes[i]? = some g → okGo g = true
  one : ∀ (i i' : Nat) (g : Go), i ≠ i' → goes[i]? = some g → goes[i']? = some g → g = .rest
theorem mem_take_get {l : List Go} {g : Go} {i : Nat} : g ∈ l.take i ↔ ∃ k, k < i ∧ l[k]? = some g := by
  rw [List.mem_iff_getElem?]
  constructor
  · rintro ⟨k, hk⟩
    rw [List.getElem?_take] at hk
    split at hk
    · exact ⟨k, by assumption, hk⟩
    · cases hk
  · rintro ⟨k, hki, hk⟩
    exact ⟨k, by rw [List.getElem?_take, if_pos hki]; exact hk⟩
theorem clean_iff {f : Face} {goes : List Go} : (∀ i, i < goes.length → bad f goes i = none) ↔ Clean goes := by
  constructor
  · intro h
    have hlt : ∀ (i i' : Nat) (g : Go), i < i' → goes[i]? = some g → goes[i']? = some g → g = .rest := by
      intro i i' g hii hi hi'
      have hb := h i' (List.getElem?_eq_some_iff.mp hi').1
      unfold bad at hb
      rw [hi'] at hb
      cases g with
      | rest => rfl
      | slot k => simp only [if_pos (mem_take_get.mpr ⟨i, hii, hi⟩)] at hb; cases hb
      | more n => simp only [if_pos (mem_take_get.mpr ⟨i, hii, hi⟩)] at hb; cases hb
      | over k => cases hb
      | unknown n => cases hb
    refine ⟨fun i g hi => ?_, fun i i' g hne hi hi' => ?_⟩
    · have hb := h i (List.getElem?_eq_some_iff.mp hi).1
      unfold bad at hb
      rw [hi] at hb
      cases g with
      | over k => cases hb
      | unknown n => cases hb
      | _ => rfl
    · rcases Nat.lt_or_gt_of_ne hne with hl | hl
      · exact hlt i i' g hl hi hi'
      · exact hlt i' i g hl hi' hi
  · intro h i hi
    have hg := List.getElem?_eq_getElem hi
    have hok := h.ok i _ hg
    unfold bad
    rw [hg]
    cases hgi : goes[i] with
    | rest => rfl
    | slot k =>
      rw [hgi] at hg
      have : Go.slot k ∉ goes.take i := fun hm => by
        obtain ⟨k', hk', hg'⟩ := mem_take_get.mp hm
        cases h.one k' i _ (by omega) hg' hg
      simp only [if_neg this]
    | more n =>
      rw [hgi] at hg
      have : Go.more n ∉ goes.take i := fun hm => by
        obtain ⟨k', hk', hg'⟩ := mem_take_get.mp hm
        cases h.one k' i _ (by omega) hg' hg
      simp only [if_neg this]
    | over k => rw [hgi] at hok; cases hok
    | unknown n => rw [hgi] at hok; cases hok
def Full (f : Face) (goes : List Go) : Prop := ∀ k, k < f.slots.length → lackL f goes k = false
def fitsG (f : Face) (goes : List Go) : Out := .fits ((List.range f.slots.length).map fun k => idxG goes (.slot k)) (restG goes) (sortM (moreG goes))
theorem law_fits {f : Face} {names : List (Option Int)} (h1 : Clean (goesOf f names)) (h2 : Full f (goesOf f names)) : lawMatched f names = fitsG f (goesOf f names) := by
  have hb := (clean_iff (f := f)).mpr h1
  rw [goes_len] at hb
  have e1 : (List.range names.length).findSome? (bad f (goesOf f names)) = none := by
    rw [List.findSome?_eq_none_iff]
    exact fun x hx => hb x (List.mem_range.mp hx)
  unfold lawMatched
  rw [e1]
  show lawEnd f (goesOf f names) = _
  unfold lawEnd
  rw [find_none h2]
  rfl
theorem law_fits_iff {f : Face} {names : List (Option Int)} : (∃ a b m, lawMatched f names = .fits a b m) ↔ Clean (goesOf f names) ∧ Full f (goesOf f names) := by
  constructor
  · rintro ⟨a, b, m, h⟩
    unfold lawMatched at h
    split at h
    · cases h
    · rename_i hf
      rw [List.findSome?_eq_none_iff] at hf
      refine ⟨clean_iff (f := f).mp fun i hi => hf i (List.mem_range.mpr (by rw [goes_len] at hi; exact hi)), ?_⟩
      unfold lawEnd at h
      split at h
      · cases h
      · rename_i hl
        intro k hk
        have := List.find?_eq_none.mp hl k (List.mem_range.mpr hk)
        simpa using this
  · rintro ⟨h1, h2⟩
    exact ⟨_, _, _, law_fits h1 h2⟩
/-! ### in another order -/
section
variable {f : Face} {names : List (Option Int)} {ord : List Nat}
theorem Mix.goes (h : Mix names ord) {j : Nat} (hj : j < ord.length) : (goesOf f (mixN names ord))[j]? = ((goesOf f names)[ord[j]]?).map (Go.here j) := by
  have hk := h.lt (List.getElem_mem hj)
  rw [goes_get f names hk, goes_get f (mixN names ord) (by unfold mixN; rw [List.length_map]; exact hj), for_mix h hj]
  rfl
theorem Mix.at (h : Mix names ord) {k : Nat} (hk : k < names.length) : ∃ (j : Nat) (hj : j < ord.length), ord[j] = k := List.getElem_of_mem (h.mem hk)
theorem here_ok {j : Nat} {g : Go} (h : okGo (g.here j) = true) : g.here j = g := by cases g <;> first | rfl | cases h
theorem ok_here {j : Nat} {g : Go} (h : okGo g = true) : g.here j = g := by cases g <;> first | rfl | cases h
theorem Mix.goes_lt (h : Mix names ord) {j : Nat} {g : Go} (hg : (goesOf f (mixN names ord))[j]? = some g) : ∃ hj : j < ord.length, ((goesOf f names)[ord[j]]?).map (Go.here j) = some g := by
  have hj : j < ord.length := by
    have := (List.getElem?_eq_some_iff.mp hg).1
    rw [goes_len] at this
    unfold mixN at this
    rw [List.length_map] at this
    exact this
  exact ⟨hj, by rw [← h.goes hj]; exact hg⟩
theorem ord_ne (h : Mix names ord) {i j : Nat} (hi : i < ord.length) (hj : j < ord.length) (hne : i ≠ j) : ord[i] ≠ ord[j] := by
  intro e
  have hp := List.pairwise_iff_getElem.mp h.nodup
  rcases Nat.lt_or_gt_of_ne hne with hl | hl
  · exact hp i j hi hj hl e
  · exact hp j i hj hi hl e.symm
theorem clean_mix (h : Mix names ord) : Clean (goesOf f (mixN names ord)) ↔ Clean (goesOf f names) := by
  constructor
  · intro C
    have key : ∀ (i : Nat) (g : Go), (goesOf f names)[i]? = some g → ∃ (j : Nat) (hj : j < ord.length), ord[j] = i ∧ (goesOf f (mixN names ord))[j]? = some g := by
      intro i g hg
      have hi : i < names.length := by have := (List.getElem?_eq_some_iff.mp hg).1; rw [goes_len] at this; exact this
      obtain ⟨j, hj, e⟩ := h.at hi
      have h1 := h.goes (f := f) hj
      rw [e, hg] at h1
      have h2 := here_ok (C.ok j _ h1)
      exact ⟨j, hj, e, by rw [h1]; show some (g.here j) = _; rw [h2]⟩
    refine ⟨fun i g hg => ?_, fun i i' g hne hi hi' => ?_⟩
    · obtain ⟨j, hj, e, h1⟩ := key i g hg
      exact C.ok j g h1
    · obtain ⟨j, hj, e, h1⟩ := key i g hi
      obtain ⟨j', hj', e', h1'⟩ := key i' g hi'
      exact C.one j j' g (fun ej => hne (by subst ej; rw [← e, ← e'])) h1 h1'
  · intro C
    have key : ∀ (j : Nat) (g : Go), (goesOf f (mixN names ord))[j]? = some g → ∃ (hj : j < ord.length), (goesOf f names)[ord[j]]? = some g := by
      intro j g hg
      obtain ⟨hj, h1⟩ := h.goes_lt hg
      refine ⟨hj, ?_⟩
      cases hk : (goesOf f names)[ord[j]]? with
      | none => rw [hk] at h1; cases h1
      | some g0 =>
        rw [hk] at h1
        rw [← h1]
        show some g0 = some (g0.here j)
        rw [ok_here (C.ok _ _ hk)]
    refine ⟨fun j g hg => ?_, fun i i' g hne hi hi' => ?_⟩
    · obtain ⟨hj, h1⟩ := key j g hg
      exact C.ok _ g h1
    · obtain ⟨hj, h1⟩ := key i g hi
      obtain ⟨hj', h1'⟩ := key i' g hi'
      exact C.one _ _ g (ord_ne h hj hj' hne) h1 h1'
theorem slot_mix (h : Mix names ord) (k : Nat) : Go.slot k ∈ goesOf f (mixN names ord) ↔ Go.slot k ∈ goesOf f names := by
  rw [List.mem_iff_getElem?, List.mem_iff_getElem?]
  constructor
  · rintro ⟨j, hg⟩
    obtain ⟨hj, h1⟩ := h.goes_lt hg
    cases hk : (goesOf f names)[ord[j]]? with
    | none => rw [hk] at h1; cases h1
    | some g0 =>
      rw [hk] at h1
      have h1 : g0.here j = .slot k := Option.some.inj h1
      refine ⟨ord[j], ?_⟩
      rw [hk]
      cases g0 <;> first | exact congrArg some h1 | cases h1
  · rintro ⟨i, hg⟩
    have hi : i < names.length := by have := (List.getElem?_eq_some_iff.mp hg).1; rw [goes_len] at this; exact this
    obtain ⟨j, hj, e⟩ := h.at hi
    refine ⟨j, ?_⟩
    rw [h.goes hj, e, hg]
    rfl
theorem full_mix (h : Mix names ord) : Full f (goesOf f (mixN names ord)) ↔ Full f (goesOf f names) := by
  have : ∀ k, lackL f (goesOf f (mixN names ord)) k = lackL f (goesOf f names) k := by
    intro k
    unfold lackL
    rw [decide_eq_decide.mpr (slot_mix h k)]
  unfold Full
  simp only [this]
end
end Sc

/-! # things in another order: what fits, what all come to -/
namespace Sc
open PySem L2 PyProof.Rows Dw
theorem fm_congr {α β : Type} {p q : α → Option β} : ∀ {l : List α}, (∀ x ∈ l, p x = q x) → l.filterMap p = l.filterMap q
  | [], _ => rfl
  | x :: l, h => by
    have h1 := h x List.mem_cons_self
    have h2 := fm_congr (l := l) fun y hy => h y (List.mem_cons_of_mem _ hy)
    rw [List.filterMap_cons, List.filterMap_cons, h1, h2]
theorem idx_at {goes : List Go} (C : Clean goes) {i : Nat} {g : Go} (h : goes[i]? = some g) (hg : g ≠ .rest) : idxG goes g = some i := by
  unfold idxG
  have hm : g ∈ goes := List.mem_of_getElem? h
  rw [if_pos hm]
  have hl := List.idxOf_lt_length_of_mem hm
  have h2 : goes[goes.idxOf g]? = some g := by
    rw [List.getElem?_eq_getElem hl, List.getElem_idxOf]
  by_cases e : goes.idxOf g = i
  · rw [e]
  · exact absurd (C.one _ _ g e h2 h) hg
theorem idx_none {goes : List Go} {g : Go} (h : g ∉ goes) : idxG goes g = none := if_neg h
theorem range_map (ord : List Nat) : (List.range ord.length).map (fun j => ord.getD j 0) = ord := by
  apply List.ext_getElem
  · simp
  · intro i h1 h2
    simp only [List.getElem_map, List.getElem_range]
    exact getD_lt h2
theorem range_filter (ord : List Nat) (p q : Nat → Bool) (h : ∀ (j : Nat) (hj : j < ord.length), p j = q ord[j]) : ((List.range ord.length).filter p).map (fun j => ord.getD j 0) = ord.filter q := by
  conv => rhs; rw [← range_map ord]
  rw [List.filter_map]
  congr 1
  apply List.filter_congr
  intro j hj
  have hj := List.mem_range.mp hj
  rw [h j hj]
  show _ = q (ord.getD j 0)
  rw [getD_lt hj]
theorem range_filterMap {α : Type} (ord : List Nat) (p q : Nat → Option α) (h : ∀ (j : Nat) (hj : j < ord.length), p j = q ord[j]) : (List.range ord.length).filterMap p = ord.filterMap q := by
  conv => rhs; rw [← range_map ord]
  rw [List.filterMap_map]
  apply fm_congr
  intro j hj
  have hj := List.mem_range.mp hj
  rw [h j hj]
  show _ = q (ord.getD j 0)
  rw [getD_lt hj]
theorem for_rest {f : Face} {names : List (Option Int)} {k : Nat} (h : (goesOf f names)[k]? = some .rest) : names[k]? = some none := by
  have hk : k < names.length := by have := (List.getElem?_eq_some_iff.mp h).1; rw [goes_len] at this; exact this
  rw [goes_get f names hk] at h
  have h := Option.some.inj h
  rw [List.getElem?_eq_getElem hk]
  unfold lawFor at h
  rw [List.getElem?_eq_getElem hk] at h
  cases hn : names[k] with
  | none => rfl
  | some n =>
    rw [hn] at h
    simp only at h
    cases hs : slotNamed f n with
    | some k => rw [hs] at h; cases h
    | none =>
      rw [hs] at h
      simp only at h
      by_cases hm : f.more = true
      · rw [if_pos hm] at h; cases h
      · rw [if_neg hm] at h; cases h
section
variable {f : Face} {names : List (Option Int)} {ord : List Nat}
theorem Mix.goes_ok (h : Mix names ord) (C : Clean (goesOf f names)) {j : Nat} (hj : j < ord.length) : (goesOf f (mixN names ord))[j]? = (goesOf f names)[ord[j]]? := by
  rw [h.goes hj]
  have hk := h.lt (List.getElem_mem hj)
  rw [goes_get f names hk]
  show some (Go.here j _) = _
  rw [ok_here (C.ok _ _ (goes_get f names hk))]
theorem idx_mix (h : Mix names ord) (C : Clean (goesOf f names)) (k : Nat) : (idxG (goesOf f (mixN names ord)) (.slot k)).map (fun j => ord.getD j 0) = idxG (goesOf f names) (.slot k) := by
  have C' : Clean (goesOf f (mixN names ord)) := (clean_mix h).mpr C
  by_cases hm : Go.slot k ∈ goesOf f names
  · obtain ⟨i, hi⟩ := List.mem_iff_getElem?.mp hm
    have hl : i < names.length := by have := (List.getElem?_eq_some_iff.mp hi).1; rw [goes_len] at this; exact this
    obtain ⟨j, hj, e⟩ := h.at hl
    have hg := h.goes_ok C hj
    rw [e, hi] at hg
    rw [idx_at C hi (by intro z; cases z), idx_at C' hg (by intro z; cases z)]
    show some (ord.getD j 0) = _
    rw [getD_lt hj, e]
  · rw [idx_none hm, idx_none (fun z => hm ((slot_mix h k).mp z))]
    rfl
theorem mixN_len : (mixN names ord).length = ord.length := by unfold mixN; rw [List.length_map]
theorem rest_mix (h : Mix names ord) (C : Clean (goesOf f names)) : (restG (goesOf f (mixN names ord))).map (fun j => ord.getD j 0) = restG (goesOf f names) := by
  unfold restG
  rw [goes_len, goes_len, mixN_len, range_filter ord _ (fun k => decide ((goesOf f names)[k]? = some Go.rest)) fun j hj => by rw [h.goes_ok C hj]]
  refine nat_sorted_unique (h.perm.filter _) ?_ ((range_sorted _).filter _)
  have e : (ord.filter fun k => decide ((goesOf f names)[k]? = some Go.rest)) = (ord.filter fun k => decide (names[k]? = some none)).filter fun k => decide ((goesOf f names)[k]? = some Go.rest) := by
    rw [List.filter_filter]
    apply List.filter_congr
    intro k _
    by_cases hr : (goesOf f names)[k]? = some Go.rest
    · rw [decide_eq_true hr, decide_eq_true (for_rest hr)]; rfl
    · rw [decide_eq_false hr]; rfl
  rw [e]
  exact h.keep.filter _
theorem mem_more {goes : List Go} {p : Int × Nat} : p ∈ moreG goes ↔ goes[p.2]? = some (.more p.1) := by
  unfold moreG
  rw [List.mem_filterMap]
  constructor
  · rintro ⟨k, _, hk⟩
    unfold moreK at hk
    split at hk
    · cases hk; assumption
    · cases hk
  · intro h
    refine ⟨p.2, List.mem_range.mpr (List.getElem?_eq_some_iff.mp h).1, ?_⟩
    unfold moreK
    rw [h]
theorem look_at {goes : List Go} (C : Clean goes) {n : Int} {i : Nat} (h : goes[i]? = some (.more n)) : lookM (moreG goes) n = i := by
  unfold lookM
  split
  · rename_i p hp
    have h1 := mem_more.mp (List.mem_of_find?_eq_some hp)
    have h2 : p.1 = n := by simpa using List.find?_some hp
    rw [h2] at h1
    by_cases e : p.2 = i
    · exact e
    · cases C.one _ _ _ e h1 h
  · rename_i hp
    have := List.find?_eq_none.mp hp (n, i) (mem_more.mpr h)
    simp at this
theorem srt_same {a b : List Int} (p : a.Perm b) : srt a = srt b := sorted_unique (((srt_perm a).trans p).trans (srt_perm b).symm) (srt_sorted a) (srt_sorted b)
theorem more_mix (h : Mix names ord) (C : Clean (goesOf f names)) : (sortM (moreG (goesOf f (mixN names ord)))).map (fun p => (p.1, ord.getD p.2 0)) = sortM (moreG (goesOf f names)) := by
  have C' : Clean (goesOf f (mixN names ord)) := (clean_mix h).mpr C
  have hp : ((moreG (goesOf f (mixN names ord))).map (·.1)).Perm ((moreG (goesOf f names)).map (·.1)) := by
    unfold moreG
    rw [goes_len, goes_len, mixN_len, List.map_filterMap, List.map_filterMap, range_filterMap ord _ (fun k => (moreK (goesOf f names) k).map (·.1)) fun j hj => ?_]
    · exact h.perm.filterMap _
    · unfold moreK
      rw [h.goes_ok C hj]
      cases (goesOf f names)[ord[j]]? with
      | none => rfl
      | some g => cases g <;> rfl
  unfold sortM
  rw [srt_same hp, List.map_map]
  apply List.map_congr_left
  intro n hn
  have hn := (srt_perm _).mem_iff.mp hn
  obtain ⟨p, hp, rfl⟩ := List.mem_map.mp hn
  have hi := mem_more.mp hp
  have hl : p.2 < names.length := by have := (List.getElem?_eq_some_iff.mp hi).1; rw [goes_len] at this; exact this
  obtain ⟨j, hj, e⟩ := h.at hl
  have hg := h.goes_ok C hj
  rw [e, hi] at hg
  show (p.1, ord.getD (lookM (moreG (goesOf f (mixN names ord))) p.1) 0) = (p.1, lookM (moreG (goesOf f names)) p.1)
  rw [look_at C hi, look_at C' hg, getD_lt hj, e]
def isFit : Out → Bool
  | .fits _ _ _ => true
  | _ => false
theorem fit_iff : isFit (lawMatched f names) = true ↔ Clean (goesOf f names) ∧ Full f (goesOf f names) := by
  rw [← law_fits_iff]
  constructor
  · intro h
    cases e : lawMatched f names with
    | clash c => rw [e] at h; cases h
    | fits a b m => exact ⟨a, b, m, rfl⟩
  · rintro ⟨a, b, m, e⟩
    rw [e]; rfl
theorem fit_mix (h : Mix names ord) : isFit (lawMatched f (mixN names ord)) = isFit (lawMatched f names) := by
  rw [Bool.eq_iff_iff, fit_iff, fit_iff, clean_mix h, full_mix h]
theorem fits_mix (h : Mix names ord) {a : List (Option Nat)} {b : List Nat} {m : List (Int × Nat)} (hf : lawMatched f names = .fits a b m) :
    ∃ a' b' m', lawMatched f (mixN names ord) = .fits a' b' m' ∧ a'.map (Option.map fun j => ord.getD j 0) = a ∧ b'.map (fun j => ord.getD j 0) = b ∧ m'.map (fun p => (p.1, ord.getD p.2 0)) = m := by
  obtain ⟨C, F⟩ := law_fits_iff.mp ⟨a, b, m, hf⟩
  rw [law_fits C F] at hf
  have h2 := law_fits ((clean_mix h).mpr C) ((full_mix h).mpr F)
  unfold fitsG at hf h2
  injection hf with e1 e2 e3
  refine ⟨_, _, _, h2, ?_, ?_, ?_⟩
  · rw [← e1, List.map_map]
    apply List.map_congr_left
    intro k _
    exact idx_mix h C k
  · rw [← e2]; exact rest_mix h C
  · rw [← e3]; exact more_mix h C
end
/-! ### what all come to -/
def noT : Thing := ⟨none, .num 0⟩
def mixC (c : List Thing) (ord : List Nat) : List Thing := ord.map fun k => c.getD k noT
theorem mixC_names (c : List Thing) (ord : List Nat) : (mixC c ord).map (·.name) = mixN (c.map (·.name)) ord := by
  unfold mixC mixN
  rw [List.map_map]
  apply List.map_congr_left
  intro k _
  show (c.getD k noT).name = (c.map (·.name)).getD k none
  simp only [List.getD, List.getElem?_map]
  cases c[k]? <;> rfl
theorem num_mix (c : List Thing) (ord : List Nat) {j : Nat} (hj : j < ord.length) : numK (numsOf (mixC c ord)) j = numK (numsOf c) (ord.getD j 0) := by
  unfold numK numsOf mixC
  rw [List.map_map, getD_lt hj]
  simp only [List.getD, List.getElem?_map, List.getElem?_eq_getElem hj]
  show valE [] (c[ord[j]]?.getD noT).e = _
  cases c[ord[j]]? <;> rfl
theorem goW_mix (nums nums' : List Int) (g : Nat → Nat) : ∀ (ss : List Slot) (a' : List (Option Nat)) (_ : ∀ j, some j ∈ a' → numK nums' j = numK nums (g j)) (ws : List (Int × Int)) (s s' : List Int),
    (goW nums' (ss.zip a') (ws, s')).1 = (goW nums (ss.zip (a'.map (Option.map g))) (ws, s)).1 ∧ ∃ D, (goW nums' (ss.zip a') (ws, s')).2 = s' ++ D ∧ (goW nums (ss.zip (a'.map (Option.map g))) (ws, s)).2 = s ++ D
  | [], a', _, ws, s, s' => by simp [goW]
  | _ :: _, [], _, ws, s, s' => by simp [goW]
  | x :: ss, o :: a', h, ws, s, s' => by
    simp only [List.map_cons, List.zip_cons_cons, goW]
    cases o with
    | none =>
      simp only [Option.map_none, stepW]
      obtain ⟨h1, D, h2, h3⟩ := goW_mix nums nums' g ss a' (fun j hj => h j (List.mem_cons_of_mem _ hj)) (ws ++ [(x.name, valE ws (dfE x))]) (s ++ sayE (dfE x)) (s' ++ sayE (dfE x))
      refine ⟨h1, sayE (dfE x) ++ D, ?_, ?_⟩
      · rw [h2, List.append_assoc]
      · rw [h3, List.append_assoc]
    | some j =>
      simp only [Option.map_some, stepW]
      rw [h j List.mem_cons_self]
      exact goW_mix nums nums' g ss a' (fun j hj => h j (List.mem_cons_of_mem _ hj)) _ s s'
/-- the says of a call -/
def sayT (t : Thing) : Bool := match t.e with
  | .say _ => true
  | _ => false
def numT (t : Thing) : Int := match t.e with
  | .num n => n
  | .say n => n
  | _ => 0
theorem said_plain : ∀ {c : List Thing}, (∀ t ∈ c, t.Ok) → saidOf c = (c.filter sayT).map numT
  | [], _ => rfl
  | t :: c, h => by
    have ih := said_plain (c := c) fun x hx => h x (List.mem_cons_of_mem _ hx)
    unfold saidOf at *
    rw [List.map_cons, List.flatten_cons, ih, List.filter_cons]
    have hp := (h t List.mem_cons_self).pl
    obtain ⟨n, e⟩ := t
    cases e with
    | num i => rfl
    | say i => rfl
    | slot i => cases hp
    | plus x y => cases hp
theorem mixC_ok {c : List Thing} {ord : List Nat} (hc : ∀ t ∈ c, t.Ok) (hl : ∀ k ∈ ord, k < c.length) : ∀ t ∈ mixC c ord, t.Ok := by
  intro t ht
  obtain ⟨k, hk, rfl⟩ := List.mem_map.mp ht
  rw [getD_lt (hl k hk)]
  exact hc _ (List.getElem_mem _)
theorem getD_range {α : Type} (c : List α) (d : α) : (List.range c.length).map (fun k => c.getD k d) = c := by
  apply List.ext_getElem
  · simp
  · intro i h1 h2
    simp only [List.getElem_map, List.getElem_range]
    exact getD_lt h2
theorem mixC_perm {c : List Thing} {ord : List Nat} (h : ord.Perm (List.range c.length)) : (mixC c ord).Perm c := by
  have := h.map fun k => c.getD k noT
  rw [getD_range] at this
  exact this
theorem said_len_mix {c : List Thing} {ord : List Nat} (h : ord.Perm (List.range c.length)) : (saidOf (mixC c ord)).length = (saidOf c).length := by
  have hp := ((mixC_perm h).map fun t => sayE t.e).flatten.length_eq
  exact hp
end Sc

/-! # shapes: how many by place, which names -/
namespace Sc
open PySem L2 PyProof.Rows Dw
/-- how many are handed by place; the names -/
def cntN (names : List (Option Int)) : Nat := names.countP fun x => decide (x = none)
def nmsN (names : List (Option Int)) : List Int := names.filterMap id
theorem mem_nms {names : List (Option Int)} {n : Int} : n ∈ nmsN names ↔ ∃ i : Nat, names[i]? = some (some n) := by
  unfold nmsN
  rw [List.mem_filterMap]
  constructor
  · rintro ⟨x, hx, e⟩
    obtain ⟨i, hi⟩ := List.mem_iff_getElem?.mp hx
    have e : x = some n := e
    exact ⟨i, by rw [hi, e]⟩
  · rintro ⟨i, hi⟩
    exact ⟨some n, List.mem_of_getElem? hi, rfl⟩
/-- the rank of a thing by place -/
def rankN (names : List (Option Int)) (i : Nat) : Nat := (names.take i).countP fun x => decide (x = none)
theorem rkn_succ {names : List (Option Int)} {i : Nat} (h : i < names.length) : rankN names (i + 1) = rankN names i + (if names[i] = none then 1 else 0) := by
  unfold rankN
  rw [List.take_add_one, List.getElem?_eq_getElem h, List.countP_append]
  by_cases e : names[i] = none <;> simp [e]
theorem rkn_all (names : List (Option Int)) : rankN names names.length = cntN names := by unfold rankN cntN; rw [List.take_length]
theorem rkn_mono (names : List (Option Int)) : ∀ {i j : Nat}, i ≤ j → j ≤ names.length → rankN names i ≤ rankN names j := by
  intro i j hij
  induction hij with
  | refl => exact fun _ => Nat.le_refl _
  | @step j h ih =>
    intro hj
    rw [rkn_succ (show j < names.length by omega)]
    exact Nat.le_trans (ih (by omega)) (Nat.le_add_right _ _)
theorem rkn_lt {names : List (Option Int)} {i : Nat} (h : names[i]? = some none) : rankN names i < cntN names := by
  obtain ⟨hi, e⟩ := List.getElem?_eq_some_iff.mp h
  have h1 := rkn_succ hi
  rw [if_pos e] at h1
  have h2 := rkn_mono names (show i + 1 ≤ names.length by omega) (Nat.le_refl _)
  rw [rkn_all] at h2
  omega
theorem rkn_inj {names : List (Option Int)} {i j : Nat} (hi : names[i]? = some none) (hj : names[j]? = some none) (h : rankN names i = rankN names j) : i = j := by
  obtain ⟨li, ei⟩ := List.getElem?_eq_some_iff.mp hi
  obtain ⟨lj, ej⟩ := List.getElem?_eq_some_iff.mp hj
  have si := rkn_succ li
  have sj := rkn_succ lj
  rw [if_pos ei] at si
  rw [if_pos ej] at sj
  rcases Nat.lt_trichotomy i j with hl | hl | hl
  · have := rkn_mono names (show i + 1 ≤ j by omega) (by omega); omega
  · exact hl
  · have := rkn_mono names (show j + 1 ≤ i by omega) (by omega); omega
theorem rkn_ex (names : List (Option Int)) : ∀ (n : Nat), n ≤ names.length → ∀ r, r < rankN names n → ∃ i, i < n ∧ names[i]? = some none ∧ rankN names i = r
  | 0, _, r, h => by simp [rankN] at h
  | n + 1, hn, r, h => by
    have hl : n < names.length := by omega
    rw [rkn_succ hl] at h
    by_cases hr : r < rankN names n
    · obtain ⟨i, h1, h2, h3⟩ := rkn_ex names n (by omega) r hr
      exact ⟨i, by omega, h2, h3⟩
    · by_cases e : names[n] = none
      · rw [if_pos e] at h
        exact ⟨n, by omega, by rw [List.getElem?_eq_getElem hl, e], by omega⟩
      · rw [if_neg e] at h; omega
theorem rkn_ex' {names : List (Option Int)} {r : Nat} (h : r < cntN names) : ∃ i, names[i]? = some none ∧ rankN names i = r := by
  rw [← rkn_all] at h
  obtain ⟨i, _, h1, h2⟩ := rkn_ex names _ (Nat.le_refl _) r h
  exact ⟨i, h1, h2⟩
/-- where a thing by place goes, where one by name -/
theorem goes_place {f : Face} {names : List (Option Int)} {i : Nat} (h : names[i]? = some none) : (goesOf f names)[i]? = some (if placeK f (rankN names i) = true then .slot (rankN names i) else if f.rest = true then .rest else .over i) := by
  have hi := (List.getElem?_eq_some_iff.mp h).1
  rw [goes_get f names hi]
  unfold lawFor
  rw [h]
  rfl
theorem goes_name {f : Face} {names : List (Option Int)} {i : Nat} {n : Int} (h : names[i]? = some (some n)) : (goesOf f names)[i]? = some (match slotNamed f n with | some k => .slot k | none => if f.more = true then .more n else .unknown n) := by
  have hi := (List.getElem?_eq_some_iff.mp h).1
  rw [goes_get f names hi]
  unfold lawFor
  rw [h]
  all_goals (show some (match slotNamed f n with | some k => Go.slot k | none => if f.more = true then Go.more n else Go.unknown n) = _; cases slotNamed f n <;> rfl)
theorem thing_cases {names : List (Option Int)} {i : Nat} (h : i < names.length) : names[i]? = some none ∨ ∃ n, names[i]? = some (some n) := by
  rw [List.getElem?_eq_getElem h]
  cases names[i] with
  | none => exact .inl rfl
  | some n => exact .inr ⟨n, rfl⟩
/-- slots by their names -/
theorem named_get {f : Face} {n : Int} {k : Nat} (h : slotNamed f n = some k) : ∃ s, f.slots[k]? = some s ∧ s.name = n ∧ s.sort ≠ .place := by
  have hm := List.mem_of_head? h
  have hh := (List.mem_filter.mp hm).2
  unfold hitK at hh
  cases hs : f.slots[k]? with
  | none => rw [hs] at hh; cases hh
  | some s =>
    rw [hs] at hh
    have hh : (decide (s.name = n) && !decide (s.sort = .place)) = true := hh
    simp only [Bool.and_eq_true, decide_eq_true_eq, Bool.not_eq_true', decide_eq_false_iff_not] at hh
    exact ⟨s, rfl, hh.1, hh.2⟩
theorem name_uniq {f : Face} (hf : f.Ok) {i j : Nat} {s t : Slot} (hi : f.slots[i]? = some s) (hj : f.slots[j]? = some t) (e : s.name = t.name) : i = j := by
  have key : ∀ {i j : Nat} {s t : Slot}, f.slots[i]? = some s → f.slots[j]? = some t → s.name = t.name → ¬ i < j := by
    intro i j s t hi hj e hlt
    obtain ⟨lj, ej⟩ := List.getElem?_eq_some_iff.mp hj
    refine (hf.each j lj).nw s ?_ (by rw [e, ej])
    exact List.mem_iff_getElem?.mpr ⟨i, by rw [List.getElem?_take, if_pos hlt]; exact hi⟩
  rcases Nat.lt_trichotomy i j with h | h | h
  · exact absurd h (key hi hj e)
  · exact h
  · exact absurd h (key hj hi e.symm)
theorem named_of {f : Face} (hf : f.Ok) {k : Nat} {s : Slot} (h : f.slots[k]? = some s) (hp : s.sort ≠ .place) : slotNamed f s.name = some k := by
  have hk := (List.getElem?_eq_some_iff.mp h).1
  have hm : k ∈ (List.range f.slots.length).filter (hitK f s.name) := by
    refine List.mem_filter.mpr ⟨List.mem_range.mpr hk, ?_⟩
    unfold hitK
    rw [h]
    show (decide (s.name = s.name) && !decide (s.sort = .place)) = true
    simp [hp]
  unfold slotNamed
  cases hl : (List.range f.slots.length).filter (hitK f s.name) with
  | nil => rw [hl] at hm; cases hm
  | cons j r =>
    have hj : slotNamed f s.name = some j := by unfold slotNamed; rw [hl]; rfl
    obtain ⟨t, h1, h2, _⟩ := named_get hj
    show some j = some k
    rw [name_uniq hf h1 h (by rw [h2])]
theorem placeK_iff {f : Face} {k : Nat} : placeK f k = true ↔ ∃ s, f.slots[k]? = some s ∧ s.sort ≠ .name := by
  unfold placeK
  cases f.slots[k]? with
  | none => simp
  | some s => simp
/-- the shape fits -/
structure FitS (f : Face) (many : Nat) (nm : List Int) : Prop where
  pl : ∀ r, r < many → placeK f r = true ∨ f.rest = true
  nd : nm.Nodup
  nn : ∀ n ∈ nm, slotNamed f n ≠ none ∨ f.more = true
  cl : ∀ n ∈ nm, ∀ k, slotNamed f n = some k → ¬ (k < many ∧ placeK f k = true)
  fu : ∀ (k : Nat) (s : Slot), f.slots[k]? = some s → s.dflt = none → (k < many ∧ placeK f k = true) ∨ ∃ n ∈ nm, slotNamed f n = some k
theorem nms_nodup {names : List (Option Int)} : (nmsN names).Nodup ↔ ∀ (i j : Nat) (n : Int), i ≠ j → names[i]? = some (some n) → names[j]? = some (some n) → False := by
  unfold nmsN
  induction names with
  | nil => simp
  | cons x r ih =>
    cases x with
    | none =>
      rw [List.filterMap_cons_none (by rfl), ih]
      constructor
      · intro h i j n hne hi hj
        cases i with
        | zero => cases hi
        | succ i =>
          cases j with
          | zero => cases hj
          | succ j => exact h i j n (by omega) hi hj
      · intro h i j n hne hi hj
        exact h (i + 1) (j + 1) n (by omega) hi hj
    | some m =>
      rw [List.filterMap_cons_some (show id (some m) = some m from rfl), List.nodup_cons, ih]
      constructor
      · rintro ⟨h1, h2⟩ i j n hne hi hj
        have hin : ∀ k, r[k]? = some (some m) → m ∈ List.filterMap id r := fun k hk => List.mem_filterMap.mpr ⟨some m, List.mem_of_getElem? hk, rfl⟩
        cases i with
        | zero =>
          cases j with
          | zero => exact hne rfl
          | succ j => cases hi; exact h1 (hin j hj)
        | succ i =>
          cases j with
          | zero => cases hj; exact h1 (hin i hi)
          | succ j => exact h2 i j n (by omega) hi hj
      · intro h
        refine ⟨fun hm => ?_, fun i j n hne hi hj => h (i + 1) (j + 1) n (by omega) hi hj⟩
        obtain ⟨x, hx, e⟩ := List.mem_filterMap.mp hm
        have e : x = some m := e
        obtain ⟨k, hk⟩ := List.mem_iff_getElem?.mp hx
        rw [e] at hk
        exact h 0 (k + 1) m (by omega) rfl hk
theorem slot_in {f : Face} {names : List (Option Int)} {k : Nat} : Go.slot k ∈ goesOf f names ↔ (k < cntN names ∧ placeK f k = true) ∨ ∃ n ∈ nmsN names, slotNamed f n = some k := by
  constructor
  · intro hm
    obtain ⟨i, hi⟩ := List.mem_iff_getElem?.mp hm
    have hl : i < names.length := by have := (List.getElem?_eq_some_iff.mp hi).1; rw [goes_len] at this; exact this
    rcases thing_cases hl with h | ⟨n, h⟩
    · rw [goes_place h] at hi
      have hi := Option.some.inj hi
      by_cases hp : placeK f (rankN names i) = true
      · rw [if_pos hp] at hi
        injection hi with hi
        rw [← hi]
        exact .inl ⟨rkn_lt h, hp⟩
      · rw [if_neg hp] at hi
        by_cases hr : f.rest = true
        · rw [if_pos hr] at hi; cases hi
        · rw [if_neg hr] at hi; cases hi
    · rw [goes_name h] at hi
      have hi := Option.some.inj hi
      cases hs : slotNamed f n with
      | none =>
        rw [hs] at hi
        simp only at hi
        by_cases hr : f.more = true
        · rw [if_pos hr] at hi; cases hi
        · rw [if_neg hr] at hi; cases hi
      | some j =>
        rw [hs] at hi
        injection hi with hi
        rw [← hi]
        exact .inr ⟨n, mem_nms.mpr ⟨i, h⟩, hs⟩
  · rintro (⟨h1, h2⟩ | ⟨n, h1, h2⟩)
    · obtain ⟨i, h3, h4⟩ := rkn_ex' h1
      have h5 := goes_place (f := f) h3
      rw [h4, if_pos h2] at h5
      exact List.mem_of_getElem? h5
    · obtain ⟨i, h3⟩ := mem_nms.mp h1
      have h5 := goes_name (f := f) h3
      rw [h2] at h5
      exact List.mem_of_getElem? h5
theorem clean_iffS {f : Face} {names : List (Option Int)} : Clean (goesOf f names) ↔ (∀ r, r < cntN names → placeK f r = true ∨ f.rest = true) ∧ (nmsN names).Nodup ∧ (∀ n ∈ nmsN names, slotNamed f n ≠ none ∨ f.more = true) ∧ (∀ n ∈ nmsN names, ∀ k, slotNamed f n = some k → ¬ (k < cntN names ∧ placeK f k = true)) := by
  constructor
  · intro C
    refine ⟨fun r hr => ?_, nms_nodup.mpr fun i j n hne hi hj => ?_, fun n hn => ?_, fun n hn k hk hh => ?_⟩
    · obtain ⟨i, h3, h4⟩ := rkn_ex' hr
      have h5 := goes_place (f := f) h3
      have h6 := C.ok _ _ h5
      rw [h4] at h6
      by_cases hp : placeK f r = true
      · exact .inl hp
      · rw [if_neg hp] at h6
        by_cases hre : f.rest = true
        · exact .inr hre
        · rw [if_neg hre] at h6; cases h6
    · have h5 := C.one i j _ hne (goes_name (f := f) hi) (goes_name (f := f) hj)
      cases hs : slotNamed f n with
      | some k => rw [hs] at h5; cases h5
      | none =>
        rw [hs] at h5
        simp only at h5
        by_cases hr : f.more = true
        · rw [if_pos hr] at h5; cases h5
        · rw [if_neg hr] at h5; cases h5
    · obtain ⟨i, hi⟩ := mem_nms.mp hn
      have h6 := C.ok _ _ (goes_name (f := f) hi)
      cases hs : slotNamed f n with
      | some k => exact .inl (by intro z; cases z)
      | none =>
        rw [hs] at h6
        simp only at h6
        by_cases hr : f.more = true
        · exact .inr hr
        · rw [if_neg hr] at h6; cases h6
    · obtain ⟨i, hi⟩ := mem_nms.mp hn
      obtain ⟨j, h3, h4⟩ := rkn_ex' hh.1
      have h5 := goes_place (f := f) h3
      rw [h4, if_pos hh.2] at h5
      have h6 := goes_name (f := f) hi
      rw [hk] at h6
      have hne : i ≠ j := by intro e; subst e; rw [hi] at h3; cases h3
      cases C.one i j _ hne h6 h5
  · rintro ⟨h1, h2, h3, h4⟩
    refine ⟨fun i g hg => ?_, fun i j g hne hi hj => ?_⟩
    · have hl : i < names.length := by have := (List.getElem?_eq_some_iff.mp hg).1; rw [goes_len] at this; exact this
      rcases thing_cases hl with h | ⟨n, h⟩
      · rw [goes_place h] at hg
        cases hg
        by_cases hp : placeK f (rankN names i) = true
        · rw [if_pos hp]; rfl
        · rw [if_neg hp]
          rcases h1 _ (rkn_lt h) with z | z
          · exact absurd z hp
          · rw [if_pos z]; rfl
      · rw [goes_name h] at hg
        cases hg
        cases hs : slotNamed f n with
        | some k => rfl
        | none =>
          rcases h3 n (mem_nms.mpr ⟨i, h⟩) with z | z
          · exact absurd hs z
          · simp only [if_pos z]; rfl
    · have li : i < names.length := by have := (List.getElem?_eq_some_iff.mp hi).1; rw [goes_len] at this; exact this
      have lj : j < names.length := by have := (List.getElem?_eq_some_iff.mp hj).1; rw [goes_len] at this; exact this
      have key : ∀ {i j : Nat} {n : Int}, names[i]? = some none → names[j]? = some (some n) → (goesOf f names)[i]? = some g → (goesOf f names)[j]? = some g → g = .rest := by
        intro i j n hi0 hj0 hi hj
        rw [goes_place hi0] at hi
        rw [goes_name hj0] at hj
        cases hi
        have hj := Option.some.inj hj
        by_cases hp : placeK f (rankN names i) = true
        · rw [if_pos hp] at hj
          cases hs : slotNamed f n with
          | some k =>
            rw [hs] at hj
            injection hj with hj
            subst hj
            exact absurd ⟨rkn_lt hi0, hp⟩ (h4 n (mem_nms.mpr ⟨j, hj0⟩) _ hs)
          | none =>
            rw [hs] at hj
            simp only at hj
            by_cases hr : f.more = true
            · rw [if_pos hr] at hj; cases hj
            · rw [if_neg hr] at hj; cases hj
        · rw [if_neg hp] at hj ⊢
          rcases h1 _ (rkn_lt hi0) with z | z
          · exact absurd z hp
          · rw [if_pos z]
      rcases thing_cases li with hi0 | ⟨n, hi0⟩
      · rcases thing_cases lj with hj0 | ⟨m, hj0⟩
        · rw [goes_place hi0] at hi
          rw [goes_place hj0] at hj
          cases hi
          have hj := Option.some.inj hj
          have hrk : rankN names i ≠ rankN names j := fun e => hne (rkn_inj hi0 hj0 e)
          by_cases hp : placeK f (rankN names i) = true
          · rw [if_pos hp] at hj
            by_cases hp2 : placeK f (rankN names j) = true
            · rw [if_pos hp2] at hj
              injection hj with hj
              exact absurd hj.symm hrk
            · rw [if_neg hp2] at hj
              by_cases hr : f.rest = true
              · rw [if_pos hr] at hj; cases hj
              · rw [if_neg hr] at hj; cases hj
          · rw [if_neg hp]
            rcases h1 _ (rkn_lt hi0) with z | z
            · exact absurd z hp
            · rw [if_pos z]
        · exact key hi0 hj0 hi hj
      · rcases thing_cases lj with hj0 | ⟨m, hj0⟩
        · exact key hj0 hi0 hj hi
        · have hnm : n ≠ m := by
            intro e
            subst e
            exact nms_nodup.mp h2 i j n hne hi0 hj0
          rw [goes_name hi0] at hi
          rw [goes_name hj0] at hj
          cases hi
          have hj := Option.some.inj hj
          cases hs : slotNamed f n with
          | some k =>
            rw [hs] at hj
            cases hs2 : slotNamed f m with
            | some k2 =>
              rw [hs2] at hj
              injection hj with hj
              subst hj
              obtain ⟨s, e1, e2, _⟩ := named_get hs
              obtain ⟨t, e3, e4, _⟩ := named_get hs2
              rw [e1] at e3
              cases e3
              exact absurd (e2.symm.trans e4) hnm
            | none =>
              rw [hs2] at hj
              simp only at hj
              by_cases hr : f.more = true
              · rw [if_pos hr] at hj; cases hj
              · rw [if_neg hr] at hj; cases hj
          | none =>
            rw [hs] at hj
            simp only at hj
            cases hs2 : slotNamed f m with
            | some k2 =>
              rw [hs2] at hj
              simp only at hj
              by_cases hr : f.more = true
              · simp only [if_pos hr] at hj; cases hj
              · simp only [if_neg hr] at hj; cases hj
            | none =>
              rw [hs2] at hj
              by_cases hr : f.more = true
              · rw [if_pos hr] at hj
                simp only [if_pos hr] at hj
                injection hj with hj
                exact absurd hj.symm hnm
              · rcases h3 n (mem_nms.mpr ⟨i, hi0⟩) with z | z
                · exact absurd hs z
                · exact absurd z hr
theorem full_iffS {f : Face} {names : List (Option Int)} : Full f (goesOf f names) ↔ ∀ (k : Nat) (s : Slot), f.slots[k]? = some s → s.dflt = none → (k < cntN names ∧ placeK f k = true) ∨ ∃ n ∈ nmsN names, slotNamed f n = some k := by
  constructor
  · intro h k s hs hd
    have hk := (List.getElem?_eq_some_iff.mp hs).1
    have h1 := h k hk
    unfold lackL at h1
    rw [hs] at h1
    simp only [hd, decide_true, Bool.and_true, Bool.not_eq_false', decide_eq_true_eq] at h1
    exact slot_in.mp h1
  · intro h k hk
    unfold lackL
    rw [List.getElem?_eq_getElem hk]
    by_cases hd : f.slots[k].dflt = none
    · have := slot_in.mpr (h k _ (List.getElem?_eq_getElem hk) hd)
      simp [this]
    · simp [hd]
theorem fit_iffS {f : Face} {names : List (Option Int)} : isFit (lawMatched f names) = true ↔ FitS f (cntN names) (nmsN names) := by
  rw [fit_iff, clean_iffS, full_iffS]
  constructor
  · rintro ⟨⟨h1, h2, h3, h4⟩, h5⟩
    exact ⟨h1, h2, h3, h4, h5⟩
  · rintro ⟨h1, h2, h3, h4, h5⟩
    exact ⟨⟨h1, h2, h3, h4⟩, h5⟩
end Sc

/-! # a new face is good for a shape -/
namespace Sc
open PySem L2 PyProof.Rows Dw
/-- the place of a slot by its name, of any sort -/
def findSlot (f : Face) (n : Int) : Option Nat := (List.range f.slots.length).find? fun k => decide (nameK f k = n)
theorem findSlot_some {f : Face} {n : Int} {k : Nat} (h : findSlot f n = some k) : ∃ s, f.slots[k]? = some s ∧ s.name = n := by
  unfold findSlot at h
  have h1 := List.find?_some h
  have h2 := List.mem_range.mp (List.mem_of_find?_eq_some h)
  refine ⟨f.slots[k], List.getElem?_eq_getElem h2, ?_⟩
  simp only [decide_eq_true_eq] at h1
  unfold nameK at h1
  rw [List.getElem?_eq_getElem h2] at h1
  exact h1
theorem findSlot_of {f : Face} (hf : f.Ok) {k : Nat} {s : Slot} (h : f.slots[k]? = some s) : findSlot f s.name = some k := by
  have hk := (List.getElem?_eq_some_iff.mp h).1
  cases hh : findSlot f s.name with
  | none =>
    unfold findSlot at hh
    have := List.find?_eq_none.mp hh k (List.mem_range.mpr hk)
    unfold nameK at this
    rw [h] at this
    simp at this
  | some j =>
    obtain ⟨t, h1, h2⟩ := findSlot_some hh
    rw [name_uniq hf h1 h h2]
/-- one slot of the old face, filled so, in the new face, filled so -/
def slotGood (new : Face) (a' : List (Option Nat)) (s : Slot) (o : Option Nat) : Bool := match findSlot new s.name with
  | none => false
  | some k => decide (a'[k]? = some o) && (!decide (o = none) || match new.slots[k]? with | some t => decide (t.dflt = s.dflt) | none => false)
def isGood (old new : Face) (names : List (Option Int)) : Bool := match lawMatched old names with
  | .clash _ => true
  | .fits a b m => match lawMatched new names with
    | .clash _ => false
    | .fits a' b' m' => decide (b' = b) && decide (m' = m) && (old.slots.zip a).all fun p => slotGood new a' p.1 p.2
/-- the name of the slot that a place goes to -/
def labP (f : Face) (r : Nat) : Option Int := if placeK f r = true then some (nameK f r) else none
structure GoodS (old new : Face) (many : Nat) (nm : List Int) : Prop where
  fit : FitS new many nm
  pl : ∀ r, r < many → labP old r = labP new r
  nn : ∀ n ∈ nm, (slotNamed old n).isSome = (slotNamed new n).isSome
  df : ∀ (k : Nat) (s : Slot), old.slots[k]? = some s → ¬ ((k < many ∧ placeK old k = true) ∨ ∃ n ∈ nm, slotNamed old n = some k) → ∃ (j : Nat) (t : Slot), new.slots[j]? = some t ∧ t.name = s.name ∧ t.dflt = s.dflt
theorem nameK_at {f : Face} {k : Nat} {s : Slot} (h : f.slots[k]? = some s) : nameK f k = s.name := by unfold nameK; rw [h]
section
variable {old new : Face} {names : List (Option Int)}
theorem filled_some {f : Face} {i k : Nat} (C : Clean (goesOf f names)) (hk : k < f.slots.length) : ((List.range f.slots.length).map fun k => idxG (goesOf f names) (.slot k))[k]? = some (some i) ↔ (goesOf f names)[i]? = some (.slot k) := by
  rw [List.getElem?_map, List.getElem?_range hk]
  show some (idxG (goesOf f names) (.slot k)) = some (some i) ↔ _
  rw [Option.some.injEq]
  constructor
  · intro h
    unfold idxG at h
    split at h
    · rename_i hm
      cases h
      rw [List.getElem?_eq_getElem (List.idxOf_lt_length_of_mem hm), List.getElem_idxOf]
    · cases h
  · intro h
    exact idx_at C h (by intro z; cases z)
theorem filled_none {f : Face} {k : Nat} (hk : k < f.slots.length) : ((List.range f.slots.length).map fun k => idxG (goesOf f names) (.slot k))[k]? = some none ↔ Go.slot k ∉ goesOf f names := by
  rw [List.getElem?_map, List.getElem?_range hk]
  show some (idxG (goesOf f names) (.slot k)) = some none ↔ _
  rw [Option.some.injEq]
  unfold idxG
  split
  · rename_i hm; simp [hm]
  · rename_i hm; simp [hm]
theorem mem_rest {goes : List Go} {k : Nat} : k ∈ restG goes ↔ goes[k]? = some .rest := by
  unfold restG
  rw [List.mem_filter, List.mem_range]
  constructor
  · rintro ⟨_, h⟩; exact of_decide_eq_true h
  · intro h; exact ⟨(List.getElem?_eq_some_iff.mp h).1, decide_eq_true h⟩
theorem mem_sortM {goes : List Go} (C : Clean goes) {p : Int × Nat} : p ∈ sortM (moreG goes) ↔ goes[p.2]? = some (.more p.1) := by
  unfold sortM
  rw [List.mem_map]
  constructor
  · rintro ⟨n, hn, rfl⟩
    obtain ⟨q, hq, rfl⟩ := List.mem_map.mp ((srt_perm _).mem_iff.mp hn)
    have h1 := mem_more.mp hq
    show goes[lookM (moreG goes) q.1]? = some (.more q.1)
    rw [look_at C h1]; exact h1
  · intro h
    refine ⟨p.1, (srt_perm _).mem_iff.mpr (List.mem_map.mpr ⟨p, mem_more.mpr h, rfl⟩), ?_⟩
    rw [look_at C h]
theorem place_lt {f : Face} {r : Nat} (h : placeK f r = true) : r < f.slots.length := by
  obtain ⟨s, h, _⟩ := placeK_iff.mp h
  exact (List.getElem?_eq_some_iff.mp h).1
theorem goes_slot_lt {f : Face} {i k : Nat} (h : (goesOf f names)[i]? = some (.slot k)) : k < f.slots.length := by
  have := List.mem_of_getElem? h
  rcases slot_in.mp this with ⟨_, h⟩ | ⟨n, _, h⟩
  · exact place_lt h
  · exact hit_lt h
theorem goes_of_place {f : Face} {i : Nat} {g : Go} (C : Clean (goesOf f names)) (h0 : names[i]? = some none) (h : (goesOf f names)[i]? = some g) : g = if placeK f (rankN names i) = true then .slot (rankN names i) else .rest := by
  rw [goes_place h0] at h
  cases h
  by_cases hp : placeK f (rankN names i) = true
  · rw [if_pos hp, if_pos hp]
  · rw [if_neg hp, if_neg hp]
    rcases (clean_iffS.mp C).1 _ (rkn_lt h0) with z | z
    · exact absurd z hp
    · rw [if_pos z]
theorem goes_of_name {f : Face} {i : Nat} {n : Int} {g : Go} (C : Clean (goesOf f names)) (h0 : names[i]? = some (some n)) (h : (goesOf f names)[i]? = some g) : g = match slotNamed f n with | some k => .slot k | none => .more n := by
  rw [goes_name h0] at h
  cases h
  cases hs : slotNamed f n with
  | some k => rfl
  | none =>
    rcases (clean_iffS.mp C).2.2.1 n (mem_nms.mpr ⟨i, h0⟩) with z | z
    · exact absurd hs z
    · simp only [if_pos z]
theorem slotGood_iff {new : Face} (hn : new.Ok) {a' : List (Option Nat)} {s : Slot} {o : Option Nat} : slotGood new a' s o = true ↔ ∃ (k : Nat) (t : Slot), new.slots[k]? = some t ∧ t.name = s.name ∧ a'[k]? = some o ∧ (o = none → t.dflt = s.dflt) := by
  unfold slotGood
  constructor
  · intro h
    split at h
    · cases h
    · rename_i k hk
      obtain ⟨t, h1, h2⟩ := findSlot_some hk
      rw [h1] at h
      simp only [Bool.and_eq_true, Bool.or_eq_true, decide_eq_true_eq, Bool.not_eq_true', decide_eq_false_iff_not] at h
      refine ⟨k, t, h1, h2, h.1, fun ho => ?_⟩
      rcases h.2 with z | z
      · exact absurd ho z
      · exact z
  · rintro ⟨k, t, h1, h2, h3, h4⟩
    have hk := findSlot_of hn h1
    rw [h2] at hk
    rw [hk]
    simp only [h1, h3, decide_true, Bool.true_and]
    by_cases ho : o = none
    · simp [ho, h4 ho]
    · simp [ho]
theorem all_zip {ss : List Slot} {a : List (Option Nat)} {p : Slot × Option Nat → Bool} (hl : a.length = ss.length) : (ss.zip a).all p = true ↔ ∀ (k : Nat) (s : Slot) (o : Option Nat), ss[k]? = some s → a[k]? = some o → p (s, o) = true := by
  rw [List.all_eq_true]
  constructor
  · intro h k s o hs ho
    exact h _ (List.mem_of_getElem? (i := k) (List.getElem?_zip_eq_some.mpr ⟨hs, ho⟩))
  · intro h x hx
    obtain ⟨k, hk⟩ := List.mem_iff_getElem?.mp hx
    have h2 := List.getElem?_zip_eq_some.mp hk
    exact h k x.1 x.2 h2.1 h2.2
/-- goodness is told by how many come by place and by the names -/
theorem good_iff (ho : old.Ok) (hn : new.Ok) (hfit : isFit (lawMatched old names) = true) : isGood old new names = true ↔ GoodS old new (cntN names) (nmsN names) := by
  obtain ⟨C, FU⟩ := fit_iff.mp hfit
  have e1 := law_fits C FU
  constructor
  · intro h
    unfold isGood at h
    rw [e1] at h
    unfold fitsG at h
    simp only at h
    cases e2 : lawMatched new names with
    | clash c => rw [e2] at h; cases h
    | fits a' b' m' =>
      rw [e2] at h
      have hfit2 : isFit (lawMatched new names) = true := by rw [e2]; rfl
      obtain ⟨C2, FU2⟩ := fit_iff.mp hfit2
      have e3 := law_fits C2 FU2
      rw [e2] at e3
      unfold fitsG at e3
      injection e3 with ea eb em
      simp only [Bool.and_eq_true, decide_eq_true_eq] at h
      obtain ⟨⟨hb, hm⟩, hs⟩ := h
      rw [all_zip (by simp)] at hs
      have hs' : ∀ (k i : Nat) (s : Slot), old.slots[k]? = some s → (goesOf old names)[i]? = some (.slot k) → ∃ (j : Nat) (t : Slot), new.slots[j]? = some t ∧ t.name = s.name ∧ (goesOf new names)[i]? = some (.slot j) := by
        intro k i s hk hi
        have hkl := (List.getElem?_eq_some_iff.mp hk).1
        obtain ⟨j, t, h1, h2, h3, _⟩ := (slotGood_iff hn).mp (hs k s (some i) hk ((filled_some C hkl).mpr hi))
        refine ⟨j, t, h1, h2, ?_⟩
        rw [ea] at h3
        exact (filled_some C2 (List.getElem?_eq_some_iff.mp h1).1).mp h3
      refine ⟨fit_iffS.mp hfit2, fun r hr => ?_, fun n hnm => ?_, fun k s hk hnf => ?_⟩
      · obtain ⟨i, h0, hrk⟩ := rkn_ex' hr
        have hil := (List.getElem?_eq_some_iff.mp h0).1
        have g1 := goes_of_place C h0 (goes_get old names hil)
        have g2 := goes_of_place C2 h0 (goes_get new names hil)
        rw [hrk] at g1 g2
        unfold labP
        by_cases hp : placeK old r = true
        · rw [if_pos hp] at g1 ⊢
          obtain ⟨s, hs0, _⟩ := placeK_iff.mp hp
          obtain ⟨j, t, h1, h2, h3⟩ := hs' r i s hs0 (by rw [goes_get old names hil, g1])
          rw [goes_get new names hil, g2] at h3
          by_cases hp2 : placeK new r = true
          · rw [if_pos hp2] at h3 ⊢
            have h3 := Option.some.inj h3
            injection h3 with h3
            subst h3
            rw [nameK_at hs0, nameK_at h1, h2]
          · rw [if_neg hp2] at h3; cases h3
        · rw [if_neg hp] at g1 ⊢
          have hr1 : i ∈ restG (goesOf old names) := mem_rest.mpr (by rw [goes_get old names hil, g1])
          rw [← hb, eb] at hr1
          have hr2 := mem_rest.mp hr1
          rw [goes_get new names hil, g2] at hr2
          by_cases hp2 : placeK new r = true
          · rw [if_pos hp2] at hr2; cases hr2
          · rw [if_neg hp2]
      · obtain ⟨i, h0⟩ := mem_nms.mp hnm
        have hil := (List.getElem?_eq_some_iff.mp h0).1
        have g1 := goes_of_name C h0 (goes_get old names hil)
        have g2 := goes_of_name C2 h0 (goes_get new names hil)
        cases hs0 : slotNamed old n with
        | some k =>
          rw [hs0] at g1
          obtain ⟨s, hk, _, _⟩ := named_get hs0
          obtain ⟨j, t, h1, h2, h3⟩ := hs' k i s hk (by rw [goes_get old names hil, g1])
          rw [goes_get new names hil, g2] at h3
          cases hs2 : slotNamed new n with
          | some j => rfl
          | none => rw [hs2] at h3; cases h3
        | none =>
          rw [hs0] at g1
          have hm1 : (n, i) ∈ sortM (moreG (goesOf old names)) := (mem_sortM C).mpr (by rw [goes_get old names hil, g1])
          rw [← hm, em] at hm1
          have hm2 := (mem_sortM C2).mp hm1
          rw [goes_get new names hil, g2] at hm2
          cases hs2 : slotNamed new n with
          | some j => rw [hs2] at hm2; cases hm2
          | none => rfl
      · have hkl := (List.getElem?_eq_some_iff.mp hk).1
        obtain ⟨j, t, h1, h2, _, h4⟩ := (slotGood_iff hn).mp (hs k s none hk ((filled_none hkl).mpr fun z => hnf (slot_in.mp z)))
        exact ⟨j, t, h1, h2, h4 rfl⟩
  · intro G
    have hfit2 := fit_iffS.mpr G.fit
    obtain ⟨C2, FU2⟩ := fit_iff.mp hfit2
    have e3 := law_fits C2 FU2
    unfold isGood
    rw [e1, e3]
    unfold fitsG
    simp only [Bool.and_eq_true, decide_eq_true_eq]
    have hplace : ∀ {i : Nat}, names[i]? = some none → placeK old (rankN names i) = placeK new (rankN names i) := by
      intro i h0
      have := G.pl _ (rkn_lt h0)
      unfold labP at this
      by_cases h1 : placeK old (rankN names i) = true
      · rw [if_pos h1] at this
        by_cases h2 : placeK new (rankN names i) = true
        · rw [h1, h2]
        · rw [if_neg h2] at this; cases this
      · rw [if_neg h1] at this
        by_cases h2 : placeK new (rankN names i) = true
        · rw [if_pos h2] at this; cases this
        · rw [Bool.eq_false_iff.mpr h1, Bool.eq_false_iff.mpr h2]
    have hgo : ∀ (i : Nat), i < names.length → ((goesOf new names)[i]? = some .rest ↔ (goesOf old names)[i]? = some .rest) ∧ moreK (goesOf new names) i = moreK (goesOf old names) i := by
      intro i hi
      rcases thing_cases hi with h0 | ⟨n, h0⟩
      · have g1 := goes_of_place C h0 (goes_get old names hi)
        have g2 := goes_of_place C2 h0 (goes_get new names hi)
        rw [← hplace h0] at g2
        unfold moreK
        rw [goes_get old names hi, goes_get new names hi, g1, g2]
        by_cases hp : placeK old (rankN names i) = true
        · rw [if_pos hp]; exact ⟨Iff.rfl, rfl⟩
        · rw [if_neg hp]; exact ⟨Iff.rfl, rfl⟩
      · have g1 := goes_of_name C h0 (goes_get old names hi)
        have g2 := goes_of_name C2 h0 (goes_get new names hi)
        have hsm := G.nn n (mem_nms.mpr ⟨i, h0⟩)
        unfold moreK
        rw [goes_get old names hi, goes_get new names hi, g1, g2]
        cases h1 : slotNamed old n with
        | some k =>
          rw [h1] at hsm
          cases h2 : slotNamed new n with
          | some j => simp
          | none => rw [h2] at hsm; cases hsm
        | none =>
          rw [h1] at hsm
          cases h2 : slotNamed new n with
          | some j => rw [h2] at hsm; cases hsm
          | none => simp
    refine ⟨⟨?_, ?_⟩, ?_⟩
    · unfold restG
      rw [goes_len, goes_len]
      apply List.filter_congr
      intro i hi
      exact decide_eq_decide.mpr (hgo i (List.mem_range.mp hi)).1
    · congr 1
      unfold moreG
      rw [goes_len, goes_len]
      apply fm_congr
      intro i hi
      exact (hgo i (List.mem_range.mp hi)).2
    · rw [all_zip (by simp)]
      intro k s o hk hok
      have hkl := (List.getElem?_eq_some_iff.mp hk).1
      rw [slotGood_iff hn]
      cases o with
      | some i =>
        have hg := (filled_some C hkl).mp hok
        have hi : i < names.length := by have := (List.getElem?_eq_some_iff.mp hg).1; rw [goes_len] at this; exact this
        rcases thing_cases hi with h0 | ⟨n, h0⟩
        · have g1 := goes_of_place C h0 hg
          have g2 := goes_of_place C2 h0 (goes_get new names hi)
          have hl := G.pl _ (rkn_lt h0)
          by_cases hp : placeK old (rankN names i) = true
          · rw [if_pos hp] at g1
            injection g1 with g1
            have hp2 := hp
            rw [hplace h0] at hp2
            rw [if_pos hp2] at g2
            unfold labP at hl
            rw [if_pos hp, if_pos hp2] at hl
            have hl := Option.some.inj hl
            rw [← g1] at hl g2 hp2
            obtain ⟨t, ht, _⟩ := placeK_iff.mp hp2
            rw [nameK_at hk, nameK_at ht] at hl
            refine ⟨k, t, ht, hl.symm, ?_, fun z => (by cases z)⟩
            rw [filled_some C2 (List.getElem?_eq_some_iff.mp ht).1, goes_get new names hi, g2]
          · rw [if_neg hp] at g1; cases g1
        · have g1 := goes_of_name C h0 hg
          have g2 := goes_of_name C2 h0 (goes_get new names hi)
          have hsm := G.nn n (mem_nms.mpr ⟨i, h0⟩)
          cases h1 : slotNamed old n with
          | none => rw [h1] at g1; cases g1
          | some k1 =>
            rw [h1] at g1 hsm
            injection g1 with g1
            subst g1
            cases h2 : slotNamed new n with
            | none => rw [h2] at hsm; cases hsm
            | some j =>
              rw [h2] at g2
              obtain ⟨s', q1, q2, _⟩ := named_get h1
              rw [hk] at q1
              cases q1
              obtain ⟨t, q3, q4, _⟩ := named_get h2
              refine ⟨j, t, q3, by rw [q4, q2], ?_, fun z => (by cases z)⟩
              rw [filled_some C2 (List.getElem?_eq_some_iff.mp q3).1, goes_get new names hi, g2]
      | none =>
        have hg := (filled_none hkl).mp hok
        obtain ⟨j, t, q1, q2, q3⟩ := G.df k s hk fun z => hg (slot_in.mpr z)
        have hjl := (List.getElem?_eq_some_iff.mp q1).1
        refine ⟨j, t, q1, q2, ?_, fun _ => q3⟩
        rw [filled_none hjl]
        intro hm
        rcases slot_in.mp hm with ⟨h1, h2⟩ | ⟨n, h1, h2⟩
        · have hl := G.pl j h1
          unfold labP at hl
          rw [if_pos h2] at hl
          by_cases hp : placeK old j = true
          · rw [if_pos hp] at hl
            have hl := Option.some.inj hl
            obtain ⟨s', q4, _⟩ := placeK_iff.mp hp
            rw [nameK_at q4, nameK_at q1, q2] at hl
            have hjk := name_uniq ho q4 hk hl
            subst hjk
            exact hg (slot_in.mpr (.inl ⟨h1, hp⟩))
          · rw [if_neg hp] at hl; cases hl
        · have hsm := G.nn n h1
          rw [h2] at hsm
          obtain ⟨t', q4, q5, _⟩ := named_get h2
          rw [q1] at q4
          cases q4
          cases h3 : slotNamed old n with
          | none => rw [h3] at hsm; cases hsm
          | some k1 =>
            obtain ⟨s', q6, q7, _⟩ := named_get h3
            have hkk := name_uniq ho q6 hk (by rw [q7, ← q5, q2])
            subst hkk
            exact hg (slot_in.mpr (.inr ⟨n, h1, h3⟩))
end
end Sc

/-! # the first shape that breaks -/
namespace Sc
open PySem L2 PyProof.Rows Dw
/-! ### shapes as lists of names -/
def shapeN (many : Nat) (nm : List Int) : List (Option Int) := List.replicate many none ++ nm.map some
theorem cnt_shape (many : Nat) (nm : List Int) : cntN (shapeN many nm) = many := by
  unfold cntN shapeN
  rw [List.countP_append, List.countP_replicate, List.countP_map]
  have : nm.countP ((fun x => decide (x = none)) ∘ some) = 0 := by
    rw [List.countP_eq_zero]; intro a _; simp
  rw [this]; simp
theorem nms_shape (many : Nat) (nm : List Int) : nmsN (shapeN many nm) = nm := by
  unfold nmsN shapeN
  rw [List.filterMap_append, List.filterMap_map]
  have h1 : (List.replicate many (none : Option Int)).filterMap id = [] := by
    induction many with
    | zero => rfl
    | succ n ih => rw [List.replicate_succ, List.filterMap_cons_none (by rfl), ih]
  rw [h1]
  show nm.filterMap (fun x => some x) = nm
  exact List.filterMap_some
theorem FitS.perm {f : Face} {many : Nat} {nm nm' : List Int} (p : nm.Perm nm') (h : FitS f many nm) : FitS f many nm' :=
  ⟨h.pl, p.nodup_iff.mp h.nd, fun n hn => h.nn n (p.mem_iff.mpr hn), fun n hn => h.cl n (p.mem_iff.mpr hn), fun k s hk hd => by
    rcases h.fu k s hk hd with z | ⟨n, hn, e⟩
    · exact .inl z
    · exact .inr ⟨n, p.mem_iff.mp hn, e⟩⟩
theorem GoodS.perm {old new : Face} {many : Nat} {nm nm' : List Int} (p : nm.Perm nm') (h : GoodS old new many nm) : GoodS old new many nm' :=
  ⟨h.fit.perm p, h.pl, fun n hn => h.nn n (p.mem_iff.mpr hn), fun k s hk hf => h.df k s hk fun z => hf (by
    rcases z with z | ⟨n, hn, e⟩
    · exact .inl z
    · exact .inr ⟨n, p.mem_iff.mp hn, e⟩)⟩
def Bad (old new : Face) (many : Nat) (nm : List Int) : Prop := FitS old many nm ∧ ¬ GoodS old new many nm
theorem Bad.perm {old new : Face} {many : Nat} {nm nm' : List Int} (p : nm.Perm nm') (h : Bad old new many nm) : Bad old new many nm' :=
  ⟨h.1.perm p, fun g => h.2 (g.perm p.symm)⟩
/-- goodness of a list of names -/
theorem good_false {old new : Face} (ho : old.Ok) (hn : new.Ok) {names : List (Option Int)} : isGood old new names = false ↔ Bad old new (cntN names) (nmsN names) := by
  cases hf : isFit (lawMatched old names) with
  | true =>
    have h1 := fit_iffS.mp hf
    have h2 := good_iff ho hn hf
    constructor
    · intro h; exact ⟨h1, fun g => by rw [h2.mpr g] at h; cases h⟩
    · rintro ⟨_, h⟩
      cases hg : isGood old new names with
      | false => rfl
      | true => exact absurd (h2.mp hg) h
  | false =>
    constructor
    · intro h
      unfold isGood at h
      cases hl : lawMatched old names with
      | clash c => rw [hl] at h; cases h
      | fits a b m => rw [hl] at hf; cases hf
    · rintro ⟨h, _⟩
      rw [fit_iffS.mpr h] at hf; cases hf
/-! ### which names matter -/
abbrev Rising (l : List Int) : Prop := l.Pairwise (· < ·)
def InTen (l : List Int) : Prop := ∀ n ∈ l, 0 ≤ n ∧ n < 10
def knownN (old new : Face) : List Int := (old.slots ++ new.slots).map (·.name)
theorem named_known {old new : Face} {n : Int} (h : n ∉ knownN old new) : slotNamed old n = none ∧ slotNamed new n = none := by
  have key : ∀ f : Face, (∀ s ∈ f.slots, s ∈ old.slots ++ new.slots) → slotNamed f n = none := by
    intro f hf
    cases hs : slotNamed f n with
    | none => rfl
    | some k =>
      obtain ⟨s, h1, h2, _⟩ := named_get hs
      exact absurd (List.mem_map.mpr ⟨s, hf s (List.mem_of_getElem? h1), h2⟩) h
  exact ⟨key old fun s hs => List.mem_append_left _ hs, key new fun s hs => List.mem_append_right _ hs⟩
def ten : List Int := (List.range 10).map fun (k : Nat) => (k : Int)
theorem mem_ten {n : Int} : n ∈ ten ↔ 0 ≤ n ∧ n < 10 := by
  unfold ten
  rw [List.mem_map]
  constructor
  · rintro ⟨k, hk, rfl⟩
    have := List.mem_range.mp hk
    omega
  · rintro ⟨h0, h1⟩
    exact ⟨n.toNat, List.mem_range.mpr (by omega), by omega⟩
def freshL (old new : Face) : List Int := ten.filter fun n => !decide (n ∈ knownN old new)
theorem mem_fresh {old new : Face} {n : Int} : n ∈ freshL old new ↔ (0 ≤ n ∧ n < 10) ∧ n ∉ knownN old new := by
  unfold freshL
  rw [List.mem_filter, mem_ten]
  simp
theorem ten_sorted : Rising ten := by
  unfold ten
  rw [Rising, List.pairwise_map]
  exact List.pairwise_lt_range.imp fun h => by omega
theorem fresh_sorted (old new : Face) : Rising (freshL old new) := ten_sorted.filter _
theorem fresh_head {old new : Face} {f1 n : Int} (h : (freshL old new).head? = some f1) (hn : n ∈ freshL old new) : f1 ≤ n := by
  have hs := fresh_sorted old new
  cases hl : freshL old new with
  | nil => rw [hl] at h; cases h
  | cons a r =>
    rw [hl] at h hn hs
    cases h
    rcases List.mem_cons.mp hn with rfl | hn
    · exact Int.le_refl _
    · exact Int.le_of_lt ((List.pairwise_cons.mp hs).1 n hn)
def takes (old : Face) (n : Int) : Bool := old.more || (slotNamed old n).isSome
/-- the names that the program looks at -/
def cand (old new : Face) (n : Int) : Prop := takes old n = true ∧ (n ∈ knownN old new ∨ (freshL old new).head? = some n)
/-! ### the order of shapes -/
def shLe (a b : Nat × List Int) : Prop := a.1 + a.2.length < b.1 + b.2.length ∨ (a.1 + a.2.length = b.1 + b.2.length ∧ (a.2.length < b.2.length ∨ (a.2.length = b.2.length ∧ a.2 ≤ b.2)))
theorem shLe.refl (a : Nat × List Int) : shLe a a := .inr ⟨rfl, .inr ⟨rfl, List.not_lt.mp (List.lt_irrefl _)⟩⟩
theorem shLe.trans {a b c : Nat × List Int} (h1 : shLe a b) (h2 : shLe b c) : shLe a c := by
  unfold shLe at *
  rcases h1 with h1 | ⟨h1, h1' | ⟨h1', h1''⟩⟩
  · rcases h2 with h2 | ⟨h2, _⟩
    · exact .inl (by omega)
    · exact .inl (by omega)
  · rcases h2 with h2 | ⟨h2, h2' | ⟨h2', _⟩⟩
    · exact .inl (by omega)
    · exact .inr ⟨by omega, .inl (by omega)⟩
    · exact .inr ⟨by omega, .inl (by omega)⟩
  · rcases h2 with h2 | ⟨h2, h2' | ⟨h2', h2''⟩⟩
    · exact .inl (by omega)
    · exact .inr ⟨by omega, .inl (by omega)⟩
    · exact .inr ⟨by omega, .inr ⟨by omega, List.le_trans h1'' h2''⟩⟩
theorem shLe.antisymm {a b : Nat × List Int} (h1 : shLe a b) (h2 : shLe b a) : a = b := by
  unfold shLe at *
  have hl : a.2.length = b.2.length ∧ a.1 + a.2.length = b.1 + b.2.length ∧ a.2 ≤ b.2 ∧ b.2 ≤ a.2 := by
    rcases h1 with h1 | ⟨h1, h1' | ⟨h1', h1''⟩⟩ <;> rcases h2 with h2 | ⟨h2, h2' | ⟨h2', h2''⟩⟩ <;> first | (exfalso; omega; done) | exact ⟨h1', h1, h1'', h2''⟩
  obtain ⟨h3, h4, h5, h6⟩ := hl
  have e2 := List.le_antisymm h5 h6
  have e1 : a.1 = b.1 := by omega
  exact Prod.ext e1 e2
/-! ### a shape by the least fresh name alone -/
theorem ins_mem {n x : Int} {l : List Int} : x ∈ ins n l ↔ x = n ∨ x ∈ l := by
  rw [(ins_perm n l).mem_iff, List.mem_cons]
theorem ins_rising {n : Int} : ∀ {l : List Int}, Rising l → n ∉ l → Rising (ins n l)
  | [], _, _ => by simp [ins, Rising]
  | m :: r, h, hn => by
    unfold ins
    rw [Rising, List.pairwise_cons] at h
    have hne : n ≠ m := fun e => hn (by rw [e]; exact List.mem_cons_self)
    split
    · rename_i hle
      rw [Rising, List.pairwise_cons, List.pairwise_cons]
      refine ⟨fun x hx => ?_, h.1, h.2⟩
      rcases List.mem_cons.mp hx with rfl | hx
      · omega
      · have := h.1 x hx; omega
    · rename_i hle
      rw [Rising, List.pairwise_cons]
      refine ⟨fun x hx => ?_, ins_rising h.2 fun e => hn (List.mem_cons_of_mem _ e)⟩
      rcases ins_mem.mp hx with rfl | hx
      · omega
      · exact h.1 x hx
theorem ins_len (n : Int) (l : List Int) : (ins n l).length = l.length + 1 := by rw [(ins_perm n l).length_eq]; rfl
theorem ins_le {p : Int → Bool} {f1 : Int} (hf : p f1 = false) : ∀ {l : List Int}, Rising l → (l.filter p).length + 1 = l.length → (∀ x ∈ l, p x = false → f1 ≤ x) → ins f1 (l.filter p) ≤ l
  | [], _, h, _ => by simp at h
  | a :: r, hs, h, hx => by
    rw [Rising, List.pairwise_cons] at hs
    cases hp : p a with
    | false =>
      rw [List.filter_cons_of_neg (by simp [hp])] at h ⊢
      have hr : r.filter p = r := by
        have : (r.filter p).length = r.length := by simpa using h
        exact List.filter_eq_self.mpr (fun x hx => List.length_filter_eq_length_iff.mp this x hx)
      rw [hr]
      have hle := hx a List.mem_cons_self hp
      have hi : ins f1 r = f1 :: r := by
        cases r with
        | nil => rfl
        | cons b r' =>
          unfold ins
          have := hs.1 b List.mem_cons_self
          rw [if_pos (by omega)]
      rw [hi, List.cons_le_cons_iff]
      rcases Int.lt_or_eq_of_le hle with z | z
      · exact .inl z
      · exact .inr ⟨z, List.not_lt.mp (List.lt_irrefl _)⟩
    | true =>
      rw [List.filter_cons_of_pos hp] at h ⊢
      unfold ins
      split
      · rename_i hle
        rw [List.cons_le_cons_iff]
        have hne : f1 ≠ a := fun e => by rw [e, hp] at hf; cases hf
        exact .inl (by omega)
      · rw [List.cons_le_cons_iff]
        refine .inr ⟨rfl, ins_le hf hs.2 (by simpa using h) fun x hx' => hx x (List.mem_cons_of_mem _ hx')⟩
theorem reduce {old new : Face} {many : Nat} {nm : List Int} (hr : Rising nm) (h10 : InTen nm) (hb : Bad old new many nm) :
    ∃ nm', Rising nm' ∧ InTen nm' ∧ (∀ n ∈ nm', cand old new n) ∧ Bad old new many nm' ∧ shLe (many, nm') (many, nm) := by
  by_cases hall : ∀ n ∈ nm, n ∈ knownN old new
  · refine ⟨nm, hr, h10, fun n hn => ⟨?_, .inl (hall n hn)⟩, hb, shLe.refl _⟩
    unfold takes
    rcases hb.1.nn n hn with z | z
    · cases hs : slotNamed old n with
      | none => exact absurd hs z
      | some k => simp
    · simp [z]
  · obtain ⟨x, hx, hxk⟩ : ∃ x ∈ nm, x ∉ knownN old new := by
      apply Classical.byContradiction
      intro hc
      exact hall fun n hn => Classical.byContradiction fun hk => hc ⟨n, hn, hk⟩
    have hxf : x ∈ freshL old new := mem_fresh.mpr ⟨h10 x hx, hxk⟩
    obtain ⟨f1, hf1⟩ : ∃ f1, (freshL old new).head? = some f1 := by
      cases hl : freshL old new with
      | nil => rw [hl] at hxf; cases hxf
      | cons a r => exact ⟨a, rfl⟩
    have hf1m := List.mem_of_head? hf1
    obtain ⟨hf10, hf1k⟩ := mem_fresh.mp hf1m
    have hmore : old.more = true := by
      rcases hb.1.nn x hx with z | z
      · exact absurd (named_known hxk).1 z
      · exact z
    let p : Int → Bool := fun n => decide (n ∈ knownN old new)
    have hpf : p f1 = false := decide_eq_false hf1k
    have hmem : ∀ n, n ∈ ins f1 (nm.filter p) ↔ n = f1 ∨ (n ∈ nm ∧ n ∈ knownN old new) := fun n => by
      rw [ins_mem, List.mem_filter]; simp [p]
    have hris : Rising (ins f1 (nm.filter p)) := ins_rising (hr.filter _) fun e => by
      have := (List.mem_filter.mp e).2
      rw [hpf] at this; cases this
    have hfit : FitS old many (ins f1 (nm.filter p)) := by
      refine ⟨hb.1.pl, hris.imp fun h e => by omega, fun n hn => .inr hmore, fun n hn k hk => ?_, fun k s hk hd => ?_⟩
      · rcases (hmem n).mp hn with rfl | ⟨h1, _⟩
        · rw [(named_known hf1k).1] at hk; cases hk
        · exact hb.1.cl n h1 k hk
      · rcases hb.1.fu k s hk hd with z | ⟨n, hn, e⟩
        · exact .inl z
        · refine .inr ⟨n, (hmem n).mpr (.inr ⟨hn, ?_⟩), e⟩
          exact Classical.byContradiction fun hk => by rw [(named_known hk).1] at e; cases e
    refine ⟨ins f1 (nm.filter p), hris, fun n hn => ?_, fun n hn => ?_, ⟨hfit, fun G => hb.2 ?_⟩, ?_⟩
    · rcases (hmem n).mp hn with rfl | ⟨h1, _⟩
      · exact hf10
      · exact h10 n h1
    · refine ⟨by unfold takes; simp [hmore], ?_⟩
      rcases (hmem n).mp hn with rfl | ⟨_, h1⟩
      · exact .inr hf1
      · exact .inl h1
    · have hnmore : new.more = true := by
        rcases G.fit.nn f1 ((hmem f1).mpr (.inl rfl)) with z | z
        · exact absurd (named_known hf1k).2 z
        · exact z
      refine ⟨⟨G.fit.pl, hb.1.nd, fun n hn => .inr hnmore, fun n hn k hk => ?_, fun k s hk hd => ?_⟩, G.pl, fun n hn => ?_, fun k s hk hf => G.df k s hk fun z => hf ?_⟩
      · by_cases hkn : n ∈ knownN old new
        · exact G.fit.cl n ((hmem n).mpr (.inr ⟨hn, hkn⟩)) k hk
        · rw [(named_known hkn).2] at hk; cases hk
      · rcases G.fit.fu k s hk hd with z | ⟨n, hn, e⟩
        · exact .inl z
        · rcases (hmem n).mp hn with rfl | ⟨h1, _⟩
          · rw [(named_known hf1k).2] at e; cases e
          · exact .inr ⟨n, h1, e⟩
      · by_cases hkn : n ∈ knownN old new
        · exact G.nn n ((hmem n).mpr (.inr ⟨hn, hkn⟩))
        · rw [(named_known hkn).1, (named_known hkn).2]
      · rcases z with z | ⟨n, hn, e⟩
        · exact .inl z
        · rcases (hmem n).mp hn with rfl | ⟨h1, _⟩
          · rw [(named_known hf1k).1] at e; cases e
          · exact .inr ⟨n, h1, e⟩
    · have hlt : (nm.filter p).length < nm.length := by
        apply Nat.lt_of_le_of_ne (List.length_filter_le _ _)
        intro e
        have := List.length_filter_eq_length_iff.mp e x hx
        exact hxk (of_decide_eq_true this)
      unfold shLe
      show many + (ins f1 (nm.filter p)).length < many + nm.length ∨ _
      rw [ins_len]
      by_cases he : (nm.filter p).length + 1 = nm.length
      · refine .inr ⟨by show many + ((nm.filter p).length + 1) = many + nm.length; omega, .inr ⟨he, ?_⟩⟩
        exact ins_le hpf hr he fun y hy hpy => fresh_head hf1 (mem_fresh.mpr ⟨h10 y hy, of_decide_eq_false hpy⟩)
      · exact .inl (by omega)
/-! ### the least shape that breaks -/
structure BadSh (old new : Face) (x : Nat × List Int) : Prop where
  ris : Rising x.2
  ten : InTen x.2
  len : x.1 + x.2.length ≤ 10
  bad : Bad old new x.1 x.2
structure IsLeast (old new : Face) (r : Option (Nat × List Int)) : Prop where
  no : r = none → ∀ x, ¬ BadSh old new x
  yes : ∀ x, r = some x → BadSh old new x ∧ ∀ y, BadSh old new y → shLe x y
theorem IsLeast.uniq {old new : Face} {r r' : Option (Nat × List Int)} (h : IsLeast old new r) (h' : IsLeast old new r') : r = r' := by
  cases r with
  | none =>
    cases r' with
    | none => rfl
    | some y => exact absurd (h'.yes y rfl).1 (h.no rfl y)
  | some x =>
    cases r' with
    | none => exact absurd (h.yes x rfl).1 (h'.no rfl x)
    | some y =>
      obtain ⟨h1, h2⟩ := h.yes x rfl
      obtain ⟨h3, h4⟩ := h'.yes y rfl
      rw [shLe.antisymm (h2 y h3) (h4 x h1)]
/-- found in a row of shapes that is in order and has all that matter -/
theorem least_find {old new : Face} {L : List (Nat × List Int)} {p : Nat × List Int → Bool} (hs : L.Pairwise shLe) (hp : ∀ x ∈ L, p x = true ↔ BadSh old new x) (hc : ∀ x, BadSh old new x → (∀ n ∈ x.2, cand old new n) → x ∈ L) : IsLeast old new (L.find? p) := by
  have red : ∀ y, BadSh old new y → ∃ z ∈ L, BadSh old new z ∧ shLe z y := by
    intro y hy
    obtain ⟨nm', h1, h2, h3, h4, h5⟩ := reduce hy.ris hy.ten hy.bad
    have hl : nm'.length ≤ y.2.length := by
      rcases h5 with z | ⟨_, z | ⟨z, _⟩⟩
      · have : y.1 + nm'.length < y.1 + y.2.length := z; omega
      · exact Nat.le_of_lt z
      · exact Nat.le_of_eq z
    have hb : BadSh old new (y.1, nm') := ⟨h1, h2, by have := hy.len; show y.1 + nm'.length ≤ 10; omega, h4⟩
    exact ⟨(y.1, nm'), hc _ hb h3, hb, h5⟩
  refine ⟨fun hn x hx => ?_, fun x hx => ?_⟩
  · obtain ⟨z, hz, hb, _⟩ := red x hx
    have := List.find?_eq_none.mp hn z hz
    exact this ((hp z hz).mpr hb)
  · obtain ⟨h1, i, hi, e, h2⟩ := List.find?_eq_some_iff_getElem.mp hx
    have hxm : x ∈ L := by rw [← e]; exact List.getElem_mem hi
    refine ⟨(hp x hxm).mp h1, fun y hy => ?_⟩
    obtain ⟨z, hz, hb, hle⟩ := red y hy
    refine shLe.trans ?_ hle
    obtain ⟨j, hj, ej⟩ := List.getElem_of_mem hz
    have hpz := (hp z hz).mpr hb
    rcases Nat.lt_trichotomy i j with hl | hl | hl
    · rw [← e, ← ej]; exact List.pairwise_iff_getElem.mp hs i j hi hj hl
    · subst hl; rw [← e, ej]; exact shLe.refl _
    · have := h2 j hl
      rw [ej, hpz] at this; cases this
end Sc

/-! # sorted by a lambda that tells (len(x), x) -/
namespace Dw
open PySem L2 LamX PyProof.Rows
/-- names as data -/
def encNm (nm : List Int) : PyData := .tuple (nm.map .int)
def keyN (nm : List Int) : PyData := .tuple [.int (nm.length : Int), encNm nm]
def lenBody (x : Str) (q1 q2 q3 q4 q5 : Pos) (k : Nat) : Expr := .Tuple [.Call (.Name "len" q1) [.Name x q2] [] q3, .Name x q4] k q5
structure LenLam (x : Str) (params : Arguments) (scope : Scope) : Prop where
  kind : scope.kind = .function
  co : scope.isCoroutine = false
  gen : scope.isGenerator = false
  own : ∀ y ∈ scope.names, y.2 ≠ .cell
  fr : ∀ y ∈ scope.names, y.2 ≠ .free
  lx : scope.names.lookup x = some .local
  ll : scope.names.lookup ("len" : Str) = some .globalImplicit
  bind : ∀ (q : Str) (body : Expr) (pm cv ctv : Value) (u : Value), bindArgs (PySem.W.kla_fn "<lambda>" q params body scope [] pm cv ctv) ⟨[u], []⟩ = pure [(x, u)]
section
variable {X : Cx} {pins : List (Addr × Obj)} {σ : L2.St} {H : Hp} {s : Shared}
theorem ints_reads {h : Heap} : ∀ {us : List Value} {b : List Int}, Vals (b.map V.int) us → ReadsAll h us (b.map .int) []
  | _, [], .nil => .nil
  | _, n :: b, .cons r t => by
    obtain ⟨k, rfl⟩ := r
    have := ReadsAll.cons (Reads.int (h := h) n k) (ints_reads (h := h) t)
    exact this
theorem clo_nil (cells : List (Str × Addr)) : ∀ (names : List (Str × NameKind)), (∀ y ∈ names, y.2 ≠ .free) → cloFrom cells names [] = []
  | [], _ => rfl
  | (y, k) :: r, h => by
    have ih := clo_nil cells r fun z hz => h z (List.mem_cons_of_mem _ hz)
    have hk := h (y, k) List.mem_cons_self
    show (if k == .free then cloFrom cells r _ else cloFrom cells r []) = []
    cases k <;> first | exact absurd rfl hk | exact ih
/-- one call of the lambda -/
theorem lam_turn {x q : Str} {params : Arguments} {scope : Scope} {q1 q2 q3 q4 q5 : Pos} {kk : Nat} {pm ctv : Value} {f c' a : Addr} {b : List Int} {A : Around} (L : LenLam x params scope) (I : Inv X pins σ H s) (hB : X.mg "len" = none) (hd : A.depth < recursionLimit) (hx : (x == ("__debug__" : Str)) = false)
    (hf : s.heap.get? f = some (PySem.W.kla_obj "<lambda>" q params (lenBody x q1 q2 q3 q4 q5 kk) scope [] pm c' ctv)) (hc : s.heap.CodeRec (.ref c') q) (ht : SqT X.K H a (b.map V.int)) :
    wpAny (model X.prog X.w) A (call (.ref f) [.ref a]) (PySem.W.KeyPure (keyN b) s) (fun _ _ => False) s := by
  obtain ⟨its, rv, tup, hz⟩ := I.tuple ht
  refine wpAny_call (codeAny_mono (PySem.W.kla_callFunE (R := fun r s' => ∃ v, r = .ok (.ret v) ∧ PySem.W.KeyPure (keyN b) s v s') hd hf rfl L.co L.gen rfl hc ?_) fun r s' hr => ?_)
  case refine_2 =>
    obtain ⟨v, rfl, hk⟩ := hr
    exact hk
  rw [L.bind]
  refine wpAny_pure (wpAny_newFunctionEnv L.own (fun y hy => by rw [List.mem_singleton.mp hy]; exact L.lx) (fun h₁ hns hsb => ⟨I.nolimit.fresh _ hsb, ?_⟩) L.kind)
  have kp : ∀ b o, s.heap.get? b = some o → h₁.get? b = some o := fun b o e => hsb.extBut b o (Nat.ne_of_lt (Heap.lt_size e)) (Heap.get?_push_of_some _ e)
  have I1 : Inv X pins σ H { s with heap := h₁, toks := s.toks + [(x, Value.ref a)].length } := I.kept kp
  obtain ⟨mb, hb1, hb2⟩ := I1.mod.blt
  have tup1 : IsTup h₁ a its.toArray := by
    obtain ⟨o, e1, e2, n, e3⟩ := tup
    exact ⟨o, kp _ _ e1, e2, n, e3⟩
  have hlen : its.length = b.length := by have := rv.length; rw [List.length_map] at this; exact this.symm
  have hfit : (its.toArray.size : Int) < 2 ^ 63 := by
    rw [List.size_toArray]
    have h1 : sizeLine < 2 ^ 63 := by decide
    rw [← rv.length]
    omega
  refine PySem.W.kla_codeExpr ?_
  unfold lenBody
  refine wpAny_Tuple_spliced (PyProof.Rows.args_cons ?_)
  refine PyProof.Rows.Call_ (Calls.Name_function_global L.kind L.ll (Calls.loadGlobal_builtin (mg := X.mg) (I1.mod.glob.keeps I1.bk) hB (hb1.keeps I1.bk) ((hb2 "len" (by decide)).trans PySem.boot_len) ?_) (by decide))
  refine PyProof.Rows.callWith_builtin1 (PyProof.Rows.args_cons (wpAny_Name (wpAny_loadName_local L.kind L.lx hns (v := .ref a) (by simp) (PyProof.Rows.args_nil ?_)) hx))
  refine PyProof.Rows.len_tuple tup1 hfit ?_
  refine PyProof.Rows.args_cons (wpAny_Name (wpAny_loadName_local L.kind L.lx hns (v := .ref a) (by simp) (PyProof.Rows.args_nil ?_)) hx)
  refine ⟨by show 2 ≤ sizeLine; decide, _, rfl, _, _, rfl, fun b o e => Heap.get?_push_of_some _ (kp b o e), ?_⟩
  have rd : ReadsAll (h₁.push { cls := .type "tuple", data := .seq [Value.int its.toArray.size (s.toks + [(x, Value.ref a)].length + 1), .ref a].toArray }) its (b.map .int) [] := ints_reads rv
  obtain ⟨o, e1, e2, n, e3⟩ := tup1
  refine Reads.tuple (Heap.get?_push_size _ rfl) rfl rfl ?_
  have hb3 : Reads (h₁.push { cls := .type "tuple", data := .seq [Value.int its.toArray.size (s.toks + [(x, Value.ref a)].length + 1), .ref a].toArray }) (.ref a) (.tuple (b.map .int)) [] :=
    Reads.tuple (Heap.get?_push_of_some _ e1) e2 e3 (by simpa using rd)
  have hi : Reads (h₁.push { cls := .type "tuple", data := .seq [Value.int its.toArray.size (s.toks + [(x, Value.ref a)].length + 1), .ref a].toArray }) (.int its.toArray.size (s.toks + [(x, Value.ref a)].length + 1)) (.int (b.length : Int)) [] := by
    rw [List.size_toArray, hlen]; exact Reads.int _ _
  exact ReadsAll.cons hi (ReadsAll.cons hb3 ReadsAll.nil)
/-- the reading: vs stands for bs by Rv; the tables may grow -/
def tSortLam (K : Frg) (T : List (Addr × Str)) (ta : TA) : TE := fun σ H Q => ta σ H fun xs H1 => ∃ (l : Addr) (vs : List V) (bs : List (List Int)) (Rv : V → List Int → Prop), xs = [.ref l] ∧ SqL K H1 l vs ∧ Paired Rv vs bs ∧
  (∀ v b, Rv v b → b ∈ bs → ∃ a, v = .ref a ∧ SqT K H1 a (b.map .int)) ∧ Tabs T H1 ∧
  ∀ (H2 : Hp) (vs' : List V) (p : Addr), ExtN H1 H2 → Tabs T H2 → Paired Rv vs' (bs.mergeSort (PySem.W.dataLe false keyN)) → H2 p = none → Q (.ref p) (upd H2 p (.lst vs'))
theorem keyN_alike (a b : List Int) : PySem.W.alike (keyN a) (keyN b) = true := by
  unfold keyN encNm
  simp [PySem.W.alike, PySem.W.alikeAll, PySem.W.alike_ints]
theorem keyN_depth (b : List Int) : (keyN b).depth = 2 := by
  unfold keyN encNm
  simp [PyData.depth, PyData.depthAll, PySem.W.depth_ints]
theorem each_of_paired {Rv : V → List Int → Prop} {R : Value → List Int → Prop} (hR : ∀ v u b, RelV v u → Rv v b → R u b) : ∀ {vs : List V} {us : List Value} {bs : List (List Int)}, Vals vs us → Paired Rv vs bs → PySem.W.EachIs R us bs
  | _, _, _, .nil, .nil => .nil
  | _, _, _, .cons r t, .cons h t' => .cons (hR _ _ _ r h) (each_of_paired hR t t')
theorem paired_of_each {Rv : V → List Int → Prop} : ∀ {us : List Value} {bs : List (List Int)}, PySem.W.EachIs (fun u b => ∃ v, RelV v u ∧ Rv v b) us bs → ∃ vs, Vals vs us ∧ Paired Rv vs bs
  | _, _, .nil => ⟨[], .nil, .nil⟩
  | _, _, .cons ⟨v, r, h⟩ t => by
    obtain ⟨vs, r1, h1⟩ := paired_of_each t
    exact ⟨v :: vs, .cons r r1, .cons h h1⟩
theorem extN_rdL {K : Frg} {H H1 : Hp} {l : Addr} {vs : List V} (e : ExtN H H1) (h : SqL K H l vs) : SqL K H1 l vs := by
  rcases h with (h | ⟨o, h⟩) | h
  · exact .inl (.inl (e _ _ h fun ps z => by cases z))
  · exact .inl (.inr ⟨o, e _ _ h fun ps z => by cases z⟩)
  · exact .inr h
theorem extN_rdT {K : Frg} {H H1 : Hp} {l : Addr} {vs : List V} (e : ExtN H H1) (h : SqT K H l vs) : SqT K H1 l vs := by
  rcases h with (h | ⟨o, h⟩) | h
  · exact .inl (.inl (e _ _ h fun ps z => by cases z))
  · exact .inl (.inr ⟨o, e _ _ h fun ps z => by cases z⟩)
  · exact .inr h
/-- sorted(e, key=lambda x: (len(x), x)) -/
theorem pe_sortLam {T : List (Addr × Str)} {k : Nat} {x : Str} {e : Expr} {ta : TA} {params : Arguments} {scope : Scope} {c P : Addr} {p q1 q2 q3 q4 q5 lpos kpos pos : Pos} {kk : Nat} (hr : Room k X.A) (ha : PA X [e] ta) (L : LenLam x params scope) (TB : TabB X.base X.mg c P) (hcode : X.env.code = .ref c)
    (hmT : (P, X.env.qual ++ "<lambda>") ∈ T) (hu : ∀ p ∈ T, p.1 = P → p.2 = X.env.qual ++ "<lambda>") (hdef : defaultsOf params X.env = ([], [])) (hg : Gl X "sorted") (hm : X.mg "sorted" = none) (hB : X.mg "len" = none) (hx : (x == ("__debug__" : Str)) = false)
    (he : backTo pos (starEach [e] X.env) = (false, eval e X.env) :: backTo pos (starEach [] X.env) := by rfl) (hpl : (backTo pos (starEach [e] X.env)).any (·.1) = false := by rfl) :
    PE X (.Call (.Name "sorted" p) [e] [⟨some "key", .Lambda params (lenBody x q1 q2 q3 q4 q5 kk) scope lpos, kpos⟩] pos) (tSortLam X.K T ta) := by
  refine ⟨fun pins s σ H Q I h => ?_⟩
  refine wpAny_Call_Name_kw (ld_blt I hg hm (u := .builtin "sorted") (by decide +kernel) ?_)
  refine PyProof.Rows.callWith_kw (kws := [⟨some "key", .Lambda params (lenBody x q1 q2 q3 q4 q5 kk) scope lpos, kpos⟩]) (thn (ha.run pos pins s σ H _ I h) fun us s1 ⟨xs, H1, I1, r1, q⟩ => ?_) he hpl rfl rfl
  obtain ⟨l, vs, bs, Rv, rfl, hl, hp, hrd, hT, hQ⟩ := q
  obtain rfl := Vals.ref1 r1
  show wpAny _ _ (evalAll [(do let v ← eval (.Lambda params (lenBody x q1 q2 q3 q4 q5 kk) scope lpos) X.env; standAt pos; pure v)]) _ _ s1
  refine wpAny_evalAll_cons (wpAny_bind (lam_make2 I1 TB hcode hmT hu hT hdef (fun y hy hf => absurd hf (L.fr y hy)) fun f c' pm ctv H2 s2 I2 eN T2 hf hfn hfr hco => wpAny_bind (wpAny_standAt (wpAny_pure (wpAny_evalAll_nil ?_)))))
  rw [clo_nil _ _ L.fr] at hf
  have hl2 := extN_rdL eN hl
  obtain ⟨its, rv, pl, hz⟩ := I2.list hl2
  have hlen : bs.length = vs.length := hp.length.symm
  have hE : PySem.W.EachIs (fun u b => ∃ v, RelV v u ∧ Rv v b) its bs := each_of_paired (fun v u b r h => ⟨v, r, h⟩) rv hp
  have hcr : s2.heap.CodeRec (.ref c') (X.env.qual ++ "<lambda>") := by
    obtain ⟨⟨oc, ws, t, hoc, hdc, hvc⟩, _, _⟩ := I2.hok c' _ hco
    exact ⟨c', oc, ws, t, rfl, hoc, hdc, hvc⟩
  show wpAny _ _ (call (.builtin "sorted") [.ref l] [(Str.ofString "key", .ref f)]) _ _ s2
  refine PySem.W.sorted_key_data (k := keyN) (b := false) (f := .ref f) pl.isList hE ?_ ?_ (by rw [hlen]; exact hz) (fun b _ => ?_) (PyProof.Rows.ksk_s1 _ _) (fun _ => PyProof.Rows.ksk_l1 _ _) (fun a => PyProof.Rows.ksk_t1 f a) (fun u b hub hb h tk kp => ?_) (fun out cc h' tk kp hn hD ho hEo => ?_)
  · exact PySem.W.AllAlike.of fun a b => keyN_alike a b
  · exact PySem.W.Sortable.tuples fun b => ⟨_, _, rfl⟩
  · rw [keyN_depth]
    have := hr.un
    omega
  · obtain ⟨v, r, hv⟩ := hub
    obtain ⟨a, rfl, hat⟩ := hrd v b hv hb
    obtain rfl : u = Value.ref a := r
    have I3 : Inv X pins σ H2 { s2 with heap := h, toks := tk } := I2.kept kp
    refine lam_turn L I3 hB hr.depth hx (kp _ _ hf) ?_ (extN_rdT eN hat)
    obtain ⟨d, oc, ws, t, e1, e2, e3⟩ := hcr
    exact ⟨d, oc, ws, t, e1, kp _ _ e2, e3⟩
  · obtain ⟨vs', r', hp'⟩ := paired_of_each hEo
    have hlv : vs'.length ≤ sizeLine := by
      rw [r'.length, ho, hlen]
      exact hz
    exact ⟨.ref _, upd H2 (s2.heap.objs.size + 1) (.lst vs'), I2.laid (t' := tk) kp (Nat.le_succ _) ⟨hlv, out, cc, r', hD⟩, rfl, hQ H2 vs' _ eN T2 hp' (I2.hok.fresh (Nat.le_succ _))⟩
end
end Dw

/-! # set(xs) and sorted(set(xs)), whole numbers -/
namespace Dw
open PySem PySem.Spec L2 LamX PyProof.Rows
abbrev eSet (w : World) : Obj := { cls := .type "set", dict := none, data := .set #[] 0 (.fresh 0 0 (!w.params.followText "set-order")) }
section
variable {P : Program} {w : World} {A : Around} {E : Value → Shared → Prop} {s : Shared}
theorem ints_get {items : Array Value} {ns : List Int} (hit : IntsAre items.toList ns) : items.size = ns.length ∧ ∀ (i : Nat) (v : Value), items[i]? = some v → ∃ k t, ns[i]? = some k ∧ v = .int k t := by
  have hz : items.size = ns.length := by have q := IntsAre.length hit; rwa [Array.length_toList] at q
  refine ⟨hz, fun i v hv => ?_⟩
  have hi : i < ns.length := hz ▸ (Array.getElem?_eq_some_iff.mp hv).1
  obtain ⟨t, e⟩ := PyProof.Rows.IntsAre.int_at hit i v ((Array.getElem?_toList ..).trans hv)
  rw [List.getD_eq_getElem?_getD, List.getElem?_eq_getElem hi] at e
  exact ⟨ns[i], t, List.getElem?_eq_getElem hi, e⟩
/-- what is told of the set behind set(xs) -/
def SetBack (w : World) (s : Shared) (ns : List Int) (s' : Shared) : Prop := ∃ (h' : Heap) (tk c : Nat), s' = { s with heap := h', toks := tk } ∧ SetR w h' s.heap.objs.size (fun j => decide (j ∈ ns)) c ∧ c ≤ ns.length ∧ ∀ b o, s.heap.get? b = some o → h'.get? b = some o
set_option maxRecDepth 100000 in
set_option maxHeartbeats 3200000 in
theorem call_set_lst {l : Addr} {items : Array Value} {ns : List Int} {Q : Value → Shared → Prop} (free : A.handled = none) (hl : s.heap.IsList l items) (hit : IntsAre items.toList ns) (room : ns.length + 1 < scanBound)
    (h : ∀ s', SetBack w s ns s' → Q (.ref s.heap.objs.size) s') : wpAny (model P w) A (call (.type "set") [.ref l]) Q E s := by
  obtain ⟨sized, vals⟩ := ints_get hit
  obtain ⟨_, _, hmro⟩ := F.called_set.mro
  have hmade := F.called_set.made; have hsub := F.called_set.sub; have h1 := F.called_set.notType; have h2 := F.called_set.canCreate; have hct := F.typeCall_set_1 (.ref l)
  refine wpAny_call (codeAny_of_tree ?_)
  show wpAny _ _ (callAny (.type "set") ⟨[.ref l], []⟩) _ _ _
  refine wpAny_pure (And.intro (Code.quiet_builtin _ (by decide +kernel)) (codeAny_builtin F.entry_type_call ?_))
  rw [Around.under_plain (weight_type_call_type "set" [Value.ref l] []) rfl]
  repeat (any_goals (first | assumption | wp_step))
  refine codeAny_mono (code_set_led1 (.ref l) (E := E) (Q₁ := fun o t => o = .ref s.heap.objs.size ∧ t = { s with heap := s.heap.push (eSet w) }) (And.intro rfl rfl)) fun r t hr => ?_
  cases r with
  | error e => exact hr
  | ok fl =>
    cases fl with
    | ret o =>
      obtain ⟨rfl, rfl⟩ := hr
      have atS : (s.heap.push (eSet w)).get? s.heap.objs.size = some (eSet w) := Heap.get?_push_size _ rfl
      have tyS : Shared.TypeIs { s with heap := s.heap.push (eSet w) } (.ref s.heap.objs.size) "set" := ⟨_, atS, rfl⟩
      have hli := F.called_set.init.lookup; have hbi := F.called_set.init.bind (.ref s.heap.objs.size)
      repeat (any_goals (first | assumption | wp_step))
      refine codeAny_mono (codeAny_call_builtin (R := wants (fun r t => r = .none ∧ SetBack w s ns t) E) F.called_set.init.plain F.entry_set_init (check_set_init_1 tyS ?_)) fun r2 t2 hr2 => ?_
      · obtain ⟨⟨ocls, odict, odata, oslots⟩, hol, hcl, nl, hdl⟩ := hl
        simp only at hcl hdl
        subst hcl hdl
        have hol' : (s.heap.push (eSet w)).get? l = some ⟨.type "list", odict, .seq items nl, oslots⟩ := Heap.get?_push_of_some _ hol
        have isS := F.sub_list_set; have isF := F.sub_list_frozenset
        have noD : (Value.type "list" == Value.type "dict") = false := by decide
        have hl1 : (s.heap.push (eSet w)).IsList l items := ⟨_, hol', rfl, nl, rfl⟩
        unfold Builtin.«set.__init__» noKeywords Builtin.Frozenset.updateFrom
        generalize hIt : pyIter = IT
        wp_walk
        subst hIt
        refine wpAny_pyIter_list hl1 (wpAny_bind (wpAny_runValue ?_))
        have lt : l < s.heap.objs.size := Heap.lt_size hol
        have sz : (s.heap.push (eSet w)).objs.size = s.heap.objs.size + 1 := Heap.size_push ..
        have free3 : A.in1.in1.in1.handled = none := by simp [free]
        have nI : l ≠ (s.heap.push (eSet w)).objs.size := sz ▸ Nat.ne_of_lt (Nat.lt_succ_of_lt lt)
        have nS : s.heap.objs.size ∉ [(s.heap.push (eSet w)).objs.size, l] := by
          simp only [List.mem_cons, List.not_mem_nil, or_false, not_or]
          exact And.intro (sz ▸ Nat.ne_of_lt (Nat.lt_succ_self _)) (Nat.ne_of_gt lt)
        refine set_update_ints ((Walks.list free3 _ l nI items).toS) s.heap.objs.size nS ns sized room vals (items.size - 0) 0 _ (by omega) (Nat.zero_le _) ⟨⟨_, Heap.get?_push_size _ rfl, rfl, rfl⟩, hl1.push _⟩ ?first ?last
        case first => exact ⟨0, Nat.le_refl 0, setR_new_at (Heap.get?_push_of_some _ atS)⟩
        case last =>
          rintro ⟨h', g', d', tk', os'⟩ c' mv le hS
          obtain rfl : g' = s.gens := mv.gens
          obtain rfl : d' = s.drawn := mv.drawn
          obtain rfl : os' = s.os := mv.os
          show wpAny _ _ _ _ _ _
          refine wpAny_pure ?_
          show wpAny _ _ (ret Value.none) _ _ _
          rw [sized] at le
          refine wpAny_pure ⟨rfl, h', tk', c', rfl, hS, le, fun b o e => ?_⟩
          have lb : b < s.heap.objs.size := Heap.lt_size e
          refine mv.heap b o ?_ (Heap.get?_push_of_some _ (Heap.get?_push_of_some _ e))
          simp only [List.mem_cons, List.not_mem_nil, or_false, not_or]
          exact And.intro (Nat.ne_of_lt lb) (sz ▸ Nat.ne_of_lt (Nat.lt_succ_of_lt lb))
      · cases r2 with
        | error e => exact hr2
        | ok fl2 =>
          cases fl2 with
          | ret r =>
            obtain ⟨rfl, hB⟩ := hr2
            repeat (any_goals (first | assumption | wp_step))
            exact h _ hB
          | _ => exact hr2.elim
    | _ => exact hr.elim
end
/-- set(xs) -/
def rSetL (K : Frg) (w : World) : List V → Hp → VK → Prop := fun vs H Q => ∃ (l : Addr) (ns : List Int), vs = [.ref l] ∧ SqL K H l (ns.map V.int) ∧ ns.length ≤ 1000 ∧ ∀ p c, H p = none → c ≤ ns.length → Q (.ref p) (upd H p (SetO w p (fun j => decide (j ∈ ns)) c))
theorem cr_setL {X : Cx} (hc : X.calm = true) : CallR X (.type "set") (rSetL X.K X.w) := by
  intro pins s σ H vs us Q I r h
  obtain ⟨l, ns, rfl, hl, hz, q⟩ := h
  obtain rfl := Vals.ref1 r
  obtain ⟨its, rv, pl, _⟩ := I.list hl
  refine call_set_lst (I.ok.hd hc) pl.isList (by simpa using ints_of_vals rv) (by unfold scanBound; omega) fun s' hB => ?_
  obtain ⟨h', tk, c, rfl, hS, hle, kp⟩ := hB
  exact ⟨.ref _, upd H s.heap.objs.size (SetO X.w s.heap.objs.size (fun j => decide (j ∈ ns)) c), I.laid (t' := tk) kp (Nat.le_refl _) (setO_new hS), rfl, q _ c (I.hok.fresh (Nat.le_refl _)) hle⟩
theorem ksetL {X : Cx} (K : Frg) (w : World) (hc : X.calm = true := by rfl) (h : X.K = K := by rfl) (h2 : X.w = w := by rfl) : CallR X (.type "set") (rSetL K w) := h ▸ h2 ▸ cr_setL hc
theorem ksortedSet {X : Cx} (w : World) (hc : X.calm = true := by rfl) (h2 : X.w = w := by rfl) : CallR X (.builtin "sorted") (rSortedSet w) := h2 ▸ cr_sortedSet hc
section
variable {K : Frg} {G0 : Hp} {ρ : Rho} {μ : Mu} {Q : PV → Mu → Prop} {w : World}
theorem wc_setL {ns : List Int} (hl : ns.length ≤ 1000) (q : ∀ p c, μ p = none → c ≤ ns.length → Q (.o p) (mset μ p (.any (SetO w p (fun j => decide (j ∈ ns)) c)))) : Wc K G0 (rSetL K w) [.l (ns.map .int)] μ Q := fun vs G H e rl S R k => by
  obtain ⟨v, rfl, rv⟩ := rl1 rl
  obtain ⟨a, xs, rfl, h1, h2⟩ := rp_lst rv
  cases dq_ints h2
  refine ⟨a, ns, rfl, .inl (.inl (S.sub _ _ h1)), hl, fun p c hp hc => ?_⟩
  exact k _ G _ (.o p) _ (Same.refl _) rfl (S.new (m := .any _) hp rfl) (q p c (S.mfree hp) hc)
theorem wc_sortedSet {p : Addr} {S : Int → Bool} {n : Nat} (hm : μ p = some (.any (SetO w p S n))) (hn : n < 64) (q : ∀ ys : List Int, ys.Pairwise (· < ·) → (∀ k : Int, k ∈ ys ↔ S k = true) → ys.length = n → Q (.l (ys.map .int)) μ) : Wc K G0 (rSortedSet w) [.o p] μ Q := fun vs G H e rl Sp R k => by
  obtain ⟨v, rfl, rv⟩ := rl1 rl
  cases (show v = .ref p from rv)
  obtain ⟨hg, o, ho, hr⟩ := Sp.mu p _ hm
  cases (show o = _ from hr)
  refine ⟨p, S, n, rfl, ho, hn, fun ys a h1 h2 h3 ha => ?_⟩
  have hga := Sp.gfree ha
  exact k _ (upd G a (.lst (ys.map V.int))) _ _ μ (same_new hga) (mk_lst upd_same (ints_dq _)) (Sp.fix ha) (q ys h1 h2 h3)
end
end Dw

/-! # tables of code objects among what changes; sorted rows -/
namespace Dw
open PySem PySem.Spec L2 LamX PyProof.Rows
/-! ### the tables -/
structure TabM (T : List (Addr × Str)) (μ : Mu) : Prop where
  tab : ∀ p ∈ T, ∃ ps : Array Value, μ p.1 = some (.any (.tbl ps)) ∧ TriplesOk ps.toList ∧ ∀ (pos : Pos) (cv : Value), codeAmong pos ps.toList = some cv → ∃ c, cv = .ref c ∧ μ c = some (.any (CodeO c p.2))
  only : ∀ a ps, μ a = some (.any (.tbl ps)) → a ∈ T.map (·.1)
def OffT (T : List (Addr × Str)) (μ μ' : Mu) : Prop := ∀ b o, b ∉ T.map (·.1) → μ b = some o → μ' b = some o
theorem OffT.refl {T : List (Addr × Str)} {μ : Mu} : OffT T μ μ := fun _ _ _ h => h
theorem OffT.trans {T : List (Addr × Str)} {μ μ1 μ2 : Mu} (h : OffT T μ μ1) (h' : OffT T μ1 μ2) : OffT T μ μ2 := fun b o hb e => h' b o hb (h b o hb e)
section
variable {K : Frg} {G H H2 : Hp} {μ μ' : Mu} {T : List (Addr × Str)}
theorem tabs_of (S : Sep K G μ H) (h : TabM T μ) : Tabs T H := fun p hp => by
  obtain ⟨ps, h1, h2, h3⟩ := h.tab p hp
  obtain ⟨_, o, ho, hr⟩ := S.mu _ _ h1
  cases (show o = _ from hr)
  refine ⟨ps, ho, h2, fun pos cv hc => ?_⟩
  obtain ⟨c, e, hm⟩ := h3 pos cv hc
  obtain ⟨_, o, ho, hr⟩ := S.mu _ _ hm
  cases (show o = _ from hr)
  exact ⟨c, e, ho⟩
/-- what is known of the tables and of all else, anew -/
noncomputable def grow (T : List (Addr × Str)) (G : Hp) (μ : Mu) (H2 : Hp) : Mu := fun b =>
  open Classical in
  if b ∈ T.map (·.1) then (H2 b).map .any else
    match μ b with
    | some m => some m
    | none => match G b, H2 b with
      | none, some (.ext q) => some (.any (.ext q))
      | _, _ => none
theorem sep_grow (S : Sep K G μ H) (h : TabM T μ) (eN : ExtN H H2) (t : Tabs T H2) : ∃ μ', Sep K G μ' H2 ∧ TabM T μ' ∧ OffT T μ μ' := by
  have tabH := tabs_of S h
  have inT : ∀ {b : Addr}, b ∈ T.map (·.1) → ∃ ps, H2 b = some (.tbl ps) := fun {b} hb => by
    obtain ⟨p, hp, rfl⟩ := List.mem_map.mp hb
    obtain ⟨ps, e, _⟩ := t p hp
    exact ⟨ps, e⟩
  have gT : ∀ {b : Addr}, b ∈ T.map (·.1) → G b = none := fun {b} hb => by
    obtain ⟨p, hp, rfl⟩ := List.mem_map.mp hb
    obtain ⟨ps, e, _⟩ := h.tab p hp
    exact (S.mu _ _ e).1
  have out : ∀ {b : Addr}, b ∉ T.map (·.1) → grow T G μ H2 b = match μ b with
      | some m => some m
      | none => match G b, H2 b with
        | none, some (.ext q) => some (.any (.ext q))
        | _, _ => none := fun {b} hb => by unfold grow; rw [if_neg hb]
  have inn : ∀ {b : Addr}, b ∈ T.map (·.1) → grow T G μ H2 b = (H2 b).map .any := fun {b} hb => by unfold grow; rw [if_pos hb]
  have keep : ∀ {b : Addr} {m : MO}, b ∉ T.map (·.1) → μ b = some m → G b = none ∧ ∃ o, H b = some o ∧ H2 b = some o ∧ RelM K G o m := fun {b m} hb hm => by
    obtain ⟨g, o, ho, hr⟩ := S.mu b m hm
    refine ⟨g, o, ho, eN b o ho fun ps z => ?_, hr⟩
    subst z
    cases m with
    | lst xs => obtain ⟨vs, z, _⟩ := hr; cases z
    | dk xs => obtain ⟨vs, z, _⟩ := hr; cases z
    | ins C dx xs => obtain ⟨vs, z, _⟩ := hr; cases z
    | any u => cases (show HO.tbl ps = u from hr); exact hb (h.only b ps hm)
  refine ⟨grow T G μ H2, ⟨fun b o e => ?_, S.nt, fun a m e => ?_⟩, ⟨fun p hp => ?_, fun a ps e => ?_⟩, fun b o hb e => ?_⟩
  · refine eN b o (S.sub b o e) fun ps z => ?_
    have := S.nt b o e
    rw [z] at this; exact this
  · by_cases ha : a ∈ T.map (·.1)
    · rw [inn ha] at e
      obtain ⟨ps, e2⟩ := inT ha
      rw [e2] at e
      cases e
      exact ⟨gT ha, _, e2, rfl⟩
    · rw [out ha] at e
      cases hm : μ a with
      | some m' =>
        rw [hm] at e
        cases e
        obtain ⟨g, o, _, h2, hr⟩ := keep ha hm
        exact ⟨g, o, h2, hr⟩
      | none =>
        rw [hm] at e
        simp only at e
        split at e
        · rename_i q hg hh
          cases e
          exact ⟨hg, _, hh, rfl⟩
        · cases e
  · obtain ⟨ps, h1, h2, h3⟩ := t p hp
    have hpm : p.1 ∈ T.map (·.1) := List.mem_map.mpr ⟨p, hp, rfl⟩
    refine ⟨ps, by rw [inn hpm, h1]; rfl, h2, fun pos cv hc => ?_⟩
    obtain ⟨c, e, hco⟩ := h3 pos cv hc
    refine ⟨c, e, ?_⟩
    have hcn : c ∉ T.map (·.1) := fun hc => by
      obtain ⟨ps', e'⟩ := inT hc
      rw [hco] at e'
      unfold CodeO at e'
      cases e'
    rw [out hcn]
    cases hm : μ c with
    | some m =>
      obtain ⟨g, o, _, h2, hr⟩ := keep hcn hm
      rw [hco] at h2
      cases h2
      cases m with
      | lst xs => obtain ⟨vs, z, _⟩ := hr; unfold CodeO at z; cases z
      | dk xs => obtain ⟨vs, z, _⟩ := hr; unfold CodeO at z; cases z
      | ins C dx xs => obtain ⟨vs, z, _⟩ := hr; unfold CodeO at z; cases z
      | any u => exact congrArg (fun x => some (MO.any x)) (show CodeO c p.2 = u from hr).symm
    | none =>
      have hg : G c = none := by
        cases hgc : G c with
        | none => rfl
        | some o =>
          have h4 := S.nt c o hgc
          have h5 := eN c o (S.sub c o hgc) fun ps z => by rw [z] at h4; exact h4
          rw [hco] at h5
          cases h5
          exact h4.elim
      rw [hg, hco]
      rfl
  · by_cases ha : a ∈ T.map (·.1)
    · exact ha
    · rw [out ha] at e
      cases hm : μ a with
      | some m => rw [hm] at e; cases e; exact h.only a ps hm
      | none =>
        rw [hm] at e
        simp only at e
        split at e <;> cases e
  · rw [out hb, e]
/-- tables stay where they are not touched -/
theorem TabM.set (h : TabM T μ) {a : Addr} {m0 m : MO} (ha : μ a = some m0) (h0 : ∀ u, m0 ≠ .any u) (hm : ∀ u, m ≠ .any u) : TabM T (mset μ a m) := by
  have ne : ∀ {b : Addr} {u : HO}, μ b = some (.any u) → b ≠ a := fun {b u} e z => by rw [z, ha] at e; exact h0 u (Option.some.inj e)
  refine ⟨fun p hp => ?_, fun b ps e => ?_⟩
  · obtain ⟨ps, h1, h2, h3⟩ := h.tab p hp
    refine ⟨ps, by rw [mset_ne (ne h1)]; exact h1, h2, fun pos cv hc => ?_⟩
    obtain ⟨c, e, hco⟩ := h3 pos cv hc
    exact ⟨c, e, by rw [mset_ne (ne hco)]; exact hco⟩
  · by_cases hb : b = a
    · subst hb; rw [mset_same] at e; exact absurd (Option.some.inj e) (hm _)
    · rw [mset_ne hb] at e; exact h.only b ps e
theorem TabM.new (h : TabM T μ) {a : Addr} {m : MO} (ha : μ a = none) (hm : ∀ ps, m ≠ .any (.tbl ps)) : TabM T (mset μ a m) := by
  have ne : ∀ {b : Addr} {u : MO}, μ b = some u → b ≠ a := fun {b u} e z => by rw [z, ha] at e; cases e
  refine ⟨fun p hp => ?_, fun b ps e => ?_⟩
  · obtain ⟨ps, h1, h2, h3⟩ := h.tab p hp
    refine ⟨ps, by rw [mset_ne (ne h1)]; exact h1, h2, fun pos cv hc => ?_⟩
    obtain ⟨c, e, hco⟩ := h3 pos cv hc
    exact ⟨c, e, by rw [mset_ne (ne hco)]; exact hco⟩
  · by_cases hb : b = a
    · subst hb; rw [mset_same] at e; exact absurd (Option.some.inj e) (hm _)
    · rw [mset_ne hb] at e; exact h.only b ps e
theorem TabM.any (h : TabM T μ) {a : Addr} {u : HO} (e : μ a = some (.any u)) : True := trivial
theorem TabM.notT (h : TabM T μ) {a : Addr} {m : MO} (ha : μ a = some m) (hm : ∀ u, m ≠ .any u) : a ∉ T.map (·.1) := fun hc => by
  obtain ⟨p, hp, rfl⟩ := List.mem_map.mp hc
  obtain ⟨ps, e, _⟩ := h.tab p hp
  rw [ha] at e; exact hm _ (Option.some.inj e)
theorem TabM.free (h : TabM T μ) {a : Addr} (ha : μ a = none) : a ∉ T.map (·.1) := fun hc => by
  obtain ⟨p, hp, rfl⟩ := List.mem_map.mp hc
  obtain ⟨ps, e, _⟩ := h.tab p hp
  rw [ha] at e; cases e
end
/-! ### sorted by the lambda -/
section
variable {K : Frg} {G0 : Hp} {ρ : Rho} {μ : Mu} {Q : PV → Mu → Prop} {T : List (Addr × Str)} {ta : TA}
theorem paired_dq {G : Hp} {β : Type} {enc : β → PyData} : ∀ {vs : List V} {bs : List β}, DqAll K G vs (bs.map enc) → Paired (fun v b => Dq K G v (enc b)) vs bs
  | _, [], .nil => .nil
  | _, _ :: _, .cons h t => .cons h (paired_dq t)
theorem dq_paired {G : Hp} {β : Type} {enc : β → PyData} : ∀ {vs : List V} {bs : List β}, Paired (fun v b => Dq K G v (enc b)) vs bs → DqAll K G vs (bs.map enc)
  | _, _, .nil => .nil
  | _, _, .cons h t => .cons h (dq_paired t)
theorem we_sortLam (h : Wa K G0 ta ρ μ fun xs μ1 => ∃ nms : List (List Int), xs = [.l (nms.map encNm)] ∧ TabM T μ1 ∧ ∀ μ2, TabM T μ2 → OffT T μ1 μ2 → Q (.l ((nms.mergeSort (PySem.W.dataLe false keyN)).map encNm)) μ2) : We K G0 (tSortLam K T ta) ρ μ Q := fun σ G H e rs S R k =>
  h σ G H e rs S _ fun vs G1 H1 xs μ1 e1 rl S1 ⟨nms, hx, hT, q⟩ => by
    subst hx
    obtain ⟨v, rfl, rv⟩ := rl1 rl
    obtain ⟨l, ws, rfl, h1, h2⟩ := rp_lst rv
    refine ⟨l, ws, nms, fun v b => Dq K G1 v (encNm b), rfl, .inl (.inl (S1.sub _ _ h1)), paired_dq h2, fun v b hv _ => ?_, tabs_of S1 hT, fun H2 vs' p eN t2 hp hn => ?_⟩
    · obtain ⟨a, ys, rfl, h3, h4⟩ := rp_tup (show RelP K G1 v (.d (.tuple (b.map .int))) from hv)
      cases dq_ints h4
      exact ⟨a, rfl, .inl (.inl (S1.sub _ _ h3))⟩
    · obtain ⟨μ2, S2, hT2, hO2⟩ := sep_grow S1 hT eN t2
      have hg := S2.gfree hn
      exact k _ (upd G1 p (.lst vs')) _ _ μ2 (e1.trans (same_new hg)) (mk_lst upd_same (dqa_ext (same_new hg) (dq_paired hp))) (S2.fix hn) (q μ2 hT2 hO2)
end
/-! ### sorted of rows -/
def rSortBy {β : Type} (K : Frg) (enc : β → PyData) : List V → Hp → VK → Prop := fun vs H Q => ∃ (l : Addr) (ws : List V) (bs : List β) (Rv : V → β → Prop), vs = [.ref l] ∧ SqL K H l ws ∧ Paired Rv ws bs ∧ (∀ v b, Rv v b → Dp K H v (enc b)) ∧
  PySem.W.AllAlike (bs.map enc) ∧ PySem.W.Sortable (bs.map enc) ∧ (∀ b, b ∈ bs → (enc b).depth ≤ 50) ∧ ∀ ws' p, Paired Rv ws' (bs.mergeSort (PySem.W.dataLe false enc)) → H p = none → Q (.ref p) (upd H p (.lst ws'))
theorem each_paired {β : Type} {Rv : V → β → Prop} {R : Value → β → Prop} (hR : ∀ v u b, RelV v u → Rv v b → R u b) : ∀ {vs : List V} {us : List Value} {bs : List β}, Vals vs us → Paired Rv vs bs → PySem.W.EachIs R us bs
  | _, _, _, .nil, .nil => .nil
  | _, _, _, .cons r t, .cons h t' => .cons (hR _ _ _ r h) (each_paired hR t t')
theorem paired_each {β : Type} {Rv : V → β → Prop} : ∀ {us : List Value} {bs : List β}, PySem.W.EachIs (fun u b => ∃ v, RelV v u ∧ Rv v b) us bs → ∃ vs, Vals vs us ∧ Paired Rv vs bs
  | _, _, .nil => ⟨[], .nil, .nil⟩
  | _, _, .cons ⟨v, r, h⟩ t => by
    obtain ⟨vs, r1, h1⟩ := paired_each t
    exact ⟨v :: vs, .cons r r1, .cons h h1⟩
theorem cr_sortBy {β : Type} {enc : β → PyData} {X : Cx} {k : Nat} (K : Frg) (hr : Room k X.A) (hK : X.K = K := by rfl) : CallR X (.builtin "sorted") (rSortBy K enc) := by
  subst hK
  intro pins s σ H vs us Q I r h
  obtain ⟨l, ws, bs, Rv, rfl, hl, hp, hd, hal, hso, hdp, q⟩ := h
  obtain rfl := Vals.ref1 r
  obtain ⟨its, rv, pl, hz⟩ := I.list hl
  have hlen : bs.length = ws.length := hp.length.symm
  refine PySem.W.sorted_data (R := fun u b => ∃ v, RelV v u ∧ Rv v b) (enc := enc) pl.isList (each_paired (fun v u b r h => ⟨v, r, h⟩) rv hp) (each_paired (fun v u b r h => Dp.reads I (enc b) v u (hd v b h) r) rv hp) hal hso (by rw [hlen]; exact hz) (fun b hb => ?_) (fun out ho hE => ?_)
  · have h1 := hr.un
    have h2 := hdp b hb
    omega
  · obtain ⟨ws', r', hp'⟩ := paired_each hE
    obtain ⟨ep, he'⟩ := PyProof.Rows.sortedAll_at s.heap its out.toArray
    have hlv : ws'.length ≤ sizeLine := by rw [r'.length, ho, hlen]; exact hz
    exact ⟨.ref _, upd H (s.heap.objs.size + 1) (.lst ws'), I.laid (t' := s.toks) (fun _ _ => PyProof.Rows.sortedAll_old) (Nat.le_succ _) ⟨hlv, out, ep, r', he'⟩, rfl, q _ _ hp' (I.hok.fresh (Nat.le_succ _))⟩
section
variable {K : Frg} {G0 : Hp} {ρ : Rho} {μ : Mu} {Q : PV → Mu → Prop}
theorem wc_sortBy {β : Type} {enc : β → PyData} {bs : List β} (hal : ∀ a b, PySem.W.alike (enc a) (enc b) = true) (hso : ∀ b, ∃ x r, enc b = .tuple (x :: r)) (hd : ∀ b, (enc b).depth ≤ 50) (q : Q (.l ((bs.mergeSort (PySem.W.dataLe false enc)).map enc)) μ) : Wc K G0 (rSortBy K enc) [.l (bs.map enc)] μ Q := fun vs G H e rl S R k => by
  obtain ⟨v, rfl, rv⟩ := rl1 rl
  obtain ⟨l, ws, rfl, h1, h2⟩ := rp_lst rv
  refine ⟨l, ws, bs, fun v b => Dq K G v (enc b), rfl, .inl (.inl (S.sub _ _ h1)), paired_dq h2, fun v b h => dq_dp (dq_ext S.sub h), PySem.W.AllAlike.of hal, PySem.W.Sortable.tuples hso, fun b _ => hd b, fun ws' p hp hn => ?_⟩
  have hg := S.gfree hn
  exact k _ (upd G p (.lst ws')) _ _ μ (same_new hg) (mk_lst upd_same (dqa_ext (same_new hg) (dq_paired hp))) (S.fix hn) q
end
end Dw

/-! # rows of shapes, in order -/
namespace Sc
open PySem L2 PyProof.Rows Dw
/-! ### all tuples of some names -/
def powL (l : List Int) : List (List Int) := l.foldl (fun acc n => acc ++ acc.map (· ++ [n])) [[]]
theorem powL_snoc (l : List Int) (n : Int) : powL (l ++ [n]) = powL l ++ (powL l).map (· ++ [n]) := by
  unfold powL; rw [List.foldl_append]; rfl
theorem sublist_snoc {x l : List Int} {n : Int} : x.Sublist (l ++ [n]) ↔ x.Sublist l ∨ ∃ y, y.Sublist l ∧ x = y ++ [n] := by
  rw [List.sublist_append_iff]
  constructor
  · rintro ⟨a, b, rfl, h1, h2⟩
    cases h2 with
    | cons _ h3 =>
      rw [List.sublist_nil] at h3
      subst h3
      exact .inl (by rw [List.append_nil]; exact h1)
    | cons_cons _ h3 =>
      rw [List.sublist_nil] at h3
      subst h3
      exact .inr ⟨a, h1, rfl⟩
  · rintro (h | ⟨y, h, rfl⟩)
    · exact ⟨x, [], by simp, h, List.nil_sublist _⟩
    · exact ⟨y, [n], rfl, h, List.Sublist.refl _⟩
theorem mem_powL_rev : ∀ (l : List Int) (x : List Int), x ∈ powL l.reverse ↔ x.Sublist l.reverse
  | [], x => by
    show x ∈ [[]] ↔ _
    rw [List.mem_singleton, List.reverse_nil, List.sublist_nil]
  | n :: l, x => by
    rw [List.reverse_cons, powL_snoc, sublist_snoc, List.mem_append, mem_powL_rev l x, List.mem_map]
    refine or_congr Iff.rfl ⟨?_, ?_⟩
    · rintro ⟨y, hy, rfl⟩; exact ⟨y, (mem_powL_rev l y).mp hy, rfl⟩
    · rintro ⟨y, hy, rfl⟩; exact ⟨y, (mem_powL_rev l y).mpr hy, rfl⟩
theorem mem_powL {l x : List Int} : x ∈ powL l ↔ x.Sublist l := by
  have := mem_powL_rev l.reverse x
  rwa [List.reverse_reverse] at this
theorem powL_len_rev : ∀ l : List Int, (powL l.reverse).length = 2 ^ l.length
  | [] => rfl
  | n :: l => by rw [List.reverse_cons, powL_snoc, List.length_append, List.length_map, powL_len_rev l, List.length_cons, Nat.pow_succ]; omega
theorem powL_len (l : List Int) : (powL l).length = 2 ^ l.length := by
  have := powL_len_rev l.reverse
  rwa [List.reverse_reverse, List.length_reverse] at this
/-- rising lists: a part of a rising list is one whose members are in it -/
theorem sublist_of_rising : ∀ {x l : List Int}, Rising x → Rising l → (∀ n ∈ x, n ∈ l) → x.Sublist l
  | [], l, _, _, _ => List.nil_sublist _
  | a :: x, [], _, _, h => absurd (h a List.mem_cons_self) (by simp)
  | a :: x, b :: l, hx, hl, h => by
    rw [Rising, List.pairwise_cons] at hx hl
    by_cases e : a = b
    · subst e
      refine List.Sublist.cons_cons _ (sublist_of_rising hx.2 hl.2 fun n hn => ?_)
      rcases List.mem_cons.mp (h n (List.mem_cons_of_mem _ hn)) with rfl | h'
      · exact absurd (hx.1 n hn) (by omega)
      · exact h'
    · have hal : a ∈ l := by
        rcases List.mem_cons.mp (h a List.mem_cons_self) with z | z
        · exact absurd z e
        · exact z
      refine List.Sublist.cons _ (sublist_of_rising (List.pairwise_cons.mpr hx) hl.2 fun n hn => ?_)
      rcases List.mem_cons.mp hn with rfl | hn
      · exact hal
      · have h1 := hx.1 n hn
        have h2 := hl.1 a hal
        rcases List.mem_cons.mp (h n (List.mem_cons_of_mem _ hn)) with rfl | h'
        · omega
        · exact h'
/-! ### keys -/
def nmLe (a b : List Int) : Prop := a.length < b.length ∨ (a.length = b.length ∧ a ≤ b)
theorem lt_nm (a b : List Int) : PySem.W.dataLt (encNm a) (encNm b) = decide (a < b) := by
  unfold encNm
  rw [PySem.W.dataLt_tuple]
  exact PySem.W.dataLt_ints a b
theorem alike_nm (a b : List Int) : PySem.W.alike (encNm a) (encNm b) = true := by
  unfold encNm
  simp [PySem.W.alike, PySem.W.alike_ints]
theorem eqv_nm : ∀ (a b : List Int), PyData.eqv (encNm a) (encNm b) = decide (a = b) := by
  have key : ∀ a b : List Int, PyData.eqvAll (a.map .int) (b.map .int) = decide (a = b) := by
    intro a
    induction a with
    | nil => intro b; cases b <;> simp [PyData.eqvAll]
    | cons x a ih =>
      intro b
      cases b with
      | nil => simp [PyData.eqvAll]
      | cons y b => simp [PyData.eqvAll, ih, eqv_int]
  intro a b
  exact key a b
theorem le_keyN (a b : List Int) : PySem.W.dataLe false keyN a b = true ↔ nmLe a b := by
  rw [PySem.W.dataLe_eq]
  show (!PySem.W.dataLt (keyN b) (keyN a)) = true ↔ _
  unfold keyN
  rw [PySem.W.dataLt_pair (by simp [PySem.W.alike]) (alike_nm b a), eqv_int, eqv_nm, lt_nm, PySem.W.dataLt_int]
  unfold nmLe
  by_cases h1 : (b.length : Int) = (a.length : Int)
  · simp only [h1, decide_true, if_true]
    by_cases h2 : b = a
    · subst h2
      simp only [decide_true, if_true, Bool.not_false]
      exact ⟨fun _ => .inr ⟨trivial, List.not_lt.mp (List.lt_irrefl _)⟩, fun _ => trivial⟩
    · simp only [h2, decide_false, Bool.false_eq_true, if_false, Bool.not_eq_true', decide_eq_false_iff_not]
      constructor
      · intro h; exact .inr ⟨by omega, List.not_lt.mp h⟩
      · rintro (h | ⟨_, h⟩)
        · omega
        · exact List.not_lt.mpr h
  · simp only [decide_eq_false h1, Bool.false_eq_true, if_false, Bool.not_eq_true', decide_eq_false_iff_not]
    constructor
    · intro h; exact .inl (by omega)
    · rintro (h | ⟨h, _⟩)
      · omega
      · omega
theorem nmLe.trans {a b c : List Int} (h1 : nmLe a b) (h2 : nmLe b c) : nmLe a c := by
  unfold nmLe at *
  rcases h1 with h1 | ⟨h1, h1'⟩ <;> rcases h2 with h2 | ⟨h2, h2'⟩
  · exact .inl (by omega)
  · exact .inl (by omega)
  · exact .inl (by omega)
  · exact .inr ⟨by omega, List.le_trans h1' h2'⟩
theorem nmLe.total (a b : List Int) : nmLe a b ∨ nmLe b a := by
  unfold nmLe
  rcases Nat.lt_trichotomy a.length b.length with h | h | h
  · exact .inl (.inl h)
  · rcases List.le_total a b with z | z
    · exact .inl (.inr ⟨h, z⟩)
    · exact .inr (.inr ⟨h.symm, z⟩)
  · exact .inr (.inl h)
/-- the names in order -/
def sortNm (l : List (List Int)) : List (List Int) := l.mergeSort (PySem.W.dataLe false keyN)
theorem sortNm_perm (l : List (List Int)) : (sortNm l).Perm l := List.mergeSort_perm _ _
theorem sortNm_sorted (l : List (List Int)) : (sortNm l).Pairwise nmLe := by
  have := List.pairwise_mergeSort (le := PySem.W.dataLe false keyN) (fun a b c h1 h2 => (le_keyN a c).mpr (((le_keyN a b).mp h1).trans ((le_keyN b c).mp h2))) (fun a b => by
    rw [Bool.or_eq_true, le_keyN, le_keyN]; exact nmLe.total a b) l
  exact this.imp fun h => (le_keyN _ _).mp h
/-! ### the program's way -/
def stepB (old new : Face) (size : Nat) (nm : List Int) : Option (Nat × List Int) :=
  if nm.length ≤ size ∧ isGood old new (shapeN (size - nm.length) nm) = false then some (size - nm.length, nm) else none
def brokenOf (old new : Face) (S : List (List Int)) : Option (Nat × List Int) := (List.range 11).findSome? fun size => S.findSome? (stepB old new size)
theorem least_head {old new : Face} {L : List (Nat × List Int)} (hs : L.Pairwise shLe) (hp : ∀ x ∈ L, BadSh old new x) (hc : ∀ x, BadSh old new x → (∀ n ∈ x.2, cand old new n) → x ∈ L) : IsLeast old new L.head? := by
  have := least_find (p := fun _ => true) hs (fun x hx => ⟨fun _ => hp x hx, fun _ => rfl⟩) hc
  have e : L.find? (fun _ => true) = L.head? := by cases L <;> rfl
  rwa [e] at this
theorem rising_ten_len {l : List Int} (h : Rising l) (h2 : InTen l) : l.length ≤ 10 := by
  have := (sublist_of_rising h ten_sorted fun n hn => mem_ten.mpr (h2 n hn)).length_le
  simpa [ten] using this
theorem broken_least {old new : Face} (ho : old.Ok) (hn : new.Ok) {S : List (List Int)} (hs : S.Pairwise nmLe) (hm : ∀ nm, nm ∈ S ↔ Rising nm ∧ InTen nm ∧ ∀ n ∈ nm, cand old new n) : IsLeast old new (brokenOf old new S) := by
  have e : brokenOf old new S = ((List.range 11).flatMap fun size => S.filterMap (stepB old new size)).head? := by
    unfold brokenOf
    rw [List.head?_flatMap]
    congr 1
    funext size
    rw [List.head?_filterMap]
  have hmem : ∀ {size : Nat} {x : Nat × List Int}, x ∈ S.filterMap (stepB old new size) → x.2 ∈ S ∧ x.1 + x.2.length = size ∧ isGood old new (shapeN x.1 x.2) = false := by
    intro size x hx
    obtain ⟨nm, h1, h2⟩ := List.mem_filterMap.mp hx
    unfold stepB at h2
    split at h2
    · rename_i h3
      cases h2
      exact ⟨h1, by show size - nm.length + nm.length = size; omega, h3.2⟩
    · cases h2
  rw [e]
  refine least_head ?_ ?_ ?_
  · rw [List.pairwise_flatMap]
    refine ⟨fun size _ => ?_, ?_⟩
    · rw [List.pairwise_filterMap]
      refine hs.imp fun {a b} hab x hx y hy => ?_
      unfold stepB at hx hy
      split at hx
      · split at hy
        · cases hx; cases hy
          unfold shLe
          rcases hab with h | ⟨h, h'⟩
          · exact .inr ⟨by show size - a.length + a.length = size - b.length + b.length; omega, .inl h⟩
          · exact .inr ⟨by show size - a.length + a.length = size - b.length + b.length; omega, .inr ⟨h, h'⟩⟩
        · cases hy
      · cases hx
    · refine List.pairwise_lt_range.imp fun {i j} hij x hx y hy => ?_
      have h1 := (hmem hx).2.1
      have h2 := (hmem hy).2.1
      exact .inl (by omega)
  · intro x hx
    obtain ⟨size, hsz, hx⟩ := List.mem_flatMap.mp hx
    have hsz := List.mem_range.mp hsz
    obtain ⟨h1, h2, h3⟩ := hmem hx
    obtain ⟨h4, h5, h6⟩ := (hm _).mp h1
    refine ⟨h4, h5, by omega, ?_⟩
    have := (good_false ho hn).mp h3
    rwa [cnt_shape, nms_shape] at this
  · intro x hx hcand
    refine List.mem_flatMap.mpr ⟨x.1 + x.2.length, List.mem_range.mpr (by have := hx.len; omega), List.mem_filterMap.mpr ⟨x.2, (hm _).mpr ⟨hx.ris, hx.ten, hcand⟩, ?_⟩⟩
    have hg : isGood old new (shapeN x.1 x.2) = false := by
      rw [good_false ho hn, cnt_shape, nms_shape]; exact hx.bad
    unfold stepB
    rw [show x.1 + x.2.length - x.2.length = x.1 by omega, if_pos ⟨by omega, hg⟩]
end Sc

/-! # rows of shapes, as the laws lay them -/
namespace Sc
open PySem L2 PyProof.Rows Dw
def lawName (old new : Face) (n : Int) : Bool := !decide (n ∈ (freshL old new).drop 2) && (old.more || decide (n ∈ old.slots.map (·.name)))
def lawNames (old new : Face) : List Int := ten.filter (lawName old new)
def manyOk (old : Face) (m : Nat) : Bool := old.rest || decide (m ≤ old.slots.length)
def rowsNm (old : Face) (nm : List Int) : List (Nat × List Int) := ((List.range (11 - nm.length)).filter (manyOk old)).map fun m => (m, nm)
def rowsOf (old new : Face) : List (Nat × List Int) := (powL (lawNames old new)).flatMap (rowsNm old)
def encRow (x : Nat × List Int) : PyData := .tuple [.int ((x.1 : Int) + (x.2.length : Int)), .int (0 - (x.1 : Int)), encNm x.2]
theorem lt_row (a b : Nat × List Int) : PySem.W.dataLt (encRow a) (encRow b) = true ↔ (a.1 + a.2.length < b.1 + b.2.length ∨ (a.1 + a.2.length = b.1 + b.2.length ∧ (b.1 < a.1 ∨ (b.1 = a.1 ∧ a.2 < b.2)))) := by
  unfold encRow
  rw [PySem.W.dataLt_tuple, PySem.W.dataLt_cons (by simp [PySem.W.alike]), PySem.W.dataLt_cons (by simp [PySem.W.alike]), PySem.W.dataLt_cons (alike_nm _ _), eqv_int, eqv_int, eqv_nm, lt_nm, PySem.W.dataLt_int, PySem.W.dataLt_int]
  have e0 : PySem.W.rowLt [] [] = false := by
    have := PySem.W.dataLt_ints [] []
    simpa using this
  unfold PySem.W.rowLt at e0
  rw [e0]
  by_cases h1 : ((a.1 : Int) + (a.2.length : Int)) = (b.1 : Int) + (b.2.length : Int)
  · rw [if_pos (decide_eq_true h1)]
    by_cases h2 : (0 - (a.1 : Int)) = 0 - (b.1 : Int)
    · rw [if_pos (decide_eq_true h2)]
      by_cases h3 : a.2 = b.2
      · rw [if_pos (decide_eq_true h3)]
        constructor
        · intro h; cases h
        · rintro (h | ⟨_, h | ⟨_, h⟩⟩)
          · omega
          · omega
          · rw [h3] at h; exact absurd h (List.lt_irrefl _)
      · rw [if_neg (by simp [h3]), decide_eq_true_eq]
        constructor
        · intro h; exact .inr ⟨by omega, .inr ⟨by omega, h⟩⟩
        · rintro (h | ⟨_, h | ⟨_, h⟩⟩)
          · omega
          · omega
          · exact h
    · rw [if_neg (by rw [decide_eq_true_eq]; exact h2), decide_eq_true_eq]
      constructor
      · intro h; exact .inr ⟨by omega, .inl (by omega)⟩
      · rintro (h | ⟨_, h | ⟨h, _⟩⟩) <;> omega
  · rw [if_neg (by rw [decide_eq_true_eq]; exact h1), decide_eq_true_eq]
    constructor
    · intro h; exact .inl (by omega)
    · rintro (h | ⟨h, _⟩) <;> omega
theorem shLe.total (a b : Nat × List Int) : shLe a b ∨ shLe b a := by
  unfold shLe
  rcases Nat.lt_trichotomy (a.1 + a.2.length) (b.1 + b.2.length) with h | h | h
  · exact .inl (.inl h)
  · rcases Nat.lt_trichotomy a.2.length b.2.length with h2 | h2 | h2
    · exact .inl (.inr ⟨h, .inl h2⟩)
    · rcases List.le_total a.2 b.2 with z | z
      · exact .inl (.inr ⟨h, .inr ⟨h2, z⟩⟩)
      · exact .inr (.inr ⟨h.symm, .inr ⟨h2.symm, z⟩⟩)
    · exact .inr (.inr ⟨h.symm, .inl h2⟩)
  · exact .inr (.inl h)
theorem le_row (a b : Nat × List Int) : PySem.W.dataLe false encRow a b = true ↔ shLe a b := by
  rw [PySem.W.dataLe_eq]
  show (!PySem.W.dataLt (encRow b) (encRow a)) = true ↔ _
  rw [Bool.not_eq_true', ← Bool.not_eq_true, lt_row]
  constructor
  · intro h
    unfold shLe
    rcases Nat.lt_trichotomy (a.1 + a.2.length) (b.1 + b.2.length) with z | z | z
    · exact .inl z
    · rcases Nat.lt_trichotomy a.1 b.1 with y | y | y
      · exact absurd (.inr ⟨z.symm, .inl y⟩) h
      · refine .inr ⟨z, .inr ⟨by omega, List.not_lt.mp fun hl => h (.inr ⟨z.symm, .inr ⟨y, hl⟩⟩)⟩⟩
      · exact .inr ⟨z, .inl (by omega)⟩
    · exact absurd (.inl z) h
  · intro h hc
    unfold shLe at h
    rcases hc with hc | ⟨hc, hc' | ⟨hc', hc''⟩⟩
    · rcases h with h | ⟨h, _⟩ <;> omega
    · rcases h with h | ⟨h, h' | ⟨h', _⟩⟩ <;> omega
    · rcases h with h | ⟨h, h' | ⟨h', h''⟩⟩
      · omega
      · omega
      · exact (List.not_lt.mpr h'') hc''
def sortRow (l : List (Nat × List Int)) : List (Nat × List Int) := l.mergeSort (PySem.W.dataLe false encRow)
theorem sortRow_perm (l : List (Nat × List Int)) : (sortRow l).Perm l := List.mergeSort_perm _ _
theorem sortRow_sorted (l : List (Nat × List Int)) : (sortRow l).Pairwise shLe := by
  have := List.pairwise_mergeSort (le := PySem.W.dataLe false encRow) (fun a b c h1 h2 => (le_row a c).mpr (((le_row a b).mp h1).trans ((le_row b c).mp h2))) (fun a b => by
    rw [Bool.or_eq_true, le_row, le_row]; exact shLe.total a b) l
  exact this.imp fun h => (le_row _ _).mp h
def badB (old new : Face) (x : Nat × List Int) : Bool := !isGood old new (shapeN x.1 x.2)
def lawBroken (old new : Face) : Option (Nat × List Int) := (sortRow (rowsOf old new)).find? (badB old new)
theorem lawNames_rising (old new : Face) : Rising (lawNames old new) := ten_sorted.filter _
theorem mem_rowsOf {old new : Face} {x : Nat × List Int} : x ∈ rowsOf old new ↔ x.2.Sublist (lawNames old new) ∧ x.1 + x.2.length ≤ 10 ∧ manyOk old x.1 = true := by
  unfold rowsOf rowsNm
  rw [List.mem_flatMap]
  constructor
  · rintro ⟨nm, h1, h2⟩
    obtain ⟨m, h3, rfl⟩ := List.mem_map.mp h2
    obtain ⟨h4, h5⟩ := List.mem_filter.mp h3
    have h4 := List.mem_range.mp h4
    have h6 := mem_powL.mp h1
    have h7 := h6.length_le
    exact ⟨h6, by show m + nm.length ≤ 10; omega, h5⟩
  · rintro ⟨h1, h2, h3⟩
    exact ⟨x.2, mem_powL.mpr h1, List.mem_map.mpr ⟨x.1, List.mem_filter.mpr ⟨List.mem_range.mpr (by omega), h3⟩, rfl⟩⟩
theorem law_least {old new : Face} (ho : old.Ok) (hn : new.Ok) : IsLeast old new (lawBroken old new) := by
  refine least_find (sortRow_sorted _) (fun x hx => ?_) (fun x hx hcand => ?_)
  · obtain ⟨h1, h2, h3⟩ := mem_rowsOf.mp ((sortRow_perm _).mem_iff.mp hx)
    have hr : Rising x.2 := (lawNames_rising old new).sublist h1
    have h10 : InTen x.2 := fun n hn => mem_ten.mp (List.mem_filter.mp (h1.subset hn)).1
    unfold badB
    rw [Bool.not_eq_true', good_false ho hn, cnt_shape, nms_shape]
    exact ⟨fun h => ⟨hr, h10, h2, h⟩, fun h => h.bad⟩
  · refine (sortRow_perm _).mem_iff.mpr (mem_rowsOf.mpr ⟨sublist_of_rising hx.ris (lawNames_rising old new) fun n hn => ?_, hx.len, ?_⟩)
    · obtain ⟨h1, h2⟩ := hcand n hn
      refine List.mem_filter.mpr ⟨mem_ten.mpr (hx.ten n hn), ?_⟩
      unfold lawName
      rw [Bool.and_eq_true, Bool.or_eq_true]
      refine ⟨?_, ?_⟩
      · simp only [Bool.not_eq_true', decide_eq_false_iff_not]
        intro hd
        rcases h2 with h2 | h2
        · exact (mem_fresh.mp (List.mem_of_mem_drop hd)).2 h2
        · have hs := fresh_sorted old new
          cases hl : freshL old new with
          | nil => rw [hl] at h2; cases h2
          | cons a r =>
            rw [hl] at h2 hd hs
            cases h2
            have := (List.pairwise_cons.mp hs).1 n (by
              cases r with
              | nil => simp at hd
              | cons b r' => exact List.mem_cons_of_mem _ hd)
            omega
      · unfold takes at h1
        rw [Bool.or_eq_true] at h1
        rcases h1 with z | z
        · exact .inl z
        · refine .inr (decide_eq_true ?_)
          cases hs : slotNamed old n with
          | none => rw [hs] at z; cases z
          | some k =>
            obtain ⟨s, h3, h4, _⟩ := named_get hs
            exact List.mem_map.mpr ⟨s, List.mem_of_getElem? h3, h4⟩
    · unfold manyOk
      rw [Bool.or_eq_true]
      by_cases hr : old.rest = true
      · exact .inl hr
      · refine .inr (decide_eq_true ?_)
        cases hm : x.1 with
        | zero => omega
        | succ m =>
          rcases hx.bad.1.pl m (by omega) with z | z
          · have := place_lt z; omega
          · exact absurd z hr
end Sc

/-! # the names that the program looks at -/
namespace Sc
open PySem L2 PyProof.Rows Dw
theorem rising_ext {a b : List Int} (ha : Rising a) (hb : Rising b) (h : ∀ n, n ∈ a ↔ n ∈ b) : a = b :=
  (sublist_of_rising ha hb fun n hn => (h n).mp hn).eq_of_length_le (sublist_of_rising hb ha fun n hn => (h n).mpr hn).length_le
def freshH (old new : Face) : List Int := (freshL old new).take 1
theorem mem_freshH {old new : Face} {n : Int} : n ∈ freshH old new ↔ (freshL old new).head? = some n := by
  unfold freshH
  cases freshL old new with
  | nil => simp
  | cons a r => simp [eq_comm]
def setL (old new : Face) : List Int := ten.filter fun n => decide (n ∈ knownN old new ++ freshH old new)
theorem setL_rising (old new : Face) : Rising (setL old new) := ten_sorted.filter _
theorem known_ten {old new : Face} (ho : old.Ok) (hn : new.Ok) {n : Int} (h : n ∈ knownN old new) : 0 ≤ n ∧ n < 10 := by
  obtain ⟨s, hs, rfl⟩ := List.mem_map.mp h
  have key : ∀ f : Face, f.Ok → s ∈ f.slots → 0 ≤ s.name ∧ s.name < 10 := fun f hf hs => by
    obtain ⟨k, hk, e⟩ := List.getElem_of_mem hs
    have := hf.each k hk
    rw [e] at this
    exact ⟨this.n0, this.n1⟩
  rcases List.mem_append.mp hs with h | h
  · exact key old ho h
  · exact key new hn h
theorem mem_setL {old new : Face} (ho : old.Ok) (hn : new.Ok) {n : Int} : n ∈ setL old new ↔ n ∈ knownN old new ++ freshH old new := by
  unfold setL
  rw [List.mem_filter, mem_ten, decide_eq_true_eq]
  constructor
  · exact fun h => h.2
  · intro h
    refine ⟨?_, h⟩
    rcases List.mem_append.mp h with h | h
    · exact known_ten ho hn h
    · exact (mem_fresh.mp (List.mem_of_head? (mem_freshH.mp h))).1
theorem setL_eq {old new : Face} (ho : old.Ok) (hn : new.Ok) {ys : List Int} (hr : Rising ys) (hm : ∀ n, n ∈ ys ↔ n ∈ knownN old new ++ freshH old new) : ys = setL old new :=
  rising_ext hr (setL_rising old new) fun n => by rw [hm, mem_setL ho hn]
theorem setL_len (old new : Face) : (setL old new).length ≤ 10 := Nat.le_trans (List.length_filter_le _ _) (by simp [ten])
def candL (old new : Face) : List Int := (setL old new).filter (takes old)
theorem candL_len (old new : Face) : (candL old new).length ≤ 10 := Nat.le_trans (List.length_filter_le _ _) (setL_len old new)
def namesTaken (old new : Face) : List (List Int) := sortNm (powL (candL old new))
theorem mem_namesTaken {old new : Face} (ho : old.Ok) (hn : new.Ok) {nm : List Int} : nm ∈ namesTaken old new ↔ Rising nm ∧ InTen nm ∧ ∀ n ∈ nm, cand old new n := by
  unfold namesTaken
  rw [(sortNm_perm _).mem_iff, mem_powL]
  have hr : Rising (candL old new) := (setL_rising old new).filter _
  have hm : ∀ n, n ∈ candL old new ↔ (0 ≤ n ∧ n < 10) ∧ cand old new n := fun n => by
    unfold candL cand
    rw [List.mem_filter, mem_setL ho hn, List.mem_append, mem_freshH]
    constructor
    · rintro ⟨h1, h2⟩
      refine ⟨?_, h2, h1⟩
      rcases h1 with h | h
      · exact known_ten ho hn h
      · exact (mem_fresh.mp (List.mem_of_head? h)).1
    · rintro ⟨_, h1, h2⟩
      exact ⟨h2, h1⟩
  constructor
  · intro h
    exact ⟨hr.sublist h, fun n hn => ((hm n).mp (h.subset hn)).1, fun n hn => ((hm n).mp (h.subset hn)).2⟩
  · rintro ⟨h1, h2, h3⟩
    exact sublist_of_rising h1 hr fun n hn => (hm n).mpr ⟨h2 n hn, h3 n hn⟩
theorem namesTaken_len (old new : Face) : (namesTaken old new).length ≤ 1024 := by
  unfold namesTaken
  rw [(sortNm_perm _).length_eq, powL_len]
  exact Nat.le_trans (Nat.pow_le_pow_right (by decide) (candL_len old new)) (by decide)
theorem nm_len {old new : Face} {nm : List Int} (h : nm ∈ namesTaken old new) : nm.length ≤ 10 := by
  unfold namesTaken at h
  rw [(sortNm_perm _).mem_iff, mem_powL] at h
  exact Nat.le_trans h.length_le (candL_len old new)
def brokenP (old new : Face) : Option (Nat × List Int) := brokenOf old new (namesTaken old new)
theorem brokenP_least {old new : Face} (ho : old.Ok) (hn : new.Ok) : IsLeast old new (brokenP old new) :=
  broken_least ho hn (sortNm_sorted _) fun nm => mem_namesTaken ho hn
theorem broken_eq {old new : Face} (ho : old.Ok) (hn : new.Ok) : brokenP old new = lawBroken old new := (brokenP_least ho hn).uniq (law_least ho hn)
def encBr : Option (Nat × List Int) → PyData
  | none => .none
  | some x => .tuple [.int (x.1 : Int), encNm x.2]
/-! ### how all tuples grow -/
theorem powL_step (ys : List Int) (p : Int → Bool) {i : Nat} (hi : i < ys.length) : powL ((ys.take (i + 1)).filter p) = if p ys[i] = true then powL ((ys.take i).filter p) ++ (powL ((ys.take i).filter p)).map (· ++ [ys[i]]) else powL ((ys.take i).filter p) := by
  rw [List.take_add_one, List.getElem?_eq_getElem hi, List.filter_append]
  by_cases h : p ys[i] = true
  · rw [if_pos h, ← powL_snoc]
    simp [h]
  · rw [if_neg h]
    simp [h]
end Sc

/-! # == of plain data is being the same -/
namespace Sc
open PySem L2 PyProof.Rows Dw
def Pln : Nat → PyData → Bool
  | _, .none | _, .int _ | _, .str _ => true
  | n + 1, .list xs => xs.all (Pln n)
  | n + 1, .tuple xs => xs.all (Pln n)
  | _, _ => false
theorem eqvAll_iff {n : Nat} (ih : ∀ d e, Pln n d = true → Pln n e = true → (PyData.eqv d e = true ↔ d = e)) : ∀ xs ys : List PyData, xs.all (Pln n) = true → ys.all (Pln n) = true → (PyData.eqvAll xs ys = true ↔ xs = ys)
  | [], [], _, _ => by simp [PyData.eqvAll]
  | [], _ :: _, _, _ => by simp [PyData.eqvAll]
  | _ :: _, [], _, _ => by simp [PyData.eqvAll]
  | x :: xs, y :: ys, h1, h2 => by
    simp only [List.all_cons, Bool.and_eq_true] at h1 h2
    simp only [PyData.eqvAll, Bool.and_eq_true, ih x y h1.1 h2.1, eqvAll_iff ih xs ys h1.2 h2.2, List.cons.injEq]
theorem eqv_iff : ∀ (n : Nat) (d e : PyData), Pln n d = true → Pln n e = true → (PyData.eqv d e = true ↔ d = e)
  | 0, d, e, h1, h2 => by
    cases d <;> cases e <;> first | (cases h1; done) | (cases h2; done) | (simp [PyData.eqv]; done) | (simp [PyData.eqv, beq_iff_eq]; done)
  | n + 1, d, e, h1, h2 => by
    cases d <;> cases e <;> first | (cases h1; done) | (cases h2; done) | skip
    case list.list xs ys =>
      have := eqvAll_iff (eqv_iff n) xs ys h1 h2
      simpa [PyData.eqv] using this
    case tuple.tuple xs ys =>
      have := eqvAll_iff (eqv_iff n) xs ys h1 h2
      simpa [PyData.eqv] using this
    all_goals simp [PyData.eqv]
theorem eqv_dec (n : Nat) {d e : PyData} {p : Prop} [Decidable p] (h1 : Pln n d = true) (h2 : Pln n e = true) (hp : d = e ↔ p) : PyData.eqv d e = decide p := by
  rw [Bool.eq_iff_iff, eqv_iff n d e h1 h2, hp, decide_eq_true_eq]
theorem pln_mono {n m : Nat} (hm : n ≤ m) : ∀ {d : PyData}, Pln n d = true → Pln m d = true := by
  induction n generalizing m with
  | zero => intro d h; cases d <;> first | (cases m <;> exact h) | cases h
  | succ n ih =>
    intro d h
    cases m with
    | zero => omega
    | succ m =>
      cases d with
      | list xs =>
        show xs.all (Pln m) = true
        rw [List.all_eq_true]
        exact fun x hx => ih (by omega) ((List.all_eq_true.mp h) x hx)
      | tuple xs =>
        show xs.all (Pln m) = true
        rw [List.all_eq_true]
        exact fun x hx => ih (by omega) ((List.all_eq_true.mp h) x hx)
      | _ => exact h
theorem pln_encE {ahead : List Int} : ∀ (n : Nat) (e : Ex), ExOk ahead n e → Pln (n + 1) (encE e) = true
  | 0, .num _, _ => rfl
  | 0, .say _, _ => rfl
  | 0, .slot _, _ => rfl
  | 0, .plus _ _, h => by cases h
  | n + 1, .num _, _ => rfl
  | n + 1, .say _, _ => rfl
  | n + 1, .slot _, _ => rfl
  | n + 1, .plus a b, h => by
    have h1 := pln_encE n a h.1
    have h2 := pln_encE n b h.2
    show ([PyData.str kPlus, encE a, encE b].all (Pln (n + 1))) = true
    simp only [List.all_cons, List.all_nil, h1, h2, Bool.and_true]
    rfl
theorem pln_encO {ahead : List Int} {o : Option Ex} (h : ∀ e, o = some e → ExOk ahead 1 e) : Pln 2 (encO o) = true := by
  cases o with
  | none => rfl
  | some e => exact pln_encE 1 e (h e rfl)
theorem eqv_encO {a1 a2 : List Int} {o o' : Option Ex} (h : ∀ e, o = some e → ExOk a1 1 e) (h' : ∀ e, o' = some e → ExOk a2 1 e) : PyData.eqv (encO o) (encO o') = decide (o = o') :=
  eqv_dec 2 (pln_encO h) (pln_encO h') ⟨encO_inj, fun e => by rw [e]⟩
theorem optI_inj {a b : Option Nat} (h : optI a = optI b) : a = b := by
  cases a <;> cases b
  · rfl
  · cases h
  · cases h
  · rename_i x y
    have := int_inj (a := (x : Int)) (b := (y : Int)) h
    rw [show x = y by omega]
theorem eqv_optI (a b : Option Nat) : PyData.eqv (optI a) (optI b) = decide (a = b) :=
  eqv_dec 0 (by cases a <;> rfl) (by cases b <;> rfl) ⟨optI_inj, fun e => by rw [e]⟩
def encB (b : List Nat) : PyData := .tuple (b.map fun (k : Nat) => PyData.int (k : Int))
theorem encB_inj {a b : List Nat} (h : encB a = encB b) : a = b := by
  refine map_inj (fun x y e => ?_) (tup_inj h)
  have := int_inj e
  omega
theorem encM_inj {a b : List (Int × Nat)} (h : encM a = encM b) : a = b := by
  refine map_inj (fun x y e => ?_) (tup_inj h)
  have := tup_inj e
  simp only [List.cons.injEq, and_true] at this
  have h1 := int_inj this.1
  have h2 := int_inj this.2
  exact Prod.ext h1 (by omega)
theorem pln_encB (b : List Nat) : Pln 1 (encB b) = true := by
  show (b.map fun (k : Nat) => PyData.int (k : Int)).all (Pln 0) = true
  rw [List.all_eq_true]
  intro x hx
  obtain ⟨k, _, rfl⟩ := List.mem_map.mp hx
  rfl
theorem pln_encM (m : List (Int × Nat)) : Pln 2 (encM m) = true := by
  show (m.map fun p => PyData.tuple [.int p.1, .int (p.2 : Int)]).all (Pln 1) = true
  rw [List.all_eq_true]
  intro x hx
  obtain ⟨k, _, rfl⟩ := List.mem_map.mp hx
  rfl
theorem eqv_rest (b b' : List Nat) (m m' : List (Int × Nat)) : PyData.eqv (.tuple [encB b, encM m]) (.tuple [encB b', encM m']) = (decide (b = b') && decide (m = m')) := by
  have := eqv_dec 3 (d := .tuple [encB b, encM m]) (e := .tuple [encB b', encM m']) (p := b = b' ∧ m = m') (by
    show ([encB b, encM m].all (Pln 2)) = true
    simp only [List.all_cons, List.all_nil, pln_mono (n := 1) (m := 2) (by decide) (pln_encB b), pln_encM m]; rfl) (by
    show ([encB b', encM m'].all (Pln 2)) = true
    simp only [List.all_cons, List.all_nil, pln_mono (n := 1) (m := 2) (by decide) (pln_encB b'), pln_encM m']; rfl) (by
    constructor
    · intro h
      have := tup_inj h
      simp only [List.cons.injEq, and_true] at this
      exact ⟨encB_inj this.1, encM_inj this.2⟩
    · rintro ⟨rfl, rfl⟩; rfl)
  rw [this, Bool.decide_and]
theorem shp_of_pln : ∀ (n : Nat) {d : PyData}, Pln n d = true → (∀ x, d = .str x → PyData.canLay0 (.str x) = true) → True := fun _ _ _ _ => trivial
end Sc

/-! # faces that are changed; good for what is good -/
namespace Sc
open PySem L2 PyProof.Rows Dw
/-! ### nearly faces -/
def DfPre (s : Slot) : Prop := ∀ e, s.dflt = some e → ∃ ahead, InTen ahead ∧ ExOk ahead 1 e
structure Face.Pre (f : Face) : Prop where
  len : f.slots.length ≤ 6
  nm : ∀ s ∈ f.slots, 0 ≤ s.name ∧ s.name < 10
  nd : (f.slots.map (·.name)).Nodup
  df : ∀ s ∈ f.slots, DfPre s
theorem pre_perm {ss ss' : List Slot} {r m r' m' : Bool} (h : Face.Pre ⟨ss, r, m⟩) (p : ss'.Perm ss) : Face.Pre ⟨ss', r', m'⟩ :=
  ⟨by show ss'.length ≤ 6; rw [p.length_eq]; exact h.len, fun s hs => h.nm s (p.mem_iff.mp hs), (p.map (·.name)).nodup_iff.mpr h.nd, fun s hs => h.df s (p.mem_iff.mp hs)⟩
theorem pre_cons {ss : List Slot} {r m : Bool} {s : Slot} (h : Face.Pre ⟨ss, r, m⟩) (hl : ss.length < 6) (hn : 0 ≤ s.name ∧ s.name < 10) (hf : s.name ∉ ss.map (·.name)) (hd : DfPre s) : Face.Pre ⟨s :: ss, r, m⟩ :=
  ⟨by show ss.length + 1 ≤ 6; omega, fun t ht => by
    rcases List.mem_cons.mp ht with rfl | ht
    · exact hn
    · exact h.nm t ht, by show ((s :: ss).map (·.name)).Nodup; rw [List.map_cons, List.nodup_cons]; exact ⟨hf, h.nd⟩, fun t ht => by
    rcases List.mem_cons.mp ht with rfl | ht
    · exact hd
    · exact h.df t ht⟩
theorem pre_sub {ss ss' : List Slot} {r m r' m' : Bool} (h : Face.Pre ⟨ss, r, m⟩) (p : ss'.Sublist ss) : Face.Pre ⟨ss', r', m'⟩ :=
  ⟨Nat.le_trans p.length_le h.len, fun s hs => h.nm s (p.subset hs), (p.map (·.name)).nodup h.nd, fun s hs => h.df s (p.subset hs)⟩
theorem ok_pre {f : Face} (h : f.Ok) : f.Pre := by
  have key : ∀ s ∈ f.slots, ∃ k, ∃ hk : k < f.slots.length, f.slots[k] = s := fun s hs => List.getElem_of_mem hs
  have hten : ∀ s ∈ f.slots, 0 ≤ s.name ∧ s.name < 10 := fun s hs => by
    obtain ⟨k, hk, rfl⟩ := key s hs
    exact ⟨(h.each k hk).n0, (h.each k hk).n1⟩
  refine ⟨h.len, hten, ?_, fun s hs e he => ?_⟩
  · show (f.slots.map (·.name)).Pairwise (· ≠ ·)
    rw [List.pairwise_map, List.pairwise_iff_getElem]
    intro i j hi hj hij e
    have := name_uniq h (List.getElem?_eq_getElem hi) (List.getElem?_eq_getElem hj) e
    omega
  · obtain ⟨k, hk, rfl⟩ := key s hs
    refine ⟨_, fun n hn => ?_, (h.each k hk).df e he⟩
    obtain ⟨t, ht, rfl⟩ := List.mem_map.mp hn
    exact hten t (List.mem_of_mem_take ht)
theorem split_at {ss : List Slot} {k : Nat} (hk : k < ss.length) : ss = ss.take k ++ ss[k] :: ss.drop (k + 1) := by
  rw [← List.drop_eq_getElem_cons hk, List.take_append_drop]
theorem mid_perm {a b : List Slot} {s : Slot} : (a ++ s :: b).Perm (s :: (a ++ b)) := List.perm_middle
/-- one slot exchanged -/
theorem pre_put {ss : List Slot} {r m r' m' : Bool} {k : Nat} {s : Slot} (h : Face.Pre ⟨ss, r, m⟩) (hk : k < ss.length) (hn : 0 ≤ s.name ∧ s.name < 10) (hf : s.name = ss[k].name ∨ s.name ∉ ss.map (·.name)) (hd : DfPre s) : Face.Pre ⟨ss.take k ++ [s] ++ ss.drop (k + 1), r', m'⟩ := by
  have e := split_at hk
  have hX : Face.Pre ⟨ss.take k ++ ss.drop (k + 1), r, m⟩ := by
    refine pre_sub h ?_
    conv => rhs; rw [e]
    exact List.Sublist.append (List.Sublist.refl _) (List.sublist_cons_self _ _)
  have hl : (ss.take k ++ ss.drop (k + 1)).length < 6 := by
    have := h.len
    simp only [List.length_append, List.length_take, List.length_drop] at *
    have : ss.length ≤ 6 := h.len
    omega
  have hne : s.name ∉ (ss.take k ++ ss.drop (k + 1)).map (·.name) := by
    rcases hf with hf | hf
    · have hnd := h.nd
      show s.name ∉ _
      have hnd : (ss.map (·.name)).Nodup := h.nd
      rw [e] at hnd
      have hp : ((ss.take k ++ ss[k] :: ss.drop (k + 1)).map (·.name)).Perm ((ss[k] :: (ss.take k ++ ss.drop (k + 1))).map (·.name)) := (mid_perm (s := ss[k])).map _
      rw [hp.nodup_iff, List.map_cons, List.nodup_cons] at hnd
      rw [hf]
      exact hnd.1
    · intro hm
      apply hf
      obtain ⟨t, ht, he⟩ := List.mem_map.mp hm
      refine List.mem_map.mpr ⟨t, ?_, he⟩
      rcases List.mem_append.mp ht with ht | ht
      · exact List.mem_of_mem_take ht
      · exact List.mem_of_mem_drop ht
  refine pre_perm (pre_cons hX hl hn hne hd) ?_
  rw [List.append_assoc]
  exact mid_perm
theorem pre_ins {ss : List Slot} {r m r' m' : Bool} {k : Nat} {s : Slot} (h : Face.Pre ⟨ss, r, m⟩) (hl : ss.length < 6) (hn : 0 ≤ s.name ∧ s.name < 10) (hf : s.name ∉ ss.map (·.name)) (hd : DfPre s) : Face.Pre ⟨ss.take k ++ [s] ++ ss.drop k, r', m'⟩ := by
  refine pre_perm (pre_cons h hl hn hf hd) ?_
  rw [List.append_assoc]
  refine (mid_perm (b := ss.drop k)).trans ?_
  rw [List.take_append_drop]
theorem pre_app {ss : List Slot} {r m r' m' : Bool} {s : Slot} (h : Face.Pre ⟨ss, r, m⟩) (hl : ss.length < 6) (hn : 0 ≤ s.name ∧ s.name < 10) (hf : s.name ∉ ss.map (·.name)) (hd : DfPre s) : Face.Pre ⟨ss ++ [s], r', m'⟩ :=
  pre_perm (pre_cons h hl hn hf hd) (by rw [show ss ++ [s] = ss ++ s :: [] from rfl]; refine mid_perm.trans ?_; rw [List.append_nil])
theorem pre_swap {ss : List Slot} {r m r' m' : Bool} {k : Nat} (h : Face.Pre ⟨ss, r, m⟩) (hk : k + 1 < ss.length) : Face.Pre ⟨ss.take k ++ [ss[k + 1], ss[k]] ++ ss.drop (k + 2), r', m'⟩ := by
  refine pre_perm h ?_
  have e1 := split_at (ss := ss) (k := k) (by omega)
  have e2 : ss.drop (k + 1) = ss[k + 1] :: ss.drop (k + 2) := List.drop_eq_getElem_cons hk
  conv => rhs; rw [e1, e2]
  rw [List.append_assoc]
  refine List.Perm.append_left _ ?_
  exact List.Perm.swap ..
theorem dfpre_plain {n : Int} {s : Srt} {e : Ex} (h : PlainE e) : DfPre ⟨n, s, some e⟩ := fun e' he => by
  cases he
  refine ⟨[], fun n hn => (nomatch hn), ?_⟩
  cases e <;> first | exact h | cases h
theorem dfpre_none {n : Int} {s : Srt} : DfPre ⟨n, s, none⟩ := fun e' he => by cases he
/-! ### the law's own look -/
def looksE : Ex → List Int
  | .slot n => [n]
  | .plus a b => looksE a ++ looksE b
  | _ => []
def looksO : Option Ex → List Int
  | none => []
  | some e => looksE e
def lastRank (pre : List Slot) : Nat := match pre.getLast? with
  | some t => t.sort.rank
  | none => 0
def okAt (f : Face) (k : Nat) : Bool := match f.slots[k]? with
  | some s => !decide (s.sort.rank < lastRank (f.slots.take k)) && (looksO s.dflt).all fun n => decide (n ∈ (f.slots.take k).map (·.name))
  | none => true
def isFaceL (f : Face) : Bool := (List.range f.slots.length).all (okAt f)
theorem exok_looks {ahead met : List Int} : ∀ (n : Nat) (e : Ex), ExOk ahead n e → (∀ x ∈ looksE e, x ∈ met) → ExOk met n e
  | 0, .num _, h, _ => h
  | 0, .say _, h, _ => h
  | 0, .slot n, h, hm => ⟨h.1, hm n (by simp [looksE])⟩
  | 0, .plus _ _, h, _ => by cases h
  | n + 1, .num _, h, _ => h
  | n + 1, .say _, h, _ => h
  | n + 1, .slot m, h, hm => ⟨h.1, hm m (by simp [looksE])⟩
  | n + 1, .plus a b, h, hm => ⟨exok_looks n a h.1 fun x hx => hm x (by simp [looksE, hx]), exok_looks n b h.2 fun x hx => hm x (by simp [looksE, hx])⟩
theorem face_okL {f : Face} (h : f.Pre) (hl : isFaceL f = true) : f.Ok := by
  refine ⟨h.len, fun k hk => ?_⟩
  have hs := List.getElem_mem hk
  have ho := List.all_eq_true.mp hl k (List.mem_range.mpr hk)
  unfold okAt at ho
  rw [List.getElem?_eq_getElem hk] at ho
  simp only [Bool.and_eq_true, Bool.not_eq_true', decide_eq_false_iff_not, List.all_eq_true, decide_eq_true_eq] at ho
  refine ⟨(h.nm _ hs).1, (h.nm _ hs).2, fun t ht e => ?_, fun t ht => ?_, fun e he => ?_⟩
  · obtain ⟨i, hi, rfl⟩ := List.getElem_of_mem ht
    rw [List.length_take] at hi
    rw [List.getElem_take] at e
    have hnd : (f.slots.map (·.name)).Pairwise (· ≠ ·) := h.nd
    rw [List.pairwise_map, List.pairwise_iff_getElem] at hnd
    exact hnd i k (by omega) hk (by omega) e
  · have := ho.1
    unfold lastRank at this
    rw [ht] at this
    simp only at this
    omega
  · obtain ⟨ahead, _, hE⟩ := h.df _ hs e he
    refine exok_looks 1 e hE fun x hx => ho.2 x ?_
    rw [he]; exact hx
/-! ### good for what is good -/
theorem GoodS.refl {f : Face} {m : Nat} {nm : List Int} (h : FitS f m nm) : GoodS f f m nm := ⟨h, fun _ _ => rfl, fun _ _ => rfl, fun k s hk _ => ⟨k, s, hk, rfl, rfl⟩⟩
/-- a slot that is left in the old face is left in the new one -/
theorem GoodS.left {old new : Face} (ho : old.Ok) {m : Nat} {nm : List Int} (G : GoodS old new m nm) {k j : Nat} {s t : Slot} (hk : old.slots[k]? = some s) (hf : ¬ ((k < m ∧ placeK old k = true) ∨ ∃ n ∈ nm, slotNamed old n = some k))
    (hj : new.slots[j]? = some t) (hn : t.name = s.name) : ¬ ((j < m ∧ placeK new j = true) ∨ ∃ n ∈ nm, slotNamed new n = some j) := by
  rintro (⟨h1, h2⟩ | ⟨n, h1, h2⟩)
  · have hl := G.pl j h1
    unfold labP at hl
    rw [if_pos h2] at hl
    by_cases hp : placeK old j = true
    · rw [if_pos hp] at hl
      have hl := Option.some.inj hl
      obtain ⟨s', q4, _⟩ := placeK_iff.mp hp
      rw [nameK_at q4, nameK_at hj, hn] at hl
      have hjk := name_uniq ho q4 hk hl
      subst hjk
      exact hf (.inl ⟨h1, hp⟩)
    · rw [if_neg hp] at hl; cases hl
  · have hsm := G.nn n h1
    rw [h2] at hsm
    obtain ⟨t', q4, q5, _⟩ := named_get h2
    rw [hj] at q4
    cases q4
    cases h3 : slotNamed old n with
    | none => rw [h3] at hsm; cases hsm
    | some k1 =>
      obtain ⟨s', q6, q7, _⟩ := named_get h3
      have hkk := name_uniq ho q6 hk (by rw [q7, ← q5, hn])
      subst hkk
      exact hf (.inr ⟨n, h1, h3⟩)
theorem GoodS.trans {a b c : Face} (ha : a.Ok) {m : Nat} {nm : List Int} (h1 : GoodS a b m nm) (h2 : GoodS b c m nm) : GoodS a c m nm := by
  refine ⟨h2.fit, fun r hr => (h1.pl r hr).trans (h2.pl r hr), fun n hn => (h1.nn n hn).trans (h2.nn n hn), fun k s hk hf => ?_⟩
  obtain ⟨j, t, q1, q2, q3⟩ := h1.df k s hk hf
  obtain ⟨i, u, p1, p2, p3⟩ := h2.df j t q1 (h1.left ha hk hf q1 q2)
  exact ⟨i, u, p1, p2.trans q2, p3.trans q3⟩
/-- none breaks: good for all shapes -/
theorem none_iff {old new : Face} (ho : old.Ok) (hn : new.Ok) : brokenP old new = none ↔ ∀ m nm, Rising nm → InTen nm → m + nm.length ≤ 10 → FitS old m nm → GoodS old new m nm := by
  have L := brokenP_least ho hn
  constructor
  · intro h m nm h1 h2 h3 h4
    exact Classical.byContradiction fun hg => L.no h (m, nm) ⟨h1, h2, h3, h4, hg⟩
  · intro h
    cases hb : brokenP old new with
    | none => rfl
    | some x =>
      obtain ⟨hx, _⟩ := L.yes x hb
      exact absurd (h x.1 x.2 hx.ris hx.ten hx.len hx.bad.1) hx.bad.2
theorem broken_self {f : Face} (h : f.Ok) : brokenP f f = none := (none_iff h h).mpr fun m nm _ _ _ hf => GoodS.refl hf
theorem broken_trans {a b c : Face} (ha : a.Ok) (hb : b.Ok) (hc : c.Ok) (h1 : brokenP a b = none) (h2 : brokenP b c = none) : brokenP a c = none :=
  (none_iff ha hc).mpr fun m nm hr h10 hl hf => by
    have g1 := (none_iff ha hb).mp h1 m nm hr h10 hl hf
    exact g1.trans ha ((none_iff hb hc).mp h2 m nm hr h10 hl g1.fit)
/-- a slot more -/
theorem broken_more {f g : Face} (hf : f.Ok) (hg : g.Ok) {s : Slot} (hgs : g.slots = f.slots ++ [s]) (hr : g.rest = f.rest) (hm : f.more = false) (hd : s.dflt ≠ none)
    (hs : s.sort = .name ∨ (s.sort = .any ∧ f.rest = false ∧ ∀ t ∈ f.slots, t.sort ≠ .name)) : brokenP f g = none := by
  have hget : ∀ k, k < f.slots.length → g.slots[k]? = f.slots[k]? := fun k hk => by rw [hgs, List.getElem?_append_left hk]
  have hlast : g.slots[f.slots.length]? = some s := by rw [hgs, List.getElem?_append_right (Nat.le_refl _), Nat.sub_self]; rfl
  have hglen : g.slots.length = f.slots.length + 1 := by rw [hgs]; simp
  have hsn : ∀ {k : Nat} {t : Slot}, f.slots[k]? = some t → t.name ≠ s.name := fun {k t} hk e => by
    have hkl := (List.getElem?_eq_some_iff.mp hk).1
    have := name_uniq hg (hget k hkl ▸ hk) hlast e
    omega
  have hpk : ∀ k, k < f.slots.length → placeK g k = placeK f k := fun k hk => by unfold placeK; rw [hget k hk]
  have hnmd : ∀ {n : Int} {k : Nat}, slotNamed f n = some k → slotNamed g n = some k := fun {n k} hk => by
    obtain ⟨t, h1, h2, h3⟩ := named_get hk
    have hkl := (List.getElem?_eq_some_iff.mp h1).1
    have := named_of hg (hget k hkl ▸ h1) h3
    rwa [h2] at this
  refine (none_iff hf hg).mpr fun m nm hris h10 hl hfit => ?_
  have hnn : ∀ n ∈ nm, ∃ k, slotNamed f n = some k := fun n hn => by
    rcases hfit.nn n hn with z | z
    · cases hk : slotNamed f n with
      | none => exact absurd hk z
      | some k => exact ⟨k, rfl⟩
    · rw [hm] at z; cases z
  have hpl : ∀ r, r < m → placeK g r = placeK f r := fun r hrm => by
    by_cases hk : r < f.slots.length
    · exact hpk r hk
    · have hf0 : placeK f r = false := by unfold placeK; rw [List.getElem?_eq_none (by omega)]
      rcases hs with hs | ⟨hs, hrf, hno⟩
      · rw [hf0]
        unfold placeK
        by_cases e : r = f.slots.length
        · rw [e, hlast]; simp [hs]
        · rw [List.getElem?_eq_none (by omega)]
      · rcases hfit.pl r hrm with z | z
        · rw [hf0] at z; cases z
        · rw [hrf] at z; cases z
  have hlab : ∀ r, r < m → labP f r = labP g r := fun r hrm => by
    unfold labP
    rw [hpl r hrm]
    by_cases hp : placeK f r = true
    · rw [if_pos hp, if_pos hp]
      have hk := place_lt hp
      unfold nameK
      rw [hget r hk]
    · rw [if_neg hp, if_neg hp]
  refine ⟨⟨fun r hrm => ?_, hfit.nd, fun n hn => ?_, fun n hn k hk => ?_, fun k t hk hdf => ?_⟩, hlab, fun n hn => ?_, fun k t hk hnf => ?_⟩
  · rw [hpl r hrm, hr]; exact hfit.pl r hrm
  · obtain ⟨k, hk⟩ := hnn n hn
    exact .inl (by rw [hnmd hk]; intro z; cases z)
  · obtain ⟨k', hk'⟩ := hnn n hn
    rw [hnmd hk'] at hk
    cases hk
    rintro ⟨h1, h2⟩
    rw [hpl k h1] at h2
    exact hfit.cl n hn k hk' ⟨h1, h2⟩
  · by_cases hkl : k < f.slots.length
    · rcases hfit.fu k t (hget k hkl ▸ hk) hdf with ⟨h1, h2⟩ | ⟨n, hn, e⟩
      · exact .inl ⟨h1, by rw [hpl k h1]; exact h2⟩
      · exact .inr ⟨n, hn, hnmd e⟩
    · have : k = f.slots.length := by
        have := (List.getElem?_eq_some_iff.mp hk).1
        omega
      subst this
      rw [hlast] at hk
      cases hk
      exact absurd hdf hd
  · obtain ⟨k, hk⟩ := hnn n hn
    rw [hk, hnmd hk]
  · have hkl := (List.getElem?_eq_some_iff.mp hk).1
    exact ⟨k, t, by rw [hget k hkl]; exact hk, rfl, rfl⟩
end Sc
namespace Sc
open PySem L2 PyProof.Rows Dw
/-! ### names that a face has not -/
def freshOf (f : Face) : List Int := ten.filter fun n => !decide (n ∈ f.slots.map (·.name))
theorem mem_freshOf {f : Face} {n : Int} : n ∈ freshOf f ↔ (0 ≤ n ∧ n < 10) ∧ n ∉ f.slots.map (·.name) := by
  unfold freshOf
  rw [List.mem_filter, mem_ten]
  simp
theorem rising_of {l : List Int} (hs : l.Pairwise (· ≤ ·)) (hn : l.Nodup) : Rising l :=
  List.Pairwise.imp₂ (fun a b h1 h2 => by omega) hs hn
theorem ten_len {l : List Int} (hn : l.Nodup) (h : ∀ n ∈ ten, n ∈ l) : 10 ≤ l.length := by
  have hr := rising_of (srt_sorted l) ((srt_perm l).nodup_iff.mpr hn)
  have := (sublist_of_rising ten_sorted hr fun n hm => (srt_perm l).mem_iff.mpr (h n hm)).length_le
  rw [(srt_perm l).length_eq] at this
  simpa [ten] using this
theorem freshOf_pos {f : Face} (h : f.Pre) : 0 < (freshOf f).length := by
  cases hl : freshOf f with
  | cons a r => simp
  | nil =>
    exfalso
    have : 10 ≤ (f.slots.map (·.name)).length := ten_len h.nd fun n hn => by
      apply Classical.byContradiction
      intro hc
      have : n ∈ freshOf f := mem_freshOf.mpr ⟨mem_ten.mp hn, hc⟩
      rw [hl] at this; cases this
    have := h.len
    rw [List.length_map] at *
    omega
theorem freshOf_len (f : Face) : (freshOf f).length ≤ 10 := Nat.le_trans (List.length_filter_le _ _) (by simp [ten])
theorem freshOf_enc (f : Face) : ((List.range 10).filter fun (k : Nat) => !decide ((k : Int) ∈ f.slots.map (·.name))).map (fun (k : Nat) => PyData.int (k : Int)) = (freshOf f).map .int := by
  unfold freshOf ten
  rw [List.filter_map, List.map_map]
  rfl
theorem cut_last {α : Type} (xs : List α) : Dw.cutD xs none (some (-1)) = xs.dropLast := by
  unfold Dw.cutD
  rw [HT.sIx_none, List.drop_zero, Nat.sub_zero, List.dropLast_eq_take]
  congr 1
  unfold HT.sIx
  simp only
  split <;> omega
end Sc

/-! # defs whose code object is known; displayed dicts -/
namespace Dw
open PySem PySem.Spec L2 LamX PyProof.Rows
section
variable {P : Program} {w : World} {K : Frg} {mg : Str → Option Value} {base : Heap}
theorem ok_DC {α : Type} {inp : α → List PV} {pre : α → Mu → Prop} {post : α → Mu → PV → Mu → Prop} {x qual : Str} {st : Stmt} {f c : Addr} {fd : FuncData} {N ps : List Str} {k : Nat} (F : Fun K x qual st f fd) (hc : fd.code = .ref c) (S : FnScope N ps (defScope st)) (hlen : ∀ a, (inp a).length = ps.length)
    (hbody : ∀ (A : Around) (outer : List Env) (s : Shared) (H : Hp) (E : XK), Room k (A.deeper (envOfC qual (defScope st) s.heap.objs.size f (.ref c))) → ∀ a μ, pre a μ →
      ∃ t, PSs (cxOf CX0 P w K mg base N qual (defScope st) f (.ref c) A outer s H E).nox (defBody st) t ∧ ∀ G0, Ws K G0 t (startD N (inp a)) μ (retD (post a μ))) : FnOk P w K mg base CX0 (k + 1) f fd ps (SpA K inp pre post) := by
  obtain ⟨oc, od, kV, doc, pm, an, cdv, ct, osl, rfl, lk, hcd⟩ := F.ex
  obtain rfl : cdv = .ref c := hc
  refine fn_of lk hcd S (fun vs H Q E h => ?_) fun A outer s H vs Q E hr h => ?_
  · obtain ⟨G, μ, a, rl, _⟩ := h
    rw [rl.length]; exact hlen a
  · obtain ⟨G, μ, a, rl, sep, hp, hQ⟩ := h
    obtain ⟨t, ht, hw⟩ := hbody A outer s H E hr a μ hp
    refine ⟨t, ht.nox, hw G (L2.start N vs) G H (Same.refl _) (relS_start rl) sep _ ?_ ?_ (fun _ _ _ _ _ _ _ _ z => z.elim) (fun _ _ _ _ _ _ _ _ z => z.elim)⟩
    · rintro σ' G' H' ρ' μ' e' rs' S' ⟨μ'', hs, hpo⟩
      exact hQ _ G' H' .n μ'' e' mk_non (S'.less hs) hpo
    · rintro v G' H' x μ' e' rv S' ⟨μ'', hs, hpo⟩
      exact hQ v G' H' x μ'' e' rv (S'.less hs) hpo
end
/-- a method of a tuple that is displayed -/
def tBMT (r : V → List V → Hp → VK → Prop) (tp t : TA) : TE := fun σ H Q => tp σ H fun xs H1 => xs.length ≤ sizeLine ∧ ∀ p, H1 p = none → t σ (upd H1 p (.tup xs)) fun vs H2 => r (.ref p) vs H2 Q
section
variable {X : Cx} {e : Expr} {es elts : List Expr} {tp t : TA} {name : Str} {tpos apos cpos : Pos} {kk : Nat} {id : String} {r : V → List V → Hp → VK → Prop}
theorem pe_bmT (pa : PlainAttrs "tuple") (slot : Slot "tuple" name id) (hty : typeOf (.builtin id) = pure (.type "method_descriptor")) (hm : MtR X id r) (ho : PA X elts tp) (ha : PA X (e :: es) t)
    (hbase : attributeBase (.Tuple elts kk tpos) name X.env (eval (.Tuple elts kk tpos) X.env) = eval (.Tuple elts kk tpos) X.env := by rfl)
    (hfew : ((backTo cpos (starEach (e :: es) X.env)).all (fun x => !x.1) && (backToKw cpos (keywordEach [] X.env)).all (fun x => x.1.isSome) && decide ((e :: es).length + ([] : List Keyword).length + (if ([] : List Keyword).isEmpty then 0 else 1) < 30)) = true := by rfl)
    (hline : (apos.endLine == cpos.line) = true := by rfl) (hs : starEach (e :: es) X.env = (false, eval e X.env) :: starEach es X.env := by rfl) (hplain : (backTo cpos (starEach es X.env)).any (·.1) = false := by rfl) :
    PE X (.Call (.Attribute (.Tuple elts kk tpos) name apos) (e :: es) [] cpos) (tBMT r tp t) := by
  refine ⟨fun pins s σ H Q I h => ?_⟩
  refine wpAny_Call_method_late hbase hfew hline rfl (wpAny_Tuple_spliced (thn (ho.run tpos pins s σ H _ I h) fun us s1 ⟨xs, H1, I1, r1, hz, q1⟩ => ⟨by rw [← r1.length]; exact hz, ?_⟩))
  have hn : H1 s1.heap.objs.size = none := I1.hok.fresh (Nat.le_refl _)
  have hat : (s1.heap.push { cls := .type "tuple", data := .seq us.toArray }).get? s1.heap.objs.size = some { cls := .type "tuple", data := .seq us.toArray } := Heap.get?_push_size _ rfl
  have I2 : Inv X pins σ (upd H1 s1.heap.objs.size (.tup xs)) { s1 with heap := s1.heap.push { cls := .type "tuple", data := .seq us.toArray } } :=
    I1.laid (t' := s1.toks) (fun b u e => Heap.get?_push_of_some _ e) (Nat.le_refl _) ⟨hz, us, r1, ⟨_, hat, rfl, _, rfl⟩⟩
  refine ⟨"tuple", id, pa, slot, hty, ⟨_, hat, rfl⟩, ?_, ?_⟩
  · first
      | exact ⟨_, hat, rfl⟩
      | (intro a e; cases e; exact ⟨_, hat, rfl⟩)
      | (intro a o e1 e2; cases e1; rw [hat] at e2; cases e2; rfl)
  · have hA := ha.run cpos pins _ σ _ _ I2 (q1 _ hn)
    rw [hs] at hA ⊢
    refine Calls.callWith_builtin (by show (false || (backTo cpos (starEach es X.env)).any (·.1)) = false; rw [hplain] <;> rfl) (Calls.evalArgs_plain ?_)
    exact thn hA fun ws s2 ⟨vs, H2, I3, r2, q2⟩ => hm pins s2 σ H2 (.ref s1.heap.objs.size) vs (.ref s1.heap.objs.size) ws Q I3 rfl r2 q2
end
section
variable {K : Frg} {G0 : Hp} {ρ : Rho} {μ : Mu} {Q : PV → Mu → Prop}
/-- a displayed dict of three texts as keys -/
theorem we_disp3 {k1 k2 k3 : Str} {t1 t2 t3 : TE} (h12 : k1 ≠ k2) (h13 : k1 ≠ k3) (h23 : k2 ≠ k3)
    (h : ∀ p, μ p = none → We K G0 t1 ρ (mset μ p (.dk [])) fun x1 μ1 => We K G0 t2 ρ μ1 fun x2 μ2 => We K G0 t3 ρ μ2 fun x3 μ3 => μ3 p = some (.dk []) ∧ Q (.o p) (mset μ3 p (.dk [(.inr k1, x1), (.inr k2, x2), (.inr k3, x3)]))) :
    We K G0 (tDisp [(tC (.str k1), t1), (tC (.str k2), t2), (tC (.str k3), t3)]) ρ μ Q := fun σ G H e rs S R k => by
  intro p hp
  refine h p (S.mfree hp) σ G _ e rs (S.new (m := .dk []) hp ⟨[], rfl, .nil⟩) _ fun v1 G1 H1 x1 μ1 e1 r1 S1 q1 => ?_
  refine q1 σ G1 H1 (e.trans e1) (rs.ext e1) S1 _ fun v2 G2 H2 x2 μ2 e2 r2 S2 q2 => ?_
  refine q2 σ G2 H2 ((e.trans e1).trans e2) (rs.ext (e1.trans e2)) S2 _ fun v3 G3 H3 x3 μ3 e3 r3 S3 ⟨hm, q3⟩ => ?_
  obtain ⟨hg, o, ho, vs, hvs, rl⟩ := S3.mu p _ hm
  subst hvs
  cases rl
  have hmk : mergeK [] [((.inr k1 : Key), v1), (.inr k2, v2), (.inr k3, v3)] = [(.inr k1, v1), (.inr k2, v2), (.inr k3, v3)] := by
    have n12 : ¬ (Sum.inr k1 : Key) = Sum.inr k2 := fun z => h12 (Sum.inr.inj z)
    have n13 : ¬ (Sum.inr k1 : Key) = Sum.inr k3 := fun z => h13 (Sum.inr.inj z)
    have n23 : ¬ (Sum.inr k2 : Key) = Sum.inr k3 := fun z => h23 (Sum.inr.inj z)
    simp [mergeK, putK, n12, n13, n23, h12, h13, h23]
  refine ⟨ho, [(.inr k1, v1), (.inr k2, v2), (.inr k3, v3)], rfl, by simp, ?_⟩
  rw [hmk]
  refine k _ G3 _ (.o p) _ ((e1.trans e2).trans e3) rfl (S3.put (m := .dk [(.inr k1, x1), (.inr k2, x2), (.inr k3, x3)]) hm ⟨_, rfl, ?_⟩) q3
  exact .cons ⟨rfl, r1.ext (e2.trans e3)⟩ (.cons ⟨rfl, r2.ext e3⟩ (.cons ⟨rfl, r3⟩ .nil))
theorem dq_strs {G : Hp} : ∀ {vs : List V} {ss : List Str}, DqAll K G vs (ss.map .str) → vs = ss.map .str
  | _, [], .nil => rfl
  | _, _ :: _, .cons h t => by cases h; rw [dq_strs t]; rfl
theorem wm_idxT {ss : List Str} {z : Str} {j : Nat} (hj : ss[j]? = some z) (hn : ∀ m, m < j → ss[m]? ≠ some z) (q : Q (.i (j : Int)) μ) : Wm K G0 (rIdxK K) (.t (ss.map .str)) [.s z] μ Q := fun v vs G H e rv rl S R k => by
  obtain ⟨u, rfl, ru⟩ := rl1 rl
  cases rp_str ru
  obtain ⟨a, xs, rfl, h1, h2⟩ := rp_tup rv
  cases dq_strs h2
  exact ⟨a, ss, z, j, rfl, rfl, .inl (.inl (S.sub _ _ h1)), hj, hn, k _ G H _ μ (Same.refl _) (mk_int _) S q⟩
theorem we_bmT {tp t : TA} {r : V → List V → Hp → VK → Prop} (h : Wa K G0 tp ρ μ fun xs μ1 => ∃ ds, unD xs = some ds ∧ ds.length ≤ 100000 ∧ Wa K G0 t ρ μ1 fun ys μ2 => Wm K G0 r (.t ds) ys μ2 Q) : We K G0 (tBMT r tp t) ρ μ Q := fun σ G H e rs S R k =>
  h σ G H e rs S _ fun vs G1 H1 xs μ1 e1 rl S1 ⟨ds, hd, hl, q⟩ => by
    have hq := unD_rel rl hd
    refine ⟨sz_le (by rw [dqa_len hq]; exact hl), fun p hp => ?_⟩
    have hg := S1.gfree hp
    have en := same_new (o := .tup vs) hg
    refine q σ (upd G1 p (.tup vs)) _ (e.trans (e1.trans en)) (rs.ext (e1.trans en)) (S1.fix hp) _ fun ws G2 H2 ys μ2 e2 rl2 S2 q2 => ?_
    exact q2 (.ref p) ws G2 H2 (e.trans ((e1.trans en).trans e2)) (RelP.ext (mk_tup upd_same (dqa_ext en hq)) e2) rl2 S2 R fun u G3 H3 z μ3 e3 => k u G3 H3 z μ3 (((e1.trans en).trans e2).trans e3)
theorem w2_inO {neg : Bool} {a : Addr} {d : PyData} {ds : List PyData} (hm : μ a = some (.lst (ds.map .d))) (hd : flatD d = true) (hf : ds.all flatD = true) (q : Q (.b (if neg then !(ds.any fun y => PyData.eqv y d) else ds.any fun y => PyData.eqv y d)) μ) : W2 K G0 (rIn K neg) (.d d) (.o a) μ Q := fun v w G H e rv rw S R k => by
  cases (show w = .ref a from rw)
  obtain ⟨hg, o, ho, ws, hvs, rl⟩ := S.mu a _ hm
  subst hvs
  have h2 := dqAll_of rl
  refine ⟨a, ws, rfl, .inl (.inl (.inl ho)), flat_eq rv hd, allFlat_eq h2 hf, ?_⟩
  rw [inV_eq rv hd h2 hf]
  exact k _ G H _ μ (Same.refl _) (mk_bl _) S q
theorem we_dnotin {ty td : TE} (h : We K G0 ty ρ μ fun y μ1 => We K G0 td ρ μ1 fun x μ2 => ∃ a kvs k, x = .o a ∧ y = kP k ∧ μ2 a = some (.dk kvs) ∧ Q (.b (!(valP kvs k).isSome)) μ2) : We K G0 (tDNotIn ty td) ρ μ Q := fun σ G H e rs S R k =>
  h σ G H e rs S _ fun w G1 H1 y μ1 e1 rw S1 q1 => q1 σ G1 H1 (e.trans e1) (rs.ext e1) S1 _ fun v G2 H2 x μ2 e2 rv S2 ⟨a, kvs, kk, hx, hy, hm, q⟩ => by
    subst hx; subst hy
    cases (show v = .ref a from rv)
    cases kP_rel rw
    obtain ⟨hg, o, ho, vs, hvs, rl⟩ := S2.mu a _ hm
    subst hvs
    refine ⟨a, _, rfl, DGet.k ho, ?_⟩
    rw [relK_some rl]
    exact k _ G2 H2 _ μ2 (e1.trans e2) (mk_bl _) S2 q
theorem wc_sortByO {β : Type} {enc : β → PyData} {bs : List β} {a : Addr} (hm : μ a = some (.lst ((bs.map enc).map .d))) (hal : ∀ a b, PySem.W.alike (enc a) (enc b) = true) (hso : ∀ b, ∃ x r, enc b = .tuple (x :: r)) (hd : ∀ b, (enc b).depth ≤ 50) (q : Q (.l ((bs.mergeSort (PySem.W.dataLe false enc)).map enc)) μ) : Wc K G0 (rSortBy K enc) [.o a] μ Q := fun vs G H e rl S R k => by
  obtain ⟨v, rfl, rv⟩ := rl1 rl
  cases (show v = .ref a from rv)
  obtain ⟨hg, o, ho, ws, hvs, rw⟩ := S.mu a _ hm
  subst hvs
  have h2 := dqAll_of rw
  refine ⟨a, ws, bs, fun v b => Dq K G v (enc b), rfl, .inl (.inl ho), paired_dq h2, fun v b h => dq_dp (dq_ext S.sub h), PySem.W.AllAlike.of hal, PySem.W.Sortable.tuples hso, fun b _ => hd b, fun ws' p hp hn => ?_⟩
  have hg := S.gfree hn
  exact k _ (upd G p (.lst ws')) _ _ μ (same_new hg) (mk_lst upd_same (dqa_ext (same_new hg) (dq_paired hp))) (S.fix hn) q
end
end Dw

/-! # the end of a law with tables of code objects -/
namespace Dw
open PySem PySem.Spec L2 LamX PyProof.Rows
theorem law_start {K : Frg} {H : Hp} {a : Addr} {ns : List Int} {TT : List (Addr × Str)} (hT : ∀ p ∈ TT, H p.1 = some (.tbl #[])) (hs : SqL K H a (ns.map V.int)) : ∃ G μ, RelP K G (.ref a) (.sq ns) ∧ Sep K G μ H ∧ TabM TT μ := by
  classical
  have key : ∀ G : Hp, Same G H → (∀ b o, G b = some o → SeqO o) → SqL K G a (ns.map V.int) → ∃ G μ, RelP K G (.ref a) (.sq ns) ∧ Sep K G μ H ∧ TabM TT μ := by
    intro G hG hn hq
    refine ⟨G, fun b => if b ∈ TT.map (·.1) then some (.any (.tbl #[])) else none, ⟨a, rfl, hq⟩, ⟨hG, hn, fun b m e => ?_⟩, ⟨fun p hp => ?_, fun b ps e => ?_⟩⟩
    · by_cases hb : b ∈ TT.map (·.1)
      · rw [if_pos hb] at e
        cases e
        obtain ⟨p, hp, rfl⟩ := List.mem_map.mp hb
        refine ⟨?_, _, hT p hp, rfl⟩
        cases hg : G p.1 with
        | none => rfl
        | some o =>
          have h1 := hG _ _ hg
          rw [hT p hp] at h1
          cases h1
          exact (hn _ _ hg).elim
      · rw [if_neg hb] at e; cases e
    · refine ⟨#[], by rw [if_pos (List.mem_map.mpr ⟨p, hp, rfl⟩)], True.intro, fun pos cv hc => ?_⟩
      have z : codeAmong pos [] = some cv := hc
      simp [codeAmong] at z
    · by_cases hb : b ∈ TT.map (·.1)
      · exact hb
      · rw [if_neg hb] at e; cases e
  rcases hs with hs | hs
  · have hy : ∀ b, b = a → (if b = a then H b else none) = H b := fun b hb => if_pos hb
    have hn : ∀ b, ¬ b = a → (if b = a then H b else none) = none := fun b hb => if_neg hb
    refine key (fun b => if b = a then H b else none) (fun b o e => ?_) (fun b o e => ?_) (.inl ?_)
    · by_cases hb : b = a
      · exact (hy b hb).symm.trans e
      · cases (hn b hb).symm.trans e
    · by_cases hb : b = a
      · have e2 := (hy b hb).symm.trans e
        rw [hb] at e2
        rcases hs with h | ⟨o', h⟩
        · rw [h] at e2; cases e2; trivial
        · rw [h] at e2; cases e2; trivial
      · cases (hn b hb).symm.trans e
    · rcases hs with h | ⟨o', h⟩
      · exact .inl ((hy a rfl).trans h)
      · exact .inr ⟨o', (hy a rfl).trans h⟩
  · exact key (fun _ => none) (fun b o e => by cases e) (fun b o e => by cases e) (.inr hs)
/-- what is told of the tables of some defs -/
def TabsFor (xs : List Str) (K : Frg) (h : Heap) : Prop := ∀ x ∈ xs, ∀ c P, PySem.W.tabIn K x = some (c, P) → PySem.W.CodeHd h c P ∧ h.get? P = some { cls := .none, data := .fields #[] }
theorem walk_tabs {l : PySem.W.OpenLaw} {n k : Nat} {q : Program} {loose : List Str} {XP : (Str → Option Value) → Heap → Prop} {YP : World → Heap → Prop} {d : DefRec} {K : Params → Frg} {x : Str} (xs : List Str)
    (hn : l.most = some n) (hn2 : n ≤ sizeLine) (hdf : d.params.defaults = []) (hr : Room k callerA) (hrec : xs.all (fun y => ((recsOf q).find? fun e => e.name == y).isSome) = true) (hY : ∀ (w : World) (h : Heap), YP w h → (K w.params).In h)
    (F : ∀ (w : World) (mg : Str → Option Value) (fa : Addr) (h : Heap), (K w.params).In h → h.Ns mainGlobals mg → mg d.name = some (.ref fa) → TabsFor xs (K w.params) h → LawAtS l w (K w.params) CX0 k n x mg fa h) :
    PySem.W.WalkO q loose XP YP l.row.toRowW d [] (fun f vs => PySem.call f vs) := by
  refine Att.attach_callB hn hdf fun w s₀ s₁ mg mb fa o pm cd doc a vs ns G Y ho hd hcd hmg hobj hints hlen hbits hg => ?_
  have KX := hY w _ Y
  have tf : TabsFor xs (K w.params) s₁.heap := fun y hy c P ht => by
    have h1 := List.all_eq_true.mp hrec y hy
    cases hf : (recsOf q).find? fun e => e.name == y with
    | none => rw [hf] at h1; cases h1
    | some dN => exact PySem.W.tab_of G.T KX hf ht
  obtain ⟨fd, cs, sp, hT, nT, C, hb, hsp, hF⟩ := F w mg fa _ KX G.T.g hmg tf
  exact law_callTs KX G.T.g G.T.b G.T.builtins G.T.nolimit hg hT nT C G.T.bmain hobj hints (Nat.le_trans hlen hn2) hr hF hb (fun H hH hS => hsp H a ns hlen hbits hH hS) fun H e s' z => z
end Dw

/-! # dict(pairs), d.get(k) -/
namespace Dw
open PySem PySem.Spec L2 LamX PyProof.Rows
abbrev rDictP (K : Frg) : List V → Hp → VK → Prop := fun xs H Q => ∃ (a : Addr) (ps : List Addr) (kvs : List (Key × V)), xs = [.ref a] ∧ SqL K H a (ps.map V.ref) ∧ Paired (fun p kv => SqT K H p [kV kv.1, kv.2]) ps kvs ∧
    ∀ p, H p = none → Q (.ref p) (upd H p (.dK (mergeK [] kvs)))
theorem kdictP {X : Cx} (K : Frg) (hc : X.calm = true := by rfl) (h : X.K = K := by rfl) : CallR X (.type "dict") (rDictP K) := h ▸ call_dictP hc
theorem mergeK_new : ∀ (more acc : List (Key × V)), ((acc ++ more).map (·.1)).Nodup → mergeK acc more = acc ++ more
  | [], acc, _ => by simp [mergeK]
  | p :: more, acc, h => by
    have h1 : valV acc p.1 = none := by
      unfold valV
      rw [List.find?_eq_none.mpr fun q hq => ?_]
      · rfl
      · simp only [decide_eq_true_eq]
        intro e
        rw [List.map_append, List.map_cons] at h
        exact (List.nodup_append.mp h).2.2 q.1 (List.mem_map.mpr ⟨q, hq, rfl⟩) p.1 List.mem_cons_self e
    show mergeK (putK acc p.1 p.2) more = _
    rw [putK_new _ h1, mergeK_new more (acc ++ [(p.1, p.2)]) (by simpa using h)]
    simp
theorem pairs_dq {K : Frg} {G : Hp} : ∀ {xs : List V} {ps : List (Int × Int)}, DqAll K G xs (ps.map fun p => .tuple [.int p.1, .int p.2]) → ∃ as : List Addr, xs = as.map V.ref ∧ Paired (fun (a : Addr) (p : Int × Int) => G a = some (.tup [.int p.1, .int p.2])) as ps
  | [], [], _ => ⟨[], rfl, .nil⟩
  | [], _ :: _, h => by cases h
  | _ :: _, [], h => by cases h
  | v :: xs, p :: ps, h => by
    rw [List.map_cons] at h
    cases h with
    | cons h t =>
      obtain ⟨as, rfl, hp⟩ := pairs_dq t
      obtain ⟨a, ys, rfl, h1, h2⟩ := rp_tup (K := K) (G := G) (v := v) h
      cases h2 with
      | cons e1 t1 =>
        cases t1 with
        | cons e2 t2 =>
          cases t2
          cases e1
          cases e2
          exact ⟨a :: as, rfl, .cons h1 hp⟩
section
variable {K : Frg} {G0 : Hp} {ρ : Rho} {μ : Mu} {Q : PV → Mu → Prop}
theorem wc_dictP {ps : List (Int × Int)} (hn : (ps.map (·.1)).Nodup) (q : ∀ p, μ p = none → Q (.o p) (mset μ p (.dk (ps.map fun p => (Sum.inl p.1, PV.i p.2))))) : Wc K G0 (rDictP K) [.l (ps.map fun p => .tuple [.int p.1, .int p.2])] μ Q := fun vs G H e rl S R k => by
  obtain ⟨v, rfl, rv⟩ := rl1 rl
  obtain ⟨a, xs, rfl, h1, h2⟩ := rp_lst rv
  obtain ⟨as, rfl, hp⟩ := pairs_dq h2
  refine ⟨a, as, ps.map fun p => ((Sum.inl p.1 : Key), V.int p.2), rfl, .inl (.inl (S.sub _ _ h1)), ?_, fun p hpn => ?_⟩
  · clear h1 h2 rv rl hn q
    induction hp with
    | nil => exact .nil
    | cons h _ ih => exact .cons (.inl (.inl (S.sub _ _ h))) ih
  · rw [mergeK_new _ [] (by
      rw [List.nil_append, List.map_map, show ((fun kv : Key × V => kv.1) ∘ fun p : Int × Int => ((Sum.inl p.1 : Key), V.int p.2)) = (fun n : Int => (Sum.inl n : Key)) ∘ Prod.fst from rfl, ← List.map_map]
      exact List.pairwise_map.mpr (hn.imp fun h e => h (Sum.inl.inj e))), List.nil_append]
    refine k _ G _ (.o p) _ (Same.refl _) rfl (S.new (m := .dk _) hpn ⟨_, rfl, ?_⟩) (q p (S.mfree hpn))
    clear h1 h2 rv rl hn q hp
    induction ps with
    | nil => exact .nil
    | cons p ps ih => exact .cons ⟨rfl, mk_int _⟩ ih
theorem we_dget1 {td ty : TE} (h : We K G0 td ρ μ fun x μ1 => ∃ a kvs, x = .o a ∧ μ1 a = some (.dk kvs) ∧ We K G0 ty ρ μ1 fun y μ2 => ∃ kvs2 k, y = kP k ∧ μ2 a = some (.dk kvs2) ∧ Q ((valP kvs2 k).getD .n) μ2) : We K G0 (tDGet1 td ty) ρ μ Q := fun σ G H e rs S R k =>
  h σ G H e rs S _ fun v G1 H1 x μ1 e1 rv S1 ⟨a, kvs, hx, hm, q1⟩ => by
    subst hx
    cases (show v = .ref a from rv)
    obtain ⟨hg, o, ho, vs, hvs, rl⟩ := S1.mu a _ hm
    subst hvs
    refine ⟨a, rfl, .inl ⟨_, .inl ho⟩, q1 σ G1 H1 (e.trans e1) (rs.ext e1) S1 _ fun w G2 H2 y μ2 e2 rw S2 ⟨kvs2, kk, hy, hm2, q⟩ => ?_⟩
    subst hy
    cases kP_rel rw
    obtain ⟨hg2, o2, ho2, vs2, hvs2, rl2⟩ := S2.mu a _ hm2
    subst hvs2
    refine ⟨_, DGet.k ho2, ?_⟩
    rcases relK_find (k := kk) rl2 with ⟨h3, h4⟩ | ⟨y, u, h3, h4, h5⟩
    · rw [h3] at q
      rw [h4]
      exact k _ G2 H2 _ μ2 (e1.trans e2) mk_non S2 q
    · rw [h3] at q
      rw [h4]
      exact k _ G2 H2 _ μ2 (e1.trans e2) h5 S2 q
end
end Dw

/-! # what is good for all shapes comes to the same -/
namespace Sc
open PySem L2 PyProof.Rows Dw
theorem looks_of {ahead : List Int} : ∀ (n : Nat) (e : Ex), ExOk ahead n e → ∀ x ∈ looksE e, x ∈ ahead
  | 0, .num _, _, x, hx => by cases hx
  | 0, .say _, _, x, hx => by cases hx
  | 0, .slot n, h, x, hx => by
    have : x = n := by simpa [looksE] using hx
    subst this
    exact h.2
  | 0, .plus _ _, h, _, _ => by cases h
  | n + 1, .num _, _, x, hx => by cases hx
  | n + 1, .say _, _, x, hx => by cases hx
  | n + 1, .slot m, h, x, hx => by
    have : x = m := by simpa [looksE] using hx
    subst this
    exact h.2
  | n + 1, .plus a b, h, x, hx => by
    rcases List.mem_append.mp hx with hx | hx
    · exact looks_of n a h.1 x hx
    · exact looks_of n b h.2 x hx
theorem lookW_app {ws r : List (Int × Int)} {n : Int} (h : n ∈ ws.map (·.1)) : lookW (ws ++ r) n = lookW ws n := by
  unfold lookW
  rw [List.find?_append]
  cases hf : ws.find? (fun p => decide (p.1 = n)) with
  | some p => rfl
  | none =>
    exfalso
    obtain ⟨p, hp, e⟩ := List.mem_map.mp h
    have := List.find?_eq_none.mp hf p hp
    simp [e] at this
theorem lookW_new {ws r : List (Int × Int)} {n v : Int} (h : n ∉ ws.map (·.1)) : lookW (ws ++ (n, v) :: r) n = v := by
  unfold lookW
  rw [List.find?_append, List.find?_eq_none.mpr fun p hp => by
    simp only [decide_eq_true_eq]
    exact fun e => h (List.mem_map.mpr ⟨p, hp, e⟩)]
  simp
theorem valE_congr {ws ws' : List (Int × Int)} : ∀ e : Ex, (∀ x ∈ looksE e, lookW ws x = lookW ws' x) → valE ws e = valE ws' e
  | .num _, _ => rfl
  | .say _, _ => rfl
  | .slot n, h => h n (by simp [looksE])
  | .plus a b, h => by
    show valE ws a + valE ws b = valE ws' a + valE ws' b
    rw [valE_congr a fun x hx => h x (List.mem_append_left _ hx), valE_congr b fun x hx => h x (List.mem_append_right _ hx)]
theorem goW_ext (nums : List Int) : ∀ (l : List (Slot × Option Nat)) (st : List (Int × Int) × List Int), ∃ r, (goW nums l st).1 = st.1 ++ r
  | [], st => ⟨[], by simp [goW]⟩
  | p :: l, st => by
    obtain ⟨r, h⟩ := goW_ext nums l (stepW nums p.1 p.2 st)
    obtain ⟨s, o⟩ := p
    cases o with
    | none => exact ⟨[_] ++ r, by rw [goW, h, ← List.append_assoc]; rfl⟩
    | some k => exact ⟨[_] ++ r, by rw [goW, h, ← List.append_assoc]; rfl⟩
def wthO (nums : List Int) (W : List (Int × Int)) (s : Slot) : Option Nat → Int
  | some i => numK nums i
  | none => valE W (dfE s)
theorem worth_at {f : Face} (hf : f.Ok) {nums said : List Int} {a : List (Option Nat)} (hl : a.length = f.slots.length) {k : Nat} {s : Slot} (hk : f.slots[k]? = some s) {o : Option Nat} (ho : a[k]? = some o) :
    lookW (goW nums (f.slots.zip a) ([], said)).1 s.name = wthO nums (goW nums (f.slots.zip a) ([], said)).1 s o := by
  obtain ⟨hkl, hks⟩ := List.getElem?_eq_some_iff.mp hk
  have hSl := hf.each k hkl
  rw [hks] at hSl
  have hz : (f.slots.zip a)[k]? = some (s, o) := List.getElem?_zip_eq_some.mpr ⟨hk, ho⟩
  obtain ⟨hzl, hzs⟩ := List.getElem?_eq_some_iff.mp hz
  have hsp : f.slots.zip a = (f.slots.zip a).take k ++ (s, o) :: (f.slots.zip a).drop (k + 1) := by
    conv => lhs; rw [← List.take_append_drop k (f.slots.zip a), List.drop_eq_getElem_cons hzl, hzs]
  have hkeys : (goW nums ((f.slots.zip a).take k) ([], said)).1.map (·.1) = (f.slots.take k).map (·.name) := by
    rw [goW_keys, List.map_nil, List.nil_append]
    have : (f.slots.zip a).map (fun p => p.1.name) = f.slots.map (·.name) := by
      rw [show (fun p : Slot × Option Nat => p.1.name) = (fun s : Slot => s.name) ∘ Prod.fst from rfl, ← List.map_map, List.map_fst_zip (by omega)]
    rw [List.map_take, this, List.map_take]
  have hnew : s.name ∉ (goW nums ((f.slots.zip a).take k) ([], said)).1.map (·.1) := by
    rw [hkeys]
    intro h
    obtain ⟨t, ht, e⟩ := List.mem_map.mp h
    exact hSl.nw t ht e
  have hW : goW nums (f.slots.zip a) ([], said) = goW nums ((f.slots.zip a).drop (k + 1)) (stepW nums s o (goW nums ((f.slots.zip a).take k) ([], said))) := by
    conv => lhs; rw [hsp]
    rw [goW_app]
    rfl
  obtain ⟨r, hr⟩ := goW_ext nums ((f.slots.zip a).drop (k + 1)) (stepW nums s o (goW nums ((f.slots.zip a).take k) ([], said)))
  rw [hW, hr]
  generalize goW nums ((f.slots.zip a).take k) ([], said) = st at hkeys hnew
  cases o with
  | some i =>
    show lookW (st.1 ++ [(s.name, numK nums i)] ++ r) s.name = numK nums i
    rw [List.append_assoc]
    exact lookW_new hnew
  | none =>
    show lookW (st.1 ++ [(s.name, valE st.1 (dfE s))] ++ r) s.name = valE (st.1 ++ [(s.name, valE st.1 (dfE s))] ++ r) (dfE s)
    rw [List.append_assoc]
    refine (lookW_new hnew).trans (valE_congr _ fun x hx => (lookW_app ?_).symm)
    rw [hkeys]
    unfold dfE at hx
    cases hd : s.dflt with
    | none => rw [hd] at hx; cases hx
    | some e =>
      rw [hd] at hx
      exact looks_of 1 e (hSl.df e hd) x hx
theorem worth_same {old new : Face} (ho : old.Ok) (hn : new.Ok) {nums said said' : List Int} {a a' : List (Option Nat)} (la : a.length = old.slots.length) (la' : a'.length = new.slots.length)
    (hg : ∀ (k : Nat) (s : Slot) (o : Option Nat), old.slots[k]? = some s → a[k]? = some o → ∃ (j : Nat) (t : Slot), new.slots[j]? = some t ∧ t.name = s.name ∧ a'[j]? = some o ∧ (o = none → t.dflt = s.dflt)) :
    ∀ (k : Nat) (s : Slot), old.slots[k]? = some s → lookW (goW nums (new.slots.zip a') ([], said')).1 s.name = lookW (goW nums (old.slots.zip a) ([], said)).1 s.name := by
  intro k
  induction k using Nat.strongRecOn with
  | ind k ih =>
    intro s hk
    obtain ⟨hkl, hks⟩ := List.getElem?_eq_some_iff.mp hk
    have hka : k < a.length := by omega
    obtain ⟨j, t, hj, hjn, hja, hjd⟩ := hg k s a[k] hk (List.getElem?_eq_getElem hka)
    rw [worth_at ho la hk (List.getElem?_eq_getElem hka), ← hjn, worth_at hn la' hj hja]
    have hSl := ho.each k hkl
    rw [hks] at hSl
    cases hak : a[k] with
    | some i => rfl
    | none =>
      have hdd := hjd hak
      show valE _ (dfE t) = valE _ (dfE s)
      rw [show dfE t = dfE s by unfold dfE; rw [hdd]]
      refine valE_congr _ fun x hx => ?_
      unfold dfE at hx
      cases hd : s.dflt with
      | none => rw [hd] at hx; cases hx
      | some e =>
        rw [hd] at hx
        obtain ⟨u, hu, rfl⟩ := List.mem_map.mp (looks_of 1 e (hSl.df e hd) x hx)
        obtain ⟨i, hi⟩ := List.mem_iff_getElem?.mp hu
        rw [List.getElem?_take] at hi
        split at hi
        · rename_i hik
          exact ih i hik u hi
        · cases hi
theorem cnt_nms : ∀ names : List (Option Int), cntN names + (nmsN names).length = names.length
  | [] => rfl
  | none :: r => by
    have := cnt_nms r
    simp only [cntN, nmsN, List.countP_cons, List.length_cons] at this ⊢
    simp at this ⊢
    omega
  | some n :: r => by
    have := cnt_nms r
    simp only [cntN, nmsN, List.countP_cons, List.length_cons] at this ⊢
    simp at this ⊢
    omega
theorem nms_in {names : List (Option Int)} {n : Int} (h : n ∈ nmsN names) : some n ∈ names := by
  unfold nmsN at h
  simpa using h
/-- where nothing breaks every list of names is good -/
theorem good_all {old new : Face} (ho : old.Ok) (hn : new.Ok) (hb : brokenP old new = none) {names : List (Option Int)} (hl : names.length ≤ 10) (h10 : ∀ n, some n ∈ names → 0 ≤ n ∧ n < 10) : isGood old new names = true := by
  rw [← Bool.not_eq_false]
  intro h
  have hB := (good_false ho hn).mp h
  have hp : (nmsN names).Perm (srt (nmsN names)) := (srt_perm _).symm
  have hB' := hB.perm hp
  refine hB'.2 ((none_iff ho hn).mp hb _ _ (rising_of (srt_sorted _) (hp.nodup_iff.mp hB.1.nd)) (fun n hn => h10 n (nms_in (hp.mem_iff.mpr hn))) ?_ hB'.1)
  rw [← hp.length_eq]
  have := cnt_nms names
  omega
/-- a shape that breaks fits the old face and is not good -/
theorem bad_shape {old new : Face} (ho : old.Ok) (hn : new.Ok) {m : Nat} {nm : List Int} (hb : brokenP old new = some (m, nm)) : isFit (lawMatched old (shapeN m nm)) = true ∧ isGood old new (shapeN m nm) = false ∧ m + nm.length ≤ 10 ∧ InTen nm := by
  have h := ((brokenP_least ho hn).yes _ hb).1
  refine ⟨?_, ?_, h.len, h.ten⟩
  · rw [fit_iffS, cnt_shape, nms_shape]; exact h.bad.1
  · rw [good_false ho hn, cnt_shape, nms_shape]; exact h.bad
/-- what is good comes to the same -/
theorem good_same {old new : Face} (ho : old.Ok) (hn : new.Ok) {names : List (Option Int)} (h : isGood old new names = true) {a : List (Option Nat)} {b : List Nat} {m : List (Int × Nat)} (hf : lawMatched old names = .fits a b m) :
    ∃ a', lawMatched new names = .fits a' b m ∧ ∀ (nums said said' : List Int) (k : Nat) (s : Slot), old.slots[k]? = some s → s.name ∈ new.slots.map (·.name) ∧ lookW (goW nums (new.slots.zip a') ([], said')).1 s.name = lookW (goW nums (old.slots.zip a) ([], said)).1 s.name := by
  unfold isGood at h
  rw [hf] at h
  cases h2 : lawMatched new names with
  | clash c => rw [h2] at h; cases h
  | fits a' b' m' =>
    rw [h2] at h
    simp only [Bool.and_eq_true, decide_eq_true_eq] at h
    obtain ⟨⟨rfl, rfl⟩, h3⟩ := h
    have la := (fits_of hf).len
    have la' := (fits_of h2).len
    have hg : ∀ (k : Nat) (s : Slot) (o : Option Nat), old.slots[k]? = some s → a[k]? = some o → ∃ (j : Nat) (t : Slot), new.slots[j]? = some t ∧ t.name = s.name ∧ a'[j]? = some o ∧ (o = none → t.dflt = s.dflt) := fun k s o hk hko =>
      (slotGood_iff hn).mp ((all_zip la).mp h3 k s o hk hko)
    refine ⟨a', rfl, fun nums said said' k s hk => ⟨?_, worth_same ho hn la la' hg k s hk⟩⟩
    have hkl := (List.getElem?_eq_some_iff.mp hk).1
    obtain ⟨j, t, hj, hjn, _, _⟩ := hg k s a[k] hk (List.getElem?_eq_getElem (by omega))
    exact List.mem_map.mpr ⟨t, List.mem_of_getElem? hj, hjn⟩
end Sc

/-! # max(xs, default=d), whole numbers -/
namespace Dw
open PySem PySem.Spec L2 LamX PyProof.Rows
/-- the greatest of ns, d if there is none -/
def maxL (d : Int) : List Int → Int
  | [] => d
  | n :: ns => ns.foldl max n
def rMaxDf (K : Frg) : List V → List V → Hp → VK → Prop := fun vs zs H Q => ∃ (a : Addr) (ns : List Int) (d : Int), vs = [.ref a] ∧ zs = [.int d] ∧ SqL K H a (ns.map V.int) ∧ Q (.int (maxL d ns)) H
theorem cr_maxDf {X : Cx} (hc : X.calm = true) (hu : X.A.units + 1 < cLine) : L2.CallRK X (.builtin "max") ["default"] (rMaxDf X.K) := by
  intro pins s σ H xs zs us ws Q I r1 r2 h
  obtain ⟨a, ns, d, rfl, rfl, hl, q⟩ := h
  obtain rfl := Vals.ref1 r1
  obtain ⟨w1, rfl, t, rfl⟩ : ∃ w1, ws = [w1] ∧ ∃ t, w1 = .int d t := by
    obtain ⟨u, eu, ru⟩ := vals1 r2
    exact ⟨u, eu, ru⟩
  obtain ⟨its, rv, pl, _⟩ := I.list hl
  have hi : IntsAre its.toArray.toList ns := by simpa using ints_of_vals rv
  show wpAny _ _ (call (.builtin "max") [.ref a] [(Str.ofString "default", .int d t)]) _ _ _
  refine PySem.W.max_list_default (I.ok.hd hc) pl.isList (ints_readAll s.heap hi) ⟨fun x hx y hy => ?_, fun x hx => ?_⟩ (by rw [depthAll_ints]; exact hu) (fun e h' tk kp => ?_) (fun y ys i v h' tk bs e hv hr kp => ?_)
  · obtain ⟨n, _, rfl⟩ := List.mem_map.mp hx
    obtain ⟨m, _, rfl⟩ := List.mem_map.mp hy
    rfl
  · obtain ⟨n, _, rfl⟩ := List.mem_map.mp hx
    exact fun e => by cases e
  · rw [List.map_eq_nil_iff] at e
    subst e
    exact ⟨.int d, H, I.kept kp, ⟨t, rfl⟩, q⟩
  · cases ns with
    | nil => cases e
    | cons n ns =>
      rw [List.map_cons] at e
      cases e
      rw [PySem.W.maxD_ints] at hr
      cases hr
      exact ⟨.int _, H, I.kept kp, ⟨_, rfl⟩, q⟩
theorem kmaxDf {X : Cx} (K : Frg) (hu : X.A.units + 1 < cLine) (hc : X.calm = true := by rfl) (h : X.K = K := by rfl) : L2.CallRK X (.builtin "max") ["default"] (rMaxDf K) := h ▸ cr_maxDf hc hu
section
variable {K : Frg} {G0 : Hp} {ρ : Rho} {μ : Mu} {Q : PV → Mu → Prop}
theorem we_ckw {r : List V → List V → Hp → VK → Prop} {t tk : TA} (h : Wa K G0 t ρ μ fun xs μ1 => Wa K G0 tk ρ μ1 fun zs μ2 => ∀ vs us G H, Same G0 G → RelL K G vs xs → RelL K G us zs → Sep K G μ2 H → ∀ R : VK, (∀ v G' H' x μ', Same G G' → RelP K G' v x → Sep K G' μ' H' → Q x μ' → R v H') → r vs us H R) : We K G0 (L2.tCKw r t tk) ρ μ Q := fun σ G H e rs S R k =>
  h σ G H e rs S _ fun vs G1 H1 xs μ1 e1 rv S1 q1 => q1 σ G1 H1 (e.trans e1) (rs.ext e1) S1 _ fun us G2 H2 zs μ2 e2 ru S2 q2 =>
    q2 vs us G2 H2 (e.trans (e1.trans e2)) (rv.ext e2) ru S2 R fun v G' H' x μ' e' rv' S' q' => k v G' H' x μ' ((e1.trans e2).trans e') rv' S' q'
theorem we_maxDf {t tk : TA} (h : Wa K G0 t ρ μ fun xs μ1 => Wa K G0 tk ρ μ1 fun zs μ2 => ∃ (ns : List Int) (d : Int), xs = [.l (ns.map .int)] ∧ zs = [.i d] ∧ Q (.i (maxL d ns)) μ2) : We K G0 (L2.tCKw (rMaxDf K) t tk) ρ μ Q := fun σ G H e rs S R k =>
  h σ G H e rs S _ fun vs G1 H1 xs μ1 e1 rv S1 q1 => q1 σ G1 H1 (e.trans e1) (rs.ext e1) S1 _ fun us G2 H2 zs μ2 e2 ru S2 ⟨ns, d, hx, hz, q⟩ => by
    subst hx; subst hz
    obtain ⟨v, rfl, rv'⟩ := rl1 (rv.ext e2)
    obtain ⟨a, xs, rfl, h1, h2⟩ := rp_lst rv'
    cases dq_ints h2
    obtain ⟨u, rfl, ru'⟩ := rl1 ru
    cases rp_int ru'
    exact ⟨a, ns, d, rfl, rfl, .inl (.inl (S2.sub _ _ h1)), k _ G2 H2 _ μ2 (e1.trans e2) (mk_int _) S2 q⟩
end
end Dw

/-! # try .. except C as e, the body a call; isinstance of e; lists that grow -/
namespace Dw
open PySem PySem.Spec L2 LamX PyProof.Rows
theorem takes0 {X : Cx} : Takes X (fun _ _ _ _ => False) := fun _ _ ⟨_, _, _, _, _, _, _, _, _, _, _, _, _, _, _, _, w⟩ => w.elim
section
variable {X : Cx} {x : Str} {p pos : Pos} {e : Expr} {es : List Expr} {t : TA} {k j : Nat} {ps : List Str} {sp : Sp}
theorem pe_calS {W : WX} (C : Cal X.prog X.w X.K X.mg X.base (L2.CX X.prog X.w) k x ps sp) (hr : Room j X.A) (tk : Takes X W) (ha : PA X (e :: es) t) (hk : k ≤ j := by first | decide | omega) (hg : Gl X x := by rfl) (hdb : (x == ("__debug__" : Str)) = false := by decide)
    (he : starEach (e :: es) X.env = (false, eval e X.env) :: starEach es X.env := by rfl) (hpl : (backTo pos (starEach es X.env)).any (·.1) = false := by rfl) : PE X (.Call (.Name x p) (e :: es) [] pos) (tCallS sp (WE W) t) := by
  obtain ⟨f, fd, gl, kp, bn, G⟩ := C.ex
  exact pe_callS G (hr.mono hk) hg gl kp bn (fun σ => passAt tk σ) ha hdb he hpl
end
/-- the suite of a clause: the exception is of one of the classes S -/
def tsX (S : List Addr) (t : Addr → Addr → TS) : Addr → Value → Option Addr → TS := fun a cls d E σ H => ∃ D, cls = .ref D ∧ d = none ∧ D ∈ S ∧ t D a E σ H
theorem tsX_ok {X : Cx} {S : List Addr} {t : Addr → Addr → TS} {a : Addr} {cls : Value} {d : Option Addr} {ss : List Stmt} (h : ∀ D, D ∈ S → cls = .ref D → d = none → PSs X ss (t D a)) : PSs X ss (tsX S t a cls d) :=
  ⟨fun pins s σ H D I ⟨D', h1, h2, h3, h4⟩ => (h D' h3 h1 h2).run pins s σ H D I h4⟩
section
variable {K : Frg} {G0 : Hp} {ρ : Rho} {μ : Mu} {De : DE} {Q : PV → Mu → Prop}
theorem ws_tsX {S : List Addr} {t : Addr → Addr → TS} {a C : Addr} (hC : C ∈ S) (h : Ws K G0 (t C a) ρ μ De) : Ws K G0 (tsX S t a (.ref C) none) ρ μ De := fun σ G H e rs S D kn kr kb kc =>
  ⟨C, rfl, rfl, hC, h σ G H e rs S D kn kr kb kc⟩
def asE (i : Nat) (De : DE) : DE := { nx := fun ρ' μ' => De.nx (ρ'.set i none) μ', rt := De.rt, bk := fun ρ' μ' => De.bk (ρ'.set i none) μ', ct := fun ρ' μ' => De.ct (ρ'.set i none) μ' }
theorem ws_tryRet {α : Type} {inp : α → List PV} {pre : α → Mu → Prop} {post : α → Mu → PV → Mu → Prop} {exn : α → Mu → Addr → Mu → Prop} {t : TA} {c : Value} {i : Nat} {ts : Addr → Value → Option Addr → TS} {Wout : WX}
    (h : Wa K G0 t ρ μ fun xs μ1 => ∃ a, xs = inp a ∧ pre a μ1 ∧ (∀ x μ2, post a μ1 x μ2 → De.rt x μ2) ∧ ∀ C μ2, exn a μ1 C μ2 → PySem.W.exmOne K (.ref C) c = some true ∧ ∀ ad, Ws K G0 (ts ad (.ref C) none) (ρ.set i (some (.o ad))) μ2 (asE i De)) :
    Ws K G0 (fun D σ H => (fun W => tRet (tCallS (SpX K inp pre post exn) (WE W) t)) (wAs K c i ts Wout D) D σ H) ρ μ De := fun σ G H e rs S D kn kr kb kc =>
  h σ G H e rs S _ fun vs G1 H1 xs μ1 e1 rl S1 ⟨a, hx, hp, hq, hn⟩ => by
    subst hx
    refine ⟨G1, μ1, a, rl, S1, hp, fun v G' H' x μ' e' r S' ps => kr v G' H' x μ' (e1.trans e') r S' (hq x μ' ps), fun C G' H' μ' e' S' xn => ?_⟩
    obtain ⟨hm, hw⟩ := hn C μ' xn
    refine ⟨true, hm, fun _ ad ha => ?_, fun h => (nomatch h)⟩
    have rs' := RelS.set (v := some (.ref ad)) (x := some (.o ad)) (show RelP K G' (.ref ad) (.o ad) from rfl) i ((rs.ext e1).ext e')
    refine hw ad _ G' H' (e.trans (e1.trans e')) rs' S' _ (fun σ2 G2 H2 ρ2 μ2 e2 rs2 S2 q => ?_) (fun v2 G2 H2 x2 μ2 e2 rv2 S2 q => kr v2 G2 H2 x2 μ2 ((e1.trans e').trans e2) rv2 S2 q) (fun σ2 G2 H2 ρ2 μ2 e2 rs2 S2 q => ?_) (fun σ2 G2 H2 ρ2 μ2 e2 rs2 S2 q => ?_)
    · exact kn _ G2 H2 _ μ2 ((e1.trans e').trans e2) (RelS.set (v := none) (x := none) trivial i rs2) S2 q
    · exact kb _ G2 H2 _ μ2 ((e1.trans e').trans e2) (RelS.set (v := none) (x := none) trivial i rs2) S2 q
    · exact kc _ G2 H2 _ μ2 ((e1.trans e').trans e2) (RelS.set (v := none) (x := none) trivial i rs2) S2 q
theorem wc_isE {D a C : Addr} {b : Bool} (hb : PySem.W.kitOne K (.ref D) (.ref C) = some b) (q : Q (.b b) μ) : Wc K G0 (rIsE K D a) [.o a, .o C] μ Q := fun vs G H e rl S R k => by
  obtain ⟨v, w, rfl, rv, rw⟩ := rl2 rl
  cases (show v = .ref a from rv)
  cases (show w = .ref C from rw)
  exact ⟨.ref C, .ref C, b, rfl, fun u hu => hu, hb, k _ G H _ μ (Same.refl _) (mk_bl _) S q⟩
theorem wc_isT {D a : Addr} {T : String} {b : Bool} (hb : PySem.W.kitOne K (.ref D) (.type T) = some b) (q : Q (.b b) μ) : Wc K G0 (rIsE K D a) [.o a, .ty T] μ Q := fun vs G H e rl S R k => by
  obtain ⟨v, w, rfl, rv, rw⟩ := rl2 rl
  cases (show v = .ref a from rv)
  cases (show w = .ty T from rw)
  exact ⟨.ty T, .type T, b, rfl, fun u hu => hu, hb, k _ G H _ μ (Same.refl _) (mk_bl _) S q⟩
/-! a list that grows, a list behind it -/
theorem wm_extend {a : Addr} {xs : List PV} {ds : List PyData} (hm : μ a = some (.lst xs)) (hl : xs.length + ds.length ≤ 100000) (q : Q .n (mset μ a (.lst (xs ++ ds.map .d)))) : Wm K G0 rExtend (.o a) [.l ds] μ Q := fun v vs G H e rv rl S R k => by
  cases (show v = .ref a from rv)
  obtain ⟨u, rfl, ru⟩ := rl1 rl
  obtain ⟨b, zs, rfl, h1, h2⟩ := rp_lst ru
  obtain ⟨hg, o, ho, ws, hvs, rw⟩ := S.mu a _ hm
  subst hvs
  exact ⟨a, b, ws, zs, rfl, rfl, ho, S.sub _ _ h1, sz_le (by rw [rw.length, dqa_len h2]; exact hl), k _ G _ _ _ (Same.refl _) mk_non (S.put (m := .lst (xs ++ ds.map .d)) hm ⟨_, rfl, paired_app rw (relL_of h2)⟩) q⟩
theorem w2_catM {a : Addr} {xs : List PV} {es : List PyData} (hm : μ a = some (.lst xs)) (hl : xs.length + es.length ≤ 100000) (q : ∀ p, μ p = none → Q (.o p) (mset μ p (.lst (xs ++ es.map .d)))) : W2 K G0 rCat (.o a) (.l es) μ Q := fun v w G H e rv rw S R k => by
  cases (show v = .ref a from rv)
  obtain ⟨hg, o, ho, ws, hvs, rws⟩ := S.mu a _ hm
  subst hvs
  obtain ⟨b, ys, rfl, h3, h4⟩ := rp_lst rw
  refine ⟨a, b, ws, ys, rfl, rfl, ho, S.sub _ _ h3, sz_le (by rw [rws.length, dqa_len h4]; exact hl), fun p hp => ?_⟩
  exact k _ G _ (.o p) _ (Same.refl _) rfl (S.new (m := .lst (xs ++ es.map .d)) hp ⟨ws ++ ys, rfl, paired_app rws (relL_of h4)⟩) (q p (S.mfree hp))
/-- a two-name comprehension with a test -/
theorem we_lcTA {α : Type} {wi : TI} {tt : TT} {te : TE} {i j : Nat} (l : List α) (e1 e2 : α → PyData) (p : α → Bool) (g : α → PyData) (h : Wi K G0 wi ρ μ fun xs C μ1 => xs = l.map (fun a => PV.t [e1 a, e2 a]) ∧ l.length ≤ 99999 ∧ (∀ μ', Sub μ1 μ' → C μ') ∧
      (∀ a ∈ l, ∀ μ', Sub μ1 μ' → Wt K G0 tt (((wipeD ρ [i, j]).set i (some (.d (e1 a)))).set j (some (.d (e2 a)))) μ' fun b μ2 => Sub μ' μ2 ∧ b = p a ∧ (p a = true → We K G0 te (((wipeD ρ [i, j]).set i (some (.d (e1 a)))).set j (some (.d (e2 a)))) μ2 fun y μ3 => Sub μ' μ3 ∧ y = .d (g a))) ∧
      Q (.l ((l.filter p).map g)) μ1) : We K G0 (tLc wi (gTup K 2 (gCons (gName i) (gCons (gName j) gNil))) tt te [i, j]) ρ μ Q := by
  refine we_freeze (we_lcI (l.map fun a => if p a = true then some (g a) else none) (hw_tup2 (by simp) (by simp)) ?_)
  refine fun σ G H e rs S R k => h σ G H e rs S R fun J G' H' xs C μ' e' it S' ⟨hx, hl, hC, hs, hq⟩ => k J G' H' xs C μ' e' it S' ?_
  subst hx
  refine ⟨by rw [List.length_map, List.length_map], by rw [List.length_map]; exact hl, hC, ?_, fun D hD => ⟨D, _, rfl, mset_same, ?_⟩⟩
  · intro n x o hx ho μ1 hs1
    rw [List.getElem?_map] at hx ho
    cases ha : l[n]? with
    | none => rw [ha] at hx; cases hx
    | some a =>
      rw [ha] at hx ho
      cases hx; cases ho
      refine wg_tup2 (wgs_cons (wg_name (wgs_cons (wg_name (wgs_nil ?_)))))
      refine ⟨Sub.refl _, ?_⟩
      intro σ4 G4 H4 e4 rs4 S4 R4 k4
      refine hs a (List.mem_of_getElem? ha) μ1 hs1 σ4 G4 H4 e4 rs4 S4 R4 fun b G5 H5 μ5 e5 S5 ⟨h1, h2, h3⟩ => k4 b G5 H5 μ5 e5 S5 ⟨h1, fun hb => ?_, fun hb => ?_⟩
      · exact we_mono (h3 (h2 ▸ hb)) fun y μ6 ⟨q1, q2⟩ => ⟨q1, g a, if_pos (h2 ▸ hb), q2⟩
      · exact if_neg (by rw [← h2, hb]; decide)
  · rw [mdel_mset hD, fm_if]
    exact hq
theorem ws_par3 {i j l : Nat} {ta : TA} (h : Wa K G0 ta ρ μ fun xs μ' => ∃ u v w, xs = [u, v, w] ∧ De.nx (((ρ.set i (some u)).set j (some v)).set l (some w)) μ') : Ws K G0 (tPar3 i j l ta) ρ μ De := fun σ G H e rs S D kn kr kb kc =>
  h σ G H e rs S _ fun vs G1 H1 xs μ1 e1 rl S1 ⟨x, y, z, hx, q⟩ => by
    subst hx
    cases rl with
    | cons r1 rl =>
      cases rl with
      | cons r2 rl =>
        cases rl with
        | cons r3 rl =>
          cases rl
          exact ⟨_, _, _, rfl, kn _ G1 H1 _ μ1 e1 (RelS.set (v := some _) (x := some z) r3 l (RelS.set (v := some _) (x := some y) r2 j (RelS.set (v := some _) (x := some x) r1 i (rs.ext e1)))) S1 q⟩
theorem wc_max {ns : List Int} (h0 : 0 < ns.length) (q : ∀ m, m ∈ ns → (∀ y, y ∈ ns → y ≤ m) → Q (.i m) μ) : Wc K G0 (rMax K) [.l (ns.map .int)] μ Q := fun vs G H e rl S R k => by
  obtain ⟨v, rfl, rv⟩ := rl1 rl
  obtain ⟨a, xs, rfl, h1, h2⟩ := rp_lst rv
  cases dq_ints h2
  exact ⟨a, ns, rfl, .inl (.inl (S.sub _ _ h1)), h0, fun m hm hy => k _ G H _ μ (Same.refl _) (mk_int _) S (q m hm hy)⟩
end
theorem kmax {X : Cx} (K : Frg) (hc : X.calm = true := by rfl) (h : X.K = K := by rfl) : CallR X (.builtin "max") (rMax K) := h ▸ cr_max hc
theorem hu1 {A : Around} {k : Nat} (hr : Room k A) : A.units + 1 < cLine := by have := hr.un; omega
end Dw

/-! # what is wanted; which calls come to it -/
namespace Sc
open PySem L2 PyProof.Rows Dw
structure Want where
  worths : List Int
  rest : List Int
  more : List (Int × Int)
def Want.names (w : Want) : List Int := w.more.map (·.1)
def encMo (m : List (Int × Int)) : PyData := .tuple (m.map fun p => .tuple [.int p.1, .int p.2])
def encW (w : Want) : PyData := .tuple [encI w.worths, encI w.rest, encMo w.more]
def fitsW (w : Want) : PyData := .tuple [.str kFits, encI w.worths, encI w.rest, encMo w.more]
structure Want.Ok (f : Face) (w : Want) : Prop where
  len : w.worths.length = f.slots.length
  wo : ∀ x ∈ w.worths, 0 ≤ x ∧ x < 10000
  ris : Rising w.names
  ten : InTen w.names
  re : ∀ x ∈ w.rest, 0 ≤ x ∧ x < 100
  mo : ∀ p ∈ w.more, 0 ≤ p.2 ∧ p.2 < 100
def worthN (f : Face) (w : Want) (n : Int) : Int := match findSlot f n with
  | some k => w.worths.getD k 0
  | none => 0
def tryCall (f : Face) (w : Want) (many : Nat) (nm : List Int) : List Thing :=
  (w.worths.take many ++ w.rest).map (fun x => ⟨none, .num x⟩) ++ (nm.map (fun n => ⟨some n, .num (worthN f w n)⟩) ++ w.more.map (fun p => ⟨some p.1, .num p.2⟩))
def tryNums (f : Face) (w : Want) (many : Nat) (nm : List Int) : List Int := (w.worths.take many ++ w.rest) ++ (nm.map (worthN f w) ++ w.more.map (·.2))
section
variable {f : Face} {w : Want} {many : Nat} {nm : List Int}
theorem try_names (hm : many ≤ w.worths.length) : (tryCall f w many nm).map (·.name) = shapeN (many + w.rest.length) (nm ++ w.names) := by
  unfold tryCall shapeN Want.names
  simp only [List.map_append, List.map_map]
  congr 1
  · rw [← List.map_append, show ((fun t : Thing => t.name) ∘ fun x => (⟨none, .num x⟩ : Thing)) = fun _ => none from rfl, List.map_const', List.length_append, List.length_take, Nat.min_eq_left hm]
theorem try_nums : numsOf (tryCall f w many nm) = tryNums f w many nm := by
  unfold numsOf tryCall tryNums
  simp only [List.map_append, List.map_map]
  congr 1
  · congr 1 <;> exact List.map_id _
theorem try_said : saidOf (tryCall f w many nm) = [] := by
  unfold saidOf
  rw [List.flatten_eq_nil_iff]
  intro l hl
  obtain ⟨t, ht, rfl⟩ := List.mem_map.mp hl
  unfold tryCall at ht
  simp only [List.mem_append, List.mem_map] at ht
  rcases ht with ⟨x, _, rfl⟩ | ⟨x, _, rfl⟩ | ⟨x, _, rfl⟩ <;> rfl
end
/-! ### where the things of a shape go -/
section
variable {f : Face} {M : Nat} {nm : List Int}
theorem shape_at {i : Nat} (hi : i < M) : (shapeN M nm)[i]? = some none := by
  unfold shapeN
  rw [List.getElem?_append_left (by rw [List.length_replicate]; exact hi), List.getElem?_replicate, if_pos hi]
theorem shape_at2 {j : Nat} {n : Int} (hj : nm[j]? = some n) : (shapeN M nm)[M + j]? = some (some n) := by
  unfold shapeN
  rw [List.getElem?_append_right (by rw [List.length_replicate]; omega), List.length_replicate, show M + j - M = j by omega, List.getElem?_map, hj]
  rfl
theorem shape_len : (shapeN M nm).length = M + nm.length := by unfold shapeN; rw [List.length_append, List.length_replicate, List.length_map]
theorem shape_rank {i : Nat} (hi : i ≤ M) : rankN (shapeN M nm) i = i := by
  unfold rankN shapeN
  rw [List.take_append_of_le_length (by rw [List.length_replicate]; exact hi), List.take_replicate, Nat.min_eq_left hi, List.countP_replicate, if_pos (by simp)]
theorem sgoes_place {i : Nat} (hi : i < M) : (goesOf f (shapeN M nm))[i]? = some (if placeK f i = true then .slot i else if f.rest = true then .rest else .over i) := by
  rw [goes_place (shape_at hi), shape_rank (Nat.le_of_lt hi)]
theorem sgoes_name {j : Nat} {n : Int} (hj : nm[j]? = some n) : (goesOf f (shapeN M nm))[M + j]? = some (match slotNamed f n with | some k => .slot k | none => if f.more = true then .more n else .unknown n) := goes_name (shape_at2 hj)
end
/-! ### what must be handed -/
def aheadW (f : Face) (ws : List Int) (k : Nat) : List (Int × Int) := ((f.slots.zip ws).take k).map fun p => (p.1.name, p.2)
def mustK (f : Face) (ws : List Int) (k : Nat) : Bool := match f.slots[k]? with
  | some s => match s.dflt with
    | none => true
    | some e => !decide (valE (aheadW f ws k) e = ws.getD k 0)
  | none => false
structure Feas (f : Face) (w : Want) (many : Nat) (nm : List Int) : Prop where
  r0 : w.rest = [] → many ≤ placesOf f
  r1 : w.rest ≠ [] → many = placesOf f ∧ f.rest = true
  m1 : w.more ≠ [] → f.more = true
  mn : ∀ n ∈ w.names, slotNamed f n = none
  sn : ∀ n ∈ nm, ∃ k, slotNamed f n = some k ∧ many ≤ k
  mu : ∀ k, mustK f w.worths k = true → k < many ∨ nameK f k ∈ nm
section
variable {f : Face} {w : Want} {many : Nat} {nm : List Int}
theorem Feas.le (h : Feas f w many nm) : many ≤ placesOf f := by
  by_cases hr : w.rest = []
  · exact h.r0 hr
  · exact Nat.le_of_eq (h.r1 hr).1
theorem names_nil {w : Want} {n : Int} (h : n ∈ w.names) : w.more ≠ [] := by
  intro e
  unfold Want.names at h
  rw [e] at h
  cases h
theorem Feas.fit (hf : f.Ok) (hw : w.Ok f) (hnd : nm.Nodup) (h : Feas f w many nm) : FitS f (many + w.rest.length) (nm ++ w.names) := by
  have hle := h.le
  refine ⟨fun r hr => ?_, ?_, fun n hn => ?_, fun n hn k hk hc => ?_, fun k s hk hd => ?_⟩
  · by_cases he : w.rest = []
    · rw [he] at hr
      exact .inl ((places_iff hf r).mp (by simp at hr; omega))
    · exact .inr (h.r1 he).2
  · rw [List.nodup_append]
    refine ⟨hnd, hw.ris.imp (fun h => Int.ne_of_lt h), fun a ha b hb e => ?_⟩
    obtain ⟨k, hk, _⟩ := h.sn a ha
    rw [e, h.mn b hb] at hk
    cases hk
  · rcases List.mem_append.mp hn with hn | hn
    · obtain ⟨k, hk, _⟩ := h.sn n hn
      exact .inl (by rw [hk]; exact fun e => by cases e)
    · exact .inr (h.m1 (names_nil hn))
  · rcases List.mem_append.mp hn with hn | hn
    · obtain ⟨k', hk', hm⟩ := h.sn n hn
      rw [hk] at hk'
      cases hk'
      have hp := (places_iff hf k).mpr hc.2
      by_cases he : w.rest = []
      · have := hc.1
        rw [he] at this
        simp at this
        omega
      · have := (h.r1 he).1
        omega
    · rw [h.mn n hn] at hk
      cases hk
  · have hmu : mustK f w.worths k = true := by unfold mustK; rw [hk]; simp only [hd]
    rcases h.mu k hmu with hlt | hin
    · exact .inl ⟨by omega, (places_iff hf k).mp (by omega)⟩
    · refine .inr ⟨nameK f k, List.mem_append_left _ hin, ?_⟩
      obtain ⟨k', hk', _⟩ := h.sn _ hin
      obtain ⟨t, h1, h2, _⟩ := named_get hk'
      rw [nameK_at hk] at h2
      rw [hk', name_uniq hf h1 hk h2]
end
end Sc

/-! # what a shape that fits comes to: rest and more -/
namespace Sc
open PySem L2 PyProof.Rows Dw
theorem mem_dropR {M P x : Nat} : x ∈ (List.range M).drop P ↔ P ≤ x ∧ x < M := by
  rw [List.mem_iff_getElem?]
  constructor
  · rintro ⟨i, hi⟩
    rw [List.getElem?_drop] at hi
    obtain ⟨h1, h2⟩ := List.getElem?_eq_some_iff.mp hi
    rw [List.length_range] at h1
    rw [List.getElem_range] at h2
    omega
  · rintro ⟨h1, h2⟩
    refine ⟨x - P, ?_⟩
    rw [List.getElem?_drop, List.getElem?_range (by omega)]
    congr 1
    omega
theorem map_numK {nums : List Int} {M : Nat} (h : M ≤ nums.length) : (List.range M).map (numK nums) = nums.take M := by
  refine List.ext_getElem? fun i => ?_
  rw [List.getElem?_map, List.getElem?_take]
  by_cases hi : i < M
  · rw [List.getElem?_range hi, if_pos hi, List.getElem?_eq_getElem (by omega)]
    show some (nums.getD i 0) = _
    rw [getD_lt (by omega)]
  · rw [if_neg hi, List.getElem?_eq_none (by rw [List.length_range]; omega)]
    rfl
section
variable {f : Face} {M : Nat} {nm : List Int}
theorem shape_rest (hf : f.Ok) (hfit : FitS f M nm) : restG (goesOf f (shapeN M nm)) = (List.range M).drop (placesOf f) := by
  refine nat_sorted_unique ((List.perm_ext_iff_of_nodup ?_ ?_).mpr fun x => ?_) ?_ ?_
  · exact List.nodup_range.filter _
  · exact List.nodup_range.sublist (List.drop_sublist _ _)
  · rw [mem_rest, mem_dropR]
    constructor
    · intro h
      have hl : x < M + nm.length := by
        have := (List.getElem?_eq_some_iff.mp h).1
        rwa [goes_len, shape_len] at this
      by_cases hx : x < M
      · rw [sgoes_place hx] at h
        refine ⟨?_, hx⟩
        by_cases hp : placeK f x = true
        · rw [if_pos hp] at h; cases h
        · exact Nat.le_of_not_lt fun q => hp ((places_iff hf x).mp q)
      · exfalso
        obtain ⟨j, rfl⟩ : ∃ j, x = M + j := ⟨x - M, by omega⟩
        rw [sgoes_name (List.getElem?_eq_getElem (by omega))] at h
        cases hs : slotNamed f nm[j] with
        | some k => rw [hs] at h; cases h
        | none =>
          rw [hs] at h
          by_cases hm : f.more = true
          · simp only [hm, if_true] at h; cases h
          · simp only [hm] at h; cases h
    · rintro ⟨h1, h2⟩
      have hp : ¬ placeK f x = true := fun q => by have := (places_iff hf x).mpr q; omega
      have hr : f.rest = true := by
        rcases hfit.pl x h2 with h | h
        · exact absurd h hp
        · exact h
      rw [sgoes_place h2, if_neg hp, if_pos hr]
  · exact (range_sorted _).filter _
  · exact (range_sorted _).sublist (List.drop_sublist _ _)
theorem shape_more {p : Int × Nat} : p ∈ moreG (goesOf f (shapeN M nm)) ↔ ∃ j, p.2 = M + j ∧ nm[j]? = some p.1 ∧ slotNamed f p.1 = none ∧ f.more = true := by
  rw [mem_more]
  constructor
  · intro h
    have hl : p.2 < M + nm.length := by
      have := (List.getElem?_eq_some_iff.mp h).1
      rwa [goes_len, shape_len] at this
    by_cases hx : p.2 < M
    · rw [sgoes_place hx] at h
      exfalso
      by_cases hp : placeK f p.2 = true
      · rw [if_pos hp] at h; cases h
      · rw [if_neg hp] at h
        by_cases hr : f.rest = true
        · rw [if_pos hr] at h; cases h
        · rw [if_neg hr] at h; cases h
    · obtain ⟨j, hj⟩ : ∃ j, p.2 = M + j := ⟨p.2 - M, by omega⟩
      have hjl : j < nm.length := by omega
      rw [hj, sgoes_name (List.getElem?_eq_getElem hjl)] at h
      refine ⟨j, hj, ?_⟩
      cases hs : slotNamed f nm[j] with
      | some k => rw [hs] at h; cases h
      | none =>
        rw [hs] at h
        by_cases hm : f.more = true
        · simp only [hm, if_true, Option.some.injEq, Go.more.injEq] at h
          rw [← h]
          exact ⟨List.getElem?_eq_getElem hjl, hs, hm⟩
        · simp only [hm] at h; cases h
  · rintro ⟨j, h1, h2, h3, h4⟩
    rw [h1, sgoes_name h2, h3]
    simp only [h4, if_true]
end
end Sc

/-! # which calls come to what is wanted -/
namespace Sc
open PySem L2 PyProof.Rows Dw
def Comes (f : Face) (w : Want) (c : List Thing) : Prop := ∃ sd, encDone f c (lawMatched f (c.map (·.name))) = .tuple [sd, fitsW w]
theorem ints_inj : ∀ {a b : List Int}, a.map PyData.int = b.map PyData.int → a = b
  | [], [], _ => rfl
  | [], _ :: _, h => by cases h
  | _ :: _, [], h => by cases h
  | x :: a, y :: b, h => by
    rw [List.map_cons, List.map_cons, List.cons.injEq] at h
    rw [PyData.int.inj h.1, ints_inj h.2]
theorem encI_inj {a b : List Int} (h : encI a = encI b) : a = b := ints_inj (PyData.tuple.inj h)
theorem pairs_inj : ∀ {a b : List (Int × Int)}, (a.map fun p => PyData.tuple [.int p.1, .int p.2]) = (b.map fun p => PyData.tuple [.int p.1, .int p.2]) → a = b
  | [], [], _ => rfl
  | [], _ :: _, h => by cases h
  | _ :: _, [], h => by cases h
  | (x, x') :: a, (y, y') :: b, h => by
    rw [List.map_cons, List.map_cons, List.cons.injEq] at h
    have h1 := PyData.tuple.inj h.1
    simp only [List.cons.injEq, PyData.int.injEq, and_true] at h1
    rw [h1.1, h1.2, pairs_inj h.2]
theorem comes_parts {f : Face} {w : Want} {c : List Thing} : Comes f w c ↔ ∃ a b m, lawMatched f (c.map (·.name)) = .fits a b m ∧ (f.slots.map fun s => lookW (goW (numsOf c) (f.slots.zip a) ([], saidOf c)).1 s.name) = w.worths ∧
    b.map (numK (numsOf c)) = w.rest ∧ m.map (fun p => (p.1, numK (numsOf c) p.2)) = w.more := by
  have key : ∀ m : List (Int × Nat), (m.map fun p => PyData.tuple [.int p.1, .int (numK (numsOf c) p.2)]) = (m.map fun p => (p.1, numK (numsOf c) p.2)).map fun p => PyData.tuple [.int p.1, .int p.2] := fun m => by rw [List.map_map]; rfl
  constructor
  · rintro ⟨sd, h⟩
    cases hm : lawMatched f (c.map (·.name)) with
    | clash k =>
      rw [hm] at h
      exfalso
      obtain ⟨z, r, hz1, _, hz3⟩ := clash_head k
      have h2 : PyData.tuple [encI (saidOf c), encC k] = .tuple [sd, fitsW w] := h
      have h3 := PyData.tuple.inj h2
      simp only [List.cons.injEq, and_true] at h3
      have h4 := h3.2
      rw [hz1] at h4
      have h5 := PyData.tuple.inj h4
      rw [List.cons.injEq] at h5
      rw [PyData.str.inj h5.1, eqv_str] at hz3
      simp at hz3
    | fits a b m =>
      rw [hm] at h
      have h3 := PyData.tuple.inj h
      simp only [List.cons.injEq, and_true] at h3
      have h4 := PyData.tuple.inj h3.2
      simp only [List.cons.injEq, and_true, true_and] at h4
      obtain ⟨e1, e2, e3⟩ := h4
      refine ⟨a, b, m, rfl, encI_inj e1, encI_inj e2, pairs_inj ?_⟩
      rw [← key]
      exact PyData.tuple.inj e3
  · rintro ⟨a, b, m, hm, e1, e2, e3⟩
    refine ⟨encI (goW (numsOf c) (f.slots.zip a) ([], saidOf c)).2, ?_⟩
    rw [hm]
    show PyData.tuple [_, .tuple [.str kFits, encI _, encI _, .tuple _]] = _
    rw [e1, e2, key, e3]
    rfl
theorem moreG_nodup {goes : List Go} (C : Clean goes) : ((moreG goes).map (·.1)).Nodup := by
  unfold moreG
  rw [List.map_filterMap]
  refine List.pairwise_filterMap.mpr (List.Pairwise.imp_of_mem ?_ List.pairwise_lt_range)
  intro i j _ _ hlt n hn n' hn' e
  have at_ : ∀ (k : Nat) (n : Int), Option.map (fun p : Int × Nat => p.1) (moreK goes k) = some n → goes[k]? = some (.more n) := by
    intro k n h
    unfold moreK at h
    split at h
    · rename_i m hm
      cases h
      exact hm
    · cases h
  have h1 := at_ i n hn
  have h2 := at_ j n' hn'
  rw [← e] at h2
  have := C.one i j _ (by omega) h1 h2
  cases this
section
variable {f : Face} {w : Want} {many : Nat} {nm : List Int}
theorem tryNums_len (hm : many ≤ w.worths.length) : (w.worths.take many ++ w.rest).length = many + w.rest.length := by
  rw [List.length_append, List.length_take, Nat.min_eq_left hm]
theorem rest_iff (hf : f.Ok) (hw : w.Ok f) (hm : many ≤ w.worths.length) (hfit : FitS f (many + w.rest.length) (nm ++ w.names)) :
    (restG (goesOf f (shapeN (many + w.rest.length) (nm ++ w.names)))).map (numK (tryNums f w many nm)) = w.rest ↔ (w.rest = [] → many ≤ placesOf f) ∧ (w.rest ≠ [] → many = placesOf f) := by
  have hP : placesOf f ≤ w.worths.length := by rw [hw.len]; exact places_le f
  have e : (restG (goesOf f (shapeN (many + w.rest.length) (nm ++ w.names)))).map (numK (tryNums f w many nm)) = (w.worths.take many ++ w.rest).drop (placesOf f) := by
    rw [shape_rest hf hfit, List.map_drop, map_numK (by unfold tryNums; rw [List.length_append, tryNums_len hm]; omega)]
    unfold tryNums
    rw [List.take_left' (tryNums_len hm)]
  rw [e]
  constructor
  · intro h
    have hl := congrArg List.length h
    rw [List.length_drop, tryNums_len hm] at hl
    refine ⟨fun h0 => ?_, fun h0 => ?_⟩
    · rw [h0] at hl
      simp at hl
      omega
    · have : 0 < w.rest.length := List.length_pos_iff.mpr h0
      omega
  · rintro ⟨h0, h1⟩
    by_cases hr : w.rest = []
    · have := h0 hr
      rw [hr, List.append_nil, List.drop_eq_nil_of_le (by rw [List.length_take]; omega)]
    · have := h1 hr
      exact List.drop_left' (by rw [List.length_take]; omega)
theorem more_iff (hw : w.Ok f) (hm : many ≤ w.worths.length) (hfit : FitS f (many + w.rest.length) (nm ++ w.names)) :
    (sortM (moreG (goesOf f (shapeN (many + w.rest.length) (nm ++ w.names))))).map (fun p => (p.1, numK (tryNums f w many nm) p.2)) = w.more ↔ (∀ n ∈ w.names, slotNamed f n = none) ∧ ∀ n ∈ nm, slotNamed f n ≠ none := by
  have C : Clean (goesOf f (shapeN (many + w.rest.length) (nm ++ w.names))) := (fit_iff.mp (fit_iffS.mpr (by rw [cnt_shape, nms_shape]; exact hfit))).1
  have hfst : ∀ (g : Int × Nat → Int) (l : List (Int × Nat)), ((sortM l).map (fun p => (p.1, g p))).map (·.1) = srt (l.map (·.1)) := fun g l => by
    unfold sortM
    rw [List.map_map, List.map_map]
    exact List.map_id _
  have hmem : ∀ n, n ∈ (moreG (goesOf f (shapeN (many + w.rest.length) (nm ++ w.names)))).map (·.1) ↔ n ∈ nm ++ w.names ∧ slotNamed f n = none := by
    intro n
    rw [List.mem_map]
    constructor
    · rintro ⟨p, hp, rfl⟩
      obtain ⟨j, _, h2, h3, _⟩ := shape_more.mp hp
      exact ⟨List.mem_of_getElem? h2, h3⟩
    · rintro ⟨h1, h2⟩
      obtain ⟨j, hj⟩ := List.mem_iff_getElem?.mp h1
      refine ⟨(n, many + w.rest.length + j), shape_more.mpr ⟨j, rfl, hj, h2, ?_⟩, rfl⟩
      rcases hfit.nn n h1 with h | h
      · exact absurd h2 h
      · exact h
  constructor
  · intro h
    have hn := congrArg (List.map (·.1)) h
    rw [hfst] at hn
    have hn : srt _ = w.names := hn
    have hin : ∀ n, n ∈ w.names ↔ n ∈ nm ++ w.names ∧ slotNamed f n = none := fun n => by
      rw [← hmem, ← (srt_perm ((moreG (goesOf f (shapeN (many + w.rest.length) (nm ++ w.names)))).map (·.1))).mem_iff, hn]
    refine ⟨fun n h1 => ((hin n).mp h1).2, fun n h1 h2 => ?_⟩
    have h3 := (hin n).mpr ⟨List.mem_append_left _ h1, h2⟩
    exact (List.nodup_append.mp hfit.nd).2.2 n h1 n h3 rfl
  · rintro ⟨h1, h2⟩
    have hin : ∀ n, n ∈ w.names ↔ n ∈ nm ++ w.names ∧ slotNamed f n = none := fun n =>
      ⟨fun h => ⟨List.mem_append_right _ h, h1 n h⟩, fun ⟨h, h3⟩ => by
        rcases List.mem_append.mp h with h | h
        · exact absurd h3 (h2 n h)
        · exact h⟩
    have hs : srt ((moreG (goesOf f (shapeN (many + w.rest.length) (nm ++ w.names)))).map (·.1)) = w.names := by
      refine rising_ext (rising_of (srt_sorted _) ((srt_perm _).nodup_iff.mpr (moreG_nodup C))) hw.ris fun n => ?_
      rw [(srt_perm _).mem_iff, hmem, hin]
    unfold sortM
    rw [hs, List.map_map]
    refine List.ext_getElem? fun i => ?_
    rw [List.getElem?_map]
    cases hi : w.more[i]? with
    | none =>
      rw [show w.names[i]? = none by unfold Want.names; rw [List.getElem?_map, hi]; rfl]
      rfl
    | some p =>
      have hni : w.names[i]? = some p.1 := by unfold Want.names; rw [List.getElem?_map, hi]; rfl
      have hat : (nm ++ w.names)[nm.length + i]? = some p.1 := by rw [List.getElem?_append_right (by omega), show nm.length + i - nm.length = i by omega]; exact hni
      have hgo := mem_more.mp (shape_more (f := f) (M := many + w.rest.length).mpr (show ∃ j, (p.1, many + w.rest.length + (nm.length + i)).2 = many + w.rest.length + j ∧ (nm ++ w.names)[j]? = some (p.1, many + w.rest.length + (nm.length + i)).1 ∧ _ from ⟨nm.length + i, rfl, hat, h1 _ (List.mem_of_getElem? hni), by
        rcases hfit.nn p.1 (List.mem_append_right _ (List.mem_of_getElem? hni)) with h | h
        · exact absurd (h1 _ (List.mem_of_getElem? hni)) h
        · exact h⟩))
      rw [hni]
      show some (p.1, numK (tryNums f w many nm) (lookM (moreG (goesOf f (shapeN (many + w.rest.length) (nm ++ w.names)))) p.1)) = some p
      rw [show lookM (moreG (goesOf f (shapeN (many + w.rest.length) (nm ++ w.names)))) p.1 = many + w.rest.length + (nm.length + i) from look_at C hgo]
      show some (p.1, numK (tryNums f w many nm) (many + w.rest.length + (nm.length + i))) = some p
      have : numK (tryNums f w many nm) (many + w.rest.length + (nm.length + i)) = p.2 := by
        unfold numK tryNums
        rw [List.getD_eq_getElem?_getD, List.getElem?_append_right (by rw [tryNums_len hm]; omega), tryNums_len hm, show many + w.rest.length + (nm.length + i) - (many + w.rest.length) = nm.length + i by omega, List.getElem?_append_right (by rw [List.length_map]; omega), List.length_map, show nm.length + i - nm.length = i by omega, List.getElem?_map, hi]
        rfl
      rw [this]
end
end Sc

/-! # a call of a shape comes to what is wanted just where the shape will do -/
namespace Sc
open PySem L2 PyProof.Rows Dw
theorem ahead_keys {f : Face} {ws : List Int} (hl : ws.length = f.slots.length) (k : Nat) : (aheadW f ws k).map (·.1) = (f.slots.take k).map (·.name) := by
  unfold aheadW
  rw [List.map_map, show ((fun p : Int × Int => p.1) ∘ fun p : Slot × Int => (p.1.name, p.2)) = (fun s : Slot => s.name) ∘ Prod.fst from rfl, ← List.map_map, List.map_take, List.map_fst_zip (by omega)]
theorem look_ahead {f : Face} (hf : f.Ok) {ws : List Int} (hl : ws.length = f.slots.length) {i k : Nat} {u : Slot} (hi : f.slots[i]? = some u) (hik : i < k) : lookW (aheadW f ws k) u.name = ws.getD i 0 := by
  obtain ⟨hil, his⟩ := List.getElem?_eq_some_iff.mp hi
  have hwl : i < ws.length := by omega
  have hz : ((f.slots.zip ws).take k)[i]? = some (u, ws[i]) := by
    rw [List.getElem?_take, if_pos hik]
    exact List.getElem?_zip_eq_some.mpr ⟨hi, List.getElem?_eq_getElem hwl⟩
  obtain ⟨hzl, hzs⟩ := List.getElem?_eq_some_iff.mp hz
  have hsp : (f.slots.zip ws).take k = ((f.slots.zip ws).take k).take i ++ (u, ws[i]) :: ((f.slots.zip ws).take k).drop (i + 1) := by
    conv => lhs; rw [← List.take_append_drop i ((f.slots.zip ws).take k), List.drop_eq_getElem_cons hzl, hzs]
  have htt : ((f.slots.zip ws).take k).take i = (f.slots.zip ws).take i := by rw [List.take_take, Nat.min_eq_left (Nat.le_of_lt hik)]
  have e : aheadW f ws k = aheadW f ws i ++ (u.name, ws[i]) :: (((f.slots.zip ws).take k).drop (i + 1)).map (fun p => (p.1.name, p.2)) := by
    unfold aheadW
    conv => lhs; rw [hsp, htt]
    rw [List.map_append, List.map_cons]
  rw [e]
  refine (lookW_new ?_).trans (getD_lt hwl).symm
  rw [ahead_keys hl]
  intro h
  obtain ⟨t, ht, hn⟩ := List.mem_map.mp h
  have hSl := hf.each i hil
  rw [his] at hSl
  exact hSl.nw t ht hn
/-- a default looks at slots ahead alone -/
theorem val_ahead {f : Face} (hf : f.Ok) {ws : List Int} (hl : ws.length = f.slots.length) {W : List (Int × Int)} {k : Nat} {s : Slot} (hk : f.slots[k]? = some s) {e : Ex} (hd : s.dflt = some e)
    (h : ∀ (i : Nat) (u : Slot), i < k → f.slots[i]? = some u → lookW W u.name = ws.getD i 0) : valE W e = valE (aheadW f ws k) e := by
  obtain ⟨hkl, hks⟩ := List.getElem?_eq_some_iff.mp hk
  have hSl := hf.each k hkl
  rw [hks] at hSl
  refine valE_congr _ fun x hx => ?_
  obtain ⟨u, hu, rfl⟩ := List.mem_map.mp (looks_of 1 e (hSl.df e hd) x hx)
  obtain ⟨i, hi⟩ := List.mem_iff_getElem?.mp hu
  rw [List.getElem?_take] at hi
  split at hi
  · rename_i hik
    rw [h i u hik hi, look_ahead hf hl hi hik]
  · cases hi
theorem must_of {f : Face} {ws : List Int} {k : Nat} {s : Slot} (hk : f.slots[k]? = some s) : mustK f ws k = false ↔ ∃ e, s.dflt = some e ∧ valE (aheadW f ws k) e = ws.getD k 0 := by
  unfold mustK
  rw [hk]
  show (match s.dflt with | none => true | some e => !decide (valE (aheadW f ws k) e = ws.getD k 0)) = false ↔ _
  generalize s.dflt = o
  cases o with
  | none => simp
  | some e => simp
theorem must_lt {f : Face} {ws : List Int} {k : Nat} (h : mustK f ws k = true) : k < f.slots.length := by
  unfold mustK at h
  cases hk : f.slots[k]? with
  | none => rw [hk] at h; cases h
  | some s => exact (List.getElem?_eq_some_iff.mp hk).1
section
variable {f : Face} {w : Want} {many : Nat} {nm : List Int}
/-- which slots are filled -/
theorem in_shape (hf : f.Ok) (h0 : w.rest = [] → many ≤ placesOf f) (h1 : w.rest ≠ [] → many = placesOf f) (hmn : ∀ n ∈ w.names, slotNamed f n = none) (hsn : ∀ n ∈ nm, slotNamed f n ≠ none) {k : Nat} (hk : k < f.slots.length) :
    Go.slot k ∈ goesOf f (shapeN (many + w.rest.length) (nm ++ w.names)) ↔ k < many ∨ nameK f k ∈ nm := by
  rw [slot_in, cnt_shape, nms_shape]
  constructor
  · rintro (⟨h2, h3⟩ | ⟨n, hn, h3⟩)
    · have hp := (places_iff hf k).mpr h3
      by_cases hr : w.rest = []
      · rw [hr] at h2
        exact .inl (by simpa using h2)
      · exact .inl (by rw [h1 hr]; exact hp)
    · rcases List.mem_append.mp hn with hn | hn
      · obtain ⟨s, hs, rfl, _⟩ := named_get h3
        exact .inr (by rw [nameK_at hs]; exact hn)
      · rw [hmn n hn] at h3; cases h3
  · rintro (h2 | h2)
    · have hP : k < placesOf f := by
        by_cases hr : w.rest = []
        · have := h0 hr; omega
        · have := h1 hr; omega
      exact .inl ⟨by omega, (places_iff hf k).mp hP⟩
    · refine .inr ⟨_, List.mem_append_left _ h2, ?_⟩
      cases hs : slotNamed f (nameK f k) with
      | none => exact absurd hs (hsn _ h2)
      | some k' =>
        obtain ⟨s, h3, h4, _⟩ := named_get hs
        have hk' := List.getElem?_eq_getElem hk
        rw [nameK_at hk'] at h4
        rw [name_uniq hf h3 hk' h4]
theorem worth_in (hf : f.Ok) (hw : w.Ok f) (hm : many ≤ w.worths.length) (h0 : w.rest = [] → many ≤ placesOf f) (h1 : w.rest ≠ [] → many = placesOf f) (hmn : ∀ n ∈ w.names, slotNamed f n = none)
    {i k : Nat} (h : (goesOf f (shapeN (many + w.rest.length) (nm ++ w.names)))[i]? = some (.slot k)) : numK (tryNums f w many nm) i = w.worths.getD k 0 := by
  have hl : i < many + w.rest.length + (nm ++ w.names).length := by
    have := (List.getElem?_eq_some_iff.mp h).1
    rwa [goes_len, shape_len] at this
  by_cases hi : i < many + w.rest.length
  · rw [sgoes_place hi] at h
    by_cases hp : placeK f i = true
    · rw [if_pos hp] at h
      injection h with h; injection h with h
      subst h
      have hP := (places_iff hf i).mpr hp
      have him : i < many := by
        by_cases hr : w.rest = []
        · rw [hr] at hi; simpa using hi
        · rw [h1 hr]; exact hP
      unfold numK tryNums
      rw [List.getD_eq_getElem?_getD, List.getD_eq_getElem?_getD, List.getElem?_append_left (by rw [tryNums_len hm]; omega), List.getElem?_append_left (by rw [List.length_take]; omega), List.getElem?_take, if_pos him]
    · rw [if_neg hp] at h
      by_cases hr : f.rest = true
      · rw [if_pos hr] at h; cases h
      · rw [if_neg hr] at h; cases h
  · obtain ⟨j, rfl⟩ : ∃ j, i = many + w.rest.length + j := ⟨i - (many + w.rest.length), by omega⟩
    have hj : j < (nm ++ w.names).length := by omega
    have hjn := List.getElem?_eq_getElem hj
    generalize (nm ++ w.names)[j] = n at hjn
    rw [sgoes_name hjn] at h
    cases hs : slotNamed f n with
    | none =>
      rw [hs] at h
      by_cases hmo : f.more = true
      · simp only [hmo, if_true] at h; cases h
      · simp only [hmo] at h; cases h
    | some k' =>
      rw [hs] at h
      injection h with h; injection h with h
      subst h
      have hjl : j < nm.length := by
        refine Nat.lt_of_not_le fun hle => ?_
        rw [List.getElem?_append_right hle] at hjn
        rw [hmn n (List.mem_of_getElem? hjn)] at hs
        cases hs
      rw [List.getElem?_append_left hjl] at hjn
      unfold numK tryNums
      rw [List.getD_eq_getElem?_getD, List.getElem?_append_right (by rw [tryNums_len hm]; omega), tryNums_len hm, show many + w.rest.length + j - (many + w.rest.length) = j by omega, List.getElem?_append_left (by rw [List.length_map]; exact hjl), List.getElem?_map, hjn]
      show worthN f w n = _
      obtain ⟨s, h3, rfl, _⟩ := named_get hs
      unfold worthN
      rw [findSlot_of hf h3]
theorem comes_feas (hf : f.Ok) (hw : w.Ok f) (hm : many ≤ w.worths.length) (h : Comes f w (tryCall f w many nm)) : Feas f w many nm := by
  obtain ⟨a, b, m, hl, e1, e2, e3⟩ := comes_parts.mp h
  rw [try_names hm] at hl
  rw [try_nums] at e1 e2 e3
  have hfit : FitS f (many + w.rest.length) (nm ++ w.names) := by
    have : isFit (lawMatched f (shapeN (many + w.rest.length) (nm ++ w.names))) = true := by rw [hl]; rfl
    have := fit_iffS.mp this
    rwa [cnt_shape, nms_shape] at this
  obtain ⟨C, F⟩ := law_fits_iff.mp ⟨a, b, m, hl⟩
  have hFits := fits_of hl
  rw [law_fits C F] at hl
  unfold fitsG at hl
  injection hl with ha hb hmm
  rw [← hb] at e2
  rw [← hmm] at e3
  obtain ⟨h0, h1⟩ := (rest_iff hf hw hm hfit).mp e2
  obtain ⟨hmn, hsn⟩ := (more_iff hw hm hfit).mp e3
  refine ⟨h0, fun hr => ⟨h1 hr, ?_⟩, fun hmo => ?_, hmn, fun n hn => ?_, fun k hk => ?_⟩
  · have hp : 0 < w.rest.length := List.length_pos_iff.mpr hr
    rcases hfit.pl (placesOf f) (by have := h1 hr; omega) with h | h
    · exact absurd ((places_iff hf _).mpr h) (Nat.lt_irrefl _)
    · exact h
  · obtain ⟨p, hp⟩ := List.exists_mem_of_ne_nil _ hmo
    have hn : p.1 ∈ w.names := List.mem_map.mpr ⟨p, hp, rfl⟩
    rcases hfit.nn p.1 (List.mem_append_right _ hn) with h | h
    · exact absurd (hmn _ hn) h
    · exact h
  · cases hs : slotNamed f n with
    | none => exact absurd hs (hsn n hn)
    | some k =>
      refine ⟨k, rfl, Nat.le_of_not_lt fun hlt => hfit.cl n (List.mem_append_left _ hn) k hs ⟨by omega, (places_iff hf k).mp ?_⟩⟩
      by_cases hr : w.rest = []
      · have := h0 hr; omega
      · have := h1 hr; omega
  · refine Decidable.byContradiction fun hnot => ?_
    have hkl := must_lt hk
    have hks := List.getElem?_eq_getElem hkl
    generalize f.slots[k] = s at hks
    have hno : Go.slot k ∉ goesOf f (shapeN (many + w.rest.length) (nm ++ w.names)) := fun h => hnot ((in_shape hf h0 h1 hmn hsn hkl).mp h)
    have hak : a[k]? = some none := by rw [← ha]; exact (filled_none hkl).mpr hno
    have hwk : ∀ (i : Nat) (u : Slot), f.slots[i]? = some u → lookW (goW (tryNums f w many nm) (f.slots.zip a) ([], saidOf (tryCall f w many nm))).1 u.name = w.worths.getD i 0 := by
      intro i u hi
      have := congrArg (fun l => l[i]?) e1
      simp only [List.getElem?_map, hi] at this
      rw [List.getD_eq_getElem?_getD, ← this]
      rfl
    have hdn := hFits.df k hkl hak
    have hsk : f.slots[k] = s := (List.getElem?_eq_some_iff.mp hks).2
    rw [hsk] at hdn
    cases hd : s.dflt with
    | none => exact hdn hd
    | some e =>
      have hwa := worth_at hf hFits.len hks hak (nums := tryNums f w many nm) (said := saidOf (tryCall f w many nm))
      rw [hwk k s hks] at hwa
      have hv := val_ahead hf hw.len hks hd (W := (goW (tryNums f w many nm) (f.slots.zip a) ([], saidOf (tryCall f w many nm))).1) fun i u _ hi => hwk i u hi
      have : mustK f w.worths k = false := (must_of hks).mpr ⟨e, hd, by
        rw [← hv, hwa]
        show _ = valE _ (dfE s)
        unfold dfE
        rw [hd]
        rfl⟩
      rw [this] at hk
      cases hk
theorem feas_comes (hf : f.Ok) (hw : w.Ok f) (hm : many ≤ w.worths.length) (hnd : nm.Nodup) (h : Feas f w many nm) : Comes f w (tryCall f w many nm) := by
  have hfit := h.fit hf hw hnd
  have h1 : w.rest ≠ [] → many = placesOf f := fun hr => (h.r1 hr).1
  have hsn : ∀ n ∈ nm, slotNamed f n ≠ none := fun n hn e => by
    obtain ⟨k, hk, _⟩ := h.sn n hn
    rw [e] at hk; cases hk
  have hF : isFit (lawMatched f (shapeN (many + w.rest.length) (nm ++ w.names))) = true := fit_iffS.mpr (by rw [cnt_shape, nms_shape]; exact hfit)
  obtain ⟨C, F⟩ := fit_iff.mp hF
  have hl := law_fits C F
  have hlen : ((List.range f.slots.length).map fun k => idxG (goesOf f (shapeN (many + w.rest.length) (nm ++ w.names))) (.slot k)).length = f.slots.length := by rw [List.length_map, List.length_range]
  refine comes_parts.mpr ⟨_, _, _, by rw [try_names hm, hl]; rfl, ?_, ?_, ?_⟩
  · rw [try_nums]
    generalize saidOf (tryCall f w many nm) = said
    have key : ∀ (k : Nat) (s : Slot), f.slots[k]? = some s → lookW (goW (tryNums f w many nm) (f.slots.zip ((List.range f.slots.length).map fun k => idxG (goesOf f (shapeN (many + w.rest.length) (nm ++ w.names))) (.slot k))) ([], said)).1 s.name = w.worths.getD k 0 := by
      intro k
      induction k using Nat.strongRecOn with
      | ind k ih =>
        intro s hks
        have hkl := (List.getElem?_eq_some_iff.mp hks).1
        have hak := List.getElem?_eq_getElem (l := (List.range f.slots.length).map fun k => idxG (goesOf f (shapeN (many + w.rest.length) (nm ++ w.names))) (.slot k)) (i := k) (by rw [hlen]; exact hkl)
        generalize ((List.range f.slots.length).map fun k => idxG (goesOf f (shapeN (many + w.rest.length) (nm ++ w.names))) (.slot k))[k]'_ = o at hak
        rw [worth_at hf hlen hks hak]
        cases o with
        | some i => exact worth_in hf hw hm h.r0 h1 h.mn ((filled_some C hkl).mp hak)
        | none =>
          have hno := (filled_none hkl).mp hak
          have hmk : mustK f w.worths k = false := by
            cases hmk : mustK f w.worths k with
            | false => rfl
            | true => exact absurd ((in_shape hf h.r0 h1 h.mn hsn hkl).mpr (h.mu k hmk)) hno
          obtain ⟨e, hd, hv⟩ := (must_of hks).mp hmk
          show valE _ (dfE s) = _
          rw [← hv]
          unfold dfE
          rw [hd]
          exact val_ahead hf hw.len hks hd fun i u hik hi => ih i hik u hi
    refine List.ext_getElem? fun i => ?_
    rw [List.getElem?_map]
    cases hi : f.slots[i]? with
    | none =>
      have : w.worths.length ≤ i := by rw [hw.len]; exact List.getElem?_eq_none_iff.mp hi
      rw [List.getElem?_eq_none this]
      rfl
    | some s =>
      have hil : i < w.worths.length := by rw [hw.len]; exact (List.getElem?_eq_some_iff.mp hi).1
      refine (congrArg some (key i s hi)).trans ?_
      rw [getD_lt hil, List.getElem?_eq_getElem hil]
  · rw [try_nums]
    exact (rest_iff hf hw hm hfit).mpr ⟨h.r0, h1⟩
  · rw [try_nums]
    exact (more_iff hw hm hfit).mpr ⟨h.mn, hsn⟩
end
end Sc

/-! # the fewest things -/
namespace Sc
open PySem L2 PyProof.Rows Dw
theorem foldl_max : ∀ (ns : List Int) (n : Int), n ≤ ns.foldl max n ∧ (∀ x ∈ ns, x ≤ ns.foldl max n) ∧ (ns.foldl max n = n ∨ ns.foldl max n ∈ ns)
  | [], n => ⟨Int.le_refl _, ⟨(fun _ h => by cases h), .inl rfl⟩⟩
  | m :: ns, n => by
    obtain ⟨h1, h2, h3⟩ := foldl_max ns (max n m)
    rw [List.foldl_cons]
    refine ⟨by omega, fun x hx => ?_, ?_⟩
    · rcases List.mem_cons.mp hx with rfl | hx
      · omega
      · exact h2 x hx
    · rcases h3 with h3 | h3
      · rw [h3]
        by_cases h : n ≤ m
        · exact .inr (by rw [Int.max_eq_right h]; exact List.mem_cons_self)
        · exact .inl (Int.max_eq_left (by omega))
      · exact .inr (List.mem_cons_of_mem _ h3)
theorem maxL_ge {d : Int} {ns : List Int} {x : Int} (h : x ∈ ns) : x ≤ maxL d ns := by
  cases ns with
  | nil => cases h
  | cons n ns =>
    obtain ⟨h1, h2, _⟩ := foldl_max ns n
    rcases List.mem_cons.mp h with rfl | h
    · exact h1
    · exact h2 x h
theorem maxL_in {d : Int} {ns : List Int} : maxL d ns = d ∨ maxL d ns ∈ ns := by
  cases ns with
  | nil => exact .inl rfl
  | cons n ns =>
    obtain ⟨_, _, h3⟩ := foldl_max ns n
    rcases h3 with h | h
    · exact .inr (by show ns.foldl max n ∈ _; rw [h]; exact List.mem_cons_self)
    · exact .inr (List.mem_cons_of_mem _ h)
def isPl (f : Face) (k : Nat) : Bool := match f.slots[k]? with
  | some s => decide (s.sort = .place)
  | none => false
def mustL (f : Face) (ws : List Int) : List Nat := (List.range f.slots.length).filter (mustK f ws)
def many0 (f : Face) (ws : List Int) : Nat := (maxL 0 (((mustL f ws).filter (isPl f)).map fun (k : Nat) => ((k : Int) + 1))).toNat
def manyW (f : Face) (w : Want) : Nat := if w.rest = [] then many0 f w.worths else placesOf f
def othW (f : Face) (w : Want) : List Nat := (mustL f w.worths).filter fun k => decide (manyW f w ≤ k)
def sizeW (f : Face) (w : Want) : Nat := manyW f w + (othW f w).length + w.rest.length + w.more.length
structure Can (f : Face) (w : Want) : Prop where
  r : w.rest ≠ [] → f.rest = true
  m : w.more ≠ [] → f.more = true
  n : ∀ n ∈ w.names, slotNamed f n = none
  g : ∀ k, k < manyW f w ∨ k ∈ othW f w → w.worths.getD k 0 < 100
  s : sizeW f w ≤ 10
theorem mem_mustL {f : Face} {ws : List Int} {k : Nat} : k ∈ mustL f ws ↔ mustK f ws k = true := by
  unfold mustL
  rw [List.mem_filter, List.mem_range]
  exact ⟨fun h => h.2, fun h => ⟨must_lt h, h⟩⟩
theorem mem_othW {f : Face} {w : Want} {k : Nat} : k ∈ othW f w ↔ mustK f w.worths k = true ∧ manyW f w ≤ k := by
  unfold othW
  rw [List.mem_filter, mem_mustL, decide_eq_true_eq]
theorem isPl_iff {f : Face} {k : Nat} : isPl f k = true ↔ ∃ s, f.slots[k]? = some s ∧ s.sort = .place := by
  unfold isPl
  cases f.slots[k]? with
  | none => simp
  | some s => simp
theorem pl_lt {f : Face} (hf : f.Ok) {k : Nat} (h : isPl f k = true) : k < placesOf f := by
  obtain ⟨s, h1, h2⟩ := isPl_iff.mp h
  exact (places_iff hf k).mpr (placeK_iff.mpr ⟨s, h1, by rw [h2]; exact fun e => by cases e⟩)
theorem many0_ge {f : Face} {ws : List Int} {k : Nat} (h1 : mustK f ws k = true) (h2 : isPl f k = true) : k < many0 f ws := by
  have := maxL_ge (d := 0) (List.mem_map.mpr ⟨k, List.mem_filter.mpr ⟨mem_mustL.mpr h1, h2⟩, rfl⟩ : ((k : Int) + 1) ∈ ((mustL f ws).filter (isPl f)).map fun (k : Nat) => ((k : Int) + 1))
  unfold many0
  omega
theorem many0_in {f : Face} {ws : List Int} : many0 f ws = 0 ∨ ∃ k, mustK f ws k = true ∧ isPl f k = true ∧ many0 f ws = k + 1 := by
  unfold many0
  rcases maxL_in (d := 0) (ns := ((mustL f ws).filter (isPl f)).map fun (k : Nat) => ((k : Int) + 1)) with h | h
  · exact .inl (by rw [h]; rfl)
  · obtain ⟨k, hk, e⟩ := List.mem_map.mp h
    obtain ⟨h1, h2⟩ := List.mem_filter.mp hk
    exact .inr ⟨k, mem_mustL.mp h1, h2, by omega⟩
theorem manyW_le {f : Face} (hf : f.Ok) (w : Want) : manyW f w ≤ placesOf f := by
  unfold manyW
  split
  · rcases many0_in (f := f) (ws := w.worths) with h | ⟨k, _, h2, h3⟩
    · omega
    · have := pl_lt hf h2; omega
  · exact Nat.le_refl _
theorem oth_named {f : Face} (hf : f.Ok) {w : Want} {k : Nat} (h : k ∈ othW f w) : slotNamed f (nameK f k) = some k := by
  obtain ⟨h1, h2⟩ := mem_othW.mp h
  have hks := List.getElem?_eq_getElem (must_lt h1)
  generalize f.slots[k]'_ = s at hks
  rw [nameK_at hks]
  refine named_of hf hks fun e => ?_
  have hp : isPl f k = true := isPl_iff.mpr ⟨s, hks, e⟩
  unfold manyW at h2
  split at h2
  · have := many0_ge h1 hp; omega
  · have := pl_lt hf hp; omega
theorem can_feas {f : Face} (hf : f.Ok) {w : Want} (h : Can f w) : Feas f w (manyW f w) ((othW f w).map (nameK f)) := by
  refine ⟨fun _ => manyW_le hf w, fun hr => ⟨by unfold manyW; rw [if_neg hr], h.r hr⟩, h.m, h.n, fun n hn => ?_, fun k hk => ?_⟩
  · obtain ⟨k, hk, rfl⟩ := List.mem_map.mp hn
    exact ⟨k, oth_named hf hk, (mem_othW.mp hk).2⟩
  · by_cases hlt : k < manyW f w
    · exact .inl hlt
    · exact .inr (List.mem_map.mpr ⟨k, mem_othW.mpr ⟨hk, Nat.le_of_not_lt hlt⟩, rfl⟩)
theorem nameK_inj {f : Face} (hf : f.Ok) {i j : Nat} (hi : i < f.slots.length) (hj : j < f.slots.length) (e : nameK f i = nameK f j) : i = j := by
  have h1 := List.getElem?_eq_getElem hi
  have h2 := List.getElem?_eq_getElem hj
  rw [nameK_at h1, nameK_at h2] at e
  exact name_uniq hf h1 h2 e
theorem oth_nodup (f : Face) (w : Want) : (othW f w).Nodup := (List.nodup_range.filter _).filter _
theorem nodup_map_on {α β : Type} {g : α → β} : ∀ {l : List α}, l.Nodup → (∀ a ∈ l, ∀ b ∈ l, g a = g b → a = b) → (l.map g).Nodup
  | [], _, _ => List.nodup_nil
  | x :: l, h, hi => by
    rw [List.map_cons, List.nodup_cons]
    obtain ⟨h1, h2⟩ := List.nodup_cons.mp h
    refine ⟨fun hc => ?_, nodup_map_on h2 fun a ha b hb => hi a (List.mem_cons_of_mem _ ha) b (List.mem_cons_of_mem _ hb)⟩
    obtain ⟨y, hy, e⟩ := List.mem_map.mp hc
    have := hi y (List.mem_cons_of_mem _ hy) x List.mem_cons_self e
    exact h1 (this ▸ hy)
theorem len_le_of_sub {α : Type} [BEq α] [LawfulBEq α] : ∀ {a b : List α}, a.Nodup → (∀ x ∈ a, x ∈ b) → a.length ≤ b.length
  | [], _, _, _ => Nat.zero_le _
  | x :: a, b, h, hs => by
    obtain ⟨h1, h2⟩ := List.nodup_cons.mp h
    have hx := hs x List.mem_cons_self
    have ih := len_le_of_sub (b := b.erase x) h2 fun y hy => (List.mem_erase_of_ne (fun e => h1 (by rw [← e]; exact hy))).mpr (hs y (List.mem_cons_of_mem _ hy))
    rw [List.length_erase_of_mem hx] at ih
    have := List.length_pos_of_mem hx
    rw [List.length_cons]
    omega
section
variable {f : Face} {w : Want} {many : Nat} {nm : List Int}
theorem feas_many (hf : f.Ok) (h : Feas f w many nm) : manyW f w ≤ many := by
  unfold manyW
  split
  · rcases many0_in (f := f) (ws := w.worths) with e | ⟨k, h1, h2, h3⟩
    · omega
    · rcases h.mu k h1 with hl | hn
      · omega
      · exfalso
        obtain ⟨s, hs, hp⟩ := isPl_iff.mp h2
        obtain ⟨k', hk', _⟩ := h.sn _ hn
        obtain ⟨t, h4, h5, h6⟩ := named_get hk'
        rw [nameK_at hs] at h5
        have := name_uniq hf h4 hs h5
        subst this
        rw [h4] at hs
        cases hs
        exact h6 hp
  · rename_i hr
    exact Nat.le_of_eq (h.r1 hr).1.symm
theorem feas_size (hf : f.Ok) (h : Feas f w many nm) : manyW f w + (othW f w).length ≤ many + nm.length := by
  have hm := feas_many hf h
  have h1 : ((othW f w).filter fun k => decide (k < many)).length ≤ many - manyW f w := by
    have := len_le_of_sub (a := (othW f w).filter fun k => decide (k < many)) (b := List.range' (manyW f w) (many - manyW f w)) ((oth_nodup f w).filter _) fun k hk => by
      obtain ⟨h1, h2⟩ := List.mem_filter.mp hk
      have := (mem_othW.mp h1).2
      have := of_decide_eq_true h2
      rw [List.mem_range'_1]
      omega
    rwa [List.length_range'] at this
  have h2 : ((othW f w).filter fun k => !decide (k < many)).length ≤ nm.length := by
    have := len_le_of_sub (a := ((othW f w).filter fun k => !decide (k < many)).map (nameK f)) (b := nm)
      (nodup_map_on ((oth_nodup f w).filter _) fun a ha b hb e => nameK_inj hf (must_lt (mem_othW.mp (List.mem_filter.mp ha).1).1) (must_lt (mem_othW.mp (List.mem_filter.mp hb).1).1) e) fun n hn => by
        obtain ⟨k, hk, rfl⟩ := List.mem_map.mp hn
        obtain ⟨h1, h2⟩ := List.mem_filter.mp hk
        rcases h.mu k (mem_othW.mp h1).1 with h3 | h3
        · simp [h3] at h2
        · exact h3
    rwa [List.length_map] at this
  have h3 : ((othW f w).filter fun k => decide (k < many)).length + ((othW f w).filter fun k => !decide (k < many)).length = (othW f w).length := by
    rw [← List.countP_eq_length_filter, ← List.countP_eq_length_filter]
    have := List.length_eq_countP_add_countP (fun k => decide (k < many)) (l := othW f w)
    rw [this]
    congr 1
    refine List.countP_congr fun x _ => ?_
    simp
  omega
theorem worthN_at (hf : f.Ok) {k : Nat} (hk : k < f.slots.length) : worthN f w (nameK f k) = w.worths.getD k 0 := by
  have h1 := List.getElem?_eq_getElem hk
  unfold worthN
  rw [nameK_at h1, findSlot_of hf h1]
theorem feas_can (hf : f.Ok) (hw : w.Ok f) (h : Feas f w many nm) (hl : many + nm.length + w.rest.length + w.more.length ≤ 10) (hg : ∀ x ∈ tryNums f w many nm, x < 100) : Can f w := by
  have hm := feas_many hf h
  have hle : many ≤ w.worths.length := by rw [hw.len]; exact Nat.le_trans h.le (places_le f)
  have hpl : ∀ k, k < many → w.worths.getD k 0 < 100 := fun k hk => by
    refine hg _ ?_
    unfold tryNums
    refine List.mem_append_left _ (List.mem_append_left _ ?_)
    rw [getD_lt (by omega)]
    exact List.mem_iff_getElem?.mpr ⟨k, by rw [List.getElem?_take, if_pos hk, List.getElem?_eq_getElem]⟩
  refine ⟨fun hr => (h.r1 hr).2, h.m1, h.mn, fun k hk => ?_, ?_⟩
  · rcases hk with hk | hk
    · exact hpl k (by omega)
    · have hmk := (mem_othW.mp hk).1
      rcases h.mu k hmk with h3 | h3
      · exact hpl k h3
      · rw [← worthN_at hf (must_lt hmk)]
        refine hg _ ?_
        unfold tryNums
        exact List.mem_append_right _ (List.mem_append_left _ (List.mem_map.mpr ⟨_, h3, rfl⟩))
  · have := feas_size hf h
    unfold sizeW
    omega
/-! ### the call that fewest tells -/
def fewC (f : Face) (w : Want) : List Thing := tryCall f w (manyW f w) ((othW f w).map (nameK f))
theorem few_len (hf : f.Ok) (hw : w.Ok f) : (fewC f w).length = sizeW f w := by
  have hle : manyW f w ≤ w.worths.length := by rw [hw.len]; exact Nat.le_trans (manyW_le hf w) (places_le f)
  unfold fewC tryCall sizeW
  simp only [List.length_append, List.length_map, List.length_take, Nat.min_eq_left hle]
  omega
theorem oth_map_nodup (hf : f.Ok) (w : Want) : ((othW f w).map (nameK f)).Nodup := nodup_map_on (oth_nodup f w) fun a ha b hb e => nameK_inj hf (must_lt (mem_othW.mp ha).1) (must_lt (mem_othW.mp hb).1) e
theorem few_comes (hf : f.Ok) (hw : w.Ok f) (h : Can f w) : Comes f w (fewC f w) :=
  feas_comes hf hw (by rw [hw.len]; exact Nat.le_trans (manyW_le hf w) (places_le f)) (oth_map_nodup hf w) (can_feas hf h)
theorem few_nums (hf : f.Ok) (hw : w.Ok f) (h : Can f w) : ∀ x ∈ tryNums f w (manyW f w) ((othW f w).map (nameK f)), 0 ≤ x ∧ x < 100 := by
  have hle : manyW f w ≤ w.worths.length := by rw [hw.len]; exact Nat.le_trans (manyW_le hf w) (places_le f)
  have h0 : ∀ k, k < w.worths.length → 0 ≤ w.worths.getD k 0 := fun k hk => by
    rw [getD_lt hk]
    exact (hw.wo _ (List.getElem_mem hk)).1
  intro x hx
  unfold tryNums at hx
  rcases List.mem_append.mp hx with hx | hx
  · rcases List.mem_append.mp hx with hx | hx
    · obtain ⟨k, hk⟩ := List.mem_iff_getElem?.mp hx
      rw [List.getElem?_take] at hk
      split at hk
      · rename_i hlt
        have hkl : k < w.worths.length := by omega
        rw [List.getElem?_eq_getElem hkl, Option.some.injEq, ← getD_lt (d := 0) hkl] at hk
        rw [← hk]
        exact ⟨h0 k hkl, h.g k (.inl hlt)⟩
      · cases hk
    · exact hw.re x hx
  · rcases List.mem_append.mp hx with hx | hx
    · rw [List.map_map] at hx
      obtain ⟨k, hk, rfl⟩ := List.mem_map.mp hx
      have hkl := must_lt (mem_othW.mp hk).1
      show 0 ≤ worthN f w (nameK f k) ∧ worthN f w (nameK f k) < 100
      rw [worthN_at hf hkl]
      exact ⟨h0 k (by rw [hw.len]; exact hkl), h.g k (.inr hk)⟩
    · obtain ⟨p, hp, rfl⟩ := List.mem_map.mp hx
      exact hw.mo p hp
theorem oth_sub (hf : f.Ok) (w : Want) : ((othW f w).map (nameK f)).Sublist (f.slots.map (·.name)) := by
  have h1 : (othW f w).Sublist (List.range f.slots.length) := List.filter_sublist.trans List.filter_sublist
  have h2 := h1.map (nameK f)
  have e : (List.range f.slots.length).map (nameK f) = f.slots.map (·.name) := by
    refine List.ext_getElem? fun i => ?_
    rw [List.getElem?_map, List.getElem?_map]
    by_cases hi : i < f.slots.length
    · rw [List.getElem?_range hi, List.getElem?_eq_getElem hi]
      show some (nameK f i) = some _
      rw [nameK_at (List.getElem?_eq_getElem hi)]
    · rw [List.getElem?_eq_none (by rw [List.length_range]; omega), List.getElem?_eq_none (by omega)]
      rfl
  rwa [e] at h2
end
/-! ### trying all -/
section
variable {α : Type} (ok : α → Bool) (sz : α → Nat)
def stepX (b : Option Nat) (x : α) : Option Nat := if ok x = true ∧ (∀ n, b = some n → sz x < n) then some (sz x) else b
structure BestI (l : List α) (b : Option Nat) : Prop where
  le : ∀ x ∈ l, ok x = true → ∃ n, b = some n ∧ n ≤ sz x
  ex : ∀ n, b = some n → ∃ x ∈ l, ok x = true ∧ sz x = n
end
theorem best_snoc {α : Type} {ok : α → Bool} {sz : α → Nat} {l : List α} {b : Option Nat} (h : BestI ok sz l b) (x : α) : BestI ok sz (l ++ [x]) (stepX ok sz b x) := by
  unfold stepX
  split
  · rename_i hc
    refine ⟨fun y hy hoy => ⟨_, rfl, ?_⟩, fun n hn => ⟨x, by simp, hc.1, Option.some.inj hn⟩⟩
    rcases List.mem_append.mp hy with hy | hy
    · obtain ⟨n, hn, hle⟩ := h.le y hy hoy
      have := hc.2 n hn
      omega
    · rw [List.mem_singleton.mp hy]; exact Nat.le_refl _
  · rename_i hc
    refine ⟨fun y hy hoy => ?_, fun n hn => ?_⟩
    · rcases List.mem_append.mp hy with hy | hy
      · exact h.le y hy hoy
      · rw [List.mem_singleton] at hy
        subst hy
        cases hb : b with
        | none => exact absurd ⟨hoy, fun n hn => by rw [hb] at hn; cases hn⟩ hc
        | some n =>
          refine ⟨n, rfl, Nat.le_of_not_lt fun hlt => hc ⟨hoy, fun m hm => ?_⟩⟩
          rw [hb] at hm
          cases hm
          exact hlt
    · obtain ⟨y, hy, h1, h2⟩ := h.ex n hn
      exact ⟨y, List.mem_append_left _ hy, h1, h2⟩
theorem best_fold {α : Type} (ok : α → Bool) (sz : α → Nat) (l : List α) : BestI ok sz l (l.foldl (stepX ok sz) none) := by
  have : ∀ (r l : List α) (b : Option Nat), BestI ok sz l b → BestI ok sz (l ++ r) (r.foldl (stepX ok sz) b) := by
    intro r
    induction r with
    | nil => intro l b h; rw [List.append_nil]; exact h
    | cons x r ih =>
      intro l b h
      have := ih (l ++ [x]) _ (best_snoc h x)
      rw [List.append_assoc] at this
      exact this
  have h := this l [] none ⟨(fun x hx => by cases hx), (fun n hn => by cases hn)⟩
  simpa using h
/-- the pairs gone through, in order -/
def tryRows (f : Face) : List (Nat × List Int) := (List.range (f.slots.length + 1)).flatMap fun many => (powL (f.slots.map (·.name))).map fun nm => (many, nm)
def goodC (ns : List Int) : Bool := decide (ns.length < 11) && ns.all fun x => decide (x < 100)
def sndD : PyData → PyData
  | .tuple [_, y] => y
  | d => d
def comesB (f : Face) (w : Want) (c : List Thing) : Bool := PyData.eqv (sndD (encDone f c (lawMatched f (c.map (·.name))))) (fitsW w)
theorem pln_tI (n : Nat) (l : List Int) : Pln (n + 1) (encI l) = true := by
  show (l.map PyData.int).all (Pln n) = true
  rw [List.all_eq_true]
  intro x hx
  obtain ⟨k, _, rfl⟩ := List.mem_map.mp hx
  cases n <;> rfl
theorem pln_tP (n : Nat) (l : List (Int × Int)) : Pln (n + 2) (encMo l) = true := by
  show (l.map fun p => PyData.tuple [.int p.1, .int p.2]).all (Pln (n + 1)) = true
  rw [List.all_eq_true]
  intro x hx
  obtain ⟨k, _, rfl⟩ := List.mem_map.mp hx
  cases n <;> rfl
theorem pln_fits (a b : List Int) (m : List (Int × Int)) : Pln 3 (.tuple [.str kFits, encI a, encI b, encMo m]) = true := by
  show ([PyData.str kFits, encI a, encI b, encMo m]).all (Pln 2) = true
  simp only [List.all_cons, List.all_nil, pln_tI 1, pln_tP 0, Bool.and_true]
  rfl
theorem pln_clash (k : Clash) : Pln 3 (encC k) = true := by cases k <;> rfl
theorem done_snd (f : Face) (c : List Thing) (o : Out) : Pln 3 (sndD (encDone f c o)) = true := by
  cases o with
  | clash k => exact pln_clash k
  | fits a b m =>
    have e : (PyData.tuple (m.map fun p => PyData.tuple [.int p.1, .int (numK (numsOf c) p.2)])) = encMo (m.map fun p => (p.1, numK (numsOf c) p.2)) := by unfold encMo; rw [List.map_map]; rfl
    show Pln 3 (.tuple [.str kFits, encI _, encI _, .tuple (m.map fun p => PyData.tuple [.int p.1, .int (numK (numsOf c) p.2)])]) = true
    rw [e]
    exact pln_fits _ _ _
theorem done_two (f : Face) (c : List Thing) (o : Out) : encDone f c o = .tuple [(match encDone f c o with | .tuple [x, _] => x | d => d), sndD (encDone f c o)] := by cases o <;> rfl
theorem comesB_iff {f : Face} {w : Want} {c : List Thing} : comesB f w c = true ↔ Comes f w c := by
  unfold comesB
  rw [eqv_iff 3 _ (fitsW w) (done_snd f c _) (pln_fits _ _ _)]
  constructor
  · intro h
    exact ⟨_, by rw [done_two f c, h]⟩
  · rintro ⟨sd, h⟩
    rw [h]
    rfl
def okT (f : Face) (w : Want) (p : Nat × List Int) : Bool := goodC (tryNums f w p.1 p.2) && comesB f w (tryCall f w p.1 p.2)
def szT (f : Face) (w : Want) (p : Nat × List Int) : Nat := (tryNums f w p.1 p.2).length
def lawTried (f : Face) (w : Want) : Option Nat := (tryRows f).foldl (stepX (okT f w) (szT f w)) none
theorem szT_eq {f : Face} {w : Want} {many : Nat} {nm : List Int} (hm : many ≤ w.worths.length) : szT f w (many, nm) = many + nm.length + w.rest.length + w.more.length := by
  unfold szT tryNums
  simp only [List.length_append, List.length_map, List.length_take, Nat.min_eq_left hm]
  omega
theorem mem_tryRows {f : Face} {many : Nat} {nm : List Int} : (many, nm) ∈ tryRows f ↔ many ≤ f.slots.length ∧ nm.Sublist (f.slots.map (·.name)) := by
  unfold tryRows
  simp only [List.mem_flatMap, List.mem_map, List.mem_range, mem_powL, Prod.mk.injEq]
  constructor
  · rintro ⟨m, h1, n, h2, rfl, rfl⟩
    exact ⟨by omega, h2⟩
  · rintro ⟨h1, h2⟩
    exact ⟨many, by omega, nm, h2, rfl, rfl⟩
theorem tried_eq {f : Face} (hf : f.Ok) {w : Want} (hw : w.Ok f) : (Can f w → lawTried f w = some (sizeW f w)) ∧ (¬ Can f w → lawTried f w = none) := by
  have B := best_fold (okT f w) (szT f w) (tryRows f)
  have key : ∀ many nm, (many, nm) ∈ tryRows f → okT f w (many, nm) = true → Can f w ∧ sizeW f w ≤ szT f w (many, nm) := by
    intro many nm hin hok
    unfold okT at hok
    rw [Bool.and_eq_true, comesB_iff] at hok
    have hok : goodC (tryNums f w many nm) = true ∧ Comes f w (tryCall f w many nm) := hok
    obtain ⟨h1, h2⟩ := mem_tryRows.mp hin
    have hm : many ≤ w.worths.length := by rw [hw.len]; exact h1
    have hF := comes_feas hf hw hm hok.2
    have hs := szT_eq (f := f) (nm := nm) hm
    have hg := hok.1
    unfold goodC at hg
    rw [Bool.and_eq_true, decide_eq_true_eq, List.all_eq_true] at hg
    have h10 : szT f w (many, nm) < 11 := hg.1
    refine ⟨feas_can hf hw hF (by omega) fun x hx => of_decide_eq_true (hg.2 x hx), ?_⟩
    have := feas_size hf hF
    unfold sizeW
    omega
  constructor
  · intro hC
    have hin : (manyW f w, (othW f w).map (nameK f)) ∈ tryRows f := mem_tryRows.mpr ⟨Nat.le_trans (manyW_le hf w) (places_le f), oth_sub hf w⟩
    have hm : manyW f w ≤ w.worths.length := by rw [hw.len]; exact Nat.le_trans (manyW_le hf w) (places_le f)
    have hsz : szT f w (manyW f w, (othW f w).map (nameK f)) = sizeW f w := by
      rw [szT_eq hm, List.length_map]
      rfl
    have hok : okT f w (manyW f w, (othW f w).map (nameK f)) = true := by
      unfold okT goodC
      rw [Bool.and_eq_true, Bool.and_eq_true, comesB_iff, decide_eq_true_eq, List.all_eq_true]
      refine ⟨⟨?_, fun x hx => decide_eq_true (few_nums hf hw hC x hx).2⟩, few_comes hf hw hC⟩
      have : (tryNums f w (manyW f w) ((othW f w).map (nameK f))).length = sizeW f w := hsz
      have := hC.s
      show (tryNums f w (manyW f w) ((othW f w).map (nameK f))).length < 11
      omega
    obtain ⟨n, hn, hle⟩ := B.le _ hin hok
    obtain ⟨x, hx, h1, h2⟩ := B.ex n hn
    have := (key x.1 x.2 hx h1).2
    have h3 : szT f w (x.1, x.2) = n := h2
    show (tryRows f).foldl _ none = _
    rw [hn]
    congr 1
    omega
  · intro hC
    show (tryRows f).foldl _ none = none
    cases hb : (tryRows f).foldl (stepX (okT f w) (szT f w)) none with
    | none => rfl
    | some n =>
      obtain ⟨x, hx, h1, _⟩ := B.ex n hb
      exact absurd (key x.1 x.2 hx h1).1 hC
end Sc

/-! # what a call comes to may be wanted -/
namespace Sc
open PySem L2 PyProof.Rows Dw
theorem nums_in {c : List Thing} (hc : ∀ t ∈ c, t.Ok) (k : Nat) : 0 ≤ numK (numsOf c) k ∧ numK (numsOf c) k ≤ 99 := by
  unfold numK numsOf
  rw [List.getD_eq_getElem?_getD, List.getElem?_map]
  cases hk : c[k]? with
  | none => exact ⟨by decide, by decide⟩
  | some t =>
    have h := (hc t (List.mem_of_getElem? hk)).pl
    show 0 ≤ valE [] t.e ∧ valE [] t.e ≤ 99
    cases he : t.e with
    | num n => rw [he] at h; exact ⟨h.1, by have := h.2; show n ≤ 99; omega⟩
    | say n => rw [he] at h; exact ⟨h.1, by have := h.2; show n ≤ 99; omega⟩
    | slot n => rw [he] at h; cases h
    | plus a b => rw [he] at h; cases h
theorem val_in {W : List (Int × Int)} {ahead : List Int} {B : Int} (hB : 99 ≤ B) (hW : ∀ x ∈ ahead, 0 ≤ lookW W x ∧ lookW W x ≤ B) : ∀ e, ExOk ahead 1 e → 0 ≤ valE W e ∧ valE W e ≤ 2 * B := by
  have flat : ∀ e, ExOk ahead 0 e → 0 ≤ valE W e ∧ valE W e ≤ B := by
    intro e he
    cases e with
    | num n => exact ⟨he.1, by have := he.2; show n ≤ B; omega⟩
    | say n => exact ⟨he.1, by have := he.2; show n ≤ B; omega⟩
    | slot n => exact hW n he.2
    | plus a b => cases he
  intro e he
  cases e with
  | num n => exact ⟨he.1, by have := he.2; show n ≤ 2 * B; omega⟩
  | say n => exact ⟨he.1, by have := he.2; show n ≤ 2 * B; omega⟩
  | slot n => have := hW n he.2; exact ⟨this.1, by show lookW W n ≤ 2 * B; omega⟩
  | plus a b =>
    have h1 := flat a he.1
    have h2 := flat b he.2
    exact ⟨by show 0 ≤ valE W a + valE W b; omega, by show valE W a + valE W b ≤ 2 * B; omega⟩
theorem worths_in {f : Face} (hf : f.Ok) {c : List Thing} (hc : ∀ t ∈ c, t.Ok) {said : List Int} {a : List (Option Nat)} (hl : a.length = f.slots.length) : ∀ (k : Nat) (s : Slot), f.slots[k]? = some s →
    0 ≤ lookW (goW (numsOf c) (f.slots.zip a) ([], said)).1 s.name ∧ lookW (goW (numsOf c) (f.slots.zip a) ([], said)).1 s.name ≤ 198 * 2 ^ k := by
  intro k
  induction k using Nat.strongRecOn with
  | ind k ih =>
    intro s hk
    obtain ⟨hkl, hks⟩ := List.getElem?_eq_some_iff.mp hk
    have hka : k < a.length := by omega
    rw [worth_at hf hl hk (List.getElem?_eq_getElem hka)]
    have hp : (1 : Int) ≤ 2 ^ k := by exact_mod_cast Nat.one_le_two_pow
    cases hak : a[k] with
    | some i =>
      have := nums_in hc i
      show 0 ≤ numK (numsOf c) i ∧ numK (numsOf c) i ≤ 198 * 2 ^ k
      omega
    | none =>
      show 0 ≤ valE _ (dfE s) ∧ valE _ (dfE s) ≤ 198 * 2 ^ k
      have hSl := hf.each k hkl
      rw [hks] at hSl
      unfold dfE
      cases hd : s.dflt with
      | none =>
        show 0 ≤ (0 : Int) ∧ (0 : Int) ≤ 198 * 2 ^ k
        omega
      | some e =>
        have hex := hSl.df e hd
        cases k with
        | zero =>
          have : ∀ x ∈ (f.slots.take 0).map (·.name), 0 ≤ lookW (goW (numsOf c) (f.slots.zip a) ([], said)).1 x ∧ lookW (goW (numsOf c) (f.slots.zip a) ([], said)).1 x ≤ 99 := fun x hx => by simp at hx
          have h2 := val_in (Int.le_refl 99) this e hex
          exact ⟨h2.1, Int.le_trans h2.2 (by rw [Int.pow_zero]; decide)⟩
        | succ k =>
          have hpk : (1 : Int) ≤ 2 ^ k := by exact_mod_cast Nat.one_le_two_pow
          have hin : ∀ x ∈ (f.slots.take (k + 1)).map (·.name), 0 ≤ lookW (goW (numsOf c) (f.slots.zip a) ([], said)).1 x ∧ lookW (goW (numsOf c) (f.slots.zip a) ([], said)).1 x ≤ 198 * 2 ^ k := by
            intro x hx
            obtain ⟨u, hu, rfl⟩ := List.mem_map.mp hx
            obtain ⟨i, hi⟩ := List.mem_iff_getElem?.mp hu
            rw [List.getElem?_take] at hi
            split at hi
            · rename_i hik
              have := ih i hik u hi
              have hpow : (2 : Int) ^ i ≤ 2 ^ k := by exact_mod_cast Nat.pow_le_pow_right (by decide) (show i ≤ k by omega)
              exact ⟨this.1, by omega⟩
            · cases hi
          have h2 := val_in (by omega) hin e hex
          refine ⟨h2.1, Int.le_trans h2.2 ?_⟩
          rw [Int.pow_succ]
          omega
/-- what is wanted, if a call comes to it -/
def wantOf (f : Face) (c : List Thing) (a : List (Option Nat)) (b : List Nat) (m : List (Int × Nat)) : Want :=
  ⟨f.slots.map fun s => lookW (goW (numsOf c) (f.slots.zip a) ([], saidOf c)).1 s.name, b.map (numK (numsOf c)), m.map fun p => (p.1, numK (numsOf c) p.2)⟩
theorem want_of {f : Face} (hf : f.Ok) {c : List Thing} (hc : ∀ t ∈ c, t.Ok) {a : List (Option Nat)} {b : List Nat} {m : List (Int × Nat)} (h : lawMatched f (c.map (·.name)) = .fits a b m) : (wantOf f c a b m).Ok f := by
  have FT := fits_of h
  obtain ⟨C, F⟩ := law_fits_iff.mp ⟨a, b, m, h⟩
  have h' := h
  rw [law_fits C F] at h'
  unfold fitsG at h'
  injection h' with ha hb hm
  have hnm : (wantOf f c a b m).names = srt ((moreG (goesOf f (c.map (·.name)))).map (·.1)) := by
    unfold Want.names wantOf
    rw [← hm]
    unfold sortM
    rw [List.map_map, List.map_map]
    exact List.map_id _
  refine ⟨by unfold wantOf; rw [List.length_map], fun x hx => ?_, ?_, ?_, fun x hx => ?_, fun p hp => ?_⟩
  · obtain ⟨s, hs, rfl⟩ := List.mem_map.mp hx
    obtain ⟨k, hk⟩ := List.mem_iff_getElem?.mp hs
    have hkl := (List.getElem?_eq_some_iff.mp hk).1
    have := worths_in hf hc (said := saidOf c) FT.len k s hk
    have hk5 : k ≤ 5 := by have := hf.len; omega
    have hp : (2 : Int) ^ k ≤ 2 ^ 5 := by exact_mod_cast Nat.pow_le_pow_right (by decide) hk5
    exact ⟨this.1, by omega⟩
  · rw [hnm]
    exact rising_of (srt_sorted _) ((srt_perm _).nodup_iff.mpr (moreG_nodup C))
  · rw [hnm]
    intro n hn
    rw [(srt_perm _).mem_iff] at hn
    obtain ⟨p, hp, rfl⟩ := List.mem_map.mp hn
    have hg := mem_more.mp hp
    have hl : p.2 < (c.map (·.name)).length := by
      have := (List.getElem?_eq_some_iff.mp hg).1
      rwa [goes_len] at this
    rcases thing_cases hl with h0 | ⟨n, h0⟩
    · rw [goes_place h0] at hg
      exfalso
      split at hg
      · cases hg
      · split at hg <;> cases hg
    · rw [goes_name h0] at hg
      have hn : p.1 = n := by
        cases hs : slotNamed f n with
        | some k => rw [hs] at hg; cases hg
        | none =>
          rw [hs] at hg
          by_cases hmo : f.more = true
          · simp only [hmo, if_true, Option.some.injEq, Go.more.injEq] at hg
            exact hg.symm
          · simp only [hmo] at hg; cases hg
      rw [List.getElem?_map] at h0
      cases ht : c[p.2]? with
      | none => rw [ht] at h0; cases h0
      | some t =>
        rw [ht] at h0
        have h0 : some t.name = some (some n) := h0
        rw [hn]
        exact (hc t (List.mem_of_getElem? ht)).nm n (Option.some.inj h0)
  · obtain ⟨k, _, rfl⟩ := List.mem_map.mp hx
    have := nums_in hc k
    exact ⟨this.1, by omega⟩
  · obtain ⟨q, _, rfl⟩ := List.mem_map.mp hp
    have := nums_in hc q.2
    exact ⟨this.1, by show numK (numsOf c) q.2 < 100; omega⟩
theorem done_fits {f : Face} {c : List Thing} {a : List (Option Nat)} {b : List Nat} {m : List (Int × Nat)} : sndD (encDone f c (.fits a b m)) = fitsW (wantOf f c a b m) := by
  show PyData.tuple [.str kFits, encI _, encI _, .tuple (m.map fun p => PyData.tuple [.int p.1, .int (numK (numsOf c) p.2)])] = _
  unfold fitsW wantOf encMo
  rw [List.map_map]
  rfl
end Sc

/-! # trying all shapes, step by step -/
namespace Sc
open PySem L2 PyProof.Rows Dw
def lessO (n : Nat) : Option Nat → Bool
  | none => true
  | some m => decide (n < m)
theorem stepX_eq {α : Type} (ok : α → Bool) (sz : α → Nat) (b : Option Nat) (x : α) : stepX ok sz b x = if (ok x && lessO (sz x) b) = true then some (sz x) else b := by
  unfold stepX
  have : (ok x = true ∧ ∀ n, b = some n → sz x < n) ↔ (ok x && lessO (sz x) b) = true := by
    rw [Bool.and_eq_true]
    refine and_congr_right fun _ => ?_
    cases b with
    | none => simp [lessO]
    | some m => simp [lessO]
  by_cases h : ok x = true ∧ ∀ n, b = some n → sz x < n
  · rw [if_pos h, if_pos (this.mp h)]
  · rw [if_neg h, if_neg (fun z => h (this.mpr z))]
def rowsAt (f : Face) (i : Nat) : List (Nat × List Int) := (powL (f.slots.map (·.name))).map fun nm => (i, nm)
def bestN (f : Face) (w : Want) (i j : Nat) : Option Nat := (((List.range i).flatMap (rowsAt f)) ++ (rowsAt f i).take j).foldl (stepX (okT f w) (szT f w)) none
theorem best_0 (f : Face) (w : Want) : bestN f w 0 0 = none := rfl
theorem best_in {f : Face} {w : Want} {i j : Nat} {nm : List Int} (h : (powL (f.slots.map (·.name)))[j]? = some nm) : bestN f w i (j + 1) = if (okT f w (i, nm) && lessO (szT f w (i, nm)) (bestN f w i j)) = true then some (szT f w (i, nm)) else bestN f w i j := by
  unfold bestN
  have e : (rowsAt f i).take (j + 1) = (rowsAt f i).take j ++ [(i, nm)] := by
    rw [List.take_add_one]
    congr 1
    unfold rowsAt
    rw [List.getElem?_map, h]
    rfl
  rw [e, ← List.append_assoc, List.foldl_append]
  exact stepX_eq _ _ _ _
theorem best_out (f : Face) (w : Want) (i : Nat) : bestN f w (i + 1) 0 = bestN f w i (powL (f.slots.map (·.name))).length := by
  unfold bestN
  rw [List.take_zero, List.append_nil, List.take_of_length_le (by unfold rowsAt; rw [List.length_map]; exact Nat.le_refl _), List.range_succ, List.flatMap_append]
  simp
theorem best_end (f : Face) (w : Want) : bestN f w (f.slots.length + 1) 0 = lawTried f w := by
  unfold bestN lawTried tryRows
  rw [List.take_zero, List.append_nil]
  rfl
section
variable {f : Face} {w : Want} {many : Nat} {nm : List Int}
theorem good_ok (hf : f.Ok) (hw : w.Ok f) (hs : nm.Sublist (f.slots.map (·.name))) (hg : goodC (tryNums f w many nm) = true) : ∀ t ∈ tryCall f w many nm, t.Ok := by
  unfold goodC at hg
  rw [Bool.and_eq_true, List.all_eq_true] at hg
  have h100 : ∀ x ∈ tryNums f w many nm, x < 100 := fun x hx => of_decide_eq_true (hg.2 x hx)
  have h0 : ∀ k, 0 ≤ w.worths.getD k 0 := fun k => by
    by_cases hk : k < w.worths.length
    · rw [getD_lt hk]; exact (hw.wo _ (List.getElem_mem hk)).1
    · rw [List.getD_eq_getElem?_getD, List.getElem?_eq_none (by omega)]; exact Int.le_refl 0
  intro t ht
  unfold tryCall at ht
  unfold tryNums at h100
  rcases List.mem_append.mp ht with ht | ht
  · obtain ⟨x, hx, rfl⟩ := List.mem_map.mp ht
    refine ⟨fun n h => (by cases h), ?_, h100 x (List.mem_append_left _ hx)⟩
    rcases List.mem_append.mp hx with hx | hx
    · exact (hw.wo x (List.mem_of_mem_take hx)).1
    · exact (hw.re x hx).1
  · rcases List.mem_append.mp ht with ht | ht
    · obtain ⟨n, hn, rfl⟩ := List.mem_map.mp ht
      refine ⟨fun m h => ?_, ?_, h100 _ (List.mem_append_right _ (List.mem_append_left _ (List.mem_map.mpr ⟨n, hn, rfl⟩)))⟩
      · have h : some n = some m := h
        cases h
        obtain ⟨s, hs1, rfl⟩ := List.mem_map.mp (hs.subset hn)
        obtain ⟨k, hk, hks⟩ := List.getElem_of_mem hs1
        have := hf.each k hk
        rw [hks] at this
        exact ⟨this.n0, this.n1⟩
      · show 0 ≤ worthN f w n
        unfold worthN
        split
        · exact h0 _
        · exact Int.le_refl 0
    · obtain ⟨p, hp, rfl⟩ := List.mem_map.mp ht
      refine ⟨fun m h => ?_, (hw.mo p hp).1, (hw.mo p hp).2⟩
      have h : some p.1 = some m := h
      cases h
      exact hw.ten p.1 (List.mem_map.mpr ⟨p, hp, rfl⟩)
theorem try_len : (tryCall f w many nm).length = (tryNums f w many nm).length := by
  unfold tryCall tryNums
  simp only [List.length_append, List.length_map]
theorem try_num : ∀ t ∈ tryCall f w many nm, ∃ x, t.e = .num x := by
  intro t ht
  unfold tryCall at ht
  simp only [List.mem_append, List.mem_map] at ht
  rcases ht with ⟨x, _, rfl⟩ | ⟨x, _, rfl⟩ | ⟨x, _, rfl⟩ <;> exact ⟨_, rfl⟩
theorem max_all {ns : List Int} {m : Int} (h1 : m ∈ ns ++ [0]) (h2 : ∀ y ∈ ns ++ [0], y ≤ m) : decide (m < 100) = ns.all fun x => decide (x < 100) := by
  rw [Bool.eq_iff_iff, decide_eq_true_eq, List.all_eq_true]
  constructor
  · intro h x hx
    have := h2 x (List.mem_append_left _ hx)
    exact decide_eq_true (by omega)
  · intro h
    rcases List.mem_append.mp h1 with h1 | h1
    · exact of_decide_eq_true (h m h1)
    · rw [List.mem_singleton.mp h1]; decide
/-- where a slot's name stands -/
theorem name_at (hf : f.Ok) {n : Int} (hn : n ∈ f.slots.map (·.name)) : ∃ k, k < f.slots.length ∧ (f.slots.map (·.name))[k]? = some n ∧ worthN f w n = w.worths.getD k 0 ∧ ∀ (m : Nat) (z : Int), m < k → (f.slots.map (·.name))[m]? = some z → z ≠ n := by
  obtain ⟨s, hs, rfl⟩ := List.mem_map.mp hn
  obtain ⟨k, hk, hks⟩ := List.getElem_of_mem hs
  have hk' : f.slots[k]? = some s := by rw [List.getElem?_eq_getElem hk, hks]
  refine ⟨k, hk, by rw [List.getElem?_map, hk']; rfl, by unfold worthN; rw [findSlot_of hf hk'], fun m z hm hz e => ?_⟩
  rw [List.getElem?_map] at hz
  cases hu : f.slots[m]? with
  | none => rw [hu] at hz; cases hz
  | some u =>
    rw [hu] at hz
    have hz : some u.name = some z := hz
    cases hz
    have := name_uniq hf hu hk' e
    omega
end
theorem shp_clash (k : Clash) : Shp 3 (encC k) = true := by
  have h1 : Shp 2 (.str kOver) = true := by decide +kernel
  have h2 : Shp 2 (.str kUnknown) = true := by decide +kernel
  have h3 : Shp 2 (.str kTwice) = true := by decide +kernel
  have h4 : Shp 2 (.str kLacks) = true := by decide +kernel
  cases k with
  | over n => show (Shp 2 (.str kOver) && _) = true; rw [h1]; rfl
  | unknown n => show (Shp 2 (.str kUnknown) && _) = true; rw [h2]; rfl
  | twice n => show (Shp 2 (.str kTwice) && _) = true; rw [h3]; rfl
  | lacks n => show (Shp 2 (.str kLacks) && _) = true; rw [h4]; rfl
theorem shp_tI (n : Nat) (l : List Int) : Shp (n + 1) (encI l) = true := by
  show (l.map PyData.int).all (Shp n) = true
  rw [List.all_eq_true]
  intro x hx
  obtain ⟨k, _, rfl⟩ := List.mem_map.mp hx
  cases n <;> rfl
theorem shp_tP (n : Nat) (l : List (Int × Int)) : Shp (n + 2) (encMo l) = true := by
  show (l.map fun p => PyData.tuple [.int p.1, .int p.2]).all (Shp (n + 1)) = true
  rw [List.all_eq_true]
  intro x hx
  obtain ⟨k, _, rfl⟩ := List.mem_map.mp hx
  cases n <;> rfl
theorem shp_fitsW (w : Want) : Shp 3 (fitsW w) = true := by
  have h : Shp 2 (.str kFits) = true := by decide +kernel
  show (Shp 2 (.str kFits) && (Shp 2 (encI w.worths) && (Shp 2 (encI w.rest) && (Shp 2 (encMo w.more) && true)))) = true
  rw [h, shp_tI 1, shp_tI 1, shp_tP 0]
  rfl
theorem shp_snd (f : Face) (c : List Thing) (o : Out) : Shp 3 (sndD (encDone f c o)) = true := by
  cases o with
  | clash k => exact shp_clash k
  | fits a b m => rw [done_fits]; exact shp_fitsW _
end Sc

/-! # try .. except C, lists that may change: isinstance, list(), reverse -/
namespace Dw
open PySem PySem.Spec L2 LamX PyProof.Rows
theorem paired_rev {α β : Type} {R : α → β → Prop} : ∀ {a : List α} {b : List β}, Paired R a b → Paired R a.reverse b.reverse
  | _, _, .nil => .nil
  | _, _, .cons r h => by
    rw [List.reverse_cons, List.reverse_cons]
    exact paired_app (paired_rev h) (.cons r .nil)
section
variable {K : Frg} {G0 : Hp} {ρ : Rho} {μ : Mu} {De : DE} {Q : PV → Mu → Prop}
/-- what an exception of the body is told to -/
def WOk (K : Frg) (G1 : Hp) (W : WX) (ρ : Rho) (Ed : Addr → Mu → Prop) : Prop := ∀ C G H μ σ, Same G1 G → RelS K G σ ρ → Sep K G μ H → Ed C μ → W (.ref C) none σ H
theorem we_callS {α : Type} {inp : α → List PV} {pre : α → Mu → Prop} {post : α → Mu → PV → Mu → Prop} {exn : α → Mu → Addr → Mu → Prop} {W : WX} {Ed : Addr → Mu → Prop} {t : TA} (hW : WOk K G0 W ρ Ed)
    (h : Wa K G0 t ρ μ fun xs μ1 => ∃ a, xs = inp a ∧ pre a μ1 ∧ (∀ x μ2, post a μ1 x μ2 → Q x μ2) ∧ ∀ C μ2, exn a μ1 C μ2 → Ed C μ2) :
    We K G0 (tCallS (SpX K inp pre post exn) (WE W) t) ρ μ Q := fun σ G H e rs S R k =>
  h σ G H e rs S _ fun vs G1 H1 xs μ1 e1 rl S1 ⟨a, hx, hp, hq, hn⟩ => by
    subst hx
    exact ⟨G1, μ1, a, rl, S1, hp, fun v G' H' x μ' e' r S' ps => k v G' H' x μ' (e1.trans e') r S' (hq x μ' ps), fun C G' H' μ' e' S' xn => hW C G' H' μ' σ (e.trans (e1.trans e')) ((rs.ext e1).ext e') S' (hn C μ' xn)⟩
theorem ws_tryOnly {tb : WX → TS} {c : Value} {ts : Addr → Value → Option Addr → TS} {Wout : WX} (Ed : Addr → Mu → Prop) (h : ∀ G1, Same G0 G1 → ∀ W, WOk K G1 W ρ Ed → Ws K G1 (tb W) ρ μ De)
    (hts : ∀ C μ2, Ed C μ2 → PySem.W.exmOne K (.ref C) c = some true ∧ ∀ ad, Ws K G0 (ts ad (.ref C) none) ρ μ2 De) : Ws K G0 (fun D σ H => tb (wOnly K c ts Wout D) D σ H) ρ μ De := fun σ G H e rs S D kn kr kb kc => by
  refine h G e (wOnly K c ts Wout D) (fun C G' H' μ' σ' e' rs' S' xn => ?_) σ G H (Same.refl _) rs S D kn kr kb kc
  obtain ⟨hm, hw⟩ := hts C μ' xn
  exact ⟨true, hm, fun _ ad _ => hw ad σ' G' H' (e.trans e') rs' S' D (fun a b c d f g => kn a b c d f (e'.trans g)) (fun a b c d f g => kr a b c d f (e'.trans g)) (fun a b c d f g => kb a b c d f (e'.trans g)) (fun a b c d f g => kc a b c d f (e'.trans g)), fun h => (nomatch h)⟩
theorem wc_isiO {a : Addr} {xs : List PV} {T : String} {b : Bool} (hm : μ a = some (.lst xs)) (hb : kitB "list" T = some b) (q : Q (.b b) μ) : Wc K G0 (rIsi K) [.o a, .ty T] μ Q := fun vs G H e rl S R k => by
  obtain ⟨v, w, rfl, rv, rw⟩ := rl2 rl
  cases (show v = .ref a from rv)
  cases (show w = .ty T from rw)
  obtain ⟨hg, o, ho, ws, hvs, _⟩ := S.mu a _ hm
  subst hvs
  exact ⟨_, .ty T, .type "list", .type T, b, rfl, .ty T, .base (.lst ho), kit_ty hb, k _ G H _ μ (Same.refl _) (mk_bl _) S q⟩
theorem we_isiTO {T U : String} {te : TE} (h : We K G0 te ρ μ fun x μ1 => ∃ a xs p q, x = .o a ∧ μ1 a = some (.lst xs) ∧ kitB "list" T = some p ∧ kitB "list" U = some q ∧ Q (.b (p || q)) μ1) :
    We K G0 (tCB (rIsiT K) (tCons te (tCons (tTup (tCons (tC (.ty T)) (tCons (tC (.ty U)) tNil))) tNil))) ρ μ Q := fun σ G H e rs S R k =>
  h σ G H e rs S _ fun v G1 H1 x μ1 e1 rv S1 ⟨a, xs, p, q, hx, hm, h1, h2, hq⟩ => by
    subst hx
    cases (show v = .ref a from rv)
    obtain ⟨hg, o, ho, ws, hvs, _⟩ := S1.mu a _ hm
    subst hvs
    refine ⟨by show 2 ≤ sizeLine; decide, fun tp htp => ?_⟩
    refine ⟨_, tp, _, .type "list", [.type T, .type U], p || q, rfl, upd_same, .cons (.ty T) (.cons (.ty U) .nil), .base (.lst ((same_new htp) _ _ ho)), kitAny2 h1 h2, ?_⟩
    exact k _ G1 _ _ μ1 e1 (mk_bl _) (S1.junk htp) hq
theorem wc_listO {a : Addr} {ds : List PyData} (hm : μ a = some (.lst (ds.map .d))) (q : Q (.l ds) μ) : Wc K G0 (rListC K) [.o a] μ Q := fun vs G H e rl S R k => by
  obtain ⟨v, rfl, rv⟩ := rl1 rl
  cases (show v = .ref a from rv)
  obtain ⟨hg, o, ho, ws, hvs, rws⟩ := S.mu a _ hm
  subst hvs
  refine ⟨a, ws, rfl, .inl (.inl (.inl ho)), fun p hp => ?_⟩
  have hg := S.gfree hp
  exact k _ (upd G p (.lst ws)) _ _ μ (same_new hg) (mk_lst upd_same (dqa_ext (same_new hg) (dqAll_of rws))) (S.fix hp) q
theorem wm_reverse {a : Addr} {xs : List PV} (hm : μ a = some (.lst xs)) (q : Q .n (mset μ a (.lst xs.reverse))) : Wm K G0 rReverse (.o a) [] μ Q := fun v vs G H e rv rl S R k => by
  cases (show v = .ref a from rv)
  cases rl
  obtain ⟨hg, o, ho, ws, hvs, rws⟩ := S.mu a _ hm
  subst hvs
  exact ⟨a, ws, rfl, rfl, ho, k _ G _ _ _ (Same.refl _) mk_non (S.put (m := .lst xs.reverse) hm ⟨_, rfl, paired_rev rws⟩) q⟩
end
end Dw

namespace Sc
open PySem L2 PyProof.Rows Dw
local macro_rules | `(tactic| walk_at "dw1") => `(tactic| first
  | (with_reducible refine ws_seq ?_) | (with_reducible refine ws_ret ?_) | (with_reducible refine ws_set ?_) | (with_reducible refine ws_drop ?_) | (with_reducible refine ws_if ?_) | (with_reducible refine ws_next ?_)
  | ((with_reducible show We _ _ (tVar _) _ _ _); refine we_var rfl ?_) | (with_reducible refine we_int ?_) | (with_reducible refine we_bl ?_) | (with_reducible refine we_str ?_) | (with_reducible refine we_non ?_) | (with_reducible refine we_ty ?_)
  | (with_reducible refine we_op ?_) | (with_reducible refine we_isiT ?_) | (with_reducible refine we_cb ?_) | (with_reducible refine wa_cons ?_) | (with_reducible refine wa_nil ?_)
  | (with_reducible refine we_and ?_) | (with_reducible refine we_or ?_) | (with_reducible refine we_not ?_) | (with_reducible refine we_if ?_) | (with_reducible refine we_chain ?_)
  | (with_reducible refine we_fld ?_) | (with_reducible refine we_bm ?_) | (with_reducible refine we_bm0 ?_) | (with_reducible refine we_sl ?_) | (with_reducible refine wo_none ?_) | (with_reducible refine wo_some ?_)
  | (with_reducible refine wt_test ?_) | (with_reducible refine wt_B ?_) | (with_reducible refine wt_and ?_) | (with_reducible refine wt_or ?_) | (with_reducible refine wt_not ?_) | (with_reducible refine wt_yes ?_)
  | (with_reducible refine w2_I0i ?_) | (with_reducible refine w2_I0b ?_) | (with_reducible refine w2_isN ?_) | (with_reducible refine w2_notN ?_)
  | (with_reducible refine we_callL ?_) | (with_reducible refine we_call ?_) | (with_reducible refine we_tup ?_)
  | (with_reducible refine wc_lenT ?_) | (with_reducible refine wc_lenL ?_) | (with_reducible refine wc_lenS ?_) | (with_reducible refine wc_intB ?_) | (with_reducible refine wc_min2 ?_)
  | ((with_reducible show Wg _ _ (gTup _ _ _) _ _ _ _); first | refine wg_tup2 ?_ | refine wg_tup3 ?_ | refine wg_tup4 ?_) | (with_reducible refine we_un ?_) | (with_reducible refine ws_asg ?_) | (with_reducible refine wg_name ?_) | (with_reducible refine wgs_cons ?_) | (with_reducible refine wgs_nil ?_)
  | (with_reducible refine wsl_T ?_) | (with_reducible refine wsl_L ?_)
  | (with_reducible refine wc_tupL ?_) | (with_reducible refine wc_listT ?_)
  | (with_reducible refine wc_isi (kit_int _) ?_) | (with_reducible refine wc_isi (kit_bool _) ?_) | (with_reducible refine wc_isi (kit_tuple _) ?_) | (with_reducible refine wc_isi (kit_list _) ?_) | (with_reducible refine wc_isi (kit_str _) ?_)
  | (with_reducible refine ex_b ?_) | (with_reducible refine ex_i ?_) | (with_reducible refine ex_t ?_) | (with_reducible refine ex_l ?_)
  | ((with_reducible show ∃ _, unD _ = some _ ∧ _); refine ⟨_, rfl, by simp, ?_⟩))
local macro_rules | `(tactic| walk_at "dw") => `(tactic| repeat' walk_at "dw1")

def topS (i : Nat) : Stmt := PySem.Challenge.pw_slotcall_k08_what_must_be_handed.main.body.getD i (.Pass ⟨0, 0, 0, 0⟩)
structure Cst (mg : Str → Option Value) : Prop where
  NAMES : ∃ u, mg "NAMES" = some (.int 10 u)
  NUMBERS : ∃ u, mg "NUMBERS" = some (.int 100 u)
  MOST_SLOTS : ∃ u, mg "MOST_SLOTS" = some (.int 6 u)
  MOST_THINGS : ∃ u, mg "MOST_THINGS" = some (.int 10 u)
section
variable {P : Program} {w : World} {K : Frg} {mg : Str → Option Value} {base : Heap} {f : Addr} {fd : FuncData}
/-! ### is_number -/
abbrev s_is_number : Stmt := topS 12
abbrev N_is_number : List Str := ["part", "below"]
theorem sc_is_number : FnScope N_is_number ["part", "below"] (defScope s_is_number) := ⟨rfl, rfl, rfl, by decide +kernel, rfl, by decide +kernel, by decide +kernel⟩

abbrev sp_is_number (K : Frg) : Sp := SpA (α := PyData × Int) K (fun a => [.d a.1, .i a.2]) (fun _ _ => True) (fun a μ x μ' => x = .b (isNum a.1 a.2) ∧ μ = μ')
theorem ok_is_number (F : Fun K "is_number" "is_number" s_is_number f fd) (B : Blt mg) : FnOk P w K mg base CX0 1 f fd ["part", "below"] (sp_is_number K) := by
  refine ok_D F sc_is_number (fun _ => rfl) (fun cdv A outer s H E hr a μ _ => ⟨_, (pss_one (ps_ret (pe_and (pe_callB (kisi K) (by rfl) B.isinstance (by decide +kernel) (pa_cons (pv 0) (pa_cons (pe_bltn (v := .ty "int") (by rfl) B.int (by decide +kernel) rfl) pa_nil))) (pe_and (pe_not (pe_callB (kisi K) (by rfl) B.isinstance (by decide +kernel) (pa_cons (pv 0) (pa_cons (pe_bltn (v := .ty "bool") (by rfl) B.bool (by decide +kernel) rfl) pa_nil)))) (pe_one (pe_chain op_le op_lt pe_int (pv 0) (pv 1))))))), fun G0 => ?_⟩)
  obtain ⟨d, b⟩ := a
  try dsimp only [cxOf, Cx.nox]
  walk_at "dw"
  refine ⟨fun h => ?_, fun h => ⟨μ, Sub.refl _, by cases d <;> first | rfl | (cases h; done), rfl⟩⟩
  walk_at "dw"
  refine ⟨fun h2 => ?_, fun h2 => ⟨μ, Sub.refl _, by cases d <;> first | rfl | (cases h; done) | (cases h2; done), rfl⟩⟩
  cases d <;> first | (cases h; done) | (cases h2; done) | skip
  walk_at "dw"
  refine ⟨fun h3 => ?_, fun h3 => ⟨μ, Sub.refl _, by simp [isNum, of_decide_eq_false h3], rfl⟩⟩
  walk_at "dw"
  exact ⟨μ, Sub.refl _, by simp [isNum, of_decide_eq_true h3], rfl⟩
end
section
variable {P : Program} {w : World} {K : Frg} {mg : Str → Option Value} {base : Heap} {f : Addr} {fd : FuncData}
/-! ### is_plain -/
abbrev s_is_plain : Stmt := topS 13
abbrev N_is_plain : List Str := ["e"]
theorem sc_is_plain : FnScope N_is_plain ["e"] (defScope s_is_plain) := ⟨rfl, rfl, rfl, by decide +kernel, rfl, by decide +kernel, by decide +kernel⟩

abbrev sp_is_plain (K : Frg) : Sp := SpA (α := PyData) K (fun a => [.d a]) (fun a _ => ∃ n, Tame n a) (fun a μ x μ' => x = .b (isPlainD a) ∧ μ = μ')
theorem ok_is_plain (F : Fun K "is_plain" "is_plain" s_is_plain f fd) (B : Blt mg) (T : Cst mg) (C_is_number : Cal P w K mg base CX0 1 "is_number" ["part", "below"] (sp_is_number K)) : FnOk P w K mg base CX0 2 f fd ["e"] (sp_is_plain K) := by
  refine ok_D F sc_is_plain (fun _ => rfl) (fun cdv A outer s H E hr d μ hp => ⟨_, (pss_one (ps_ret (pe_and (pe_callB (kisi K) (by rfl) B.isinstance (by decide +kernel) (pa_cons (pv 0) (pa_cons (pe_bltn (v := .ty "tuple") (by rfl) B.tuple (by decide +kernel) rfl) pa_nil))) (pe_and (pe_cmpR (keq K hr) (pe_callB (klen K) (by rfl) B.len PySem.boot_len (pa_cons (pv 0) pa_nil)) pe_int (nomark _)) (pe_and (pe_cmpR (kin K) (pe_ix (kix K) (pv 0) pe_int (fun _ _ => rfl)) (pe_tup (pa_cons pe_str (pa_cons pe_str pa_nil))) (by rfl)) (pe_one (pe_cal C_is_number hr (pa_cons (pe_ix (kix K) (pv 0) pe_int (fun _ _ => rfl)) (pa_cons (pe_gint T.NUMBERS) pa_nil))))))))), fun G0 => ?_⟩)
  try dsimp only [cxOf, Cx.nox]
  obtain ⟨n, hT⟩ := hp
  walk_at "dw"
  refine ⟨fun h => ?_, fun h => ⟨μ, Sub.refl _, by cases d <;> first | rfl | (cases h; done), rfl⟩⟩
  cases d <;> first | (cases h; done) | skip
  rename_i xs
  walk_at "dw"
  refine w2_eqD rfl rfl ?_
  walk_at "dw"
  rcases xs with _ | ⟨a, _ | ⟨b, _ | ⟨c, r⟩⟩⟩
  · exact ⟨fun h => (nomatch h), fun _ => ⟨μ, Sub.refl _, rfl, rfl⟩⟩
  · exact ⟨fun h => (nomatch h), fun _ => ⟨μ, Sub.refl _, rfl, rfl⟩⟩
  · refine ⟨fun _ => ?_, fun h => (nomatch h)⟩
    walk_at "dw"
    refine w2_ixT (d := a) rfl ?_
    walk_at "dw"
    refine w2_inT hT.head rfl ?_
    walk_at "dw"
    refine ⟨fun h2 => ?_, fun h2 => ⟨μ, Sub.refl _, by simp only [isPlainD]; rw [show ([PyData.str kNum, PyData.str kSay].any fun y => PyData.eqv y a) = false from h2]; rfl, rfl⟩⟩
    walk_at "dw"
    refine w2_ixT (d := b) rfl ?_
    walk_at "dw"
    refine ⟨(b, 100), rfl, trivial, ?_⟩
    rintro _ _ ⟨rfl, rfl⟩
    exact ⟨_, Sub.refl _, by simp only [isPlainD]; rw [show ([PyData.str kNum, PyData.str kSay].any fun y => PyData.eqv y a) = true from h2]; rfl, rfl⟩
  · refine ⟨fun h => ?_, fun _ => ⟨μ, Sub.refl _, rfl, rfl⟩⟩
    simp [PyData.eqv] at h
    omega
end
section
variable {P : Program} {w : World} {K : Frg} {mg : Str → Option Value} {base : Heap} {f : Addr} {fd : FuncData}
/-! ### is_expression -/
abbrev s_is_expression : Stmt := topS 14
abbrev N_is_expression : List Str := ["e", "ahead", "deep"]
theorem sc_is_expression : FnScope N_is_expression ["e", "ahead", "deep"] (defScope s_is_expression) := ⟨rfl, rfl, rfl, by decide +kernel, rfl, by decide +kernel, by decide +kernel⟩

abbrev sp_is_expression (n : Nat) (K : Frg) : Sp := SpA (α := PyData × List PyData) K (fun a => [.d a.1, .l a.2, .i (n : Int)]) (fun a _ => Tame n a.1 ∧ a.2.all flatD = true) (fun a μ x μ' => x = .b (isExprD a.2 n a.1) ∧ μ = μ')
abbrev sp_is_expressionR (n : Nat) (K : Frg) : Sp := SpA (α := PyData × List PyData) K (fun a => [.d a.1, .l a.2, .i ((n : Int) - 1)]) (fun a _ => ∃ m, n = m + 1 ∧ Tame m a.1 ∧ a.2.all flatD = true) (fun a μ x μ' => x = .b (isExprD a.2 (n - 1) a.1) ∧ μ = μ')
theorem expr_plain {ahead : List PyData} {n : Nat} {d : PyData} (h : isPlainD d = true) : isExprD ahead n d = true := by cases n <;> simp [isExprD, h]
theorem expr_not {ahead : List PyData} {n : Nat} {d : PyData} (h : isPlainD d = false) (ht : isTupT d = false) : isExprD ahead n d = false := by
  cases n <;> cases d <;> first | (cases ht; done) | (simp [isExprD, h])
theorem expr_slot {ahead : List PyData} {n : Nat} {h : PyData} {r : List PyData} (hp : isPlainD (.tuple (h :: r)) = false) (hs : PyData.eqv h (.str kSlot) = true) : isExprD ahead n (.tuple (h :: r)) = match r with
    | [x] => isNum x 10 && ahead.any fun y => PyData.eqv y x
    | _ => false := by
  rcases r with _ | ⟨x, _ | ⟨y, _ | ⟨z, r⟩⟩⟩ <;> cases n <;> simp [isExprD, hp, hs]
theorem expr_other {ahead : List PyData} {n : Nat} {h : PyData} {r : List PyData} (hp : isPlainD (.tuple (h :: r)) = false) (hs : PyData.eqv h (.str kSlot) = false) : isExprD ahead n (.tuple (h :: r)) = match n, r with
    | m + 1, [x, y] => PyData.eqv h (.str kPlus) && (isExprD ahead m x && isExprD ahead m y)
    | _, _ => false := by
  rcases r with _ | ⟨x, _ | ⟨y, _ | ⟨z, r⟩⟩⟩ <;> cases n <;> simp [isExprD, hp, hs]
theorem tame_head_shaped {n : Nat} {x : PyData} {r : List PyData} (hT : Tame n (.tuple (x :: r))) : SeqAt.shaped x = true := by
  have h1 := hT.shp
  have h2 : (x :: r).all (Shp (n + 2)) = true := h1
  simp only [List.all_cons, Bool.and_eq_true] at h2
  have h3 := hT.head
  cases x <;> first | rfl | (cases h3; done) | exact shaped_of 0 (by cases n <;> exact h2.1)
theorem body_is_expression (n : Nat) (F : Fun K "is_expression" "is_expression" s_is_expression f fd) (B : Blt mg) (T : Cst mg)
    (C_is_number : Cal P w K mg base CX0 1 "is_number" ["part", "below"] (sp_is_number K)) (C_is_plain : Cal P w K mg base CX0 2 "is_plain" ["e"] (sp_is_plain K))
    (C_is_expression : Cal P w K mg base CX0 (n + 2) "is_expression" ["e", "ahead", "deep"] (sp_is_expressionR n K)) (hn : n < 50) : FnOk P w K mg base CX0 (n + 3) f fd ["e", "ahead", "deep"] (sp_is_expression n K) := by
  refine ok_D F sc_is_expression (fun _ => rfl) (fun cdv A outer s H E hr a μ hp => ⟨_, (pss_cons (ps_if (pt_val (pe_cal C_is_plain hr (pa_cons (pv 0) pa_nil))) (pss_one (ps_ret pe_bl)) pss_nil)
      (pss_cons (ps_if (PW.pt (pw_or (pt_not (pt_val (pe_callB (kisi K) (by rfl) B.isinstance (by decide +kernel) (pa_cons (pv 0) (pa_cons (pe_bltn (v := .ty "tuple") (by rfl) B.tuple (by decide +kernel) rfl) pa_nil))))) (pw_or1 (pt_cmpR (keq K hr) (pv 0) (pe_tup pa_nil) (nomark _))))) (pss_one (ps_ret pe_bl)) pss_nil)
      (pss_cons (ps_if (pt_cmpR (keq K hr) (pe_ix (kix K) (pv 0) pe_int (fun _ _ => rfl)) pe_str (nomark _)) (pss_one (ps_ret (pe_and (pe_cmpR (keq K hr) (pe_callB (klen K) (by rfl) B.len PySem.boot_len (pa_cons (pv 0) pa_nil)) pe_int (nomark _)) (pe_and (pe_cal C_is_number hr (pa_cons (pe_ix (kix K) (pv 0) pe_int (fun _ _ => rfl)) (pa_cons (pe_gint T.NAMES) pa_nil))) (pe_one (pe_cmpR (kin K) (pe_ix (kix K) (pv 0) pe_int (fun _ _ => rfl)) (pv 1) (by rfl))))))) pss_nil)
      (pss_cons (ps_if (PW.pt (pw_or (pt_cmpR (kne K hr) (pe_ix (kix K) (pv 0) pe_int (fun _ _ => rfl)) pe_str (nomark _)) (pw_or (pt_cmpR (kne K hr) (pe_callB (klen K) (by rfl) B.len PySem.boot_len (pa_cons (pv 0) pa_nil)) pe_int (nomark _)) (pw_or1 (pt_cmpR (keq K hr) (pv 2) pe_int (nomark _)))))) (pss_one (ps_ret pe_bl)) pss_nil)
      (pss_one (ps_ret (pe_and (pe_cal C_is_expression hr (pa_cons (pe_ix (kix K) (pv 0) pe_int (fun _ _ => rfl)) (pa_cons (pv 1) (pa_cons (pe_op op_sub (pv 2) pe_int) pa_nil)))) (pe_one (pe_cal C_is_expression hr (pa_cons (pe_ix (kix K) (pv 0) pe_int (fun _ _ => rfl)) (pa_cons (pv 1) (pa_cons (pe_op op_sub (pv 2) pe_int) pa_nil)))))))))))), fun G0 => ?_⟩)
  obtain ⟨d, ahead⟩ := a
  obtain ⟨hT, hf⟩ := hp
  try dsimp only [cxOf, Cx.nox] at hT hf ⊢
  walk_at "dw"
  refine ⟨d, rfl, ⟨_, hT⟩, ?_⟩
  rintro _ _ ⟨rfl, rfl⟩
  walk_at "dw"
  refine ⟨fun h => ?_, fun h => ?_⟩
  · walk_at "dw"
    exact ⟨_, Sub.refl _, by rw [expr_plain h], rfl⟩
  walk_at "dw"
  refine ⟨fun h2 => ?_, fun h2 => ?_⟩
  · walk_at "dw"
    exact ⟨fun _ => by walk_at "dw"; exact ⟨_, Sub.refl _, by rw [expr_not h (by simpa using h2)], rfl⟩, fun h => (nomatch h)⟩
  cases d <;> first | (cases h2; done) | skip
  rename_i xs
  walk_at "dw"
  refine w2_eqD (shaped_of (n + 3) hT.shp (by omega)) rfl ?_
  rw [eqv_tup_nil]
  walk_at "dw"
  refine ⟨fun h3 => ?_, fun h3 => ?_⟩
  · walk_at "dw"
    refine ⟨_, Sub.refl _, ?_, rfl⟩
    cases xs with
    | nil => cases n <;> rfl
    | cons a r => cases h3
  cases xs with
  | nil => cases h3
  | cons x r =>
    walk_at "dw"
    refine w2_ixT ati_0 ?_
    walk_at "dw"
    refine w2_eqD (tame_head_shaped hT) (by decide +kernel) ?_
    walk_at "dw"
    refine ⟨fun h4 => ?_, fun h4 => ?_⟩
    · walk_at "dw"
      refine w2_eqD rfl rfl ?_
      rw [eqv_int]
      walk_at "dw"
      rw [expr_slot h h4]
      rcases r with _ | ⟨y, _ | ⟨z, r⟩⟩
      · exact ⟨fun h => (nomatch h), fun _ => ⟨_, Sub.refl _, rfl, rfl⟩⟩
      · refine ⟨fun _ => ?_, fun h => (nomatch h)⟩
        walk_at "dw"
        refine w2_ixT ati_1 ?_
        walk_at "dw"
        refine ⟨(y, 10), rfl, trivial, ?_⟩
        rintro _ _ ⟨rfl, rfl⟩
        walk_at "dw"
        refine ⟨fun h5 => ?_, fun h5 => ⟨_, Sub.refl _, by simp only [show isNum y 10 = false from h5]; rfl, rfl⟩⟩
        walk_at "dw"
        refine w2_ixT ati_1 ?_
        walk_at "dw"
        refine w2_inL (by cases y <;> first | rfl | (cases h5; done)) hf ?_
        exact ⟨_, Sub.refl _, by simp only [show isNum y 10 = true from h5]; rfl, rfl⟩
      · refine ⟨fun h => ?_, fun _ => ⟨_, Sub.refl _, rfl, rfl⟩⟩
        simp at h
        omega
    · rw [expr_other h h4]
      walk_at "dw"
      refine w2_ixT ati_0 ?_
      walk_at "dw"
      refine w2_neD (tame_head_shaped hT) (by decide +kernel) ?_
      walk_at "dw"
      refine ⟨fun h5 => ?_, fun h5 => ?_⟩
      · walk_at "dw"
        refine ⟨fun _ => ?_, fun h => (nomatch h)⟩
        walk_at "dw"
        refine ⟨_, Sub.refl _, ?_, rfl⟩
        rcases r with _ | ⟨y, _ | ⟨z, _ | ⟨u, r⟩⟩⟩ <;> cases n <;> simp_all
      walk_at "dw"
      refine w2_neD rfl rfl ?_
      rw [eqv_int]
      walk_at "dw"
      refine ⟨fun h6 => ?_, fun h6 => ?_⟩
      · walk_at "dw"
        refine ⟨fun _ => ?_, fun h => (nomatch h)⟩
        walk_at "dw"
        refine ⟨_, Sub.refl _, ?_, rfl⟩
        rcases r with _ | ⟨y, _ | ⟨z, _ | ⟨u, r⟩⟩⟩ <;> cases n <;> simp_all
      walk_at "dw"
      refine w2_eqD rfl rfl ?_
      rw [eqv_int]
      walk_at "dw"
      obtain ⟨y, z, rfl⟩ : ∃ y z, r = [y, z] := by
        rcases r with _ | ⟨y, _ | ⟨z, _ | ⟨u, r⟩⟩⟩
        · simp at h6
        · simp at h6
        · exact ⟨y, z, rfl⟩
        · simp at h6; omega
      refine ⟨fun h7 => ?_, fun h7 => ?_⟩
      · walk_at "dw"
        refine ⟨_, Sub.refl _, ?_, rfl⟩
        cases n with
        | zero => rfl
        | succ n => simp at h7; omega
      cases n with
      | zero => simp at h7
      | succ n =>
        have hTy : Tame n y := hT.2.2 y (by simp)
        have hTz : Tame n z := hT.2.2 z (by simp)
        walk_at "dw"
        refine w2_ixT ati_1 ?_
        walk_at "dw"
        refine ⟨(y, ahead), by rfl, ⟨n, rfl, hTy, hf⟩, ?_⟩
        rintro _ _ ⟨rfl, rfl⟩
        walk_at "dw"
        have h5' : PyData.eqv x (.str kPlus) = true := by simpa using h5
        refine ⟨fun h8 => ?_, fun h8 => ⟨_, Sub.refl _, by simp only [h5', show isExprD ahead n y = false from h8]; rfl, rfl⟩⟩
        walk_at "dw"
        refine w2_ixT ati_2 ?_
        walk_at "dw"
        refine ⟨(z, ahead), by rfl, ⟨n, rfl, hTz, hf⟩, ?_⟩
        rintro _ _ ⟨rfl, rfl⟩
        exact ⟨_, Sub.refl _, by simp only [h5', show isExprD ahead n y = true from h8]; rfl, rfl⟩
theorem ok_is_expression (F : Fun K "is_expression" "is_expression" s_is_expression f fd) (B : Blt mg) (T : Cst mg) (gl : mg "is_expression" = some (.ref f)) (bn : Binds K fd ["e", "ahead", "deep"] [])
    (C_is_number : Cal P w K mg base CX0 1 "is_number" ["part", "below"] (sp_is_number K)) (C_is_plain : Cal P w K mg base CX0 2 "is_plain" ["e"] (sp_is_plain K)) : FnOk P w K mg base CX0 4 f fd ["e", "ahead", "deep"] (sp_is_expression 1 K) := by
  have h0 : FnOk P w K mg base CX0 3 f fd ["e", "ahead", "deep"] (sp_is_expression 0 K) := by
    refine body_is_expression 0 F B T C_is_number C_is_plain ⟨f, fd, gl, F.kp, bn, ⟨fun vs H Q E h => ?_, fun _ _ _ _ _ _ _ _ _ _ _ _ _ h => ?_⟩⟩ (by decide)
    · obtain ⟨_, _, _, _, _, ⟨m, hm, _⟩, _⟩ := h; cases hm
    · obtain ⟨_, _, _, _, _, ⟨m, hm, _⟩, _⟩ := h; cases hm
  refine body_is_expression 1 F B T C_is_number C_is_plain ⟨f, fd, gl, F.kp, bn, h0.imp fun vs H Q E h => ?_⟩ (by decide)
  obtain ⟨G, μ, a, rl, S, ⟨m, hm, h1, h2⟩, k⟩ := h
  cases hm
  exact ⟨G, μ, a, rl, S, ⟨h1, h2⟩, k⟩
end
end Sc

namespace Sc
open PySem L2 PyProof.Rows Dw
local macro_rules | `(tactic| walk_at "dw1") => `(tactic| first
  | (with_reducible refine ws_seq ?_) | (with_reducible refine ws_ret ?_) | (with_reducible refine ws_set ?_) | (with_reducible refine ws_drop ?_) | (with_reducible refine ws_if ?_) | (with_reducible refine ws_next ?_)
  | ((with_reducible show We _ _ (tVar _) _ _ _); refine we_var rfl ?_) | (with_reducible refine we_int ?_) | (with_reducible refine we_bl ?_) | (with_reducible refine we_str ?_) | (with_reducible refine we_non ?_) | (with_reducible refine we_ty ?_)
  | (with_reducible refine we_op ?_) | (with_reducible refine we_isiT ?_) | (with_reducible refine we_cb ?_) | (with_reducible refine wa_cons ?_) | (with_reducible refine wa_nil ?_)
  | (with_reducible refine we_and ?_) | (with_reducible refine we_or ?_) | (with_reducible refine we_not ?_) | (with_reducible refine we_if ?_) | (with_reducible refine we_chain ?_)
  | (with_reducible refine we_fld ?_) | (with_reducible refine we_bm ?_) | (with_reducible refine we_bm0 ?_) | (with_reducible refine we_sl ?_) | (with_reducible refine wo_none ?_) | (with_reducible refine wo_some ?_)
  | (with_reducible refine wt_test ?_) | (with_reducible refine wt_B ?_) | (with_reducible refine wt_and ?_) | (with_reducible refine wt_or ?_) | (with_reducible refine wt_not ?_) | (with_reducible refine wt_yes ?_)
  | (with_reducible refine w2_I0i ?_) | (with_reducible refine w2_I0b ?_) | (with_reducible refine w2_isN ?_) | (with_reducible refine w2_notN ?_)
  | (with_reducible refine we_callL ?_) | (with_reducible refine we_call ?_) | (with_reducible refine we_tup ?_)
  | (with_reducible refine wc_lenT ?_) | (with_reducible refine wc_lenL ?_) | (with_reducible refine wc_lenS ?_) | (with_reducible refine wc_intB ?_) | (with_reducible refine wc_min2 ?_)
  | ((with_reducible show Wg _ _ (gTup _ _ _) _ _ _ _); first | refine wg_tup2 ?_ | refine wg_tup3 ?_ | refine wg_tup4 ?_) | (with_reducible refine we_un ?_) | (with_reducible refine ws_asg ?_) | (with_reducible refine wg_name ?_) | (with_reducible refine wgs_cons ?_) | (with_reducible refine wgs_nil ?_)
  | (with_reducible refine wsl_T ?_) | (with_reducible refine wsl_L ?_)
  | (with_reducible refine wc_tupL ?_) | (with_reducible refine wc_listT ?_)
  | (with_reducible refine wc_isi (kit_int _) ?_) | (with_reducible refine wc_isi (kit_bool _) ?_) | (with_reducible refine wc_isi (kit_tuple _) ?_) | (with_reducible refine wc_isi (kit_list _) ?_) | (with_reducible refine wc_isi (kit_str _) ?_)
  | (with_reducible refine ex_b ?_) | (with_reducible refine ex_i ?_) | (with_reducible refine ex_t ?_) | (with_reducible refine ex_l ?_)
  | ((with_reducible show ∃ _, unD _ = some _ ∧ _); refine ⟨_, rfl, by simp, ?_⟩))
local macro_rules | `(tactic| walk_at "dw") => `(tactic| repeat' walk_at "dw1")

section
variable {P : Program} {w : World} {K : Frg} {mg : Str → Option Value} {base : Heap} {f : Addr} {fd : FuncData}
/-- the module's tuple SORTS -/
structure KSorts (K : Frg) (mg : Str → Option Value) (aS : Addr) : Prop where
  g : mg "SORTS" = some (.ref aS)
  r : ∀ G, RelP K G (.ref aS) (.kt sorts3)
/-! ### is_slot -/
abbrev s_is_slot : Stmt := topS 15
abbrev N_is_slot : List Str := ["slot", "ahead", "sorts", "name", "sort", "default"]
theorem sc_is_slot : FnScope N_is_slot ["slot", "ahead", "sorts"] (defScope s_is_slot) := ⟨rfl, rfl, rfl, by decide +kernel, rfl, by decide +kernel, by decide +kernel⟩

abbrev sp_is_slot (K : Frg) : Sp := SpA (α := PyData × List PyData × List Str) K (fun a => [.d a.1, .l a.2.1, .l (a.2.2.map .str)]) (fun a _ => SlotPre a.1 ∧ a.2.1.all flatD = true ∧ ∀ s ∈ a.2.2, s ∈ sorts3) (fun a μ x μ' => x = .b (isSlotD a.2.1 a.2.2 a.1) ∧ μ = μ')
theorem slot_no {ahead : List PyData} {sorts : List Str} {xs : List PyData} (h : xs.length ≠ 3) : isSlotD ahead sorts (.tuple xs) = false := by
  rcases xs with _ | ⟨a, _ | ⟨b, _ | ⟨c, _ | ⟨d, r⟩⟩⟩⟩
  · rfl
  · rfl
  · cases b <;> rfl
  · exact absurd rfl h
  · cases b <;> rfl
theorem ok_is_slot {aSORTS : Addr} (F : Fun K "is_slot" "is_slot" s_is_slot f fd) (B : Blt mg) (T : Cst mg) (hS : KSorts K mg aSORTS)
    (C_is_number : Cal P w K mg base CX0 1 "is_number" ["part", "below"] (sp_is_number K)) (C_is_expression : Cal P w K mg base CX0 4 "is_expression" ["e", "ahead", "deep"] (sp_is_expression 1 K)) : FnOk P w K mg base CX0 5 f fd ["slot", "ahead", "sorts"] (sp_is_slot K) := by
  have hg_SORTS := hS.g
  refine ok_D F sc_is_slot (fun _ => rfl) (fun cdv A outer s H E hr a μ hp => ⟨_, (pss_cons (ps_if (PW.pt (pw_or (pt_not (pt_val (pe_callB (kisi K) (by rfl) B.isinstance (by decide +kernel) (pa_cons (pv 0) (pa_cons (pe_bltn (v := .ty "tuple") (by rfl) B.tuple (by decide +kernel) rfl) pa_nil))))) (pw_or1 (pt_cmpR (kne K hr) (pe_callB (klen K) (by rfl) B.len PySem.boot_len (pa_cons (pv 0) pa_nil)) pe_int (nomark _))))) (pss_one (ps_ret pe_bl)) pss_nil)
      (pss_cons (ps_asg (pv 0) (pkTG K 3 (by rfl) (pgs_cons (pg_name (i := 3) sc_is_slot.nd rfl (Or.inl rfl)) (pgs_cons (pg_name (i := 4) sc_is_slot.nd rfl (Or.inl rfl)) (pgs_cons (pg_name (i := 5) sc_is_slot.nd rfl (Or.inl rfl)) pgs_nil)))))
      (pss_cons (ps_if (PW.pt (pw_or (pt_not (pt_val (pe_cal C_is_number hr (pa_cons (pv 3) (pa_cons (pe_gint T.NAMES) pa_nil))))) (pw_or (pt_cmpR (kin K) (pv 3) (pv 1) (by rfl)) (pw_or1 (pt_cmpR (knin K) (pv 4) (pe_glob (v := .ref aSORTS) rfl hg_SORTS rfl) (by rfl)))))) (pss_one (ps_ret pe_bl)) pss_nil)
      (pss_cons (ps_if (PW.pt (pw_and (pt_cmpR (kne K hr) (pv 2) (pe_lst pa_nil) (nomark _)) (pw_and1 (pt_cmpR op_lt (pkBm K PySem.F.plainAttrs_tuple PySem.F.slot_tuple_index PySem.F.type_tuple_index (kidxK K) (pe_glob (v := .ref aSORTS) rfl hg_SORTS rfl) (pa_cons (pv 4) pa_nil)) (pkBm K PySem.F.plainAttrs_tuple PySem.F.slot_tuple_index PySem.F.type_tuple_index (kidxK K) (pe_glob (v := .ref aSORTS) rfl hg_SORTS rfl) (pa_cons (pe_ix (kix K) (pv 2) (pe_un un_neg pe_int) (fun _ _ => rfl)) pa_nil)) (nomark _))))) (pss_one (ps_ret pe_bl)) pss_nil)
      (pss_one (ps_ret (pe_or (pe_cmpR op_isN (pv 5) pe_non (nomark _)) (pe_one (pe_cal C_is_expression hr (pa_cons (pv 5) (pa_cons (pv 1) (pa_cons pe_int pa_nil)))))))))))), fun G0 => ?_⟩)
  obtain ⟨d, ahead, sorts⟩ := a
  obtain ⟨hP, hf, hs⟩ := hp
  try dsimp only [cxOf, Cx.nox] at hP hf hs ⊢
  walk_at "dw"
  refine ⟨fun h => ?_, fun h => ?_⟩
  · walk_at "dw"
    refine ⟨fun _ => ?_, fun h => (nomatch h)⟩
    walk_at "dw"
    exact ⟨_, Sub.refl _, by cases d <;> first | rfl | (cases h; done), rfl⟩
  cases d <;> first | (cases h; done) | skip
  rename_i xs
  walk_at "dw"
  refine w2_neD rfl rfl ?_
  rw [eqv_int]
  walk_at "dw"
  refine ⟨fun h2 => ?_, fun h2 => ?_⟩
  · walk_at "dw"
    refine ⟨_, Sub.refl _, ?_, rfl⟩
    rw [slot_no (by intro e; simp [e] at h2)]
  obtain ⟨n, sd, e, rfl⟩ : ∃ n sd e, xs = [n, sd, e] := by
    rcases xs with _ | ⟨a, _ | ⟨b, _ | ⟨c, _ | ⟨d, r⟩⟩⟩⟩
    · simp at h2
    · simp at h2
    · simp at h2
    · exact ⟨a, b, c, rfl⟩
    · simp at h2; omega
  obtain ⟨⟨z, rfl⟩, hT⟩ := hP n sd e rfl
  walk_at "dw"
  walk_at "dw"
  refine ⟨(n, 10), rfl, trivial, ?_⟩
  rintro _ _ ⟨rfl, rfl⟩
  walk_at "dw"
  refine ⟨fun h3 => ?_, fun h3 => ?_⟩
  · have h3' : isNum n 10 = false := by simpa using h3
    walk_at "dw"
    refine ⟨fun _ => ?_, fun h => (nomatch h)⟩
    walk_at "dw"
    exact ⟨_, Sub.refl _, by simp only [isSlotD, h3', Bool.false_and], rfl⟩
  have h3' : isNum n 10 = true := by simpa using h3
  walk_at "dw"
  refine w2_inL (by cases n <;> first | rfl | (cases h3'; done)) hf ?_
  walk_at "dw"
  refine ⟨fun h4 => ?_, fun h4 => ?_⟩
  · walk_at "dw"
    refine ⟨fun _ => ?_, fun h => (nomatch h)⟩
    walk_at "dw"
    have h4' : (ahead.any fun y => PyData.eqv y n) = true := h4
    exact ⟨_, Sub.refl _, by simp only [isSlotD, h4', Bool.not_true, Bool.false_and, Bool.and_false], rfl⟩
  have h4' : (ahead.any fun y => PyData.eqv y n) = false := h4
  walk_at "dw"
  refine we_con hS.r ?_
  refine w2_inK ?_
  walk_at "dw"
  refine ⟨fun h5 => ?_, fun h5 => ?_⟩
  · walk_at "dw"
    have h5' : decide (z ∈ sorts3) = false := by cases hd : decide (z ∈ sorts3) with | false => rfl | true => rw [hd] at h5; cases h5
    exact ⟨_, Sub.refl _, by simp only [isSlotD, h5', Bool.false_and, Bool.and_false], rfl⟩
  have h5' : z ∈ sorts3 := by
    by_cases hz : z ∈ sorts3
    · exact hz
    · rw [decide_eq_false hz] at h5; cases h5
  have hmir : isSlotD ahead sorts (.tuple [n, .str z, e]) = (sortOk sorts z && dfltOk ahead e) := by
    simp only [isSlotD, h3', h4', decide_eq_true h5', Bool.not_false, Bool.true_and]
  rw [hmir]
  walk_at "dw"
  refine we_lst ?_
  walk_at "dw"
  refine w2_neD (shaped_of 1 (shp_sorts hs)) rfl ?_
  rw [eqv_list_nil]
  walk_at "dw"
  have tail : sortOk sorts z = true → Ws K G0 (tRet (tOrV (tOp (fun x y H Q => y = .non ∧ Q (.bl (decide (x = .non))) H) (tVar 5) (tC .non)) (tCall (sp_is_expression 1 K) [] E0 (tCons (tVar 5) (tCons (tVar 1) (tCons (tC (.int 1)) tNil))))))
      [some (.t [n, .str z, e]), some (.l ahead), some (.l (sorts.map .str)), some (.d n), some (.s z), some (.d e)] μ (retD fun x μ' => x = PV.b (sortOk sorts z && dfltOk ahead e) ∧ μ = μ') := by
    intro hso
    rw [hso, Bool.true_and]
    walk_at "dw"
    refine ⟨fun h6 => ?_, fun h6 => ?_⟩
    · exact ⟨_, Sub.refl _, by cases e <;> first | rfl | (cases h6; done), rfl⟩
    · walk_at "dw"
      refine ⟨(e, ahead), rfl, ⟨hT, hf⟩, ?_⟩
      rintro _ _ ⟨rfl, rfl⟩
      exact ⟨_, Sub.refl _, by cases e <;> first | rfl | (cases h6; done), rfl⟩
  refine ⟨fun h6 => ?_, fun h6 => ?_⟩
  · obtain ⟨l, hl⟩ : ∃ l, sorts.getLast? = some l := by
      cases sorts with
      | nil => cases h6
      | cons a r => exact ⟨_, List.getLast?_eq_some_getLast (by simp)⟩
    have hlm : l ∈ sorts := List.mem_of_getLast? hl
    walk_at "dw"
    refine we_con hS.r ⟨tyd_k, ?_⟩
    walk_at "dw"
    refine wm_idxK (idx_find h5').1 (idx_find h5').2 ?_
    walk_at "dw"
    refine we_con hS.r ⟨tyd_k, ?_⟩
    walk_at "dw"
    refine w2_ixL (ati_last (f := PyData.str) hl) ?_
    walk_at "dw"
    refine wm_idxK (idx_find (hs l hlm)).1 (idx_find (hs l hlm)).2 ?_
    walk_at "dw"
    have hso : sortOk sorts z = !decide (idxS z < idxS l) := by unfold sortOk; rw [hl]
    refine ⟨fun h7 => ?_, fun h7 => ?_⟩
    · walk_at "dw"
      have h7' : idxS z < idxS l := by have := of_decide_eq_true h7; omega
      exact ⟨_, Sub.refl _, by rw [hso, decide_eq_true h7']; rfl, rfl⟩
    · walk_at "dw1"
      have h7' : ¬ idxS z < idxS l := by have := of_decide_eq_false h7; omega
      exact tail (by rw [hso, decide_eq_false h7']; rfl)
  · refine ⟨fun h => (nomatch h), fun _ => ?_⟩
    walk_at "dw1"
    have hn : sorts = [] := by cases sorts <;> first | rfl | (cases h6; done)
    exact tail (by rw [hn]; rfl)
end
end Sc

namespace Sc
open PySem L2 PyProof.Rows Dw
local macro_rules | `(tactic| walk_at "dw1") => `(tactic| first
  | (with_reducible refine ws_seq ?_) | (with_reducible refine ws_ret ?_) | (with_reducible refine ws_set ?_) | (with_reducible refine ws_drop ?_) | (with_reducible refine ws_if ?_) | (with_reducible refine ws_next ?_)
  | ((with_reducible show We _ _ (tVar _) _ _ _); refine we_var rfl ?_) | (with_reducible refine we_int ?_) | (with_reducible refine we_bl ?_) | (with_reducible refine we_str ?_) | (with_reducible refine we_non ?_) | (with_reducible refine we_ty ?_)
  | (with_reducible refine we_op ?_) | (with_reducible refine we_isiT ?_) | (with_reducible refine we_cb ?_) | (with_reducible refine wa_cons ?_) | (with_reducible refine wa_nil ?_)
  | (with_reducible refine we_and ?_) | (with_reducible refine we_or ?_) | (with_reducible refine we_not ?_) | (with_reducible refine we_if ?_) | (with_reducible refine we_chain ?_)
  | (with_reducible refine we_fld ?_) | (with_reducible refine we_bm ?_) | (with_reducible refine we_bm0 ?_) | (with_reducible refine we_sl ?_) | (with_reducible refine wo_none ?_) | (with_reducible refine wo_some ?_)
  | (with_reducible refine wt_test ?_) | (with_reducible refine wt_B ?_) | (with_reducible refine wt_and ?_) | (with_reducible refine wt_or ?_) | (with_reducible refine wt_not ?_) | (with_reducible refine wt_yes ?_)
  | (with_reducible refine w2_I0i ?_) | (with_reducible refine w2_I0b ?_) | (with_reducible refine w2_isN ?_) | (with_reducible refine w2_notN ?_)
  | (with_reducible refine we_callL ?_) | (with_reducible refine we_call ?_) | (with_reducible refine we_tup ?_)
  | (with_reducible refine wc_lenT ?_) | (with_reducible refine wc_lenL ?_) | (with_reducible refine wc_lenS ?_) | (with_reducible refine wc_intB ?_) | (with_reducible refine wc_min2 ?_)
  | ((with_reducible show Wg _ _ (gTup _ _ _) _ _ _ _); first | refine wg_tup2 ?_ | refine wg_tup3 ?_ | refine wg_tup4 ?_) | (with_reducible refine we_un ?_) | (with_reducible refine ws_asg ?_) | (with_reducible refine wg_name ?_) | (with_reducible refine wgs_cons ?_) | (with_reducible refine wgs_nil ?_)
  | (with_reducible refine wsl_T ?_) | (with_reducible refine wsl_L ?_)
  | (with_reducible refine wc_tupL ?_) | (with_reducible refine wc_listT ?_)
  | (with_reducible refine wc_isi (kit_int _) ?_) | (with_reducible refine wc_isi (kit_bool _) ?_) | (with_reducible refine wc_isi (kit_tuple _) ?_) | (with_reducible refine wc_isi (kit_list _) ?_) | (with_reducible refine wc_isi (kit_str _) ?_)
  | (with_reducible refine ex_b ?_) | (with_reducible refine ex_i ?_) | (with_reducible refine ex_t ?_) | (with_reducible refine ex_l ?_)
  | ((with_reducible show ∃ _, unD _ = some _ ∧ _); refine ⟨_, rfl, by simp, ?_⟩))
local macro_rules | `(tactic| walk_at "dw") => `(tactic| repeat' walk_at "dw1")

section
variable {P : Program} {w : World} {K : Frg} {mg : Str → Option Value} {base : Heap} {f : Addr} {fd : FuncData}
/-! ### need_face -/
abbrev s_need_face : Stmt := topS 16
abbrev N_need_face : List Str := ["face", "slots", "rest", "more", "k", "slot"]
theorem sc_need_face : FnScope N_need_face ["face"] (defScope s_need_face) := ⟨rfl, rfl, rfl, by decide +kernel, rfl, by decide +kernel, by decide +kernel⟩

abbrev sp_need_face (K : Frg) (C : Addr) : Sp := SpX (α := List PyData × PyData × PyData) K (fun a => [.t [.tuple a.1, a.2.1, a.2.2]]) (fun a _ => (∀ s ∈ a.1, SlotPre s) ∧ a.1.length ≤ 1000) (fun a μ x μ' => x = .n ∧ μ = μ' ∧ isFaceD a.1 a.2.1 a.2.2 = true) (fun a μ c μ' => c = C ∧ μ = μ' ∧ isFaceD a.1 a.2.1 a.2.2 = false)
theorem ok_need_face {C : Addr} (F : Fun K "need_face" "need_face" s_need_face f fd) (B : Blt mg) (T : Cst mg) (X_BadFace : ExcC K mg "BadFace" C)
    (C_is_slot : Cal P w K mg base CX0 5 "is_slot" ["slot", "ahead", "sorts"] (sp_is_slot K)) : FnOk P w K mg base (L2.CX P w) 6 f fd ["face"] (sp_need_face K C) := by
  refine ok_X F sc_need_face (fun _ => rfl) (fun cdv A outer s H E hr a μ hp => ⟨_, (pss_cons (ps_asg (pv 0) (pkTG K 3 (by rfl) (pgs_cons (pg_name (i := 1) sc_need_face.nd rfl (Or.inl rfl)) (pgs_cons (pg_name (i := 2) sc_need_face.nd rfl (Or.inl rfl)) (pgs_cons (pg_name (i := 3) sc_need_face.nd rfl (Or.inl rfl)) pgs_nil)))))
      (pss_cons (ps_if (PW.pt (pw_or (pt_cmpR op_gt (pe_callB (klen K) (by rfl) B.len PySem.boot_len (pa_cons (pv 1) pa_nil)) (pe_gint T.MOST_SLOTS) (nomark _)) (pw_or (pt_not (pt_val (pe_callB (kisi K) (by rfl) B.isinstance (by decide +kernel) (pa_cons (pv 2) (pa_cons (pe_bltn (v := .ty "bool") (by rfl) B.bool (by decide +kernel) rfl) pa_nil))))) (pw_or1 (pt_not (pt_val (pe_callB (kisi K) (by rfl) B.isinstance (by decide +kernel) (pa_cons (pv 3) (pa_cons (pe_bltn (v := .ty "bool") (by rfl) B.bool (by decide +kernel) rfl) pa_nil))))))))) (pss_one (ps_raise rfl (takes_of rfl rfl rfl rfl) (pmk_own PySem.F.excBase_ValueError X_BadFace.x X_BadFace.g X_BadFace.k (raises_own X_BadFace.b X_BadFace.t) rfl))) pss_nil)
      (pss_one (ps_for (passes_of rfl) rfl (pi_range1 rfl B.range (pa_cons (pe_callB (klen K) (by rfl) B.len PySem.boot_len (pa_cons (pv 1) pa_nil)) pa_nil)) (pg_name (i := 4) sc_need_face.nd rfl (Or.inl rfl)) (pss_one (ps_if (pt_not (pt_val (pe_cal C_is_slot hr (pa_cons (pe_ix (kix K) (pv 1) (pv 4) (fun _ _ => rfl)) (pa_cons (pe_lc (own := [("slot", 5)]) (g := (gName 5)) rfl sc_need_face.nd (pkTup K (pe_slice (kslT K) (pv 1) po_none (po_some (pv 4)))) (blkOk_by (own := [("slot", 5)]) (N := N_need_face) (sc := defScope s_need_face) (by decide +kernel)) (fun _ _ _ _ _ => (pg_name (i := 5) sc_need_face.nd rfl (by first | exact Or.inl rfl | exact Or.inr rfl))) (fun _ _ _ _ _ => pts_nil) (fun _ _ _ _ _ => (pe_ix (kix K) (pv 5) pe_int (fun _ _ => rfl)))) (pa_cons (pe_lc (own := [("slot", 5)]) (g := (gName 5)) rfl sc_need_face.nd (pkTup K (pe_slice (kslT K) (pv 1) po_none (po_some (pv 4)))) (blkOk_by (own := [("slot", 5)]) (N := N_need_face) (sc := defScope s_need_face) (by decide +kernel)) (fun _ _ _ _ _ => (pg_name (i := 5) sc_need_face.nd rfl (by first | exact Or.inl rfl | exact Or.inr rfl))) (fun _ _ _ _ _ => pts_nil) (fun _ _ _ _ _ => (pe_ix (kix K) (pv 5) pe_int (fun _ _ => rfl)))) pa_nil)))))) (pss_one (ps_raise rfl (takes_of rfl rfl rfl rfl) (pmk_own PySem.F.excBase_ValueError X_BadFace.x X_BadFace.g X_BadFace.k (raises_own X_BadFace.b X_BadFace.t) rfl))) pss_nil)))))), fun G0 hE => ?_⟩)
  obtain ⟨slots, rest, more⟩ := a
  obtain ⟨hP, hl⟩ := hp
  try dsimp only [cxOf, Cx.nox] at hP hl ⊢
  walk_at "dw"
  refine ⟨fun h => ?_, fun h => ?_⟩
  · walk_at "dw"
    refine ⟨fun _ => ?_, fun h => (nomatch h)⟩
    refine ws_raise hE ⟨μ, Sub.refl _, rfl, rfl, ?_⟩
    have h' : ¬ slots.length ≤ 6 := by have := of_decide_eq_true h; omega
    simp only [isFaceD, decide_eq_false h', Bool.false_and]
  have h1 : slots.length ≤ 6 := by have := of_decide_eq_false h; omega
  walk_at "dw"
  refine ⟨fun h => ?_, fun h => ?_⟩
  · walk_at "dw"
    refine ⟨fun _ => ?_, fun h => (nomatch h)⟩
    refine ws_raise hE ⟨μ, Sub.refl _, rfl, rfl, ?_⟩
    have h' : isBoolT rest = false := by simpa using h
    simp only [isFaceD, h', Bool.false_and, Bool.and_false]
  have h2 : isBoolT rest = true := by simpa using h
  walk_at "dw"
  refine ⟨fun h => ?_, fun h => ?_⟩
  · refine ws_raise hE ⟨μ, Sub.refl _, rfl, rfl, ?_⟩
    have h' : isBoolT more = false := by simpa using h
    simp only [isFaceD, h', Bool.false_and, Bool.and_false]
  have h3 : isBoolT more = true := by simpa using h
  have hmir : isFaceD slots rest more = (List.range slots.length).all (slotAt slots) := by
    simp only [isFaceD, decide_eq_true h1, h2, h3, Bool.true_and]
  walk_at "dw"
  refine ws_for (wi_rng ?_)
  walk_at "dw"
  refine ⟨_, rfl, by omega, by omega, ?_⟩
  rw [Int.toNat_natCast]
  refine ⟨fun i ρ μ' => μ = μ' ∧ (∀ j, j < i → slotAt slots j = true) ∧ ∃ v, ρ = [some (.t [.tuple slots, rest, more]), some (.t slots), some (.d rest), some (.d more), v, none], ⟨rfl, fun j hj => absurd hj (Nat.not_lt_zero _), none, rfl⟩, fun _ _ _ _ _ => trivial, ?_, ?_⟩
  · rintro i x ρ μ' hx ⟨rfl, hI, v, rfl⟩
    have hi : i < slots.length := by
      have := (List.getElem?_eq_some_iff.mp hx).1
      simpa using this
    rw [List.getElem?_map, List.getElem?_range hi] at hx
    cases hx
    have hform : ∀ s ∈ slots.take i, ∃ n z e, s = .tuple [.int n, .str z, e] ∧ z ∈ sorts3 := by
      intro s hs
      obtain ⟨j, hj, rfl⟩ := List.getElem_of_mem hs
      rw [List.length_take] at hj
      have h4 := hI j (by omega)
      unfold slotAt at h4
      rw [getD_lt (by omega : j < slots.length)] at h4
      rw [List.getElem_take]
      exact slot_form h4
    walk_at "dw"
    refine w2_ixT (ati_n (List.getElem?_eq_getElem hi)) ?_
    walk_at "dw"
    refine we_lcB (slots.take i) .d nameD (wi_tup ?_)
    walk_at "dw"
    rw [cut_take _ _ (Nat.le_of_lt hi)]
    refine ⟨rfl, by rw [List.length_take]; omega, fun _ _ => trivial, fun s hs μ1 hs1 => ?_, ?_⟩
    · obtain ⟨n, z, e, rfl, hz⟩ := hform s hs
      walk_at "dw"
      exact w2_ixT ati_0 ⟨Sub.refl _, rfl⟩
    walk_at "dw"
    refine we_lcB (slots.take i) .d (fun s => .str (sortD s)) (wi_tup ?_)
    walk_at "dw"
    rw [cut_take _ _ (Nat.le_of_lt hi)]
    refine ⟨rfl, by rw [List.length_take]; omega, fun _ _ => trivial, fun s hs μ1 hs1 => ?_, ?_⟩
    · obtain ⟨n, z, e, rfl, hz⟩ := hform s hs
      walk_at "dw"
      exact w2_ixT ati_1 ⟨Sub.refl _, rfl⟩
    walk_at "dw"
    refine ⟨(slots[i], (slots.take i).map nameD, (slots.take i).map sortD), by rw [List.map_map]; rfl, ⟨hP _ (List.getElem_mem hi), ?_, ?_⟩, ?_⟩
    · rw [List.all_eq_true]
      intro y hy
      obtain ⟨s, hs, rfl⟩ := List.mem_map.mp hy
      obtain ⟨n, z, e, rfl, hz⟩ := hform s hs
      rfl
    · intro y hy
      obtain ⟨s, hs, rfl⟩ := List.mem_map.mp hy
      obtain ⟨n, z, e, rfl, hz⟩ := hform s hs
      exact hz
    rintro _ _ ⟨rfl, rfl⟩
    have hat : isSlotD ((slots.take i).map nameD) ((slots.take i).map sortD) slots[i] = slotAt slots i := by
      unfold slotAt; rw [getD_lt hi]
    walk_at "dw"
    rw [hat]
    refine ⟨fun h => ?_, fun h => ?_⟩
    · refine ws_raise hE ⟨μ, Sub.refl _, rfl, rfl, ?_⟩
      rw [hmir, List.all_eq_false]
      exact ⟨i, List.mem_range.mpr hi, by simpa using h⟩
    · walk_at "dw"
      refine ⟨rfl, fun j hj => ?_, _, rfl⟩
      rcases Nat.lt_or_eq_of_le (Nat.le_of_lt_succ hj) with hj | rfl
      · exact hI j hj
      · simpa using h
  · rintro ρ μ' ⟨rfl, hI, v, rfl⟩
    refine ⟨μ, Sub.refl _, rfl, rfl, ?_⟩
    rw [hmir, List.all_eq_true]
    intro j hj
    rw [List.length_map, List.length_range] at hI
    exact hI j (List.mem_range.mp hj)
end
end Sc

namespace Sc
open PySem L2 PyProof.Rows Dw
local macro_rules | `(tactic| walk_at "dw1") => `(tactic| first
  | (with_reducible refine ws_seq ?_) | (with_reducible refine ws_ret ?_) | (with_reducible refine ws_set ?_) | (with_reducible refine ws_drop ?_) | (with_reducible refine ws_if ?_) | (with_reducible refine ws_next ?_)
  | ((with_reducible show We _ _ (tVar _) _ _ _); refine we_var rfl ?_) | (with_reducible refine we_int ?_) | (with_reducible refine we_bl ?_) | (with_reducible refine we_str ?_) | (with_reducible refine we_non ?_) | (with_reducible refine we_ty ?_)
  | (with_reducible refine we_op ?_) | (with_reducible refine we_isiT ?_) | (with_reducible refine we_cb ?_) | (with_reducible refine wa_cons ?_) | (with_reducible refine wa_nil ?_)
  | (with_reducible refine we_and ?_) | (with_reducible refine we_or ?_) | (with_reducible refine we_not ?_) | (with_reducible refine we_if ?_) | (with_reducible refine we_chain ?_)
  | (with_reducible refine we_fld ?_) | (with_reducible refine we_bm ?_) | (with_reducible refine we_bm0 ?_) | (with_reducible refine we_sl ?_) | (with_reducible refine wo_none ?_) | (with_reducible refine wo_some ?_)
  | (with_reducible refine wt_test ?_) | (with_reducible refine wt_B ?_) | (with_reducible refine wt_and ?_) | (with_reducible refine wt_or ?_) | (with_reducible refine wt_not ?_) | (with_reducible refine wt_yes ?_)
  | (with_reducible refine w2_I0i ?_) | (with_reducible refine w2_I0b ?_) | (with_reducible refine w2_isN ?_) | (with_reducible refine w2_notN ?_)
  | (with_reducible refine we_callL ?_) | (with_reducible refine we_call ?_) | (with_reducible refine we_tup ?_)
  | (with_reducible refine wc_lenT ?_) | (with_reducible refine wc_lenL ?_) | (with_reducible refine wc_lenS ?_) | (with_reducible refine wc_intB ?_) | (with_reducible refine wc_min2 ?_)
  | ((with_reducible show Wg _ _ (gTup _ _ _) _ _ _ _); first | refine wg_tup2 ?_ | refine wg_tup3 ?_ | refine wg_tup4 ?_) | (with_reducible refine we_un ?_) | (with_reducible refine ws_asg ?_) | (with_reducible refine wg_name ?_) | (with_reducible refine wgs_cons ?_) | (with_reducible refine wgs_nil ?_)
  | (with_reducible refine wsl_T ?_) | (with_reducible refine wsl_L ?_)
  | (with_reducible refine wc_tupL ?_) | (with_reducible refine wc_listT ?_)
  | (with_reducible refine wc_isi (kit_int _) ?_) | (with_reducible refine wc_isi (kit_bool _) ?_) | (with_reducible refine wc_isi (kit_tuple _) ?_) | (with_reducible refine wc_isi (kit_list _) ?_) | (with_reducible refine wc_isi (kit_str _) ?_)
  | (with_reducible refine ex_b ?_) | (with_reducible refine ex_i ?_) | (with_reducible refine ex_t ?_) | (with_reducible refine ex_l ?_)
  | ((with_reducible show ∃ _, unD _ = some _ ∧ _); refine ⟨_, rfl, by simp, ?_⟩))
local macro_rules | `(tactic| walk_at "dw") => `(tactic| repeat' walk_at "dw1")

section
variable {P : Program} {w : World} {K : Frg} {mg : Str → Option Value} {base : Heap} {f : Addr} {fd : FuncData}
/-! ### slot_named -/
abbrev s_slot_named : Stmt := topS 17
abbrev N_slot_named : List Str := ["face", "name", "some", "k"]
theorem sc_slot_named : FnScope N_slot_named ["face", "name"] (defScope s_slot_named) := ⟨rfl, rfl, rfl, by decide +kernel, rfl, by decide +kernel, by decide +kernel⟩

abbrev sp_slot_named (K : Frg) : Sp := SpA (α := Face × Int) K (fun a => [.d (encF a.1), .i a.2]) (fun a _ => a.1.slots.length ≤ 1000) (fun a μ x μ' => x = .d (optI (slotNamed a.1 a.2)) ∧ μ = μ')
theorem shp_ints : ∀ l : List Nat, Shp 1 (.list (l.map fun (k : Nat) => PyData.int (k : Int))) = true := by
  intro l
  show (l.map fun (k : Nat) => PyData.int (k : Int)).all (Shp 0) = true
  rw [List.all_eq_true]
  intro x hx
  obtain ⟨k, _, rfl⟩ := List.mem_map.mp hx
  rfl
theorem ok_slot_named (F : Fun K "slot_named" "slot_named" s_slot_named f fd) (B : Blt mg) : FnOk P w K mg base CX0 1 f fd ["face", "name"] (sp_slot_named K) := by
  refine ok_D F sc_slot_named (fun _ => rfl) (fun cdv A outer s H E hr a μ hp => ⟨_, (pss_cons (ps_setLc (i := 2) (own := [("k", 3)]) (g := (gName 3)) rfl sc_slot_named.nd rfl rfl (sw_true rfl rfl rfl (by decide +kernel)) (pi_range1 rfl B.range (pa_cons (pe_callB (klen K) (by rfl) B.len PySem.boot_len (pa_cons (pe_ix (kix K) (pv 0) pe_int (fun _ _ => rfl)) pa_nil)) pa_nil)) (blkOk_by (own := [("k", 3)]) (N := N_slot_named) (sc := defScope s_slot_named) (by decide +kernel)) (fun _ _ _ _ _ => (pg_name (i := 3) sc_slot_named.nd rfl (by first | exact Or.inl rfl | exact Or.inr rfl))) (fun _ _ _ _ _ => (pts_one (PW.pt (pw_and (pt_cmpR (keq K hr) (pe_ix (kix K) (pe_ix (kix K) (pe_ix (kix K) (pv 0) pe_int (fun _ _ => rfl)) (pv 3) (fun _ _ => rfl)) pe_int (fun _ _ => rfl)) (pv 1) (nomark _)) (pw_and1 (pt_cmpR (kne K hr) (pe_ix (kix K) (pe_ix (kix K) (pe_ix (kix K) (pv 0) pe_int (fun _ _ => rfl)) (pv 3) (fun _ _ => rfl)) pe_int (fun _ _ => rfl)) pe_str (nomark _))))))) (fun _ _ _ _ _ => (pv 3)))
      (pss_one (ps_ret (pe_ifExp (pt_cmpR (kne K hr) (pv 2) (pe_lst pa_nil) (nomark _)) (pe_ix (kix K) (pv 2) pe_int (fun _ _ => rfl)) pe_non)))), fun G0 => ?_⟩)
  obtain ⟨face, n⟩ := a
  try dsimp only [cxOf, Cx.nox] at hp ⊢
  unfold encF
  walk_at "dw"
  refine we_lcA (List.range face.slots.length) (fun (k : Nat) => PV.i (k : Int)) (hitK face n) (fun (k : Nat) => PyData.int (k : Int)) (wi_rng ?_)
  walk_at "dw"
  refine w2_ixT ati_0 ?_
  walk_at "dw"
  refine ⟨_, rfl, by rw [List.length_map]; omega, by rw [List.length_map]; omega, ?_⟩
  rw [List.length_map, Int.toNat_natCast]
  refine ⟨rfl, by rw [List.length_range]; omega, fun _ _ => trivial, fun k hk μ1 hs1 => ?_, ?_⟩
  · have hk' : k < face.slots.length := List.mem_range.mp hk
    have hget : (face.slots.map encS)[k]? = some (encS face.slots[k]) := by rw [List.getElem?_map, List.getElem?_eq_getElem hk']; rfl
    have hhit : hitK face n k = (decide (face.slots[k].name = n) && !decide (face.slots[k].sort = .place)) := by unfold hitK; rw [List.getElem?_eq_getElem hk']; rfl
    walk_at "dw"
    refine w2_ixT ati_0 ?_
    walk_at "dw"
    refine w2_ixT (ati_n hget) ?_
    walk_at "dw"
    refine w2_ixT ati_0 ?_
    walk_at "dw"
    refine w2_eqD rfl rfl ?_
    rw [eqv_int]
    walk_at "dw"
    refine ⟨fun h => ?_, fun h => ⟨Sub.refl _, by rw [hhit, h]; rfl, fun h2 => ?_⟩⟩
    · walk_at "dw"
      refine w2_ixT ati_0 ?_
      walk_at "dw"
      refine w2_ixT (ati_n hget) ?_
      walk_at "dw"
      refine w2_ixT ati_1 ?_
      walk_at "dw"
      refine w2_neD (shp_srt _) (by decide +kernel) ?_
      rw [eqv_str, str_place]
      walk_at "dw"
      refine ⟨Sub.refl _, by rw [hhit, h, Bool.true_and], fun _ => ?_⟩
      walk_at "dw"
      exact ⟨Sub.refl _, rfl⟩
    · rw [hhit, h] at h2; cases h2
  walk_at "dw"
  refine we_lst ?_
  walk_at "dw"
  refine w2_neD (shaped_of 1 (shp_ints _)) rfl ?_
  rw [eqv_list_nil]
  walk_at "dw"
  unfold slotNamed
  cases hl : (List.range face.slots.length).filter (hitK face n) with
  | nil =>
    refine ⟨fun h => (nomatch h), fun _ => ?_⟩
    walk_at "dw"
    exact ⟨_, Sub.refl _, rfl, rfl⟩
  | cons k r =>
    refine ⟨fun _ => ?_, fun h => (nomatch h)⟩
    walk_at "dw"
    refine w2_ixL ati_0 ?_
    exact ⟨_, Sub.refl _, rfl, rfl⟩
/-! ### places_of -/
abbrev s_places_of : Stmt := topS 18
abbrev N_places_of : List Str := ["face", "slot"]
theorem sc_places_of : FnScope N_places_of ["face"] (defScope s_places_of) := ⟨rfl, rfl, rfl, by decide +kernel, rfl, by decide +kernel, by decide +kernel⟩

abbrev sp_places_of (K : Frg) : Sp := SpA (α := Face) K (fun a => [.d (encF a)]) (fun a _ => a.slots.length ≤ 1000) (fun a μ x μ' => x = .i (placesOf a : Int) ∧ μ = μ')
theorem ok_places_of (F : Fun K "places_of" "places_of" s_places_of f fd) (B : Blt mg) : FnOk P w K mg base CX0 1 f fd ["face"] (sp_places_of K) := by
  refine ok_D F sc_places_of (fun _ => rfl) (fun cdv A outer s H E hr face μ hp => ⟨_, (pss_one (ps_ret (pe_callB (klen K) (by rfl) B.len PySem.boot_len (pa_cons (pe_lc (own := [("slot", 1)]) (g := (gName 1)) rfl sc_places_of.nd (pkTup K (pe_ix (kix K) (pv 0) pe_int (fun _ _ => rfl))) (blkOk_by (own := [("slot", 1)]) (N := N_places_of) (sc := defScope s_places_of) (by decide +kernel)) (fun _ _ _ _ _ => (pg_name (i := 1) sc_places_of.nd rfl (by first | exact Or.inl rfl | exact Or.inr rfl))) (fun _ _ _ _ _ => (pts_one (pt_cmpR (kne K hr) (pe_ix (kix K) (pv 1) pe_int (fun _ _ => rfl)) pe_str (nomark _)))) (fun _ _ _ _ _ => (pv 1))) pa_nil)))), fun G0 => ?_⟩)
  try dsimp only [cxOf, Cx.nox] at hp ⊢
  unfold encF
  walk_at "dw"
  refine we_lcA face.slots (fun s => .d (encS s)) (fun s => !decide (s.sort = .name)) encS (wi_tup ?_)
  walk_at "dw"
  refine w2_ixT ati_0 ?_
  walk_at "dw"
  refine ⟨by rw [List.map_map]; rfl, by omega, fun _ _ => trivial, fun s hs μ1 hs1 => ?_, ?_⟩
  · unfold encS
    walk_at "dw"
    refine w2_ixT ati_1 ?_
    walk_at "dw"
    refine w2_neD (shp_srt _) (by decide +kernel) ?_
    rw [eqv_str, str_name]
    walk_at "dw"
    refine ⟨Sub.refl _, rfl, fun _ => ?_⟩
    walk_at "dw"
    exact ⟨Sub.refl _, rfl⟩
  walk_at "dw"
  exact ⟨_, Sub.refl _, by rw [List.length_map]; rfl, rfl⟩
end
end Sc

namespace Sc
open PySem L2 PyProof.Rows Dw
local macro_rules | `(tactic| walk_at "dw1") => `(tactic| first
  | (with_reducible refine ws_seq ?_) | (with_reducible refine ws_ret ?_) | (with_reducible refine ws_set ?_) | (with_reducible refine ws_drop ?_) | (with_reducible refine ws_if ?_) | (with_reducible refine ws_next ?_)
  | ((with_reducible show We _ _ (tVar _) _ _ _); refine we_var rfl ?_) | (with_reducible refine we_int ?_) | (with_reducible refine we_bl ?_) | (with_reducible refine we_str ?_) | (with_reducible refine we_non ?_) | (with_reducible refine we_ty ?_)
  | (with_reducible refine we_op ?_) | (with_reducible refine we_isiT ?_) | (with_reducible refine we_cb ?_) | (with_reducible refine wa_cons ?_) | (with_reducible refine wa_nil ?_)
  | (with_reducible refine we_and ?_) | (with_reducible refine we_or ?_) | (with_reducible refine we_not ?_) | (with_reducible refine we_if ?_) | (with_reducible refine we_chain ?_)
  | (with_reducible refine we_fld ?_) | (with_reducible refine we_bm ?_) | (with_reducible refine we_bm0 ?_) | (with_reducible refine we_sl ?_) | (with_reducible refine wo_none ?_) | (with_reducible refine wo_some ?_)
  | (with_reducible refine wt_test ?_) | (with_reducible refine wt_B ?_) | (with_reducible refine wt_and ?_) | (with_reducible refine wt_or ?_) | (with_reducible refine wt_not ?_) | (with_reducible refine wt_yes ?_)
  | (with_reducible refine w2_I0i ?_) | (with_reducible refine w2_I0b ?_) | (with_reducible refine w2_isN ?_) | (with_reducible refine w2_notN ?_)
  | (with_reducible refine we_callL ?_) | (with_reducible refine we_call ?_) | (with_reducible refine we_tup ?_)
  | (with_reducible refine wc_lenT ?_) | (with_reducible refine wc_lenL ?_) | (with_reducible refine wc_lenS ?_) | (with_reducible refine wc_intB ?_) | (with_reducible refine wc_min2 ?_)
  | ((with_reducible show Wg _ _ (gTup _ _ _) _ _ _ _); first | refine wg_tup2 ?_ | refine wg_tup3 ?_ | refine wg_tup4 ?_) | (with_reducible refine we_un ?_) | (with_reducible refine ws_asg ?_) | (with_reducible refine wg_name ?_) | (with_reducible refine wgs_cons ?_) | (with_reducible refine wgs_nil ?_)
  | (with_reducible refine wsl_T ?_) | (with_reducible refine wsl_L ?_)
  | (with_reducible refine wc_tupL ?_) | (with_reducible refine wc_listT ?_)
  | (with_reducible refine wc_isi (kit_int _) ?_) | (with_reducible refine wc_isi (kit_bool _) ?_) | (with_reducible refine wc_isi (kit_tuple _) ?_) | (with_reducible refine wc_isi (kit_list _) ?_) | (with_reducible refine wc_isi (kit_str _) ?_)
  | (with_reducible refine ex_b ?_) | (with_reducible refine ex_i ?_) | (with_reducible refine ex_t ?_) | (with_reducible refine ex_l ?_)
  | ((with_reducible show ∃ _, unD _ = some _ ∧ _); refine ⟨_, rfl, by simp, ?_⟩))
local macro_rules | `(tactic| walk_at "dw") => `(tactic| repeat' walk_at "dw1")

theorem isN_encO (e : Option Ex) : isN (.d (encO e)) = decide (e = none) := by
  cases e with
  | none => rfl
  | some e => cases e <;> rfl
theorem isN_encN (o : Option Int) : isN (.d (encN o)) = decide (o = none) := by cases o <;> rfl
section
variable {P : Program} {w : World} {K : Frg} {mg : Str → Option Value} {base : Heap} {fa : Addr} {fd : FuncData}
/-! ### worked -/
abbrev s_worked : Stmt := topS 20
abbrev N_worked : List Str := ["e", "worths", "said", "one"]
theorem sc_worked : FnScope N_worked ["e", "worths", "said"] (defScope s_worked) := ⟨rfl, rfl, rfl, by decide +kernel, rfl, by decide +kernel, by decide +kernel⟩

abbrev sp_worked (n : Nat) (K : Frg) : Sp := SpA (α := WArg) K wIn (fun a μ => WPre n a μ) wPost
theorem inNS (k : Str) (b : Bool) (h : ([PyData.str kNum, PyData.str kSay].any fun y => PyData.eqv y (.str k)) = b) : (if false = true then !([PyData.str "num", PyData.str "say"].any fun y => PyData.eqv y (.str k)) else [PyData.str "num", PyData.str "say"].any fun y => PyData.eqv y (.str k)) = b := h
theorem body_worked (n : Nat) (hn : n ≤ 60) (F : Fun K "worked" "worked" s_worked fa fd)
    (C_worked : Cal P w K mg base CX0 n "worked" ["e", "worths", "said"] (SpA (α := WArg) K wIn (fun a μ => ∃ m, n = m + 1 ∧ WPre m a μ) wPost)) : FnOk P w K mg base CX0 (n + 1) fa fd ["e", "worths", "said"] (sp_worked n K) := by
  refine ok_D F sc_worked (fun _ => rfl) (fun cdv A outer s H E hr a μ hp => ⟨_, (pss_cons (ps_if (pt_cmpR (keq K hr) (pe_ix (kix K) (pv 0) pe_int (fun _ _ => rfl)) pe_str (nomark _)) (pss_one (ps_expr (pkBm K PySem.F.plainAttrs_list PySem.F.slot_list_append PySem.F.type_list_append mt_append (pv 2) (pa_cons (pe_ix (kix K) (pv 0) pe_int (fun _ _ => rfl)) pa_nil)))) pss_nil)
      (pss_cons (ps_if (pt_cmpR (kin K) (pe_ix (kix K) (pv 0) pe_int (fun _ _ => rfl)) (pe_tup (pa_cons pe_str (pa_cons pe_str pa_nil))) (by rfl)) (pss_one (ps_ret (pe_ix (kix K) (pv 0) pe_int (fun _ _ => rfl)))) pss_nil)
      (pss_cons (ps_if (pt_cmpR (keq K hr) (pe_ix (kix K) (pv 0) pe_int (fun _ _ => rfl)) pe_str (nomark _)) (pss_one (ps_ret (pe_dget (hu_of hr) (pv 1) (pe_ix (kix K) (pv 0) pe_int (fun _ _ => rfl)) (fun _ _ => rfl)))) pss_nil)
      (pss_cons (ps_set (i := 3) sc_worked.nd rfl (Or.inl rfl) (pe_cal C_worked hr (pa_cons (pe_ix (kix K) (pv 0) pe_int (fun _ _ => rfl)) (pa_cons (pv 1) (pa_cons (pv 2) pa_nil)))))
      (pss_one (ps_ret (pe_op op_add (pv 3) (pe_cal C_worked hr (pa_cons (pe_ix (kix K) (pv 0) pe_int (fun _ _ => rfl)) (pa_cons (pv 1) (pa_cons (pv 2) pa_nil))))))))))), fun G0 => ?_⟩)
  obtain ⟨e, ⟨ws, aW⟩, said, aS⟩ := a
  obtain ⟨hE, hW, hS, hl⟩ := hp
  try dsimp only [cxOf, Cx.nox] at hE hW hS hl ⊢
  have h1000 : said.length ≤ 1000 := Nat.le_trans (Nat.le_add_right _ _) hl
  cases e with
  | num i =>
    walk_at "dw"
    refine w2_ixT ati_0 ?_
    walk_at "dw"
    refine w2_eqD (by decide +kernel) (by decide +kernel) ?_
    rw [show PyData.eqv (.str kNum) (.str "say") = false by decide +kernel]
    walk_at "dw"
    refine ⟨fun h => (nomatch h), fun _ => ?_⟩
    walk_at "dw"
    refine w2_ixT ati_0 ?_
    walk_at "dw"
    refine w2_inT rfl rfl ?_
    rw [inNS kNum true (by decide +kernel)]
    walk_at "dw"
    refine ⟨fun _ => ?_, fun h => (nomatch h)⟩
    walk_at "dw"
    refine w2_ixT ati_1 ?_
    exact ⟨_, Sub.refl _, rfl, by show μ = mset μ aS (.lst ((said ++ []).map PV.i)); rw [List.append_nil, mset_id hS]⟩
  | say i =>
    walk_at "dw"
    refine w2_ixT ati_0 ?_
    walk_at "dw"
    refine w2_eqD (by decide +kernel) (by decide +kernel) ?_
    rw [show PyData.eqv (.str kSay) (.str "say") = true by decide +kernel]
    walk_at "dw"
    refine ⟨fun _ => ?_, fun h => (nomatch h)⟩
    walk_at "dw"
    refine ⟨tyd_o hS, ?_⟩
    walk_at "dw"
    refine w2_ixT ati_1 ?_
    walk_at "dw"
    refine wm_append hS (by rw [List.length_map]; omega) ?_
    walk_at "dw"
    refine w2_ixT ati_0 ?_
    walk_at "dw"
    refine w2_inT rfl rfl ?_
    rw [inNS kSay true (by decide +kernel)]
    walk_at "dw"
    refine ⟨fun _ => ?_, fun h => (nomatch h)⟩
    walk_at "dw"
    refine w2_ixT ati_1 ?_
    exact ⟨_, Sub.refl _, rfl, by simp only [List.map_append]; rfl⟩
  | slot i =>
    have hm : i ∈ ws.map (·.1) := by cases n <;> exact hE.2
    walk_at "dw"
    refine w2_ixT ati_0 ?_
    walk_at "dw"
    refine w2_eqD (by decide +kernel) (by decide +kernel) ?_
    rw [show PyData.eqv (.str kSlot) (.str "say") = false by decide +kernel]
    walk_at "dw"
    refine ⟨fun h => (nomatch h), fun _ => ?_⟩
    walk_at "dw"
    refine w2_ixT ati_0 ?_
    walk_at "dw"
    refine w2_inT rfl rfl ?_
    rw [inNS kSlot false (by decide +kernel)]
    walk_at "dw"
    refine ⟨fun h => (nomatch h), fun _ => ?_⟩
    walk_at "dw"
    refine w2_ixT ati_0 ?_
    walk_at "dw"
    refine w2_eqD (by decide +kernel) (by decide +kernel) ?_
    rw [show PyData.eqv (.str kSlot) (.str "slot") = true by decide +kernel]
    walk_at "dw"
    refine ⟨fun _ => ?_, fun h => (nomatch h)⟩
    walk_at "dw"
    refine we_dget ?_
    walk_at "dw"
    refine w2_ixT ati_1 ?_
    refine ⟨_, _, Sum.inl i, _, rfl, rfl, hW, val_lookW hm, ?_⟩
    exact ⟨_, Sub.refl _, rfl, by show μ = mset μ aS (.lst ((said ++ []).map PV.i)); rw [List.append_nil, mset_id hS]⟩
  | plus x y =>
    obtain ⟨m, rfl⟩ : ∃ m, n = m + 1 := by cases n with
      | zero => cases hE
      | succ m => exact ⟨m, rfl⟩
    have hne : aW ≠ aS := fun e => by subst e; rw [hW] at hS; cases hS
    have hx := sayE_len m x hE.1
    rw [Nat.pow_succ] at hl
    walk_at "dw"
    refine w2_ixT ati_0 ?_
    walk_at "dw"
    refine w2_eqD (by decide +kernel) (by decide +kernel) ?_
    rw [show PyData.eqv (.str kPlus) (.str "say") = false by decide +kernel]
    walk_at "dw"
    refine ⟨fun h => (nomatch h), fun _ => ?_⟩
    walk_at "dw"
    refine w2_ixT ati_0 ?_
    walk_at "dw"
    refine w2_inT rfl rfl ?_
    rw [inNS kPlus false (by decide +kernel)]
    walk_at "dw"
    refine ⟨fun h => (nomatch h), fun _ => ?_⟩
    walk_at "dw"
    refine w2_ixT ati_0 ?_
    walk_at "dw"
    refine w2_eqD (by decide +kernel) (by decide +kernel) ?_
    rw [show PyData.eqv (.str kPlus) (.str "slot") = false by decide +kernel]
    walk_at "dw"
    refine ⟨fun h => (nomatch h), fun _ => ?_⟩
    walk_at "dw"
    refine w2_ixT ati_1 ?_
    walk_at "dw"
    refine ⟨(x, (ws, aW), (said, aS)), rfl, ⟨m, rfl, hE.1, hW, hS, by show said.length + 2 ^ m ≤ 1000; omega⟩, ?_⟩
    rintro _ _ ⟨rfl, rfl⟩
    walk_at "dw"
    refine w2_ixT ati_2 ?_
    walk_at "dw"
    refine ⟨(y, (ws, aW), (said ++ sayE x, aS)), rfl, ⟨m, rfl, hE.2, by show mset μ aS _ aW = _; rw [mset_ne hne]; exact hW, mset_same, by show (said ++ sayE x).length + 2 ^ m ≤ 1000; rw [List.length_append]; omega⟩, ?_⟩
    rintro _ _ ⟨rfl, rfl⟩
    walk_at "dw"
    refine ⟨_, Sub.refl _, rfl, ?_⟩
    show mset (mset μ aS _) aS _ = mset μ aS _
    rw [mset_mset, List.append_assoc]
    rfl
theorem ok_worked (F : Fun K "worked" "worked" s_worked fa fd) (gl : mg "worked" = some (.ref fa)) (bn : Binds K fd ["e", "worths", "said"] []) : ∀ n : Nat, n ≤ 60 → FnOk P w K mg base CX0 (n + 1) fa fd ["e", "worths", "said"] (sp_worked n K) := by
  intro n
  induction n with
  | zero =>
    intro _
    refine body_worked 0 (by decide) F ⟨fa, fd, gl, F.kp, bn, ⟨fun vs H Q E h => ?_, fun _ _ _ _ _ _ _ _ _ _ _ _ _ h => ?_⟩⟩
    · obtain ⟨_, _, _, _, _, ⟨m, hm, _⟩, _⟩ := h; cases hm
    · obtain ⟨_, _, _, _, _, ⟨m, hm, _⟩, _⟩ := h; cases hm
  | succ n ih =>
    intro hn
    refine body_worked (n + 1) hn F ⟨fa, fd, gl, F.kp, bn, (ih (by omega)).imp fun vs H Q E h => ?_⟩
    obtain ⟨G, μ, a, rl, S, ⟨m, hm, h1⟩, k⟩ := h
    cases hm
    exact ⟨G, μ, a, rl, S, h1, k⟩
end
end Sc

namespace Sc
open PySem L2 PyProof.Rows Dw
local macro_rules | `(tactic| walk_at "dw1") => `(tactic| first
  | (with_reducible refine ws_seq ?_) | (with_reducible refine ws_ret ?_) | (with_reducible refine ws_set ?_) | (with_reducible refine ws_drop ?_) | (with_reducible refine ws_if ?_) | (with_reducible refine ws_next ?_)
  | ((with_reducible show We _ _ (tVar _) _ _ _); refine we_var rfl ?_) | (with_reducible refine we_int ?_) | (with_reducible refine we_bl ?_) | (with_reducible refine we_str ?_) | (with_reducible refine we_non ?_) | (with_reducible refine we_ty ?_)
  | (with_reducible refine we_op ?_) | (with_reducible refine we_isiT ?_) | (with_reducible refine we_cb ?_) | (with_reducible refine wa_cons ?_) | (with_reducible refine wa_nil ?_)
  | (with_reducible refine we_and ?_) | (with_reducible refine we_or ?_) | (with_reducible refine we_not ?_) | (with_reducible refine we_if ?_) | (with_reducible refine we_chain ?_)
  | (with_reducible refine we_fld ?_) | (with_reducible refine we_bm ?_) | (with_reducible refine we_bm0 ?_) | (with_reducible refine we_sl ?_) | (with_reducible refine wo_none ?_) | (with_reducible refine wo_some ?_)
  | (with_reducible refine wt_test ?_) | (with_reducible refine wt_B ?_) | (with_reducible refine wt_and ?_) | (with_reducible refine wt_or ?_) | (with_reducible refine wt_not ?_) | (with_reducible refine wt_yes ?_)
  | (with_reducible refine w2_I0i ?_) | (with_reducible refine w2_I0b ?_) | (with_reducible refine w2_isN ?_) | (with_reducible refine w2_notN ?_)
  | (with_reducible refine we_callL ?_) | (with_reducible refine we_call ?_) | (with_reducible refine we_tup ?_)
  | (with_reducible refine wc_lenT ?_) | (with_reducible refine wc_lenL ?_) | (with_reducible refine wc_lenS ?_) | (with_reducible refine wc_intB ?_) | (with_reducible refine wc_min2 ?_)
  | ((with_reducible show Wg _ _ (gTup _ _ _) _ _ _ _); first | refine wg_tup2 ?_ | refine wg_tup3 ?_ | refine wg_tup4 ?_) | (with_reducible refine we_un ?_) | (with_reducible refine ws_asg ?_) | (with_reducible refine wg_name ?_) | (with_reducible refine wgs_cons ?_) | (with_reducible refine wgs_nil ?_)
  | (with_reducible refine wsl_T ?_) | (with_reducible refine wsl_L ?_)
  | (with_reducible refine wc_tupL ?_) | (with_reducible refine wc_listT ?_)
  | (with_reducible refine wc_isi (kit_int _) ?_) | (with_reducible refine wc_isi (kit_bool _) ?_) | (with_reducible refine wc_isi (kit_tuple _) ?_) | (with_reducible refine wc_isi (kit_list _) ?_) | (with_reducible refine wc_isi (kit_str _) ?_)
  | (with_reducible refine ex_b ?_) | (with_reducible refine ex_i ?_) | (with_reducible refine ex_t ?_) | (with_reducible refine ex_l ?_)
  | ((with_reducible show ∃ _, unD _ = some _ ∧ _); refine ⟨_, rfl, by simp, ?_⟩))
local macro_rules | `(tactic| walk_at "dw") => `(tactic| repeat' walk_at "dw1")

section
variable {P : Program} {w : World} {K : Frg} {mg : Str → Option Value} {base : Heap} {fa : Addr} {fd : FuncData}
structure CstW (mg : Str → Option Value) : Prop extends Cst mg where
  MOST_WORTH : ∃ u, mg "MOST_WORTH" = some (.int 10000 u)
/-! ### need_wanted -/
abbrev s_need_wanted : Stmt := topS 23
abbrev N_need_wanted : List Str := ["face", "wanted", "worths", "rest", "more", "names", "worth", "name", "number", "one"]
theorem sc_need_wanted : FnScope N_need_wanted ["face", "wanted"] (defScope s_need_wanted) := ⟨rfl, rfl, rfl, by decide +kernel, rfl, by decide +kernel, by decide +kernel⟩

abbrev FW := Face × Want
abbrev lenW (w : Want) : Prop := w.worths.length ≤ 40 ∧ w.rest.length ≤ 40 ∧ w.more.length ≤ 40
abbrev sp_need_wanted (K : Frg) (CW : Addr) : Sp := SpX (α := FW) K (fun a => [.d (encF a.1), .d (encW a.2)]) (fun a _ => a.1.slots.length ≤ 1000 ∧ lenW a.2)
  (fun a μ x μ' => x = .n ∧ μ = μ' ∧ a.2.Ok a.1) (fun a μ c μ' => c = CW ∧ μ = μ' ∧ ¬ a.2.Ok a.1)
theorem all_not {l : List Int} {b : Int} : ((l.filter fun n => !isNum (.int n) b).map PyData.int).isEmpty = true ↔ ∀ n ∈ l, 0 ≤ n ∧ n < b := by
  rw [List.isEmpty_iff, List.map_eq_nil_iff, List.filter_eq_nil_iff]
  simp [isNum]
theorem shp_intL (l : List Int) : Shp 1 (.list (l.map .int)) = true := by
  show (l.map PyData.int).all (Shp 0) = true
  rw [List.all_eq_true]
  intro x hx
  obtain ⟨k, _, rfl⟩ := List.mem_map.mp hx
  rfl
theorem pln_intL (l : List Int) : Pln 1 (.list (l.map .int)) = true := by
  show (l.map PyData.int).all (Pln 0) = true
  rw [List.all_eq_true]
  intro x hx
  obtain ⟨k, _, rfl⟩ := List.mem_map.mp hx
  rfl
theorem intL_eq {a b : List Int} : PyData.list (a.map .int) = PyData.list (b.map .int) ↔ a = b := ⟨fun h => ints_inj (PyData.list.inj h), fun h => h ▸ rfl⟩
theorem ok_need_wanted {CW : Addr} (F : Fun K "need_wanted" "need_wanted" s_need_wanted fa fd) (B : Blt mg) (T : CstW mg) (X_BadWanted : ExcC K mg "BadWanted" CW)
    (C_is_number : Cal P w K mg base CX0 1 "is_number" ["part", "below"] (sp_is_number K)) : FnOk P w K mg base (L2.CX P w) 2 fa fd ["face", "wanted"] (sp_need_wanted K CW) := by
  refine ok_X F sc_need_wanted (fun _ => rfl) (fun cdv A outer s H E hr a μ hp => ⟨_, (pss_cons (ps_asg (pv 1) (pkTG K 3 (by rfl) (pgs_cons (pg_name (i := 2) sc_need_wanted.nd rfl (Or.inl rfl)) (pgs_cons (pg_name (i := 3) sc_need_wanted.nd rfl (Or.inl rfl)) (pgs_cons (pg_name (i := 4) sc_need_wanted.nd rfl (Or.inl rfl)) pgs_nil)))))
      (pss_cons (ps_if (PW.pt (pw_or (pt_cmpR (kne K hr) (pe_callB (klen K) (by rfl) B.len PySem.boot_len (pa_cons (pv 2) pa_nil)) (pe_callB (klen K) (by rfl) B.len PySem.boot_len (pa_cons (pe_ix (kix K) (pv 0) pe_int (fun _ _ => rfl)) pa_nil)) (nomark _)) (pw_or1 (pt_cmpR (kne K hr) (pe_lc (own := [("worth", 6)]) (g := (gName 6)) rfl sc_need_wanted.nd (pkTup K (pv 2)) (blkOk_by (own := [("worth", 6)]) (N := N_need_wanted) (sc := defScope s_need_wanted) (by decide +kernel)) (fun _ _ _ _ _ => (pg_name (i := 6) sc_need_wanted.nd rfl (by first | exact Or.inl rfl | exact Or.inr rfl))) (fun _ _ _ _ _ => (pts_one (pt_not (pt_val (pe_cal C_is_number hr (pa_cons (pv 6) (pa_cons (pe_gint T.MOST_WORTH) pa_nil))))))) (fun _ _ _ _ _ => (pv 6))) (pe_lst pa_nil) (nomark _))))) (pss_one (ps_raise rfl (takes_of rfl rfl rfl rfl) (pmk_own PySem.F.excBase_ValueError X_BadWanted.x X_BadWanted.g X_BadWanted.k (raises_own X_BadWanted.b X_BadWanted.t) rfl))) pss_nil)
      (pss_cons (ps_setLc (i := 5) (own := [("name", 7), ("number", 8)]) (g := (gTup K 2 (gCons (gName 7) (gCons (gName 8) gNil)))) rfl sc_need_wanted.nd rfl rfl (sw_true rfl rfl rfl (by decide +kernel)) (pkTup K (pv 4)) (blkOk_by (own := [("name", 7), ("number", 8)]) (N := N_need_wanted) (sc := defScope s_need_wanted) (by decide +kernel)) (fun _ _ _ _ _ => (pkTG K 2 (by rfl) (pgs_cons (pg_name (i := 7) sc_need_wanted.nd rfl (by first | exact Or.inl rfl | exact Or.inr rfl)) (pgs_cons (pg_name (i := 8) sc_need_wanted.nd rfl (by first | exact Or.inl rfl | exact Or.inr rfl)) pgs_nil)))) (fun _ _ _ _ _ => pts_nil) (fun _ _ _ _ _ => (pv 7)))
      (pss_cons (ps_if (PW.pt (pw_or (pt_cmpR (kne K hr) (pv 5) (pe_callB (ksortedSet w) (by rfl) B.sorted (by decide +kernel) (pa_cons (pe_callTy (ksetL K w) (by rfl) B.set (by decide +kernel) (pa_cons (pv 5) pa_nil)) pa_nil)) (nomark _)) (pw_or1 (pt_cmpR (kne K hr) (pe_lc (own := [("name", 7)]) (g := (gName 7)) rfl sc_need_wanted.nd (pkList K (pv 5)) (blkOk_by (own := [("name", 7)]) (N := N_need_wanted) (sc := defScope s_need_wanted) (by decide +kernel)) (fun _ _ _ _ _ => (pg_name (i := 7) sc_need_wanted.nd rfl (by first | exact Or.inl rfl | exact Or.inr rfl))) (fun _ _ _ _ _ => (pts_one (pt_not (pt_val (pe_cal C_is_number hr (pa_cons (pv 7) (pa_cons (pe_gint T.NAMES) pa_nil))))))) (fun _ _ _ _ _ => (pv 7))) (pe_lst pa_nil) (nomark _))))) (pss_one (ps_raise rfl (takes_of rfl rfl rfl rfl) (pmk_own PySem.F.excBase_ValueError X_BadWanted.x X_BadWanted.g X_BadWanted.k (raises_own X_BadWanted.b X_BadWanted.t) rfl))) pss_nil)
      (pss_one (ps_if (pt_cmpR (kne K hr) (pe_lc (own := [("one", 9)]) (g := (gName 9)) rfl sc_need_wanted.nd (pkList K (pe_op op_cat (pe_callTy (klst K) (by rfl) B.list (by decide +kernel) (pa_cons (pv 3) pa_nil)) (pe_lc (own := [("name", 7), ("number", 8)]) (g := (gTup K 2 (gCons (gName 7) (gCons (gName 8) gNil)))) rfl sc_need_wanted.nd (pkTup K (pv 4)) (blkOk_by (own := [("name", 7), ("number", 8)]) (N := N_need_wanted) (sc := defScope s_need_wanted) (by decide +kernel)) (fun _ _ _ _ _ => (pkTG K 2 (by rfl) (pgs_cons (pg_name (i := 7) sc_need_wanted.nd rfl (by first | exact Or.inl rfl | exact Or.inr rfl)) (pgs_cons (pg_name (i := 8) sc_need_wanted.nd rfl (by first | exact Or.inl rfl | exact Or.inr rfl)) pgs_nil)))) (fun _ _ _ _ _ => pts_nil) (fun _ _ _ _ _ => (pv 8))))) (blkOk_by (own := [("one", 9)]) (N := N_need_wanted) (sc := defScope s_need_wanted) (by decide +kernel)) (fun _ _ _ _ _ => (pg_name (i := 9) sc_need_wanted.nd rfl (by first | exact Or.inl rfl | exact Or.inr rfl))) (fun _ _ _ _ _ => (pts_one (pt_not (pt_val (pe_cal C_is_number hr (pa_cons (pv 9) (pa_cons (pe_gint T.NUMBERS) pa_nil))))))) (fun _ _ _ _ _ => (pv 9))) (pe_lst pa_nil) (nomark _)) (pss_one (ps_raise rfl (takes_of rfl rfl rfl rfl) (pmk_own PySem.F.excBase_ValueError X_BadWanted.x X_BadWanted.g X_BadWanted.k (raises_own X_BadWanted.b X_BadWanted.t) rfl))) pss_nil)))))), fun G0 hE => ?_⟩)
  obtain ⟨f, wt⟩ := a
  obtain ⟨hl, l1, l2, l3⟩ := hp
  try dsimp only [cxOf, Cx.nox] at hl l1 l2 l3 ⊢
  unfold encF encW encI encMo
  walk_at "dw"
  refine w2_ixT ati_0 ?_
  walk_at "dw"
  rw [List.length_map, List.length_map]
  refine w2_neD rfl rfl ?_
  rw [eqv_int]
  walk_at "dw"
  refine ⟨fun h => ?_, fun h => ?_⟩
  · refine ⟨fun _ => ?_, fun h => (nomatch h)⟩
    refine ws_raise hE ⟨μ, Sub.refl _, rfl, rfl, fun O => ?_⟩
    have : wt.worths.length = f.slots.length := O.len
    rw [this] at h
    simp at h
  have e1 : wt.worths.length = f.slots.length := by
    have : decide ((wt.worths.length : Int) = (f.slots.length : Int)) = true := by simpa using h
    have := of_decide_eq_true this
    omega
  walk_at "dw"
  refine we_lcA wt.worths (fun n => .i n) (fun n => !isNum (.int n) 10000) (fun n => .int n) (wi_tup ?_)
  walk_at "dw"
  refine ⟨by rw [List.map_map]; rfl, by omega, fun _ _ => trivial, fun n hn μ1 hs1 => ?_, ?_⟩
  · walk_at "dw"
    refine ⟨(.int n, 10000), rfl, trivial, ?_⟩
    rintro _ _ ⟨rfl, rfl⟩
    walk_at "dw"
    refine ⟨Sub.refl _, rfl, fun _ => ?_⟩
    walk_at "dw"
    exact ⟨Sub.refl _, rfl⟩
  walk_at "dw"
  refine we_lst ?_
  walk_at "dw"
  refine w2_neD (shaped_of 1 (shp_intL _)) rfl ?_
  rw [eqv_list_nil]
  walk_at "dw"
  refine ⟨fun h => ?_, fun h => ?_⟩
  · refine ws_raise hE ⟨μ, Sub.refl _, rfl, rfl, fun O => ?_⟩
    rw [all_not.mpr O.wo] at h
    cases h
  have e2 := all_not.mp (show (((wt.worths.filter fun n => !isNum (.int n) 10000).map PyData.int).isEmpty = true) by simpa using h)
  walk_at "dw"
  refine we_lcT wt.more (fun p => .int p.1) (fun p => .int p.2) (fun p => .int p.1) (wi_tup ?_)
  walk_at "dw"
  refine ⟨by rw [List.map_map]; rfl, by omega, fun _ _ => trivial, fun n hn μ1 hs1 => ?_, ?_⟩
  · walk_at "dw"
    exact ⟨Sub.refl _, rfl⟩
  rw [show (wt.more.map fun p => PyData.int p.1) = wt.names.map .int by unfold Want.names; rw [List.map_map]; rfl]
  have hln : wt.names.length = wt.more.length := List.length_map _
  walk_at "dw"
  refine wc_setL (ns := wt.names) (by omega) fun aS c h0 hc => ?_
  walk_at "dw"
  refine wc_sortedSet mset_same (by omega) fun ys hy1 hy2 hy3 => ?_
  have hsb : Sub μ (mset μ aS (.any (SetO w aS (fun j => decide (j ∈ wt.names)) c))) := Sub.new h0
  generalize mset μ aS (.any (SetO w aS (fun j => decide (j ∈ wt.names)) c)) = μ1 at hsb ⊢
  refine w2_neD (shaped_of 1 (shp_intL _)) (shaped_of 1 (shp_intL _)) ?_
  rw [eqv_dec 1 (pln_intL _) (pln_intL _) intL_eq]
  have hris : Rising wt.names ↔ wt.names = ys := ⟨fun hr => rising_ext hr hy1 fun n => by rw [hy2 n, decide_eq_true_eq], fun h => h ▸ hy1⟩
  walk_at "dw"
  refine ⟨fun h => ?_, fun h => ?_⟩
  · refine ⟨fun _ => ?_, fun h => (nomatch h)⟩
    refine ws_raise hE ⟨μ, hsb, rfl, rfl, fun O => ?_⟩
    rw [decide_eq_true (hris.mp O.ris)] at h
    cases h
  have e3 : Rising wt.names := hris.mpr (of_decide_eq_true (by simpa using h))
  walk_at "dw"
  refine we_lcA wt.names (fun n => .i n) (fun n => !isNum (.int n) 10) (fun n => .int n) (wi_lst ?_)
  walk_at "dw"
  refine ⟨by rw [List.map_map]; rfl, by omega, fun _ _ => trivial, fun n hn μ1 hs1 => ?_, ?_⟩
  · walk_at "dw"
    refine ⟨(.int n, 10), rfl, trivial, ?_⟩
    rintro _ _ ⟨rfl, rfl⟩
    walk_at "dw"
    refine ⟨Sub.refl _, rfl, fun _ => ?_⟩
    walk_at "dw"
    exact ⟨Sub.refl _, rfl⟩
  walk_at "dw"
  refine we_lst ?_
  walk_at "dw"
  refine w2_neD (shaped_of 1 (shp_intL _)) rfl ?_
  rw [eqv_list_nil]
  walk_at "dw"
  refine ⟨fun h => ?_, fun h => ?_⟩
  · refine ws_raise hE ⟨μ, hsb, rfl, rfl, fun O => ?_⟩
    rw [all_not.mpr O.ten] at h
    cases h
  have e4 : InTen wt.names := all_not.mp (show (((wt.names.filter fun n => !isNum (.int n) 10).map PyData.int).isEmpty = true) by simpa using h)
  walk_at "dw"
  refine we_lcA (wt.rest ++ wt.more.map (·.2)) (fun n => .i n) (fun n => !isNum (.int n) 100) (fun n => .int n) (wi_lst ?_)
  walk_at "dw"
  refine we_lcT wt.more (fun p => .int p.1) (fun p => .int p.2) (fun p => .int p.2) (wi_tup ?_)
  walk_at "dw"
  refine ⟨by rw [List.map_map]; rfl, by omega, fun _ _ => trivial, fun n hn μ1 hs1 => ?_, ?_⟩
  · walk_at "dw"
    exact ⟨Sub.refl _, rfl⟩
  refine w2_cat (by rw [List.length_map, List.length_map]; omega) ?_
  walk_at "dw"
  refine ⟨by rw [List.map_append, List.map_append, List.map_map, List.map_map, List.map_map]; rfl, by rw [List.length_append, List.length_map]; omega, fun _ _ => trivial, fun n hn μ1 hs1 => ?_, ?_⟩
  · walk_at "dw"
    refine ⟨(.int n, 100), rfl, trivial, ?_⟩
    rintro _ _ ⟨rfl, rfl⟩
    walk_at "dw"
    refine ⟨Sub.refl _, rfl, fun _ => ?_⟩
    walk_at "dw"
    exact ⟨Sub.refl _, rfl⟩
  walk_at "dw"
  refine we_lst ?_
  walk_at "dw"
  refine w2_neD (shaped_of 1 (shp_intL _)) rfl ?_
  rw [eqv_list_nil]
  walk_at "dw"
  refine ⟨fun h => ?_, fun h => ?_⟩
  · refine ws_raise hE ⟨μ, hsb, rfl, rfl, fun O => ?_⟩
    rw [all_not.mpr] at h
    · cases h
    · intro n hn
      rcases List.mem_append.mp hn with hn | hn
      · exact O.re n hn
      · obtain ⟨p, hp, rfl⟩ := List.mem_map.mp hn
        exact O.mo p hp
  have e5 := all_not.mp (show ((((wt.rest ++ wt.more.map (·.2)).filter fun n => !isNum (.int n) 100).map PyData.int).isEmpty = true) by simpa using h)
  walk_at "dw"
  exact ⟨μ, hsb, rfl, rfl, e1, e2, e3, e4, fun x hx => e5 x (List.mem_append_left _ hx), fun p hp => e5 p.2 (List.mem_append_right _ (List.mem_map.mpr ⟨p, hp, rfl⟩))⟩
end
end Sc

namespace Sc
open PySem L2 PyProof.Rows Dw
local macro_rules | `(tactic| walk_at "dw1") => `(tactic| first
  | (with_reducible refine ws_seq ?_) | (with_reducible refine ws_ret ?_) | (with_reducible refine ws_set ?_) | (with_reducible refine ws_drop ?_) | (with_reducible refine ws_if ?_) | (with_reducible refine ws_next ?_)
  | ((with_reducible show We _ _ (tVar _) _ _ _); refine we_var rfl ?_) | (with_reducible refine we_int ?_) | (with_reducible refine we_bl ?_) | (with_reducible refine we_str ?_) | (with_reducible refine we_non ?_) | (with_reducible refine we_ty ?_)
  | (with_reducible refine we_op ?_) | (with_reducible refine we_isiT ?_) | (with_reducible refine we_cb ?_) | (with_reducible refine wa_cons ?_) | (with_reducible refine wa_nil ?_)
  | (with_reducible refine we_and ?_) | (with_reducible refine we_or ?_) | (with_reducible refine we_not ?_) | (with_reducible refine we_if ?_) | (with_reducible refine we_chain ?_)
  | (with_reducible refine we_fld ?_) | (with_reducible refine we_bm ?_) | (with_reducible refine we_bm0 ?_) | (with_reducible refine we_sl ?_) | (with_reducible refine wo_none ?_) | (with_reducible refine wo_some ?_)
  | (with_reducible refine wt_test ?_) | (with_reducible refine wt_B ?_) | (with_reducible refine wt_and ?_) | (with_reducible refine wt_or ?_) | (with_reducible refine wt_not ?_) | (with_reducible refine wt_yes ?_)
  | (with_reducible refine w2_I0i ?_) | (with_reducible refine w2_I0b ?_) | (with_reducible refine w2_isN ?_) | (with_reducible refine w2_notN ?_)
  | (with_reducible refine we_callL ?_) | (with_reducible refine we_call ?_) | (with_reducible refine we_tup ?_)
  | (with_reducible refine wc_lenT ?_) | (with_reducible refine wc_lenL ?_) | (with_reducible refine wc_lenS ?_) | (with_reducible refine wc_intB ?_) | (with_reducible refine wc_min2 ?_)
  | ((with_reducible show Wg _ _ (gTup _ _ _) _ _ _ _); first | refine wg_tup2 ?_ | refine wg_tup3 ?_ | refine wg_tup4 ?_) | (with_reducible refine we_un ?_) | (with_reducible refine ws_asg ?_) | (with_reducible refine wg_name ?_) | (with_reducible refine wgs_cons ?_) | (with_reducible refine wgs_nil ?_)
  | (with_reducible refine wsl_T ?_) | (with_reducible refine wsl_L ?_)
  | (with_reducible refine wc_tupL ?_) | (with_reducible refine wc_listT ?_)
  | (with_reducible refine wc_isi (kit_int _) ?_) | (with_reducible refine wc_isi (kit_bool _) ?_) | (with_reducible refine wc_isi (kit_tuple _) ?_) | (with_reducible refine wc_isi (kit_list _) ?_) | (with_reducible refine wc_isi (kit_str _) ?_)
  | (with_reducible refine ex_b ?_) | (with_reducible refine ex_i ?_) | (with_reducible refine ex_t ?_) | (with_reducible refine ex_l ?_)
  | ((with_reducible show ∃ _, unD _ = some _ ∧ _); refine ⟨_, rfl, by simp, ?_⟩))
local macro_rules | `(tactic| walk_at "dw") => `(tactic| repeat' walk_at "dw1")

section
variable {P : Program} {w : World} {K : Frg} {mg : Str → Option Value} {base : Heap} {fa : Addr} {fd : FuncData}
/-! ### must_hand -/
abbrev s_must_hand : Stmt := topS 24
abbrev N_must_hand : List Str := ["face", "worths", "ahead", "found", "k", "name", "sort", "default"]
theorem sc_must_hand : FnScope N_must_hand ["face", "worths"] (defScope s_must_hand) := ⟨rfl, rfl, rfl, by decide +kernel, rfl, by decide +kernel, by decide +kernel⟩

abbrev sp_must_hand (K : Frg) : Sp := SpA (α := Face × List Int) K (fun a => [.d (encF a.1), .d (encI a.2)]) (fun a _ => a.1.Ok ∧ a.2.length = a.1.slots.length)
  (fun a μ x μ' => x = .l ((mustL a.1 a.2).map fun (k : Nat) => .int (k : Int)) ∧ μ = μ')
theorem ahead_snoc {f : Face} {ws : List Int} {i : Nat} (hs : i < f.slots.length) (hw : i < ws.length) : aheadW f ws (i + 1) = aheadW f ws i ++ [(f.slots[i].name, ws[i])] := by
  unfold aheadW
  have hz : (f.slots.zip ws)[i]? = some (f.slots[i], ws[i]) := List.getElem?_zip_eq_some.mpr ⟨List.getElem?_eq_getElem hs, List.getElem?_eq_getElem hw⟩
  rw [List.take_add_one, hz, List.map_append]
  rfl
theorem ok_must_hand (F : Fun K "must_hand" "must_hand" s_must_hand fa fd) (B : Blt mg) (C_worked : Cal P w K mg base CX0 2 "worked" ["e", "worths", "said"] (sp_worked 1 K)) : FnOk P w K mg base CX0 3 fa fd ["face", "worths"] (sp_must_hand K) := by
  refine ok_D F sc_must_hand (fun _ => rfl) (fun cdv A outer s H E hr a μ hp => ⟨_, (pss_cons (ps_set (i := 2) sc_must_hand.nd rfl (Or.inl rfl) pe_dnewK)
      (pss_cons (ps_set (i := 3) sc_must_hand.nd rfl (Or.inl rfl) (pe_lst pa_nil))
      (pss_cons (ps_for PassesOwn.never rfl (pi_range1 rfl B.range (pa_cons (pe_callB (klen K) (by rfl) B.len PySem.boot_len (pa_cons (pv 1) pa_nil)) pa_nil)) (pg_name (i := 4) sc_must_hand.nd rfl (Or.inl rfl)) (pss_cons (ps_asg (pe_ix (kix K) (pe_ix (kix K) (pv 0) pe_int (fun _ _ => rfl)) (pv 4) (fun _ _ => rfl)) (pkTG K 3 (by rfl) (pgs_cons (pg_name (i := 5) sc_must_hand.nd rfl (Or.inl rfl)) (pgs_cons (pg_name (i := 6) sc_must_hand.nd rfl (Or.inl rfl)) (pgs_cons (pg_name (i := 7) sc_must_hand.nd rfl (Or.inl rfl)) pgs_nil)))))
      (pss_cons (ps_if (PW.pt (pw_or (pt_cmpR op_isN (pv 7) pe_non (nomark _)) (pw_or1 (pt_cmpR (kne K hr) (pe_cal C_worked hr (pa_cons (pv 7) (pa_cons (pv 2) (pa_cons (pe_lst pa_nil) pa_nil)))) (pe_ix (kix K) (pv 1) (pv 4) (fun _ _ => rfl)) (nomark _))))) (pss_one (ps_expr (pkBm K PySem.F.plainAttrs_list PySem.F.slot_list_append PySem.F.type_list_append mt_append (pv 3) (pa_cons (pv 4) pa_nil)))) pss_nil)
      (pss_one (ps_dput (hu_of hr) (pv 2) (pv 5) (pe_ix (kix K) (pv 1) (pv 4) (fun _ _ => rfl)) rfl)))))
      (pss_one (ps_ret (pv 3)))))), fun G0 => ?_⟩)
  obtain ⟨f, ws⟩ := a
  obtain ⟨hf, hl⟩ := hp
  try dsimp only [cxOf, Cx.nox] at hf hl ⊢
  have hsl := hf.len
  unfold encF encI
  walk_at "dw"
  refine we_dnew fun aA hA0 => ?_
  walk_at "dw"
  refine we_lstM ?_
  walk_at "dw"
  refine ⟨by simp, fun aF hF0 => ?_⟩
  have hne : aA ≠ aF := ne_mu mset_same hF0
  have hF1 : μ aF = none := by
    cases hh : μ aF with
    | none => rfl
    | some o => rw [mset_ne (Ne.symm hne), hh] at hF0; cases hF0
  have I0 : Sub μ (mset (mset μ aA (.dk [])) aF (.lst [])) ∧ mset (mset μ aA (.dk [])) aF (.lst []) aA = some (.dk (encWs (aheadW f ws 0))) ∧ mset (mset μ aA (.dk [])) aF (.lst []) aF = some (.lst (((List.range 0).filter (mustK f ws)).map fun (k : Nat) => PV.i (k : Int))) :=
    ⟨sub_put (Sub.new hA0) hF1, by rw [mset_ne hne, mset_same]; rfl, mset_same⟩
  generalize mset (mset μ aA (.dk [])) aF (.lst []) = μ1 at I0 ⊢
  walk_at "dw"
  refine ws_for (wi_rng ?_)
  walk_at "dw"
  rw [List.length_map]
  refine ⟨_, rfl, by omega, by omega, ?_⟩
  rw [Int.toNat_natCast]
  refine ⟨fun i ρ μ' => (Sub μ μ' ∧ μ' aA = some (.dk (encWs (aheadW f ws i))) ∧ μ' aF = some (.lst (((List.range i).filter (mustK f ws)).map fun (k : Nat) => PV.i (k : Int)))) ∧ ∃ v4 v5 v6 v7, ρ = [some (.t [.tuple (f.slots.map encS), .bool f.rest, .bool f.more]), some (.t (ws.map .int)), some (.o aA), some (.o aF), v4, v5, v6, v7], ⟨I0, _, _, _, _, rfl⟩, fun _ _ _ _ _ => trivial, ?_, ?_⟩
  · rintro i x ρ μ2 hx ⟨⟨hS, hA, hF⟩, v4, v5, v6, v7, rfl⟩
    have hi : i < ws.length := by
      have := (List.getElem?_eq_some_iff.mp hx).1
      simpa using this
    have his : i < f.slots.length := by omega
    rw [List.getElem?_map, List.getElem?_range hi] at hx
    cases hx
    have hSl := hf.each i his
    have hks := List.getElem?_eq_getElem his
    have hwat : (ws.map PyData.int)[i]? = some (.int ws[i]) := by rw [List.getElem?_map, List.getElem?_eq_getElem hi]; rfl
    have hkeys := ahead_keys hl i
    have hnew : f.slots[i].name ∉ (aheadW f ws i).map (·.1) := by
      rw [hkeys]
      intro hm
      obtain ⟨t, ht, e⟩ := List.mem_map.mp hm
      exact hSl.nw t ht e
    have hlW : (encWs (aheadW f ws i)).length < 100000 := by
      unfold encWs aheadW
      rw [List.length_map, List.length_map, List.length_take, List.length_zip]
      omega
    have hrl : (((List.range i).filter (mustK f ws)).map fun (k : Nat) => PV.i (k : Int)).length ≤ i := by
      rw [List.length_map]
      have := List.length_filter_le (mustK f ws) (List.range i)
      rw [List.length_range] at this
      exact this
    have hgd : ws.getD i 0 = ws[i] := getD_lt hi
    have hstep : (List.range (i + 1)).filter (mustK f ws) = (List.range i).filter (mustK f ws) ++ (if mustK f ws i = true then [i] else []) := by
      rw [List.range_succ, List.filter_append]
      congr 1
      by_cases h : mustK f ws i = true
      · simp [h]
      · simp [h]
    -- the turn's end
    have fin : ∀ μ3 : Mu, Sub μ μ3 → μ3 aA = some (.dk (encWs (aheadW f ws i))) → μ3 aF = some (.lst (((List.range (i + 1)).filter (mustK f ws)).map fun (k : Nat) => PV.i (k : Int))) → ∀ ρ3 : Rho,
        (Sub μ (mset μ3 aA (.dk (putKP (encWs (aheadW f ws i)) (Sum.inl f.slots[i].name) (.i ws[i])))) ∧ mset μ3 aA (.dk (putKP (encWs (aheadW f ws i)) (Sum.inl f.slots[i].name) (.i ws[i]))) aA = some (.dk (encWs (aheadW f ws (i + 1)))) ∧ mset μ3 aA (.dk (putKP (encWs (aheadW f ws i)) (Sum.inl f.slots[i].name) (.i ws[i]))) aF = some (.lst (((List.range (i + 1)).filter (mustK f ws)).map fun (k : Nat) => PV.i (k : Int)))) := by
      intro μ3 h1 h2 h3 _
      refine ⟨sub_put h1 hA0, ?_, by rw [mset_ne (Ne.symm hne)]; exact h3⟩
      rw [mset_same, put_newW hnew, ahead_snoc his hi]
    walk_at "dw"
    refine w2_ixT ati_0 ?_
    walk_at "dw"
    refine w2_ixT (ati_n (d := encS f.slots[i]) (by rw [List.getElem?_map, hks]; rfl)) ?_
    refine wg_tup3 ?_
    refine wgs_cons (wg_name (wgs_cons (wg_name (wgs_cons (wg_name (wgs_nil ?_))))))
    refine ws_cut (fun ρ' μ3 => ρ' = [some (.t [.tuple (f.slots.map encS), .bool f.rest, .bool f.more]), some (.t (ws.map .int)), some (.o aA), some (.o aF), some (.i (i : Int)), some (.i f.slots[i].name), some (.s f.slots[i].sort.str), some (.d (encO f.slots[i].dflt))] ∧ Sub μ μ3 ∧ μ3 aA = some (.dk (encWs (aheadW f ws i))) ∧ μ3 aF = some (.lst (((List.range (i + 1)).filter (mustK f ws)).map fun (k : Nat) => PV.i (k : Int)))) ?_ ?_
    · cases hd : f.slots[i].dflt with
      | none =>
        have hm : mustK f ws i = true := by unfold mustK; rw [hks]; simp only [hd]
        walk_at "dw"
        refine ⟨fun _ => ⟨fun _ => ?_, fun h => (nomatch h)⟩, fun h => (nomatch h)⟩
        walk_at "dw"
        refine ⟨tyd_o hF, ?_⟩
        walk_at "dw"
        refine wm_append hF (by omega) ?_
        exact ⟨rfl, sub_put hS hF1, by rw [mset_ne hne]; exact hA, by rw [mset_same, hstep, if_pos hm, List.map_append]; rfl⟩
      | some e =>
        have hex : ExOk ((aheadW f ws i).map (·.1)) 1 e := by rw [hkeys]; exact hSl.df e hd
        have hm : mustK f ws i = !decide (valE (aheadW f ws i) e = ws[i]) := by unfold mustK; rw [hks]; simp only [hd]; rw [hgd]
        walk_at "dw"
        refine ⟨fun h => (by cases e <;> cases h), fun _ => ?_⟩
        walk_at "dw"
        refine we_lstM ?_
        walk_at "dw"
        refine ⟨by simp, fun aL hL0 => ?_⟩
        have hL1 : μ aL = none := by
          cases hh : μ aL with
          | none => rfl
          | some o => rw [hS _ _ hh] at hL0; cases hL0
        have hnA : aA ≠ aL := ne_mu hA hL0
        have hnF : aF ≠ aL := ne_mu hF hL0
        walk_at "dw"
        refine ⟨(e, (aheadW f ws i, aA), ([], aL)), rfl, ⟨hex, by show mset μ2 aL _ aA = _; rw [mset_ne hnA]; exact hA, mset_same, by simp⟩, ?_⟩
        rintro _ _ ⟨rfl, rfl⟩
        have hS3 : Sub μ (mset (mset μ2 aL (.lst [])) aL (.lst (([] ++ sayE e).map PV.i))) := sub_put (sub_put hS hL1) hL1
        have hA3 : mset (mset μ2 aL (.lst [])) aL (.lst (([] ++ sayE e).map PV.i)) aA = some (.dk (encWs (aheadW f ws i))) := by rw [mset_ne hnA, mset_ne hnA]; exact hA
        have hF3 : mset (mset μ2 aL (.lst [])) aL (.lst (([] ++ sayE e).map PV.i)) aF = some (.lst (((List.range i).filter (mustK f ws)).map fun (k : Nat) => PV.i (k : Int))) := by rw [mset_ne hnF, mset_ne hnF]; exact hF
        generalize mset (mset μ2 aL (.lst [])) aL (.lst (([] ++ sayE e).map PV.i)) = μ3 at hS3 hA3 hF3 ⊢
        walk_at "dw"
        refine w2_ixT (ati_n hwat) ?_
        walk_at "dw"
        refine w2_neD rfl rfl ?_
        rw [eqv_int, ← hm]
        walk_at "dw"
        refine ⟨fun h => ?_, fun h => ?_⟩
        · walk_at "dw"
          refine ⟨tyd_o hF3, ?_⟩
          walk_at "dw"
          refine wm_append hF3 (by omega) ?_
          exact ⟨rfl, sub_put hS3 hF1, by rw [mset_ne hne]; exact hA3, by rw [mset_same, hstep, if_pos h, List.map_append]; rfl⟩
        · walk_at "dw"
          exact ⟨rfl, hS3, hA3, by rw [hstep, if_neg (by rw [h]; decide), List.append_nil]; exact hF3⟩
    rintro ρ' μ3 ⟨rfl, h1, h2, h3⟩
    refine ws_dput ?_
    walk_at "dw"
    refine w2_ixT (ati_n hwat) ?_
    walk_at "dw"
    refine ⟨aA, _, Sum.inl f.slots[i].name, rfl, rfl, h2, hlW, ?_⟩
    exact ⟨fin μ3 h1 h2 h3 [], _, _, _, _, rfl⟩
  · rintro ρ μ2 ⟨⟨hS, hA, hF⟩, v4, v5, v6, v7, rfl⟩
    rw [List.length_map, List.length_range, hl] at hF
    refine ws_freeze aF ((mustL f ws).map fun (k : Nat) => .int (k : Int)) (by rw [hF, List.map_map]; rfl) ?_
    simp only [List.map_cons, List.map_nil]
    rw [show fzV aF ((mustL f ws).map fun (k : Nat) => PyData.int (k : Int)) (some (.o aF)) = some (.l ((mustL f ws).map fun (k : Nat) => .int (k : Int))) from if_pos rfl]
    walk_at "dw"
    refine ⟨μ, fun b o e => ?_, rfl, rfl⟩
    have hb : b ≠ aF := fun h => by rw [h, hF1] at e; cases e
    rw [mdel_ne hb]
    exact hS b o e
end
end Sc

namespace Sc
open PySem L2 PyProof.Rows Dw
local macro_rules | `(tactic| walk_at "dw1") => `(tactic| first
  | (with_reducible refine ws_seq ?_) | (with_reducible refine ws_ret ?_) | (with_reducible refine ws_set ?_) | (with_reducible refine ws_drop ?_) | (with_reducible refine ws_if ?_) | (with_reducible refine ws_next ?_)
  | ((with_reducible show We _ _ (tVar _) _ _ _); refine we_var rfl ?_) | (with_reducible refine we_int ?_) | (with_reducible refine we_bl ?_) | (with_reducible refine we_str ?_) | (with_reducible refine we_non ?_) | (with_reducible refine we_ty ?_)
  | (with_reducible refine we_op ?_) | (with_reducible refine we_isiT ?_) | (with_reducible refine we_cb ?_) | (with_reducible refine wa_cons ?_) | (with_reducible refine wa_nil ?_)
  | (with_reducible refine we_and ?_) | (with_reducible refine we_or ?_) | (with_reducible refine we_not ?_) | (with_reducible refine we_if ?_) | (with_reducible refine we_chain ?_)
  | (with_reducible refine we_fld ?_) | (with_reducible refine we_bm ?_) | (with_reducible refine we_bm0 ?_) | (with_reducible refine we_sl ?_) | (with_reducible refine wo_none ?_) | (with_reducible refine wo_some ?_)
  | (with_reducible refine wt_test ?_) | (with_reducible refine wt_B ?_) | (with_reducible refine wt_and ?_) | (with_reducible refine wt_or ?_) | (with_reducible refine wt_not ?_) | (with_reducible refine wt_yes ?_)
  | (with_reducible refine w2_I0i ?_) | (with_reducible refine w2_I0b ?_) | (with_reducible refine w2_isN ?_) | (with_reducible refine w2_notN ?_)
  | (with_reducible refine we_callL ?_) | (with_reducible refine we_call ?_) | (with_reducible refine we_tup ?_)
  | (with_reducible refine wc_lenT ?_) | (with_reducible refine wc_lenL ?_) | (with_reducible refine wc_lenS ?_) | (with_reducible refine wc_intB ?_) | (with_reducible refine wc_min2 ?_)
  | ((with_reducible show Wg _ _ (gTup _ _ _) _ _ _ _); first | refine wg_tup2 ?_ | refine wg_tup3 ?_ | refine wg_tup4 ?_) | (with_reducible refine we_un ?_) | (with_reducible refine ws_asg ?_) | (with_reducible refine wg_name ?_) | (with_reducible refine wgs_cons ?_) | (with_reducible refine wgs_nil ?_)
  | (with_reducible refine wsl_T ?_) | (with_reducible refine wsl_L ?_)
  | (with_reducible refine wc_tupL ?_) | (with_reducible refine wc_listT ?_)
  | (with_reducible refine wc_isi (kit_int _) ?_) | (with_reducible refine wc_isi (kit_bool _) ?_) | (with_reducible refine wc_isi (kit_tuple _) ?_) | (with_reducible refine wc_isi (kit_list _) ?_) | (with_reducible refine wc_isi (kit_str _) ?_)
  | (with_reducible refine ex_b ?_) | (with_reducible refine ex_i ?_) | (with_reducible refine ex_t ?_) | (with_reducible refine ex_l ?_)
  | ((with_reducible show ∃ _, unD _ = some _ ∧ _); refine ⟨_, rfl, by simp, ?_⟩))
local macro_rules | `(tactic| walk_at "dw") => `(tactic| repeat' walk_at "dw1")

section
variable {P : Program} {w : World} {K : Frg} {mg : Str → Option Value} {base : Heap} {fa : Addr} {fd : FuncData}
abbrev natL (l : List Nat) : List PyData := l.map fun (k : Nat) => PyData.int (k : Int)
theorem shp_intT (l : List Int) : Shp 1 (.tuple (l.map .int)) = true := by
  show (l.map PyData.int).all (Shp 0) = true
  rw [List.all_eq_true]
  intro x hx
  obtain ⟨k, _, rfl⟩ := List.mem_map.mp hx
  rfl
theorem shp_moT (l : List (Int × Int)) : Shp 2 (.tuple (l.map fun p => .tuple [.int p.1, .int p.2])) = true := by
  show (l.map fun p => PyData.tuple [.int p.1, .int p.2]).all (Shp 1) = true
  rw [List.all_eq_true]
  intro x hx
  obtain ⟨k, _, rfl⟩ := List.mem_map.mp hx
  rfl
theorem many0_int (f : Face) (ws : List Int) : maxL 0 (((mustL f ws).filter (isPl f)).map fun (k : Nat) => ((k : Int) + 1)) = (many0 f ws : Int) := by
  unfold many0
  have : 0 ≤ maxL 0 (((mustL f ws).filter (isPl f)).map fun (k : Nat) => ((k : Int) + 1)) := by
    rcases maxL_in (d := 0) (ns := ((mustL f ws).filter (isPl f)).map fun (k : Nat) => ((k : Int) + 1)) with h | h
    · omega
    · obtain ⟨k, _, e⟩ := List.mem_map.mp h
      omega
  omega
theorem must_len (f : Face) (ws : List Int) : (mustL f ws).length ≤ f.slots.length := by
  have := List.length_filter_le (mustK f ws) (List.range f.slots.length)
  rw [List.length_range] at this
  exact this
theorem oth_len (f : Face) (w : Want) : (othW f w).length ≤ f.slots.length := Nat.le_trans (List.length_filter_le _ _) (must_len f w.worths)
/-! ### needed -/
abbrev s_needed : Stmt := topS 25
abbrev N_needed : List Str := ["face", "wanted", "worths", "rest", "more", "must", "many", "k"]
theorem sc_needed : FnScope N_needed ["face", "wanted"] (defScope s_needed) := ⟨rfl, rfl, rfl, by decide +kernel, rfl, by decide +kernel, by decide +kernel⟩

abbrev sp_needed (K : Frg) : Sp := SpA (α := FW) K (fun a => [.d (encF a.1), .d (encW a.2)]) (fun a _ => a.1.Ok ∧ a.2.Ok a.1)
  (fun a μ x μ' => x = .t [.int (manyW a.1 a.2 : Int), .list (natL (othW a.1 a.2))] ∧ μ = μ')
theorem ok_needed (F : Fun K "needed" "needed" s_needed fa fd) (B : Blt mg) (C_must_hand : Cal P w K mg base CX0 3 "must_hand" ["face", "worths"] (sp_must_hand K)) (C_places_of : Cal P w K mg base CX0 1 "places_of" ["face"] (sp_places_of K)) : FnOk P w K mg base CX0 4 fa fd ["face", "wanted"] (sp_needed K) := by
  refine ok_D F sc_needed (fun _ => rfl) (fun cdv A outer s H E hr a μ hp => ⟨_, (pss_cons (ps_asg (pv 1) (pkTG K 3 (by rfl) (pgs_cons (pg_name (i := 2) sc_needed.nd rfl (Or.inl rfl)) (pgs_cons (pg_name (i := 3) sc_needed.nd rfl (Or.inl rfl)) (pgs_cons (pg_name (i := 4) sc_needed.nd rfl (Or.inl rfl)) pgs_nil)))))
      (pss_cons (ps_set (i := 5) sc_needed.nd rfl (Or.inl rfl) (pe_cal C_must_hand hr (pa_cons (pv 0) (pa_cons (pv 2) pa_nil))))
      (pss_cons (ps_set (i := 6) sc_needed.nd rfl (Or.inr rfl) (pe_callBK (kmaxDf K (hu1 hr)) (by rfl) B.max (by decide +kernel) (pa_cons (pe_lc (own := [("k", 7)]) (g := (gName 7)) rfl sc_needed.nd (pkList K (pv 5)) (blkOk_by (own := [("k", 7)]) (N := N_needed) (sc := defScope s_needed) (by decide +kernel)) (fun _ _ _ _ _ => (pg_name (i := 7) sc_needed.nd rfl (by first | exact Or.inl rfl | exact Or.inr rfl))) (fun _ _ _ _ _ => (pts_one (pt_cmpR (keq K hr) (pe_ix (kix K) (pe_ix (kix K) (pe_ix (kix K) (pv 0) pe_int (fun _ _ => rfl)) (pv 7) (fun _ _ => rfl)) pe_int (fun _ _ => rfl)) pe_str (nomark _)))) (fun _ _ _ _ _ => (pe_op op_add (pv 7) pe_int))) pa_nil) (pk_cons pe_int pk_nil)))
      (pss_cons (ps_if (pt_cmpR (kne K hr) (pv 3) (pe_tup pa_nil) (nomark _)) (pss_one (ps_set (i := 6) sc_needed.nd rfl (Or.inr rfl) (pe_cal C_places_of hr (pa_cons (pv 0) pa_nil)))) pss_nil)
      (pss_one (ps_ret (pe_tup (pa_cons (pv 6) (pa_cons (pe_lc (own := [("k", 7)]) (g := (gName 7)) rfl sc_needed.nd (pkList K (pv 5)) (blkOk_by (own := [("k", 7)]) (N := N_needed) (sc := defScope s_needed) (by decide +kernel)) (fun _ _ _ _ _ => (pg_name (i := 7) sc_needed.nd rfl (by first | exact Or.inl rfl | exact Or.inr rfl))) (fun _ _ _ _ _ => (pts_one (pt_cmpR op_ge (pv 7) (pv 6) (nomark _)))) (fun _ _ _ _ _ => (pv 7))) pa_nil))))))))), fun G0 => ?_⟩)
  obtain ⟨f, wt⟩ := a
  obtain ⟨hf, hw⟩ := hp
  try dsimp only [cxOf, Cx.nox] at hf hw ⊢
  have hsl := hf.len
  have hml := must_len f wt.worths
  unfold encW
  walk_at "dw"
  refine ⟨(f, wt.worths), rfl, ⟨hf, hw.len⟩, ?_⟩
  rintro _ _ ⟨rfl, rfl⟩
  unfold encF encI encMo
  walk_at "dw"
  refine we_maxDf ?_
  walk_at "dw"
  refine we_lcA (mustL f wt.worths) (fun (k : Nat) => .i (k : Int)) (isPl f) (fun (k : Nat) => .int ((k : Int) + 1)) (wi_lst ?_)
  walk_at "dw"
  refine ⟨by rw [List.map_map]; rfl, by omega, fun _ _ => trivial, fun k hk μ1 hs1 => ?_, ?_⟩
  · have hkl := must_lt (mem_mustL.mp hk)
    have hks := List.getElem?_eq_getElem hkl
    have hpl : isPl f k = decide (f.slots[k].sort = .place) := by unfold isPl; rw [hks]
    walk_at "dw"
    refine w2_ixT ati_0 ?_
    walk_at "dw"
    refine w2_ixT (ati_n (d := encS f.slots[k]) (by rw [List.getElem?_map, hks]; rfl)) ?_
    unfold encS
    walk_at "dw"
    refine w2_ixT ati_1 ?_
    walk_at "dw"
    refine w2_eqD (shp_srt _) (by decide +kernel) ?_
    rw [eqv_str, str_place]
    walk_at "dw"
    refine ⟨Sub.refl _, hpl.symm, fun _ => ?_⟩
    walk_at "dw"
    exact ⟨Sub.refl _, rfl⟩
  walk_at "dw"
  refine ⟨((mustL f wt.worths).filter (isPl f)).map fun (k : Nat) => ((k : Int) + 1), 0, by rw [List.map_map]; rfl, rfl, ?_⟩
  rw [many0_int]
  show Ws K G0 _ _ _ _
  refine ws_cut (fun ρ' μ' => μ = μ' ∧ ∃ v7 : Option PV, ρ' = [some (.t [.tuple (f.slots.map encS), .bool f.rest, .bool f.more]), some (.t [.tuple (wt.worths.map .int), .tuple (wt.rest.map .int), .tuple (wt.more.map fun p => .tuple [.int p.1, .int p.2])]), some (.t (wt.worths.map .int)), some (.t (wt.rest.map .int)), some (.t (wt.more.map fun p => .tuple [.int p.1, .int p.2])), some (.l (natL (mustL f wt.worths))), some (.i (manyW f wt : Int)), v7]) ?_ ?_
  · walk_at "dw"
    refine w2_neD (shaped_of 1 (shp_intT _)) rfl ?_
    rw [eqv_tup_nil]
    walk_at "dw"
    refine ⟨fun h => ?_, fun h => ?_⟩
    · walk_at "dw"
      refine ⟨f, rfl, by show f.slots.length ≤ 1000; omega, ?_⟩
      rintro _ _ ⟨rfl, rfl⟩
      have e : manyW f wt = placesOf f := by
        unfold manyW
        rw [if_neg]
        intro e
        rw [e] at h
        cases h
      rw [e]
      exact ⟨rfl, _, rfl⟩
    · walk_at "dw"
      have e : manyW f wt = many0 f wt.worths := by
        unfold manyW
        rw [if_pos]
        cases hr : wt.rest with
        | nil => rfl
        | cons a r => rw [hr] at h; cases h
      rw [e]
      exact ⟨rfl, _, rfl⟩
  rintro ρ' μ' ⟨rfl, v7, rfl⟩
  walk_at "dw"
  refine we_lcA (mustL f wt.worths) (fun (k : Nat) => .i (k : Int)) (fun k => decide (manyW f wt ≤ k)) (fun (k : Nat) => .int (k : Int)) (wi_lst ?_)
  walk_at "dw"
  refine ⟨by rw [List.map_map]; rfl, by omega, fun _ _ => trivial, fun k hk μ1 hs1 => ?_, ?_⟩
  · walk_at "dw"
    refine ⟨Sub.refl _, decide_eq_decide.mpr (by omega), fun _ => ?_⟩
    walk_at "dw"
    exact ⟨Sub.refl _, rfl⟩
  walk_at "dw"
  exact ⟨μ, Sub.refl _, rfl, rfl⟩
end
end Sc

namespace Sc
open PySem L2 PyProof.Rows Dw
local macro_rules | `(tactic| walk_at "dw1") => `(tactic| first
  | (with_reducible refine ws_seq ?_) | (with_reducible refine ws_ret ?_) | (with_reducible refine ws_set ?_) | (with_reducible refine ws_drop ?_) | (with_reducible refine ws_if ?_) | (with_reducible refine ws_next ?_)
  | ((with_reducible show We _ _ (tVar _) _ _ _); refine we_var rfl ?_) | (with_reducible refine we_int ?_) | (with_reducible refine we_bl ?_) | (with_reducible refine we_str ?_) | (with_reducible refine we_non ?_) | (with_reducible refine we_ty ?_)
  | (with_reducible refine we_op ?_) | (with_reducible refine we_isiT ?_) | (with_reducible refine we_cb ?_) | (with_reducible refine wa_cons ?_) | (with_reducible refine wa_nil ?_)
  | (with_reducible refine we_and ?_) | (with_reducible refine we_or ?_) | (with_reducible refine we_not ?_) | (with_reducible refine we_if ?_) | (with_reducible refine we_chain ?_)
  | (with_reducible refine we_fld ?_) | (with_reducible refine we_bm ?_) | (with_reducible refine we_bm0 ?_) | (with_reducible refine we_sl ?_) | (with_reducible refine wo_none ?_) | (with_reducible refine wo_some ?_)
  | (with_reducible refine wt_test ?_) | (with_reducible refine wt_B ?_) | (with_reducible refine wt_and ?_) | (with_reducible refine wt_or ?_) | (with_reducible refine wt_not ?_) | (with_reducible refine wt_yes ?_)
  | (with_reducible refine w2_I0i ?_) | (with_reducible refine w2_I0b ?_) | (with_reducible refine w2_isN ?_) | (with_reducible refine w2_notN ?_)
  | (with_reducible refine we_callL ?_) | (with_reducible refine we_call ?_) | (with_reducible refine we_tup ?_)
  | (with_reducible refine wc_lenT ?_) | (with_reducible refine wc_lenL ?_) | (with_reducible refine wc_lenS ?_) | (with_reducible refine wc_intB ?_) | (with_reducible refine wc_min2 ?_)
  | ((with_reducible show Wg _ _ (gTup _ _ _) _ _ _ _); first | refine wg_tup2 ?_ | refine wg_tup3 ?_ | refine wg_tup4 ?_) | (with_reducible refine we_un ?_) | (with_reducible refine ws_asg ?_) | (with_reducible refine wg_name ?_) | (with_reducible refine wgs_cons ?_) | (with_reducible refine wgs_nil ?_)
  | (with_reducible refine wsl_T ?_) | (with_reducible refine wsl_L ?_)
  | (with_reducible refine wc_tupL ?_) | (with_reducible refine wc_listT ?_)
  | (with_reducible refine wc_isi (kit_int _) ?_) | (with_reducible refine wc_isi (kit_bool _) ?_) | (with_reducible refine wc_isi (kit_tuple _) ?_) | (with_reducible refine wc_isi (kit_list _) ?_) | (with_reducible refine wc_isi (kit_str _) ?_)
  | (with_reducible refine ex_b ?_) | (with_reducible refine ex_i ?_) | (with_reducible refine ex_t ?_) | (with_reducible refine ex_l ?_)
  | ((with_reducible show ∃ _, unD _ = some _ ∧ _); refine ⟨_, rfl, by simp, ?_⟩))
local macro_rules | `(tactic| walk_at "dw") => `(tactic| repeat' walk_at "dw1")

section
variable {P : Program} {w : World} {K : Frg} {mg : Str → Option Value} {base : Heap} {fa : Addr} {fd : FuncData}
/-! ### need_some -/
abbrev s_need_some : Stmt := topS 26
abbrev N_need_some : List Str := ["face", "wanted", "worths", "rest", "more", "many", "others", "name", "number", "k"]
theorem sc_need_some : FnScope N_need_some ["face", "wanted"] (defScope s_need_some) := ⟨rfl, rfl, rfl, by decide +kernel, rfl, by decide +kernel, by decide +kernel⟩

abbrev sp_need_some (K : Frg) (CN : Addr) : Sp := SpX (α := FW) K (fun a => [.d (encF a.1), .d (encW a.2)]) (fun a _ => a.1.Ok ∧ a.2.Ok a.1 ∧ lenW a.2)
  (fun a μ x μ' => x = .t [.int (manyW a.1 a.2 : Int), .list (natL (othW a.1 a.2))] ∧ μ = μ' ∧ Can a.1 a.2) (fun a μ c μ' => c = CN ∧ μ = μ' ∧ ¬ Can a.1 a.2)
theorem isN_oI (o : Option Nat) : isN (.d (optI o)) = o.isNone := by cases o <;> rfl
theorem emp_iff {α β : Type} {l : List α} {g : α → β} : (l.map g).isEmpty = true ↔ l = [] := by rw [List.isEmpty_iff, List.map_eq_nil_iff]
theorem sub_none {μ μ' : Mu} {a : Addr} (h : Sub μ μ') (e : μ' a = none) : μ a = none := by
  cases hh : μ a with
  | none => rfl
  | some o => rw [h _ _ hh] at e; cases e
theorem sub_both {μ μ' : Mu} {a : Addr} {x : MO} (h : Sub μ μ') : Sub (mset μ a x) (mset μ' a x) := fun b o e => by
  by_cases hb : b = a
  · subst hb
    rw [mset_same] at e ⊢
    exact e
  · rw [mset_ne hb] at e ⊢
    exact h b o e
theorem ok_need_some {CN : Addr} (F : Fun K "need_some" "need_some" s_need_some fa fd) (B : Blt mg) (T : CstW mg) (X_NoCall : Dw.ExcC K mg "NoCall" CN)
    (C_needed : Cal P w K mg base CX0 4 "needed" ["face", "wanted"] (sp_needed K)) (C_slot_named : Cal P w K mg base CX0 1 "slot_named" ["face", "name"] (sp_slot_named K)) : FnOk P w K mg base (L2.CX P w) 5 fa fd ["face", "wanted"] (sp_need_some K CN) := by
  refine ok_X F sc_need_some (fun _ => rfl) (fun cdv A outer s H E hr a μ hp => ⟨_, (pss_cons (ps_asg (pv 1) (pkTG K 3 (by rfl) (pgs_cons (pg_name (i := 2) sc_need_some.nd rfl (Or.inr rfl)) (pgs_cons (pg_name (i := 3) sc_need_some.nd rfl (Or.inl rfl)) (pgs_cons (pg_name (i := 4) sc_need_some.nd rfl (Or.inl rfl)) pgs_nil)))))
      (pss_cons (ps_asg (pe_cal C_needed hr (pa_cons (pv 0) (pa_cons (pv 1) pa_nil))) (pkTG K 2 (by rfl) (pgs_cons (pg_name (i := 5) sc_need_some.nd rfl (Or.inl rfl)) (pgs_cons (pg_name (i := 6) sc_need_some.nd rfl (Or.inl rfl)) pgs_nil))))
      (pss_cons (ps_if (PW.pt (pw_or (PW.pt (pw_and (pt_cmpR (kne K hr) (pv 3) (pe_tup pa_nil) (nomark _)) (pw_and1 (pt_not (pt_val (pe_ix (kix K) (pv 0) pe_int (fun _ _ => rfl))))))) (pw_or1 (PW.pt (pw_and (pt_cmpR (kne K hr) (pv 4) (pe_tup pa_nil) (nomark _)) (pw_and1 (pt_not (pt_val (pe_ix (kix K) (pv 0) pe_int (fun _ _ => rfl)))))))))) (pss_one (ps_raise rfl (takes_of rfl rfl rfl rfl) (pmk_own PySem.F.excBase_ValueError X_NoCall.x X_NoCall.g X_NoCall.k (raises_own X_NoCall.b X_NoCall.t) rfl))) pss_nil)
      (pss_cons (ps_if (pt_cmpR (kne K hr) (pe_lc (own := [("name", 7), ("number", 8)]) (g := (gTup K 2 (gCons (gName 7) (gCons (gName 8) gNil)))) rfl sc_need_some.nd (pkTup K (pv 4)) (blkOk_by (own := [("name", 7), ("number", 8)]) (N := N_need_some) (sc := defScope s_need_some) (by decide +kernel)) (fun _ _ _ _ _ => (pkTG K 2 (by rfl) (pgs_cons (pg_name (i := 7) sc_need_some.nd rfl (by first | exact Or.inl rfl | exact Or.inr rfl)) (pgs_cons (pg_name (i := 8) sc_need_some.nd rfl (by first | exact Or.inl rfl | exact Or.inr rfl)) pgs_nil)))) (fun _ _ _ _ _ => (pts_one (pt_cmpR op_notN (pe_cal C_slot_named hr (pa_cons (pv 0) (pa_cons (pv 7) pa_nil))) pe_non (nomark _)))) (fun _ _ _ _ _ => (pv 7))) (pe_lst pa_nil) (nomark _)) (pss_one (ps_raise rfl (takes_of rfl rfl rfl rfl) (pmk_own PySem.F.excBase_ValueError X_NoCall.x X_NoCall.g X_NoCall.k (raises_own X_NoCall.b X_NoCall.t) rfl))) pss_nil)
      (pss_cons (ps_if (pt_cmpR (kne K hr) (pe_lc (own := [("k", 9)]) (g := (gName 9)) rfl sc_need_some.nd (pkList K (pe_op op_cat (pe_listRg rfl rfl B.list (prg_1 rfl B.range (pv 5))) (pv 6))) (blkOk_by (own := [("k", 9)]) (N := N_need_some) (sc := defScope s_need_some) (by decide +kernel)) (fun _ _ _ _ _ => (pg_name (i := 9) sc_need_some.nd rfl (by first | exact Or.inl rfl | exact Or.inr rfl))) (fun _ _ _ _ _ => (pts_one (pt_cmpR op_ge (pe_ix (kix K) (pv 2) (pv 9) (fun _ _ => rfl)) (pe_gint T.NUMBERS) (nomark _)))) (fun _ _ _ _ _ => (pv 9))) (pe_lst pa_nil) (nomark _)) (pss_one (ps_raise rfl (takes_of rfl rfl rfl rfl) (pmk_own PySem.F.excBase_ValueError X_NoCall.x X_NoCall.g X_NoCall.k (raises_own X_NoCall.b X_NoCall.t) rfl))) pss_nil)
      (pss_cons (ps_if (pt_cmpR op_gt (pe_op op_add (pe_op op_add (pe_op op_add (pv 5) (pe_callB (klen K) (by rfl) B.len PySem.boot_len (pa_cons (pv 6) pa_nil))) (pe_callB (klen K) (by rfl) B.len PySem.boot_len (pa_cons (pv 3) pa_nil))) (pe_callB (klen K) (by rfl) B.len PySem.boot_len (pa_cons (pv 4) pa_nil))) (pe_gint T.MOST_THINGS) (nomark _)) (pss_one (ps_raise rfl (takes_of rfl rfl rfl rfl) (pmk_own PySem.F.excBase_ValueError X_NoCall.x X_NoCall.g X_NoCall.k (raises_own X_NoCall.b X_NoCall.t) rfl))) pss_nil)
      (pss_one (ps_ret (pe_tup (pa_cons (pv 5) (pa_cons (pv 6) pa_nil))))))))))), fun G0 hE => ?_⟩)
  obtain ⟨f, wt⟩ := a
  obtain ⟨hf, hw, l1, l2, l3⟩ := hp
  try dsimp only [cxOf, Cx.nox] at hf hw l1 l2 l3 ⊢
  have hsl := hf.len
  have hol := oth_len f wt
  have hmw := Nat.le_trans (manyW_le hf wt) (places_le f)
  have hwl := hw.len
  unfold encW
  walk_at "dw"
  refine ⟨(f, wt), rfl, ⟨hf, hw⟩, ?_⟩
  rintro _ _ ⟨rfl, rfl⟩
  unfold encF encI encMo
  refine wg_tup2 (wgs_cons (wg_name (wgs_cons (wg_name (wgs_nil ?_)))))
  refine ws_cut (fun ρ' μ' => μ = μ' ∧ ((wt.rest ≠ [] → f.rest = true) ∧ (wt.more ≠ [] → f.more = true)) ∧ ρ' = [some (.t [.tuple (f.slots.map encS), .bool f.rest, .bool f.more]), some (.t [.tuple (wt.worths.map .int), .tuple (wt.rest.map .int), .tuple (wt.more.map fun p => .tuple [.int p.1, .int p.2])]), some (.t (wt.worths.map .int)), some (.t (wt.rest.map .int)), some (.t (wt.more.map fun p => .tuple [.int p.1, .int p.2])), some (.i (manyW f wt : Int)), some (.l (natL (othW f wt))), none, none, none]) ?_ ?_
  · refine ws_if (wt_mono (Q' := fun b μ' => μ = μ' ∧ (b = true ↔ (wt.rest ≠ [] ∧ f.rest = false) ∨ (wt.more ≠ [] ∧ f.more = false))) ?test fun b μ2 hb => ⟨fun h => ?body, fun h => ?next⟩)
    case body =>
      obtain ⟨rfl, hb⟩ := hb
      refine ws_raise hE ⟨μ, Sub.refl _, rfl, rfl, fun C => ?_⟩
      rcases hb.mp h with ⟨h1, h2⟩ | ⟨h1, h2⟩
      · rw [C.r h1] at h2; cases h2
      · rw [C.m h1] at h2; cases h2
    case next =>
      obtain ⟨rfl, hb⟩ := hb
      walk_at "dw"
      refine ⟨rfl, ⟨fun h1 => ?_, fun h1 => ?_⟩, rfl⟩
      · cases h2 : f.rest with
        | true => rfl
        | false => rw [hb.mpr (.inl ⟨h1, h2⟩)] at h; cases h
      · cases h2 : f.more with
        | true => rfl
        | false => rw [hb.mpr (.inr ⟨h1, h2⟩)] at h; cases h
    case test =>
      walk_at "dw"
      refine w2_neD (shaped_of 1 (shp_intT _)) rfl ?_
      rw [eqv_tup_nil]
      walk_at "dw"
      refine ⟨fun h1 => ?_, fun h1 => ?_⟩
      · have e1 : wt.rest ≠ [] := fun e => by rw [e] at h1; cases h1
        walk_at "dw"
        refine w2_ixT ati_1 ?_
        walk_at "dw"
        refine ⟨fun h2 => ?_, fun h2 => ?_⟩
        · have e2 : f.rest = false := by simpa using h2
          exact ⟨rfl, fun _ => .inl ⟨e1, e2⟩, fun _ => rfl⟩
        · have e2 : f.rest = true := by simpa using h2
          walk_at "dw"
          refine w2_neD (shaped_of 2 (shp_moT _)) rfl ?_
          rw [eqv_tup_nil]
          walk_at "dw"
          refine ⟨fun h3 => ?_, fun h3 => ?_⟩
          · have e3 : wt.more ≠ [] := fun e => by rw [e] at h3; cases h3
            walk_at "dw"
            refine w2_ixT ati_2 ?_
            walk_at "dw"
            exact ⟨rfl, fun h => .inr ⟨e3, by simpa using h⟩, fun h => h.elim (fun h => absurd h.2 (by rw [e2]; decide)) (fun h => by simpa using h.2)⟩
          · have e3 : wt.more = [] := by simpa using h3
            exact ⟨rfl, fun h => (nomatch h), fun h => h.elim (fun h => absurd h.2 (by rw [e2]; decide)) (fun h => absurd e3 h.1)⟩
      · have e1 : wt.rest = [] := by simpa using h1
        refine ⟨fun h => (nomatch h), fun _ => ?_⟩
        walk_at "dw"
        refine w2_neD (shaped_of 2 (shp_moT _)) rfl ?_
        rw [eqv_tup_nil]
        walk_at "dw"
        refine ⟨fun h3 => ?_, fun h3 => ?_⟩
        · have e3 : wt.more ≠ [] := fun e => by rw [e] at h3; cases h3
          walk_at "dw"
          refine w2_ixT ati_2 ?_
          walk_at "dw"
          exact ⟨rfl, fun h => .inr ⟨e3, by simpa using h⟩, fun h => h.elim (fun h => absurd e1 h.1) (fun h => by simpa using h.2)⟩
        · have e3 : wt.more = [] := by simpa using h3
          exact ⟨rfl, fun h => (nomatch h), fun h => h.elim (fun h => absurd e1 h.1) (fun h => absurd e3 h.1)⟩
  rintro ρ' μ' ⟨rfl, ⟨c1, c2⟩, rfl⟩
  walk_at "dw"
  refine we_lcTA wt.more (fun p => .int p.1) (fun p => .int p.2) (fun p => (slotNamed f p.1).isSome) (fun p => .int p.1) (wi_tup ?_)
  walk_at "dw"
  refine ⟨by rw [List.map_map]; rfl, by omega, fun _ _ => trivial, fun p hp μ1 hs1 => ?_, ?_⟩
  · walk_at "dw"
    refine ⟨(f, p.1), rfl, by show f.slots.length ≤ 1000; omega, ?_⟩
    rintro _ _ ⟨rfl, rfl⟩
    walk_at "dw"
    refine ⟨Sub.refl _, by rw [isN_oI]; cases slotNamed f p.1 <;> rfl, fun _ => ?_⟩
    walk_at "dw"
    exact ⟨Sub.refl _, rfl⟩
  walk_at "dw"
  refine we_lst ?_
  walk_at "dw"
  refine w2_neD (shaped_of 1 (by rw [show (List.map (fun p : Int × Int => PyData.int p.1) (List.filter (fun p => (slotNamed f p.1).isSome) wt.more)) = ((wt.more.filter fun p => (slotNamed f p.1).isSome).map (·.1)).map .int by rw [List.map_map]; rfl]; exact shp_intL _)) rfl ?_
  rw [eqv_list_nil]
  walk_at "dw"
  refine ⟨fun h => ?_, fun h => ?_⟩
  · refine ws_raise hE ⟨μ, Sub.refl _, rfl, rfl, fun C => ?_⟩
    rw [emp_iff.mpr] at h
    · cases h
    · rw [List.filter_eq_nil_iff]
      intro p hp
      rw [C.n p.1 (List.mem_map.mpr ⟨p, hp, rfl⟩)]
      decide
  have c3 : ∀ n ∈ wt.names, slotNamed f n = none := by
    have := emp_iff.mp (show (((wt.more.filter fun p => (slotNamed f p.1).isSome).map fun p : Int × Int => PyData.int p.1).isEmpty = true) by simpa using h)
    intro n hn
    obtain ⟨p, hp, rfl⟩ := List.mem_map.mp hn
    have := List.filter_eq_nil_iff.mp this p hp
    cases hs : slotNamed f p.1 with
    | none => rfl
    | some k => rw [hs] at this; exact absurd rfl this
  walk_at "dw"
  refine we_lcA (List.range (manyW f wt) ++ othW f wt) (fun (k : Nat) => .i (k : Int)) (fun k => decide (100 ≤ wt.worths.getD k 0)) (fun (k : Nat) => .int (k : Int)) (wi_obj ?_)
  walk_at "dw"
  refine we_listRg ?_
  walk_at "dw"
  refine ⟨by omega, by omega, fun p1 hp1 => ?_⟩
  rw [Int.toNat_natCast]
  walk_at "dw"
  refine w2_catM mset_same (by rw [List.length_map, List.length_range, List.length_map]; omega) fun p2 hp2 => ?_
  have hsb : Sub μ (mset (mset μ p1 (.lst ((List.range (manyW f wt)).map fun (i : Nat) => PV.i (i : Int)))) p2 (.lst (((List.range (manyW f wt)).map fun (i : Nat) => PV.i (i : Int)) ++ (natL (othW f wt)).map .d))) := sub_put (Sub.new hp1) (sub_none (Sub.new hp1) hp2)
  refine ⟨p2, _, rfl, mset_same, ?_⟩
  have hp3 : mset (mset μ p1 (.lst ((List.range (manyW f wt)).map fun (i : Nat) => PV.i (i : Int)))) p2 (.lst (((List.range (manyW f wt)).map fun (i : Nat) => PV.i (i : Int)) ++ (natL (othW f wt)).map .d)) p2 = some (.lst (((List.range (manyW f wt)).map fun (i : Nat) => PV.i (i : Int)) ++ (natL (othW f wt)).map .d)) := mset_same
  generalize mset (mset μ p1 (.lst ((List.range (manyW f wt)).map fun (i : Nat) => PV.i (i : Int)))) p2 (.lst (((List.range (manyW f wt)).map fun (i : Nat) => PV.i (i : Int)) ++ (natL (othW f wt)).map .d)) = μ3 at hsb hp3 ⊢
  refine ⟨by rw [List.map_append, List.map_map]; rfl, by rw [List.length_append, List.length_range]; omega, fun μ' hs' => hs' _ _ hp3, fun k hk μ1 hs1 => ?_, ?_⟩
  · have hkl : k < wt.worths.length := by
      rcases List.mem_append.mp hk with hk | hk
      · have := List.mem_range.mp hk; omega
      · have := must_lt (mem_othW.mp hk).1; omega
    walk_at "dw"
    refine w2_ixT (ati_n (d := .int wt.worths[k]) (by rw [List.getElem?_map, List.getElem?_eq_getElem hkl]; rfl)) ?_
    walk_at "dw"
    refine ⟨Sub.refl _, by rw [getD_lt hkl], fun _ => ?_⟩
    walk_at "dw"
    exact ⟨Sub.refl _, rfl⟩
  walk_at "dw"
  refine we_lst ?_
  walk_at "dw"
  refine w2_neD (shaped_of 1 (shp_ints _)) rfl ?_
  rw [eqv_list_nil]
  walk_at "dw"
  refine ⟨fun h => ?_, fun h => ?_⟩
  · refine ws_raise hE ⟨μ, hsb, rfl, rfl, fun C => ?_⟩
    rw [emp_iff.mpr] at h
    · cases h
    · rw [List.filter_eq_nil_iff]
      intro k hk
      have : wt.worths.getD k 0 < 100 := C.g k (by
        rcases List.mem_append.mp hk with hk | hk
        · exact .inl (List.mem_range.mp hk)
        · exact .inr hk)
      simp only [decide_eq_true_eq]
      omega
  have c4 : ∀ k, k < manyW f wt ∨ k ∈ othW f wt → wt.worths.getD k 0 < 100 := by
    have := emp_iff.mp (show ((((List.range (manyW f wt) ++ othW f wt).filter fun k => decide (100 ≤ wt.worths.getD k 0)).map fun (k : Nat) => PyData.int (k : Int)).isEmpty = true) by simpa using h)
    intro k hk
    have := List.filter_eq_nil_iff.mp this k (by
      rcases hk with hk | hk
      · exact List.mem_append_left _ (List.mem_range.mpr hk)
      · exact List.mem_append_right _ hk)
    simp only [decide_eq_true_eq] at this
    omega
  walk_at "dw"
  simp only [natL, List.length_map]
  refine ⟨fun h => ?_, fun h => ?_⟩
  · refine ws_raise hE ⟨μ, hsb, rfl, rfl, fun C => ?_⟩
    have h1 := of_decide_eq_true h
    have h2 : sizeW f wt ≤ 10 := C.s
    unfold sizeW at h2
    omega
  have c5 : sizeW f wt ≤ 10 := by
    have h1 := of_decide_eq_false h
    unfold sizeW
    omega
  walk_at "dw"
  exact ⟨μ, hsb, rfl, rfl, c1, c2, c3, c4, c5⟩
end
end Sc

namespace Sc
open PySem L2 PyProof.Rows Dw
local macro_rules | `(tactic| walk_at "dw1") => `(tactic| first
  | (with_reducible refine ws_seq ?_) | (with_reducible refine ws_ret ?_) | (with_reducible refine ws_set ?_) | (with_reducible refine ws_drop ?_) | (with_reducible refine ws_if ?_) | (with_reducible refine ws_next ?_)
  | ((with_reducible show We _ _ (tVar _) _ _ _); refine we_var rfl ?_) | (with_reducible refine we_int ?_) | (with_reducible refine we_bl ?_) | (with_reducible refine we_str ?_) | (with_reducible refine we_non ?_) | (with_reducible refine we_ty ?_)
  | (with_reducible refine we_op ?_) | (with_reducible refine we_isiT ?_) | (with_reducible refine we_cb ?_) | (with_reducible refine wa_cons ?_) | (with_reducible refine wa_nil ?_)
  | (with_reducible refine we_and ?_) | (with_reducible refine we_or ?_) | (with_reducible refine we_not ?_) | (with_reducible refine we_if ?_) | (with_reducible refine we_chain ?_)
  | (with_reducible refine we_fld ?_) | (with_reducible refine we_bm ?_) | (with_reducible refine we_bm0 ?_) | (with_reducible refine we_sl ?_) | (with_reducible refine wo_none ?_) | (with_reducible refine wo_some ?_)
  | (with_reducible refine wt_test ?_) | (with_reducible refine wt_B ?_) | (with_reducible refine wt_and ?_) | (with_reducible refine wt_or ?_) | (with_reducible refine wt_not ?_) | (with_reducible refine wt_yes ?_)
  | (with_reducible refine w2_I0i ?_) | (with_reducible refine w2_I0b ?_) | (with_reducible refine w2_isN ?_) | (with_reducible refine w2_notN ?_)
  | (with_reducible refine we_callL ?_) | (with_reducible refine we_call ?_) | (with_reducible refine we_tup ?_)
  | (with_reducible refine wc_lenT ?_) | (with_reducible refine wc_lenL ?_) | (with_reducible refine wc_lenS ?_) | (with_reducible refine wc_intB ?_) | (with_reducible refine wc_min2 ?_)
  | ((with_reducible show Wg _ _ (gTup _ _ _) _ _ _ _); first | refine wg_tup2 ?_ | refine wg_tup3 ?_ | refine wg_tup4 ?_) | (with_reducible refine we_un ?_) | (with_reducible refine ws_asg ?_) | (with_reducible refine wg_name ?_) | (with_reducible refine wgs_cons ?_) | (with_reducible refine wgs_nil ?_)
  | (with_reducible refine wsl_T ?_) | (with_reducible refine wsl_L ?_)
  | (with_reducible refine wc_tupL ?_) | (with_reducible refine wc_listT ?_)
  | (with_reducible refine wc_isi (kit_int _) ?_) | (with_reducible refine wc_isi (kit_bool _) ?_) | (with_reducible refine wc_isi (kit_tuple _) ?_) | (with_reducible refine wc_isi (kit_list _) ?_) | (with_reducible refine wc_isi (kit_str _) ?_)
  | (with_reducible refine ex_b ?_) | (with_reducible refine ex_i ?_) | (with_reducible refine ex_t ?_) | (with_reducible refine ex_l ?_)
  | ((with_reducible show ∃ _, unD _ = some _ ∧ _); refine ⟨_, rfl, by simp, ?_⟩))
local macro_rules | `(tactic| walk_at "dw") => `(tactic| repeat' walk_at "dw1")

section
variable {P : Program} {w : World} {K : Frg} {mg : Str → Option Value} {base : Heap} {fa : Addr} {fd : FuncData}
/-! ### fewest -/
abbrev s_fewest : Stmt := topS 27
abbrev N_fewest : List Str := ["face", "wanted", "many", "others", "worths", "rest", "more", "found", "worth", "k", "name", "number"]
theorem sc_fewest : FnScope N_fewest ["face", "wanted"] (defScope s_fewest) := ⟨rfl, rfl, rfl, by decide +kernel, rfl, by decide +kernel, by decide +kernel⟩

abbrev FaceX := List PyData × PyData × PyData
abbrev encFX (a : FaceX) : PV := .t [.tuple a.1, a.2.1, a.2.2]
abbrev fpreX (a : FaceX) : Prop := (∀ s ∈ a.1, SlotPre s) ∧ a.1.length ≤ 1000
abbrev faceX (f : Face) : FaceX := (f.slots.map encS, .bool f.rest, .bool f.more)
abbrev exnFW (CF CW CN : Addr) (a : FaceX × Want) (μ : Mu) (c : Addr) (μ' : Mu) : Prop := μ = μ' ∧ ((c = CF ∧ isFaceD a.1.1 a.1.2.1 a.1.2.2 = false) ∨ ∃ f : Face, f.Ok ∧ a.1 = faceX f ∧ ((c = CW ∧ ¬ a.2.Ok f) ∨ (c = CN ∧ a.2.Ok f ∧ ¬ Can f a.2)))
abbrev thL (c : List Thing) : List PV := c.map fun t => PV.d (encT t)
abbrev sp_fewest (K : Frg) (CF CW CN : Addr) : Sp := SpX (α := FaceX × Want) K (fun a => [encFX a.1, .d (encW a.2)]) (fun a _ => fpreX a.1 ∧ lenW a.2)
  (fun a μ x μ' => ∃ f : Face, f.Ok ∧ a.1 = faceX f ∧ a.2.Ok f ∧ Can f a.2 ∧ ∃ aR, μ aR = none ∧ x = .o aR ∧ μ' = mset μ aR (.lst (thL (fewC f a.2)))) (exnFW CF CW CN)
theorem few_enc {f : Face} (hf : f.Ok) (wt : Want) : (((wt.worths.take (manyW f wt) ++ wt.rest).map fun x => PyData.tuple [.none, .tuple [.str "num", .int x]]).map PV.d ++ ((othW f wt).map fun k => PyData.tuple [.int (nameK f k), .tuple [.str "num", .int (wt.worths.getD k 0)]]).map PV.d) ++ (wt.more.map fun p => PyData.tuple [.int p.1, .tuple [.str "num", .int p.2]]).map PV.d = thL (fewC f wt) := by
  have hsp : ∀ A B C : List Thing, thL (A ++ (B ++ C)) = thL A ++ (thL B ++ thL C) := fun A B C => by simp only [thL, List.map_append]
  unfold fewC tryCall
  rw [hsp, List.append_assoc]
  congr 1
  · unfold thL; rw [List.map_map, List.map_map]; rfl
  · congr 1
    · unfold thL
      rw [List.map_map, List.map_map, List.map_map]
      refine List.map_congr_left fun k hk => ?_
      show PV.d _ = PV.d (encT ⟨some (nameK f k), .num (worthN f wt (nameK f k))⟩)
      rw [worthN_at hf (must_lt (mem_othW.mp hk).1)]
      rfl
    · unfold thL; rw [List.map_map, List.map_map]; rfl
theorem ok_fewest {CF CW CN : Addr} (F : Fun K "fewest" "fewest" s_fewest fa fd) (B : Blt mg) (C_need_face : Cal P w K mg base (L2.CX P w) 6 "need_face" ["face"] (sp_need_face K CF)) (C_need_wanted : Cal P w K mg base (L2.CX P w) 2 "need_wanted" ["face", "wanted"] (sp_need_wanted K CW))
    (C_need_some : Cal P w K mg base (L2.CX P w) 5 "need_some" ["face", "wanted"] (sp_need_some K CN)) : FnOk P w K mg base (L2.CX P w) 7 fa fd ["face", "wanted"] (sp_fewest K CF CW CN) := by
  refine ok_X F sc_fewest (fun _ => rfl) (fun cdv A outer s H E hr a μ hp => ⟨_, (pss_cons (ps_expr (pe_calX C_need_face hr (takes_of rfl rfl rfl rfl) (pa_cons (pv 0) pa_nil)))
      (pss_cons (ps_expr (pe_calX C_need_wanted hr (takes_of rfl rfl rfl rfl) (pa_cons (pv 0) (pa_cons (pv 1) pa_nil))))
      (pss_cons (ps_asg (pe_calX C_need_some hr (takes_of rfl rfl rfl rfl) (pa_cons (pv 0) (pa_cons (pv 1) pa_nil))) (pkTG K 2 (by rfl) (pgs_cons (pg_name (i := 2) sc_fewest.nd rfl (Or.inl rfl)) (pgs_cons (pg_name (i := 3) sc_fewest.nd rfl (Or.inl rfl)) pgs_nil))))
      (pss_cons (ps_asg (pv 1) (pkTG K 3 (by rfl) (pgs_cons (pg_name (i := 4) sc_fewest.nd rfl (Or.inr rfl)) (pgs_cons (pg_name (i := 5) sc_fewest.nd rfl (Or.inl rfl)) (pgs_cons (pg_name (i := 6) sc_fewest.nd rfl (Or.inl rfl)) pgs_nil)))))
      (pss_cons (ps_setLc (i := 7) (own := [("worth", 8)]) (g := (gName 8)) rfl sc_fewest.nd rfl rfl (sw_true rfl rfl rfl (by decide +kernel)) (pkTup K (pe_op (kcat K) (pe_slice (kslT K) (pv 4) po_none (po_some (pv 2))) (pv 5))) (blkOk_by (own := [("worth", 8)]) (N := N_fewest) (sc := defScope s_fewest) (by decide +kernel)) (fun _ _ _ _ _ => (pg_name (i := 8) sc_fewest.nd rfl (by first | exact Or.inl rfl | exact Or.inr rfl))) (fun _ _ _ _ _ => pts_nil) (fun _ _ _ _ _ => (pe_tup (pa_cons pe_non (pa_cons (pe_tup (pa_cons pe_str (pa_cons (pv 8) pa_nil))) pa_nil)))))
      (pss_cons (ps_expr (pkBm K PySem.F.plainAttrs_list PySem.F.slot_list_extend PySem.F.type_list_extend mt_extend (pv 7) (pa_cons (pe_lc (own := [("k", 9)]) (g := (gName 9)) rfl sc_fewest.nd (pkList K (pv 3)) (blkOk_by (own := [("k", 9)]) (N := N_fewest) (sc := defScope s_fewest) (by decide +kernel)) (fun _ _ _ _ _ => (pg_name (i := 9) sc_fewest.nd rfl (by first | exact Or.inl rfl | exact Or.inr rfl))) (fun _ _ _ _ _ => pts_nil) (fun _ _ _ _ _ => (pe_tup (pa_cons (pe_ix (kix K) (pe_ix (kix K) (pe_ix (kix K) (pv 0) pe_int (fun _ _ => rfl)) (pv 9) (fun _ _ => rfl)) pe_int (fun _ _ => rfl)) (pa_cons (pe_tup (pa_cons pe_str (pa_cons (pe_ix (kix K) (pv 4) (pv 9) (fun _ _ => rfl)) pa_nil))) pa_nil))))) pa_nil)))
      (pss_one (ps_ret (pe_op op_cat (pv 7) (pe_lc (own := [("name", 10), ("number", 11)]) (g := (gTup K 2 (gCons (gName 10) (gCons (gName 11) gNil)))) rfl sc_fewest.nd (pkTup K (pv 6)) (blkOk_by (own := [("name", 10), ("number", 11)]) (N := N_fewest) (sc := defScope s_fewest) (by decide +kernel)) (fun _ _ _ _ _ => (pkTG K 2 (by rfl) (pgs_cons (pg_name (i := 10) sc_fewest.nd rfl (by first | exact Or.inl rfl | exact Or.inr rfl)) (pgs_cons (pg_name (i := 11) sc_fewest.nd rfl (by first | exact Or.inl rfl | exact Or.inr rfl)) pgs_nil)))) (fun _ _ _ _ _ => pts_nil) (fun _ _ _ _ _ => (pe_tup (pa_cons (pv 10) (pa_cons (pe_tup (pa_cons pe_str (pa_cons (pv 11) pa_nil))) pa_nil)))))))))))))), fun G0 hE => ?_⟩)
  obtain ⟨⟨slots, rest, more⟩, wt⟩ := a
  obtain ⟨hpf, hlw⟩ := hp
  try dsimp only [cxOf, Cx.nox] at hpf hlw ⊢
  walk_at "dw"
  refine we_callX hE ?_
  walk_at "dw"
  refine ⟨(slots, rest, more), rfl, hpf, ?wa, ?wb⟩
  case wb =>
    rintro c μ2 ⟨rfl, rfl, h⟩
    exact ⟨μ, Sub.refl _, rfl, .inl ⟨rfl, h⟩⟩
  rintro _ _ ⟨rfl, rfl, h1⟩
  obtain ⟨f, hf, rfl, rfl, rfl⟩ := face_of h1
  have hsl := hf.len
  walk_at "dw"
  refine we_callX hE ?_
  walk_at "dw"
  refine ⟨(f, wt), rfl, ⟨by show f.slots.length ≤ 1000; omega, hlw⟩, ?wc, ?wd⟩
  case wd =>
    rintro c μ2 ⟨rfl, rfl, h⟩
    exact ⟨μ, Sub.refl _, rfl, .inr ⟨f, hf, rfl, .inl ⟨rfl, h⟩⟩⟩
  rintro _ _ ⟨rfl, rfl, hw⟩
  walk_at "dw"
  refine we_callX hE ?_
  walk_at "dw"
  refine ⟨(f, wt), rfl, ⟨hf, hw, hlw⟩, ?we, ?wf⟩
  case wf =>
    rintro c μ2 ⟨rfl, rfl, h⟩
    exact ⟨μ, Sub.refl _, rfl, .inr ⟨f, hf, rfl, .inr ⟨rfl, hw, h⟩⟩⟩
  rintro _ _ ⟨rfl, rfl, hC⟩
  have hw : wt.Ok f := hw
  have hC : Can f wt := hC
  obtain ⟨l1, l2, l3⟩ := hlw
  have hol := oth_len f wt
  have hmw := Nat.le_trans (manyW_le hf wt) (places_le f)
  have hwl := hw.len
  unfold encW encI encMo
  walk_at "dw"
  refine we_lcAO (wt.worths.take (manyW f wt) ++ wt.rest) (fun n => .i n) (fun _ => true) (fun x => .tuple [.none, .tuple [.str "num", .int x]]) (wi_tup ?_)
  walk_at "dw"
  rw [cut_take (wt.worths.map PyData.int) (manyW f wt) (by rw [List.length_map]; omega)]
  refine w2_catT (by rw [List.length_take, List.length_map, List.length_map]; omega) ?_
  refine ⟨_, rfl, by rw [← List.map_take, ← List.map_append, List.map_map]; rfl, by rw [List.length_append, List.length_take]; omega, fun _ _ => trivial, fun n hn μ1 hs1 => ?_, fun aR hR0 => ?_⟩
  · walk_at "dw"
    refine ⟨Sub.refl _, rfl, fun _ => ?_⟩
    walk_at "dw"
    exact ⟨Sub.refl _, rfl⟩
  rw [show (List.filter (fun _ => true) (wt.worths.take (manyW f wt) ++ wt.rest)) = wt.worths.take (manyW f wt) ++ wt.rest from List.filter_eq_self.mpr fun _ _ => rfl]
  have hlA : ((wt.worths.take (manyW f wt) ++ wt.rest).map fun x => PyData.tuple [.none, .tuple [.str "num", .int x]]).length ≤ 80 := by rw [List.length_map, List.length_append, List.length_take]; omega
  generalize hA : ((wt.worths.take (manyW f wt) ++ wt.rest).map fun x => PyData.tuple [.none, .tuple [.str "num", .int x]]) = dsA at hlA ⊢
  have hR1 : mset μ aR (.lst (dsA.map .d)) aR = some (.lst (dsA.map .d)) := mset_same
  have hs1 : Sub μ (mset μ aR (.lst (dsA.map .d))) := Sub.new hR0
  generalize mset μ aR (.lst (dsA.map .d)) = μ1 at hR1 hs1 ⊢
  walk_at "dw"
  refine ⟨tyd_o hR1, ?_⟩
  walk_at "dw"
  refine we_lcB (othW f wt) (fun (k : Nat) => .i (k : Int)) (fun k => .tuple [.int (nameK f k), .tuple [.str "num", .int (wt.worths.getD k 0)]]) (wi_lst ?_)
  walk_at "dw"
  refine ⟨by rw [List.map_map]; rfl, by omega, fun _ _ => trivial, fun k hk μ2 hs2 => ?_, ?_⟩
  · have hkl := must_lt (mem_othW.mp hk).1
    have hkw : k < wt.worths.length := by omega
    have hks := List.getElem?_eq_getElem hkl
    walk_at "dw"
    refine w2_ixT ati_0 ?_
    walk_at "dw"
    refine w2_ixT (ati_n (d := encS f.slots[k]) (by rw [List.getElem?_map, hks]; rfl)) ?_
    unfold encS
    walk_at "dw"
    refine w2_ixT ati_0 ?_
    walk_at "dw"
    refine w2_ixT (ati_n (d := .int wt.worths[k]) (by rw [List.getElem?_map, List.getElem?_eq_getElem hkw]; rfl)) ?_
    walk_at "dw"
    exact ⟨Sub.refl _, by rw [nameK_at hks, getD_lt hkw]⟩
  generalize hB : ((othW f wt).map fun k => PyData.tuple [.int (nameK f k), .tuple [.str "num", .int (wt.worths.getD k 0)]]) = dsB
  have hlB : dsB.length ≤ 10 := by rw [← hB, List.length_map]; omega
  walk_at "dw"
  refine wm_extend hR1 (by rw [List.length_map]; omega) ?_
  have hR2 : mset μ1 aR (.lst (dsA.map .d ++ dsB.map .d)) aR = some (.lst (dsA.map .d ++ dsB.map .d)) := mset_same
  have hs2 : Sub μ (mset μ1 aR (.lst (dsA.map .d ++ dsB.map .d))) := sub_put hs1 hR0
  generalize mset μ1 aR (.lst (dsA.map .d ++ dsB.map .d)) = μ2 at hR2 hs2 ⊢
  walk_at "dw"
  refine we_lcT wt.more (fun p => .int p.1) (fun p => .int p.2) (fun p => .tuple [.int p.1, .tuple [.str "num", .int p.2]]) (wi_tup ?_)
  walk_at "dw"
  refine ⟨by rw [List.map_map]; rfl, by omega, fun _ _ => trivial, fun n hn μ1 hs1 => ?_, ?_⟩
  · walk_at "dw"
    exact ⟨Sub.refl _, rfl⟩
  walk_at "dw"
  refine w2_catM hR2 (by rw [List.length_append, List.length_map, List.length_map, List.length_map]; omega) fun p hp => ?_
  refine ⟨mset μ p (.lst (thL (fewC f wt))), ?_, f, hf, rfl, hw, hC, p, sub_none hs2 hp, rfl, rfl⟩
  rw [← hA, ← hB, few_enc hf wt]
  exact sub_both hs2
end
end Sc

namespace Sc
open PySem L2 PyProof.Rows Dw
local macro_rules | `(tactic| walk_at "dw1") => `(tactic| first
  | (with_reducible refine ws_seq ?_) | (with_reducible refine ws_ret ?_) | (with_reducible refine ws_set ?_) | (with_reducible refine ws_drop ?_) | (with_reducible refine ws_if ?_) | (with_reducible refine ws_next ?_)
  | ((with_reducible show We _ _ (tVar _) _ _ _); refine we_var rfl ?_) | (with_reducible refine we_int ?_) | (with_reducible refine we_bl ?_) | (with_reducible refine we_str ?_) | (with_reducible refine we_non ?_) | (with_reducible refine we_ty ?_)
  | (with_reducible refine we_op ?_) | (with_reducible refine we_isiT ?_) | (with_reducible refine we_cb ?_) | (with_reducible refine wa_cons ?_) | (with_reducible refine wa_nil ?_)
  | (with_reducible refine we_and ?_) | (with_reducible refine we_or ?_) | (with_reducible refine we_not ?_) | (with_reducible refine we_if ?_) | (with_reducible refine we_chain ?_)
  | (with_reducible refine we_fld ?_) | (with_reducible refine we_bm ?_) | (with_reducible refine we_bm0 ?_) | (with_reducible refine we_sl ?_) | (with_reducible refine wo_none ?_) | (with_reducible refine wo_some ?_)
  | (with_reducible refine wt_test ?_) | (with_reducible refine wt_B ?_) | (with_reducible refine wt_and ?_) | (with_reducible refine wt_or ?_) | (with_reducible refine wt_not ?_) | (with_reducible refine wt_yes ?_)
  | (with_reducible refine w2_I0i ?_) | (with_reducible refine w2_I0b ?_) | (with_reducible refine w2_isN ?_) | (with_reducible refine w2_notN ?_)
  | (with_reducible refine we_callL ?_) | (with_reducible refine we_call ?_) | (with_reducible refine we_tup ?_)
  | (with_reducible refine wc_lenT ?_) | (with_reducible refine wc_lenL ?_) | (with_reducible refine wc_lenS ?_) | (with_reducible refine wc_intB ?_) | (with_reducible refine wc_min2 ?_)
  | ((with_reducible show Wg _ _ (gTup _ _ _) _ _ _ _); first | refine wg_tup2 ?_ | refine wg_tup3 ?_ | refine wg_tup4 ?_) | (with_reducible refine we_un ?_) | (with_reducible refine ws_asg ?_) | (with_reducible refine wg_name ?_) | (with_reducible refine wgs_cons ?_) | (with_reducible refine wgs_nil ?_)
  | (with_reducible refine wsl_T ?_) | (with_reducible refine wsl_L ?_)
  | (with_reducible refine wc_tupL ?_) | (with_reducible refine wc_listT ?_)
  | (with_reducible refine wc_isi (kit_int _) ?_) | (with_reducible refine wc_isi (kit_bool _) ?_) | (with_reducible refine wc_isi (kit_tuple _) ?_) | (with_reducible refine wc_isi (kit_list _) ?_) | (with_reducible refine wc_isi (kit_str _) ?_)
  | (with_reducible refine ex_b ?_) | (with_reducible refine ex_i ?_) | (with_reducible refine ex_t ?_) | (with_reducible refine ex_l ?_)
  | ((with_reducible show ∃ _, unD _ = some _ ∧ _); refine ⟨_, rfl, by simp, ?_⟩))
local macro_rules | `(tactic| walk_at "dw") => `(tactic| repeat' walk_at "dw1")

section
variable {P : Program} {w : World} {K : Frg} {mg : Str → Option Value} {base : Heap} {fa : Addr} {fd : FuncData}
/-! ### least -/
abbrev s_least : Stmt := topS 28
abbrev N_least : List Str := ["face", "wanted", "many", "others", "size", "k"]
theorem sc_least : FnScope N_least ["face", "wanted"] (defScope s_least) := ⟨rfl, rfl, rfl, by decide +kernel, rfl, by decide +kernel, by decide +kernel⟩

def leastD (f : Face) (wt : Want) : PyData := .tuple [.int (sizeW f wt : Int), .int (manyW f wt : Int), .tuple ((srt ((othW f wt).map (nameK f))).map .int)]
abbrev sp_least (K : Frg) (CF CW CN : Addr) : Sp := SpX (α := FaceX × Want) K (fun a => [encFX a.1, .d (encW a.2)]) (fun a _ => fpreX a.1 ∧ lenW a.2)
  (fun a μ x μ' => ∃ f : Face, f.Ok ∧ a.1 = faceX f ∧ a.2.Ok f ∧ Can f a.2 ∧ x = .d (leastD f a.2) ∧ μ = μ') (exnFW CF CW CN)
theorem ok_least {CF CW CN : Addr} (F : Fun K "least" "least" s_least fa fd) (B : Blt mg) (C_need_face : Cal P w K mg base (L2.CX P w) 6 "need_face" ["face"] (sp_need_face K CF)) (C_need_wanted : Cal P w K mg base (L2.CX P w) 2 "need_wanted" ["face", "wanted"] (sp_need_wanted K CW))
    (C_need_some : Cal P w K mg base (L2.CX P w) 5 "need_some" ["face", "wanted"] (sp_need_some K CN)) : FnOk P w K mg base (L2.CX P w) 7 fa fd ["face", "wanted"] (sp_least K CF CW CN) := by
  refine ok_X F sc_least (fun _ => rfl) (fun cdv A outer s H E hr a μ hp => ⟨_, (pss_cons (ps_expr (pe_calX C_need_face hr (takes_of rfl rfl rfl rfl) (pa_cons (pv 0) pa_nil)))
      (pss_cons (ps_expr (pe_calX C_need_wanted hr (takes_of rfl rfl rfl rfl) (pa_cons (pv 0) (pa_cons (pv 1) pa_nil))))
      (pss_cons (ps_asg (pe_calX C_need_some hr (takes_of rfl rfl rfl rfl) (pa_cons (pv 0) (pa_cons (pv 1) pa_nil))) (pkTG K 2 (by rfl) (pgs_cons (pg_name (i := 2) sc_least.nd rfl (Or.inl rfl)) (pgs_cons (pg_name (i := 3) sc_least.nd rfl (Or.inl rfl)) pgs_nil))))
      (pss_cons (ps_set (i := 4) sc_least.nd rfl (Or.inl rfl) (pe_op op_add (pe_op op_add (pe_op op_add (pv 2) (pe_callB (klen K) (by rfl) B.len PySem.boot_len (pa_cons (pv 3) pa_nil))) (pe_callB (klen K) (by rfl) B.len PySem.boot_len (pa_cons (pe_ix (kix K) (pv 1) pe_int (fun _ _ => rfl)) pa_nil))) (pe_callB (klen K) (by rfl) B.len PySem.boot_len (pa_cons (pe_ix (kix K) (pv 1) pe_int (fun _ _ => rfl)) pa_nil))))
      (pss_one (ps_ret (pe_tup (pa_cons (pv 4) (pa_cons (pv 2) (pa_cons (pe_callTy (ktup K) (by rfl) B.tuple (by decide +kernel) (pa_cons (pe_callB (ksorted K) (by rfl) B.sorted (by decide +kernel) (pa_cons (pe_lc (own := [("k", 5)]) (g := (gName 5)) rfl sc_least.nd (pkList K (pv 3)) (blkOk_by (own := [("k", 5)]) (N := N_least) (sc := defScope s_least) (by decide +kernel)) (fun _ _ _ _ _ => (pg_name (i := 5) sc_least.nd rfl (by first | exact Or.inl rfl | exact Or.inr rfl))) (fun _ _ _ _ _ => pts_nil) (fun _ _ _ _ _ => (pe_ix (kix K) (pe_ix (kix K) (pe_ix (kix K) (pv 0) pe_int (fun _ _ => rfl)) (pv 5) (fun _ _ => rfl)) pe_int (fun _ _ => rfl)))) pa_nil)) pa_nil)) pa_nil)))))))))), fun G0 hE => ?_⟩)
  obtain ⟨⟨slots, rest, more⟩, wt⟩ := a
  obtain ⟨hpf, hlw⟩ := hp
  try dsimp only [cxOf, Cx.nox] at hpf hlw ⊢
  walk_at "dw"
  refine we_callX hE ?_
  walk_at "dw"
  refine ⟨(slots, rest, more), rfl, hpf, ?wa, ?wb⟩
  case wb =>
    rintro c μ2 ⟨rfl, rfl, h⟩
    exact ⟨μ, Sub.refl _, rfl, .inl ⟨rfl, h⟩⟩
  rintro _ _ ⟨rfl, rfl, h1⟩
  obtain ⟨f, hf, rfl, rfl, rfl⟩ := face_of h1
  have hsl := hf.len
  walk_at "dw"
  refine we_callX hE ?_
  walk_at "dw"
  refine ⟨(f, wt), rfl, ⟨by show f.slots.length ≤ 1000; omega, hlw⟩, ?wc, ?wd⟩
  case wd =>
    rintro c μ2 ⟨rfl, rfl, h⟩
    exact ⟨μ, Sub.refl _, rfl, .inr ⟨f, hf, rfl, .inl ⟨rfl, h⟩⟩⟩
  rintro _ _ ⟨rfl, rfl, hw⟩
  walk_at "dw"
  refine we_callX hE ?_
  walk_at "dw"
  refine ⟨(f, wt), rfl, ⟨hf, hw, hlw⟩, ?we, ?wf⟩
  case wf =>
    rintro c μ2 ⟨rfl, rfl, h⟩
    exact ⟨μ, Sub.refl _, rfl, .inr ⟨f, hf, rfl, .inr ⟨rfl, hw, h⟩⟩⟩
  rintro _ _ ⟨rfl, rfl, hC⟩
  have hw : wt.Ok f := hw
  have hC : Can f wt := hC
  have hol := oth_len f wt
  unfold encW encI encMo
  walk_at "dw"
  refine w2_ixT ati_1 ?_
  walk_at "dw"
  refine w2_ixT ati_2 ?_
  walk_at "dw"
  simp only [natL, List.length_map]
  refine we_lcB (othW f wt) (fun (k : Nat) => .i (k : Int)) (fun k => .int (nameK f k)) (wi_lst ?_)
  walk_at "dw"
  refine ⟨by rw [List.map_map]; rfl, by omega, fun _ _ => trivial, fun k hk μ2 hs2 => ?_, ?_⟩
  · have hkl := must_lt (mem_othW.mp hk).1
    have hks := List.getElem?_eq_getElem hkl
    walk_at "dw"
    refine w2_ixT ati_0 ?_
    walk_at "dw"
    refine w2_ixT (ati_n (d := encS f.slots[k]) (by rw [List.getElem?_map, hks]; rfl)) ?_
    unfold encS
    walk_at "dw"
    refine w2_ixT ati_0 ?_
    exact ⟨Sub.refl _, by rw [nameK_at hks]⟩
  rw [show ((othW f wt).map fun k => PyData.int (nameK f k)) = ((othW f wt).map (nameK f)).map .int by rw [List.map_map]; rfl]
  walk_at "dw"
  refine wc_sorted (by rw [List.length_map]; omega) fun ns' h1 h2 => ?_
  rw [show ns' = srt ((othW f wt).map (nameK f)) from srt_eq h1 h2]
  walk_at "dw"
  exact ⟨μ, Sub.refl _, f, hf, rfl, hw, hC, rfl, rfl⟩
end
end Sc

namespace Sc
open PySem L2 PyProof.Rows Dw
local macro_rules | `(tactic| walk_at "dw1") => `(tactic| first
  | (with_reducible refine ws_seq ?_) | (with_reducible refine ws_ret ?_) | (with_reducible refine ws_set ?_) | (with_reducible refine ws_drop ?_) | (with_reducible refine ws_if ?_) | (with_reducible refine ws_next ?_)
  | ((with_reducible show We _ _ (tVar _) _ _ _); refine we_var rfl ?_) | (with_reducible refine we_int ?_) | (with_reducible refine we_bl ?_) | (with_reducible refine we_str ?_) | (with_reducible refine we_non ?_) | (with_reducible refine we_ty ?_)
  | (with_reducible refine we_op ?_) | (with_reducible refine we_isiT ?_) | (with_reducible refine we_cb ?_) | (with_reducible refine wa_cons ?_) | (with_reducible refine wa_nil ?_)
  | (with_reducible refine we_and ?_) | (with_reducible refine we_or ?_) | (with_reducible refine we_not ?_) | (with_reducible refine we_if ?_) | (with_reducible refine we_chain ?_)
  | (with_reducible refine we_fld ?_) | (with_reducible refine we_bm ?_) | (with_reducible refine we_bm0 ?_) | (with_reducible refine we_sl ?_) | (with_reducible refine wo_none ?_) | (with_reducible refine wo_some ?_)
  | (with_reducible refine wt_test ?_) | (with_reducible refine wt_B ?_) | (with_reducible refine wt_and ?_) | (with_reducible refine wt_or ?_) | (with_reducible refine wt_not ?_) | (with_reducible refine wt_yes ?_)
  | (with_reducible refine w2_I0i ?_) | (with_reducible refine w2_I0b ?_) | (with_reducible refine w2_isN ?_) | (with_reducible refine w2_notN ?_)
  | (with_reducible refine we_callL ?_) | (with_reducible refine we_call ?_) | (with_reducible refine we_tup ?_)
  | (with_reducible refine wc_lenT ?_) | (with_reducible refine wc_lenL ?_) | (with_reducible refine wc_lenS ?_) | (with_reducible refine wc_intB ?_) | (with_reducible refine wc_min2 ?_)
  | ((with_reducible show Wg _ _ (gTup _ _ _) _ _ _ _); first | refine wg_tup2 ?_ | refine wg_tup3 ?_ | refine wg_tup4 ?_) | (with_reducible refine we_un ?_) | (with_reducible refine ws_asg ?_) | (with_reducible refine wg_name ?_) | (with_reducible refine wgs_cons ?_) | (with_reducible refine wgs_nil ?_)
  | (with_reducible refine wsl_T ?_) | (with_reducible refine wsl_L ?_)
  | (with_reducible refine wc_tupL ?_) | (with_reducible refine wc_listT ?_)
  | (with_reducible refine wc_isi (kit_int _) ?_) | (with_reducible refine wc_isi (kit_bool _) ?_) | (with_reducible refine wc_isi (kit_tuple _) ?_) | (with_reducible refine wc_isi (kit_list _) ?_) | (with_reducible refine wc_isi (kit_str _) ?_)
  | (with_reducible refine ex_b ?_) | (with_reducible refine ex_i ?_) | (with_reducible refine ex_t ?_) | (with_reducible refine ex_l ?_)
  | ((with_reducible show ∃ _, unD _ = some _ ∧ _); refine ⟨_, rfl, by simp, ?_⟩))
local macro_rules | `(tactic| walk_at "dw") => `(tactic| repeat' walk_at "dw1")

section
/-! ## the law's own draws -/
abbrev rowMO (ns : List Int) (c m g : Int) : MO := .lst [.sq ns, .i c, .i m, .i g]
def RowAt (ns : List Int) (row : Addr) (μ : Mu) : Prop := ∃ c m g : Int, 0 ≤ c ∧ μ row = some (rowMO ns c m g)
def RowStep (ns : List Int) (row : Addr) (μ μ' : Mu) : Prop := ∃ c m g : Int, 0 ≤ c ∧ μ' = mset μ row (rowMO ns c m g)
theorem RowStep.at {ns : List Int} {row : Addr} {μ μ' : Mu} (h : RowStep ns row μ μ') : RowAt ns row μ' := by
  obtain ⟨c, m, g, h0, rfl⟩ := h
  exact ⟨c, m, g, h0, mset_same⟩
theorem RowStep.trans {ns : List Int} {row : Addr} {μ μ1 μ2 : Mu} (h : RowStep ns row μ μ1) (h' : RowStep ns row μ1 μ2) : RowStep ns row μ μ2 := by
  obtain ⟨c, m, g, h0, rfl⟩ := h
  obtain ⟨c', m', g', h0', rfl⟩ := h'
  exact ⟨c', m', g', h0', mset_mset⟩
theorem RowStep.refl {ns : List Int} {row : Addr} {μ : Mu} (h : RowAt ns row μ) : RowStep ns row μ μ := by
  obtain ⟨c, m, g, h0, e⟩ := h
  refine ⟨c, m, g, h0, ?_⟩
  funext b
  by_cases hb : b = row
  · subst hb; rw [mset_same]; exact e
  · rw [mset_ne hb]
/-- all but the row stays -/
def OffRow (row : Addr) (μ μ' : Mu) : Prop := ∀ b o, b ≠ row → μ b = some o → μ' b = some o
theorem OffRow.refl {row : Addr} {μ : Mu} : OffRow row μ μ := fun _ _ _ h => h
theorem OffRow.trans {row : Addr} {μ μ1 μ2 : Mu} (h : OffRow row μ μ1) (h' : OffRow row μ1 μ2) : OffRow row μ μ2 := fun b o hb e => h' b o hb (h b o hb e)
theorem RowStep.off {ns : List Int} {row : Addr} {μ μ' : Mu} (h : RowStep ns row μ μ') : OffRow row μ μ' := by
  obtain ⟨c, m, g, h0, rfl⟩ := h
  exact fun b o hb e => by rw [mset_ne hb]; exact e
theorem OffRow.new {row a : Addr} {μ μ' : Mu} {x : MO} (h : OffRow row μ μ') (hn : μ a = none) : OffRow row μ (mset μ' a x) := fun b o hb e => by
  rw [mset_ne (ne_mu e hn)]; exact h b o hb e
/-- a def's end: own objects forgotten -/
theorem row_end {ns : List Int} {row : Addr} {μ μ' : Mu} (h : RowAt ns row μ') (ho : OffRow row μ μ') : ∃ μ'', Sub μ'' μ' ∧ RowStep ns row μ μ'' := by
  obtain ⟨c, m, g, h0, e⟩ := h
  refine ⟨mset μ row (rowMO ns c m g), fun b o hb => ?_, c, m, g, h0, rfl⟩
  by_cases hbr : b = row
  · subst hbr; rw [mset_same] at hb; cases hb; exact e
  · rw [mset_ne hbr] at hb; exact ho b o hbr hb
theorem RowAt.off {ns : List Int} {row a : Addr} {μ : Mu} {x : MO} (h : RowAt ns row μ) (hn : a ≠ row) : RowAt ns row (mset μ a x) := by
  obtain ⟨c, m, g, h0, e⟩ := h
  exact ⟨c, m, g, h0, by rw [mset_ne hn.symm]; exact e⟩
theorem RowAt.ne {ns : List Int} {row a : Addr} {μ : Mu} (h : RowAt ns row μ) (hn : μ a = none) : a ≠ row := by
  obtain ⟨c, m, g, h0, e⟩ := h
  exact (ne_mu e hn).symm
end
section
variable {P : Program} {w : World} {K : Frg} {mg : Str → Option Value} {base : Heap} {fa : Addr} {fd : FuncData}
abbrev RA := List Int × Addr
/-! ### _law_taken -/
abbrev s_law_taken : Stmt := topS 30
abbrev N_law_taken : List Str := ["_law_row", "_law_many", "_law_found", "_law_cell"]
theorem sc_law_taken : FnScope N_law_taken ["_law_row", "_law_many"] (defScope s_law_taken) := ⟨rfl, rfl, rfl, by decide +kernel, rfl, by decide +kernel, by decide +kernel⟩

abbrev sp_taken (K : Frg) : Sp := SpA (α := RA × Int) K (fun a => [.o a.1.2, .i a.2]) (fun a μ => RowAt a.1.1 a.1.2 μ ∧ 0 < a.2 ∧ a.2 ≤ 1000000) (fun a μ x μ' => (∃ i, x = .i i ∧ 0 ≤ i ∧ i < a.2) ∧ RowStep a.1.1 a.1.2 μ μ')
theorem ok_taken (F : Fun K "_law_taken" "_law_taken" s_law_taken fa fd) (B : Blt mg) : FnOk P w K mg base CX0 1 fa fd ["_law_row", "_law_many"] (sp_taken K) := by
  refine ok_D F sc_law_taken (fun _ => rfl) (fun cdv A outer s H E hr a μ hp => ⟨_, (pss_cons (ps_if (pt_cmpR op_gt (pe_ix (kix K) (pv 0) pe_int (fun _ _ => rfl)) pe_int (nomark _)) (pss_cons (ps_set (i := 2) sc_law_taken.nd rfl (Or.inl rfl) (pe_op op_mod (pe_ix (kix K) (pv 0) pe_int (fun _ _ => rfl)) (pv 1)))
      (pss_cons (ps_asg (pe_op op_fdiv (pe_ix (kix K) (pv 0) pe_int (fun _ _ => rfl)) (pv 1)) (pg_sub (pv 0) pe_int set_list))
      (pss_one (ps_ret (pv 2))))) pss_nil)
      (pss_cons (ps_asg (pe_op op_add (pe_ix (kix K) (pv 0) pe_int (fun _ _ => rfl)) pe_int) (pg_sub (pv 0) pe_int set_list))
      (pss_cons (ps_if (pt_cmpR op_gt (pe_ix (kix K) (pv 0) pe_int (fun _ _ => rfl)) (pe_callB (klen K) (by rfl) B.len PySem.boot_len (pa_cons (pe_ix (kix K) (pv 0) pe_int (fun _ _ => rfl)) pa_nil)) (nomark _)) (pss_cons (ps_asg (pe_op op_mod (pe_op op_add (pe_op op_mul (pe_ix (kix K) (pv 0) pe_int (fun _ _ => rfl)) pe_int) pe_int) pe_int) (pg_sub (pv 0) pe_int set_list))
      (pss_one (ps_ret (pe_op op_mod (pe_op op_fdiv (pe_ix (kix K) (pv 0) pe_int (fun _ _ => rfl)) pe_int) (pv 1))))) pss_nil)
      (pss_cons (ps_set (i := 3) sc_law_taken.nd rfl (Or.inl rfl) (pe_ix (kix K) (pe_ix (kix K) (pv 0) pe_int (fun _ _ => rfl)) (pe_op op_sub (pe_ix (kix K) (pv 0) pe_int (fun _ _ => rfl)) pe_int) (fun _ _ => rfl)))
      (pss_cons (ps_asg (pe_op op_mod (pe_op op_add (pe_op op_add (pe_op op_mul (pe_ix (kix K) (pv 0) pe_int (fun _ _ => rfl)) pe_int) (pv 3)) pe_int) pe_int) (pg_sub (pv 0) pe_int set_list))
      (pss_cons (ps_if (pt_cmpR op_ge (pv 3) (pe_op op_pow pe_int pe_int) (nomark _)) (pss_one (ps_asg (pe_op op_fdiv (pv 3) (pv 1)) (pg_sub (pv 0) pe_int set_list))) pss_nil)
      (pss_one (ps_ret (pe_op op_mod (pv 3) (pv 1)))))))))), fun G0 => ?_⟩)
  obtain ⟨⟨ns, row⟩, k⟩ := a
  obtain ⟨⟨c, m, g, h0, e0⟩, hk0, hk1⟩ := hp
  try dsimp only [cxOf, Cx.nox] at h0 e0 hk0 hk1 ⊢
  have dv : CDiv g k := ⟨hk0, by omega⟩
  walk_at "dw"
  refine w2_ixO e0 (x := .i g) rfl ?_
  walk_at "dw"
  refine ⟨fun h => ?_, fun h => ?_⟩
  · walk_at "dw"
    refine w2_ixO e0 (x := .i g) rfl ?_
    walk_at "dw"
    refine w2_Ii hk0 ?_
    walk_at "dw"
    refine w2_ixO e0 (x := .i g) rfl ?_
    walk_at "dw"
    refine w2_Ii dv ?_
    walk_at "dw"
    refine wg_sub ?_
    walk_at "dw"
    refine wst_list e0 (j := 3) rfl ?_
    walk_at "dw"
    exact ⟨_, Sub.refl _, ⟨_, rfl, Int.emod_nonneg _ (by omega), Int.emod_lt_of_pos _ hk0⟩, c, m, _, h0, rfl⟩
  walk_at "dw"
  refine w2_ixO e0 (x := .i c) rfl ?_
  walk_at "dw"
  refine wg_sub ?_
  walk_at "dw"
  refine wst_list e0 (j := 1) rfl ?_
  have e1 : mset μ row (rowMO ns (c + 1) m g) row = some (rowMO ns (c + 1) m g) := mset_same
  walk_at "dw"
  refine w2_ixO e1 (x := .i (c + 1)) rfl ?_
  walk_at "dw"
  refine w2_ixO e1 (x := .sq ns) rfl ?_
  walk_at "dw"
  refine ⟨fun h1 => ?_, fun h1 => ?_⟩
  · walk_at "dw"
    refine w2_ixO e1 (x := .i m) rfl ?_
    walk_at "dw"
    refine w2_Ii (.inr (by decide)) ?_
    walk_at "dw"
    refine w2_Ii (by decide) ?_
    walk_at "dw"
    refine wg_sub ?_
    walk_at "dw"
    refine wst_list e1 (j := 2) rfl ?_
    walk_at "dw"
    refine w2_ixO mset_same (x := .i ((m * 48271 + 11) % 2147483647)) rfl ?_
    walk_at "dw"
    refine w2_Ii ⟨by decide, by decide⟩ ?_
    walk_at "dw"
    refine w2_Ii hk0 ?_
    refine ⟨_, Sub.refl _, ⟨_, rfl, Int.emod_nonneg _ (by omega), Int.emod_lt_of_pos _ hk0⟩, c + 1, _, g, by omega, mset_mset⟩
  have hle : c + 1 ≤ (ns.length : Int) := by have := of_decide_eq_false h1; omega
  obtain ⟨n, hn⟩ : ∃ n, atI ns (c + 1 - 1) = some n := by
    have : c.toNat < ns.length := by omega
    refine ⟨ns[c.toNat], ?_⟩
    have := ati_n (List.getElem?_eq_getElem this)
    rw [show c + 1 - 1 = ((c.toNat : Nat) : Int) by omega]
    exact this
  walk_at "dw"
  refine w2_ixO e1 (x := .sq ns) rfl ?_
  walk_at "dw"
  refine w2_ixO e1 (x := .i (c + 1)) rfl ?_
  walk_at "dw"
  refine w2_ixS hn ?_
  walk_at "dw"
  refine w2_ixO e1 (x := .i m) rfl ?_
  walk_at "dw"
  refine w2_Ii (.inr (by decide)) ?_
  walk_at "dw"
  refine w2_Ii (by decide) ?_
  walk_at "dw"
  refine wg_sub ?_
  walk_at "dw"
  refine wst_list e1 (j := 2) rfl ?_
  rw [mset_mset]
  have e2 : mset μ row (rowMO ns (c + 1) ((m * 48271 + n + 11) % 2147483647) g) row = some (rowMO ns (c + 1) ((m * 48271 + n + 11) % 2147483647) g) := mset_same
  walk_at "dw"
  refine w2_Ii ⟨by decide, by decide, by decide⟩ ?_
  walk_at "dw"
  refine ⟨fun h2 => ?_, fun h2 => ?_⟩
  · walk_at "dw"
    refine w2_Ii ⟨hk0, by omega⟩ ?_
    walk_at "dw"
    refine wg_sub ?_
    walk_at "dw"
    refine wst_list e2 (j := 3) rfl ?_
    walk_at "dw"
    refine w2_Ii hk0 ?_
    refine ⟨_, Sub.refl _, ⟨_, rfl, Int.emod_nonneg _ (by omega), Int.emod_lt_of_pos _ hk0⟩, c + 1, _, _, by omega, mset_mset⟩
  · walk_at "dw"
    refine w2_Ii hk0 ?_
    exact ⟨_, Sub.refl _, ⟨_, rfl, Int.emod_nonneg _ (by omega), Int.emod_lt_of_pos _ hk0⟩, c + 1, _, g, by omega, rfl⟩
/-! ### _law_plain -/
abbrev s_law_plain : Stmt := topS 32
abbrev N_law_plain : List Str := ["_law_row"]
theorem sc_law_plain : FnScope N_law_plain ["_law_row"] (defScope s_law_plain) := ⟨rfl, rfl, rfl, by decide +kernel, rfl, by decide +kernel, by decide +kernel⟩

abbrev sp_plain (K : Frg) : Sp := SpA (α := RA) K (fun a => [.o a.2]) (fun a μ => RowAt a.1 a.2 μ) (fun a μ x μ' => (∃ e, PlainE e ∧ x = .d (encE e)) ∧ RowStep a.1 a.2 μ μ')
theorem ok_plain (F : Fun K "_law_plain" "_law_plain" s_law_plain fa fd) (C_law_taken : Cal P w K mg base CX0 1 "_law_taken" ["_law_row", "_law_many"] (sp_taken K)) : FnOk P w K mg base CX0 2 fa fd ["_law_row"] (sp_plain K) := by
  refine ok_D F sc_law_plain (fun _ => rfl) (fun cdv A outer s H E hr a μ hp => ⟨_, (pss_one (ps_ret (pe_tup (pa_cons (pe_ix (kix K) (pe_lst (pa_cons pe_str (pa_cons pe_str (pa_cons pe_str pa_nil)))) (pe_cal C_law_taken hr (pa_cons (pv 0) (pa_cons pe_int pa_nil))) (fun _ _ => rfl)) (pa_cons (pe_ix (kix K) (pe_lst (pa_cons (pe_cal C_law_taken hr (pa_cons (pv 0) (pa_cons pe_int pa_nil))) (pa_cons (pe_cal C_law_taken hr (pa_cons (pv 0) (pa_cons pe_int pa_nil))) pa_nil))) (pe_cal C_law_taken hr (pa_cons (pv 0) (pa_cons pe_int pa_nil))) (fun _ _ => rfl)) pa_nil))))), fun G0 => ?_⟩)
  obtain ⟨ns, row⟩ := a
  have hR : RowAt ns row μ := hp
  try dsimp only [cxOf, Cx.nox]
  walk_at "dw"
  refine we_lst ?_
  walk_at "dw"
  refine ⟨((ns, row), 3), rfl, ⟨hR, by simp, by simp⟩, ?_⟩
  rintro _ μ1 ⟨⟨t, rfl, t0, t1⟩, s1⟩
  obtain ⟨k1, hk1, hat⟩ : ∃ k1, (k1 = kNum ∨ k1 = kSay) ∧ atI [PyData.str "num", PyData.str "num", PyData.str "say"] t = some (.str k1) := by
    rcases (show t = 0 ∨ t = 1 ∨ t = 2 by omega) with rfl | rfl | rfl
    · exact ⟨kNum, .inl rfl, rfl⟩
    · exact ⟨kNum, .inl rfl, rfl⟩
    · exact ⟨kSay, .inr rfl, rfl⟩
  refine w2_ixL hat ?_
  walk_at "dw"
  refine we_lst ?_
  walk_at "dw"
  refine ⟨((ns, row), 5), rfl, ⟨s1.at, by simp, by simp⟩, ?_⟩
  rintro _ μ2 ⟨⟨u, rfl, u0, u1⟩, s2⟩
  walk_at "dw"
  refine ⟨((ns, row), 100), rfl, ⟨s2.at, by simp, by simp⟩, ?_⟩
  rintro _ μ3 ⟨⟨v, rfl, v0, v1⟩, s3⟩
  walk_at "dw"
  refine ⟨((ns, row), 2), rfl, ⟨s3.at, by simp, by simp⟩, ?_⟩
  rintro _ μ4 ⟨⟨x, rfl, x0, x1⟩, s4⟩
  obtain ⟨n, hn, hat2⟩ : ∃ n, (0 ≤ n ∧ n < 100) ∧ atI [PyData.int u, PyData.int v] x = some (.int n) := by
    rcases (show x = 0 ∨ x = 1 by omega) with rfl | rfl
    · exact ⟨u, ⟨u0, by have : u < 5 := u1; omega⟩, rfl⟩
    · exact ⟨v, ⟨v0, v1⟩, rfl⟩
  refine w2_ixL hat2 ?_
  walk_at "dw"
  refine ⟨_, Sub.refl _, ?_, ((s1.trans s2).trans s3).trans s4⟩
  rcases hk1 with rfl | rfl
  · exact ⟨.num n, hn, rfl⟩
  · exact ⟨.say n, hn, rfl⟩
/-! ### _law_default -/
abbrev s_law_default : Stmt := topS 33
abbrev N_law_default : List Str := ["_law_row", "_law_ahead", "_law_way", "_law_parts"]
theorem sc_law_default : FnScope N_law_default ["_law_row", "_law_ahead"] (defScope s_law_default) := ⟨rfl, rfl, rfl, by decide +kernel, rfl, by decide +kernel, by decide +kernel⟩

abbrev sp_default (K : Frg) : Sp := SpA (α := RA × List Int) K (fun a => [.o a.1.2, .l (a.2.map .int)]) (fun a μ => RowAt a.1.1 a.1.2 μ ∧ (∀ n ∈ a.2, 0 ≤ n ∧ n < 10) ∧ a.2.length ≤ 100) (fun a μ x μ' => (∃ o : Option Ex, (∀ e, o = some e → ExOk a.2 1 e) ∧ x = .d (encO o)) ∧ RowStep a.1.1 a.1.2 μ μ')
theorem exok_plain {e : Ex} {ahead : List Int} {n : Nat} (h : PlainE e) : ExOk ahead n e := by cases n <;> cases e <;> first | exact h | cases h
theorem ok_default (F : Fun K "_law_default" "_law_default" s_law_default fa fd) (B : Blt mg) (C_law_taken : Cal P w K mg base CX0 1 "_law_taken" ["_law_row", "_law_many"] (sp_taken K)) (C_law_plain : Cal P w K mg base CX0 2 "_law_plain" ["_law_row"] (sp_plain K)) : FnOk P w K mg base CX0 3 fa fd ["_law_row", "_law_ahead"] (sp_default K) := by
  refine ok_D F sc_law_default (fun _ => rfl) (fun cdv A outer s H E hr a μ hp => ⟨_, (pss_cons (ps_set (i := 2) sc_law_default.nd rfl (Or.inl rfl) (pe_cal C_law_taken hr (pa_cons (pv 0) (pa_cons pe_int pa_nil))))
      (pss_cons (ps_if (pt_cmpR op_lt (pv 2) pe_int (nomark _)) (pss_one (ps_ret pe_non)) pss_nil)
      (pss_cons (ps_if (PW.pt (pw_or (pt_cmpR (keq K hr) (pv 2) pe_int (nomark _)) (pw_or1 (pt_cmpR (keq K hr) (pv 1) (pe_lst pa_nil) (nomark _))))) (pss_one (ps_ret (pe_cal C_law_plain hr (pa_cons (pv 0) pa_nil)))) pss_nil)
      (pss_cons (ps_set (i := 3) sc_law_default.nd rfl (Or.inl rfl) (pe_lst (pa_cons (pe_tup (pa_cons pe_str (pa_cons (pe_ix (kix K) (pv 1) (pe_cal C_law_taken hr (pa_cons (pv 0) (pa_cons (pe_callB (klen K) (by rfl) B.len PySem.boot_len (pa_cons (pv 1) pa_nil)) pa_nil))) (fun _ _ => rfl)) pa_nil))) (pa_cons (pe_cal C_law_plain hr (pa_cons (pv 0) pa_nil)) pa_nil))))
      (pss_cons (ps_if (pt_cmpR (keq K hr) (pv 2) pe_int (nomark _)) (pss_one (ps_ret (pe_ix (kix K) (pv 3) pe_int (fun _ _ => rfl)))) pss_nil)
      (pss_one (ps_ret (pe_tup (pa_cons pe_str (pa_cons (pe_ix (kix K) (pv 3) (pe_cal C_law_taken hr (pa_cons (pv 0) (pa_cons pe_int pa_nil))) (fun _ _ => rfl)) (pa_cons (pe_ix (kix K) (pv 3) (pe_cal C_law_taken hr (pa_cons (pv 0) (pa_cons pe_int pa_nil))) (fun _ _ => rfl)) pa_nil))))))))))), fun G0 => ?_⟩)
  obtain ⟨⟨ns, row⟩, ahead⟩ := a
  obtain ⟨hR, hA, hlA⟩ := hp
  try dsimp only [cxOf, Cx.nox] at hR hA hlA ⊢
  have plainRet : ∀ μ1, RowStep ns row μ μ1 → ∀ ρ : Rho, ρ[0]? = some (some (.o row)) → ∀ De : DE, De.rt = (retD fun x μ' => (∃ o : Option Ex, (∀ e, o = some e → ExOk ahead 1 e) ∧ x = PV.d (encO o)) ∧ RowStep ns row μ μ').rt → Ws K G0 (tRet (tCall (sp_plain K) [] E0 (tCons (tVar 0) tNil))) ρ μ1 De := by
    intro μ1 s1 ρ hρ De hD
    refine ws_ret ?_
    rw [hD]
    refine (we_call (wa_cons (we_var hρ (wa_nil ⟨(ns, row), rfl, s1.at, ?_⟩))))
    rintro _ μ2 ⟨⟨e, he, rfl⟩, s2⟩
    exact ⟨_, Sub.refl _, ⟨some e, fun e' h => (by cases h; exact exok_plain he), rfl⟩, s1.trans s2⟩
  walk_at "dw"
  refine ⟨((ns, row), 6), rfl, ⟨hR, by simp, by simp⟩, ?_⟩
  rintro _ μ1 ⟨⟨t, rfl, t0, t1⟩, s1⟩
  walk_at "dw"
  refine ⟨fun h => ?_, fun h => ?_⟩
  · walk_at "dw"
    exact ⟨_, Sub.refl _, ⟨none, fun e h => (by cases h), rfl⟩, s1⟩
  walk_at "dw"
  refine w2_eqD rfl rfl ?_
  walk_at "dw"
  refine ⟨fun h2 => ?_, fun h2 => ?_⟩
  · refine ⟨fun _ => plainRet μ1 s1 _ rfl _ rfl, fun h => (nomatch h)⟩
  walk_at "dw"
  refine we_lst ?_
  walk_at "dw"
  refine w2_eqD (shaped_of 1 (shp_intl ahead)) rfl ?_
  rw [eqv_list_nil]
  walk_at "dw"
  refine ⟨fun h3 => plainRet μ1 s1 _ rfl _ rfl, fun h3 => ?_⟩
  have hne : ahead ≠ [] := by intro e; subst e; cases h3
  have hpos : 0 < ahead.length := List.length_pos_iff.mpr hne
  walk_at "dw"
  refine we_lst ?_
  walk_at "dw"
  refine ⟨((ns, row), ((ahead.map PyData.int).length : Int)), rfl, ⟨s1.at, by rw [List.length_map]; show (0 : Int) < (ahead.length : Int); omega, by rw [List.length_map]; show (ahead.length : Int) ≤ 1000000; omega⟩, ?_⟩
  rintro _ μ2 ⟨⟨u, rfl, u0, u1⟩, s2⟩
  have u1' : u.toNat < ahead.length := by
    have : u < ((ahead.map PyData.int).length : Int) := u1
    rw [List.length_map] at this; omega
  have hat : atI (ahead.map PyData.int) u = some (.int ahead[u.toNat]) := by
    have h := ati_n (xs := ahead.map PyData.int) (n := u.toNat) (d := .int ahead[u.toNat]) (by rw [List.getElem?_map, List.getElem?_eq_getElem u1']; rfl)
    rw [show ((u.toNat : Nat) : Int) = u by omega] at h
    exact h
  refine w2_ixL hat ?_
  walk_at "dw"
  refine ⟨(ns, row), rfl, s2.at, ?_⟩
  rintro _ μ3 ⟨⟨e, he, rfl⟩, s3⟩
  have hslot : ∀ n, ExOk ahead n (.slot ahead[u.toNat]) := fun n => by
    have := hA _ (List.getElem_mem u1')
    cases n <;> exact ⟨this, List.getElem_mem u1'⟩
  have hs13 := (s1.trans s2).trans s3
  walk_at "dw"
  refine w2_eqD rfl rfl ?_
  walk_at "dw"
  refine ⟨fun h4 => ?_, fun h4 => ?_⟩
  · walk_at "dw"
    refine w2_ixL ati_0 ?_
    exact ⟨_, Sub.refl _, ⟨some (.slot ahead[u.toNat]), fun e h => (by cases h; exact hslot 1), rfl⟩, hs13⟩
  walk_at "dw"
  refine ⟨((ns, row), 2), rfl, ⟨hs13.at, by simp, by simp⟩, ?_⟩
  rintro _ μ4 ⟨⟨x, rfl, x0, x1⟩, s4⟩
  have pick : ∀ x : Int, 0 ≤ x → x < 2 → ∃ p, ExOk ahead 0 p ∧ atI [encE (.slot ahead[u.toNat]), encE e] x = some (encE p) := by
    intro x x0 x1
    rcases (show x = 0 ∨ x = 1 by omega) with rfl | rfl
    · exact ⟨_, hslot 0, rfl⟩
    · exact ⟨_, exok_plain he, rfl⟩
  obtain ⟨p, hp, hatp⟩ := pick x x0 x1
  refine w2_ixL hatp ?_
  walk_at "dw"
  refine ⟨((ns, row), 2), rfl, ⟨s4.at, by simp, by simp⟩, ?_⟩
  rintro _ μ5 ⟨⟨y, rfl, y0, y1⟩, s5⟩
  obtain ⟨q, hq, hatq⟩ := pick y y0 y1
  refine w2_ixL hatq ?_
  walk_at "dw"
  exact ⟨_, Sub.refl _, ⟨some (.plus p q), fun e h => (by cases h; exact ⟨hp, hq⟩), rfl⟩, (hs13.trans s4).trans s5⟩
end
end Sc

namespace Sc
open PySem L2 PyProof.Rows Dw
local macro_rules | `(tactic| walk_at "dw1") => `(tactic| first
  | (with_reducible refine ws_seq ?_) | (with_reducible refine ws_ret ?_) | (with_reducible refine ws_set ?_) | (with_reducible refine ws_drop ?_) | (with_reducible refine ws_if ?_) | (with_reducible refine ws_next ?_)
  | ((with_reducible show We _ _ (tVar _) _ _ _); refine we_var rfl ?_) | (with_reducible refine we_int ?_) | (with_reducible refine we_bl ?_) | (with_reducible refine we_str ?_) | (with_reducible refine we_non ?_) | (with_reducible refine we_ty ?_)
  | (with_reducible refine we_op ?_) | (with_reducible refine we_isiT ?_) | (with_reducible refine we_cb ?_) | (with_reducible refine wa_cons ?_) | (with_reducible refine wa_nil ?_)
  | (with_reducible refine we_and ?_) | (with_reducible refine we_or ?_) | (with_reducible refine we_not ?_) | (with_reducible refine we_if ?_) | (with_reducible refine we_chain ?_)
  | (with_reducible refine we_fld ?_) | (with_reducible refine we_bm ?_) | (with_reducible refine we_bm0 ?_) | (with_reducible refine we_sl ?_) | (with_reducible refine wo_none ?_) | (with_reducible refine wo_some ?_)
  | (with_reducible refine wt_test ?_) | (with_reducible refine wt_B ?_) | (with_reducible refine wt_and ?_) | (with_reducible refine wt_or ?_) | (with_reducible refine wt_not ?_) | (with_reducible refine wt_yes ?_)
  | (with_reducible refine w2_I0i ?_) | (with_reducible refine w2_I0b ?_) | (with_reducible refine w2_isN ?_) | (with_reducible refine w2_notN ?_)
  | (with_reducible refine we_callL ?_) | (with_reducible refine we_call ?_) | (with_reducible refine we_tup ?_)
  | (with_reducible refine wc_lenT ?_) | (with_reducible refine wc_lenL ?_) | (with_reducible refine wc_lenS ?_) | (with_reducible refine wc_intB ?_) | (with_reducible refine wc_min2 ?_)
  | ((with_reducible show Wg _ _ (gTup _ _ _) _ _ _ _); first | refine wg_tup2 ?_ | refine wg_tup3 ?_ | refine wg_tup4 ?_) | (with_reducible refine we_un ?_) | (with_reducible refine ws_asg ?_) | (with_reducible refine wg_name ?_) | (with_reducible refine wgs_cons ?_) | (with_reducible refine wgs_nil ?_)
  | (with_reducible refine wsl_T ?_) | (with_reducible refine wsl_L ?_)
  | (with_reducible refine wc_tupL ?_) | (with_reducible refine wc_listT ?_)
  | (with_reducible refine wc_isi (kit_int _) ?_) | (with_reducible refine wc_isi (kit_bool _) ?_) | (with_reducible refine wc_isi (kit_tuple _) ?_) | (with_reducible refine wc_isi (kit_list _) ?_) | (with_reducible refine wc_isi (kit_str _) ?_)
  | (with_reducible refine ex_b ?_) | (with_reducible refine ex_i ?_) | (with_reducible refine ex_t ?_) | (with_reducible refine ex_l ?_)
  | ((with_reducible show ∃ _, unD _ = some _ ∧ _); refine ⟨_, rfl, by simp, ?_⟩))
local macro_rules | `(tactic| walk_at "dw") => `(tactic| repeat' walk_at "dw1")

section
variable {P : Program} {w : World} {K : Frg} {mg : Str → Option Value} {base : Heap} {fa : Addr} {fd : FuncData}
theorem eqv_intB (a b : Int) : PyData.eqv (.int a) (.int b) = decide (a = b) := eqv_int a b
theorem erase_map {α β : Type} (g : α → β) : ∀ (l : List α) (i : Nat), (l.map g).eraseIdx i = (l.eraseIdx i).map g
  | [], _ => rfl
  | _ :: _, 0 => rfl
  | a :: l, i + 1 => by simp only [List.map_cons, List.eraseIdx_cons_succ, erase_map g l i]
theorem erase_not : ∀ (l : List Int) (i : Nat), l.Nodup → (h : i < l.length) → l[i] ∉ l.eraseIdx i
  | a :: l, 0, hn, h => by
    simp only [List.getElem_cons_zero, List.eraseIdx_cons_zero]
    exact (List.nodup_cons.mp hn).1
  | a :: l, i + 1, hn, h => by
    have hn' := List.nodup_cons.mp hn
    simp only [List.getElem_cons_succ, List.eraseIdx_cons_succ, List.mem_cons, not_or]
    have hi : i < l.length := by simpa using h
    refine ⟨fun e => hn'.1 (by rw [← e]; exact List.getElem_mem hi), erase_not l i hn'.2 hi⟩
/-! ### _law_face -/
abbrev s_law_face : Stmt := topS 34
abbrev N_law_face : List Str := ["_law_row", "_law_many", "_law_left", "_law_cuts", "_law_slots", "_law_k", "_law_ahead", "_law_name", "_law_sort", "_law_slot"]
theorem sc_law_face : FnScope N_law_face ["_law_row"] (defScope s_law_face) := ⟨rfl, rfl, rfl, by decide +kernel, rfl, by decide +kernel, by decide +kernel⟩

abbrev sp_face (K : Frg) : Sp := SpA (α := RA) K (fun a => [.o a.2]) (fun a μ => RowAt a.1 a.2 μ) (fun a μ x μ' => (∃ f : Face, f.Ok ∧ x = .d (encF f)) ∧ RowStep a.1 a.2 μ μ')
def rk (c0 c1 : Int) (j : Nat) : Nat := (if c0 ≤ (j : Int) then 1 else 0) + (if c1 ≤ (j : Int) then 1 else 0)
def srtOf : Nat → Srt
  | 0 => .place
  | 1 => .any
  | _ => .name
theorem rk_mono {c0 c1 : Int} {i j : Nat} (h : i ≤ j) : rk c0 c1 i ≤ rk c0 c1 j := by
  unfold rk
  split <;> split <;> split <;> split <;> omega
theorem rank_of {n : Nat} (h : n ≤ 2) : (srtOf n).rank = n := by
  rcases (show n = 0 ∨ n = 1 ∨ n = 2 by omega) with rfl | rfl | rfl <;> rfl
/-- what holds between two turns of the face's loop -/
structure FaceInv (ns : List Int) (row aL aS : Addr) (c0 c1 : Int) (tot : Nat) (μ0 μ' : Mu) (i : Nat) (ss : List Slot) (left : List Int) : Prop where
  ra : RowAt ns row μ'
  off : OffRow row μ0 μ'
  ml : μ' aL = some (.lst (left.map PV.i))
  ms : μ' aS = some (.lst (ss.map fun s => .d (encS s)))
  len : ss.length = i
  ll : left.length + i = tot
  ok : ∀ k (h : k < ss.length), SlotOk (ss.take k) ss[k]
  rng : ∀ n ∈ left, 0 ≤ n ∧ n < 10
  nd : left.Nodup
  nin : ∀ s ∈ ss, s.name ∉ left
  rks : ∀ k (h : k < ss.length), ss[k].sort.rank = rk c0 c1 k
theorem ok_face (F : Fun K "_law_face" "_law_face" s_law_face fa fd) (B : Blt mg) (C_law_taken : Cal P w K mg base CX0 1 "_law_taken" ["_law_row", "_law_many"] (sp_taken K)) (C_law_default : Cal P w K mg base CX0 3 "_law_default" ["_law_row", "_law_ahead"] (sp_default K)) : FnOk P w K mg base CX0 4 fa fd ["_law_row"] (sp_face K) := by
  refine ok_D F sc_law_face (fun _ => rfl) (fun cdv A outer s H E hr a μ hp => ⟨_, (pss_cons (ps_set (i := 1) sc_law_face.nd rfl (Or.inl rfl) (pe_cal C_law_taken hr (pa_cons (pv 0) (pa_cons pe_int pa_nil))))
      (pss_cons (ps_set (i := 2) sc_law_face.nd rfl (Or.inl rfl) (pe_listRg rfl rfl B.list (prg_1 rfl B.range (pe_ix (kix K) (pe_lst (pa_cons pe_int (pa_cons pe_int pa_nil))) (pe_cal C_law_taken hr (pa_cons (pv 0) (pa_cons pe_int pa_nil))) (fun _ _ => rfl)))))
      (pss_cons (ps_set (i := 3) sc_law_face.nd rfl (Or.inl rfl) (pe_callB (ksorted K) (by rfl) B.sorted (by decide +kernel) (pa_cons (pe_lst (pa_cons (pe_cal C_law_taken hr (pa_cons (pv 0) (pa_cons (pe_op op_add (pv 1) pe_int) pa_nil))) (pa_cons (pe_cal C_law_taken hr (pa_cons (pv 0) (pa_cons (pe_op op_add (pv 1) pe_int) pa_nil))) pa_nil))) pa_nil)))
      (pss_cons (ps_set (i := 4) sc_law_face.nd rfl (Or.inl rfl) (pe_lst pa_nil))
      (pss_cons (ps_for PassesOwn.never rfl (pi_range1 rfl B.range (pa_cons (pv 1) pa_nil)) (pg_name (i := 5) sc_law_face.nd rfl (Or.inl rfl)) (pss_cons (ps_setLc (i := 6) (own := [("_law_slot", 9)]) (g := (gName 9)) rfl sc_law_face.nd rfl rfl (sw_true rfl rfl rfl (by decide +kernel)) (pkList K (pv 4)) (blkOk_by (own := [("_law_slot", 9)]) (N := N_law_face) (sc := defScope s_law_face) (by decide +kernel)) (fun _ _ _ _ _ => (pg_name (i := 9) sc_law_face.nd rfl (by first | exact Or.inl rfl | exact Or.inr rfl))) (fun _ _ _ _ _ => pts_nil) (fun _ _ _ _ _ => (pe_ix (kix K) (pv 9) pe_int (fun _ _ => rfl))))
      (pss_cons (ps_set (i := 7) sc_law_face.nd rfl (Or.inl rfl) (pkBm K PySem.F.plainAttrs_list PySem.F.slot_list_pop PySem.F.type_list_pop mt_popAt (pv 2) (pa_cons (pe_cal C_law_taken hr (pa_cons (pv 0) (pa_cons (pe_callB (klen K) (by rfl) B.len PySem.boot_len (pa_cons (pv 2) pa_nil)) pa_nil))) pa_nil)))
      (pss_cons (ps_set (i := 8) sc_law_face.nd rfl (Or.inl rfl) (pe_ix (kix K) (pe_lst (pa_cons pe_str (pa_cons pe_str (pa_cons pe_str pa_nil)))) (pe_op op_add (pe_callTy call_int1 (by rfl) B.int (by decide +kernel) (pa_cons (pe_cmpR op_ge (pv 5) (pe_ix (kix K) (pv 3) pe_int (fun _ _ => rfl)) (nomark _)) pa_nil)) (pe_callTy call_int1 (by rfl) B.int (by decide +kernel) (pa_cons (pe_cmpR op_ge (pv 5) (pe_ix (kix K) (pv 3) pe_int (fun _ _ => rfl)) (nomark _)) pa_nil))) (fun _ _ => rfl)))
      (pss_one (ps_expr (pkBm K PySem.F.plainAttrs_list PySem.F.slot_list_append PySem.F.type_list_append mt_append (pv 4) (pa_cons (pe_tup (pa_cons (pv 7) (pa_cons (pv 8) (pa_cons (pe_cal C_law_default hr (pa_cons (pv 0) (pa_cons (pv 6) pa_nil))) pa_nil)))) pa_nil))))))))
      (pss_one (ps_ret (pe_tup (pa_cons (pe_callTy (ktup K) (by rfl) B.tuple (by decide +kernel) (pa_cons (pv 4) pa_nil)) (pa_cons (pe_cmpR (keq K hr) (pe_cal C_law_taken hr (pa_cons (pv 0) (pa_cons pe_int pa_nil))) pe_int (nomark _)) (pa_cons (pe_cmpR (keq K hr) (pe_cal C_law_taken hr (pa_cons (pv 0) (pa_cons pe_int pa_nil))) pe_int (nomark _)) pa_nil))))))))))), fun G0 => ?_⟩)
  obtain ⟨ns, row⟩ := a
  have hR : RowAt ns row μ := hp
  try dsimp only [cxOf, Cx.nox]
  walk_at "dw"
  refine ⟨((ns, row), 7), rfl, ⟨hR, by simp, by simp⟩, ?_⟩
  rintro _ μ1 ⟨⟨many, rfl, m0, m1⟩, s1⟩
  have m1 : many < 7 := m1
  walk_at "dw"
  refine we_listRg ?_
  walk_at "dw"
  refine we_lst ?_
  walk_at "dw"
  refine ⟨((ns, row), 2), rfl, ⟨s1.at, by simp, by simp⟩, ?_⟩
  rintro _ μ2 ⟨⟨t, rfl, t0, t1⟩, s2⟩
  obtain ⟨tot, htot, hat⟩ : ∃ tot : Nat, (tot = 6 ∨ tot = 10) ∧ atI [PyData.int 6, PyData.int 10] t = some (.int (tot : Int)) := by
    have t1 : t < 2 := t1
    rcases (show t = 0 ∨ t = 1 by omega) with rfl | rfl
    · exact ⟨6, .inl rfl, rfl⟩
    · exact ⟨10, .inr rfl, rfl⟩
  refine w2_ixL hat ⟨(tot : Int), rfl, by omega, by omega, fun aL hL => ?_⟩
  rw [Int.toNat_natCast]
  have s12 := s1.trans s2
  have hLr : aL ≠ row := s12.at.ne hL
  have hL0 : μ aL = none := by
    obtain ⟨c, m, g, h0, e⟩ := s12
    rw [e, mset_ne hLr] at hL; exact hL
  have r3 : RowAt ns row (mset μ2 aL (.lst ((List.range tot).map fun (i : Nat) => PV.i (i : Int)))) := s12.at.off hLr
  have o3 : OffRow row μ (mset μ2 aL (.lst ((List.range tot).map fun (i : Nat) => PV.i (i : Int)))) := s12.off.new hL0
  have l3 : mset μ2 aL (.lst ((List.range tot).map fun (i : Nat) => PV.i (i : Int))) aL = some (.lst ((List.range tot).map fun (i : Nat) => PV.i (i : Int))) := mset_same
  generalize mset μ2 aL (.lst ((List.range tot).map fun (i : Nat) => PV.i (i : Int))) = μ3 at r3 o3 l3 ⊢
  walk_at "dw"
  refine we_lst ?_
  walk_at "dw"
  refine ⟨((ns, row), many + 1), rfl, ⟨r3, by show (0 : Int) < many + 1; omega, by show many + 1 ≤ 1000000; omega⟩, ?_⟩
  rintro _ μ4 ⟨⟨a0, rfl, a1, a2⟩, s4⟩
  walk_at "dw"
  refine ⟨((ns, row), many + 1), rfl, ⟨s4.at, by show (0 : Int) < many + 1; omega, by show many + 1 ≤ 1000000; omega⟩, ?_⟩
  rintro _ μ5 ⟨⟨b0, rfl, b1, b2⟩, s5⟩
  walk_at "dw"
  refine wc_sorted (ns := [a0, b0]) (by simp) fun ns' hperm hsrt => ?_
  obtain ⟨c0, c1, rfl⟩ : ∃ c0 c1, ns' = [c0, c1] := by
    have := hperm.length_eq
    rcases ns' with _ | ⟨x, _ | ⟨y, _ | ⟨z, r⟩⟩⟩
    · cases this
    · cases this
    · exact ⟨x, y, rfl⟩
    · simp at this
  have r5 : RowAt ns row μ5 := s5.at
  have o5 : OffRow row μ μ5 := (o3.trans s4.off).trans s5.off
  have l5 : μ5 aL = some (.lst ((List.range tot).map fun (i : Nat) => PV.i (i : Int))) := s5.off _ _ hLr (s4.off _ _ hLr l3)
  walk_at "dw"
  refine we_lstM ?_
  walk_at "dw"
  refine ⟨by simp, fun aS hS => ?_⟩
  have hSr : aS ≠ row := r5.ne hS
  have hSL : aL ≠ aS := ne_mu l5 hS
  have hS0 : μ aS = none := by
    cases hh : μ aS with
    | none => rfl
    | some o => rw [o5 aS o hSr hh] at hS; cases hS
  walk_at "dw"
  refine ws_for (wi_rng ?_)
  walk_at "dw"
  refine ⟨_, rfl, by omega, by omega, ?_⟩
  refine ⟨fun i ρ μ' => ∃ ss left, FaceInv ns row aL aS c0 c1 tot μ μ' i ss left ∧ ∃ v1 v2 v3 v4, ρ = [some (.o row), some (.i many), some (.o aL), some (.l [.int c0, .int c1]), some (.o aS), v1, v2, v3, v4, none], ?_, fun _ _ _ _ _ => trivial, ?_, ?_⟩
  · refine ⟨[], (List.range tot).map fun (i : Nat) => (i : Int), ⟨r5.off hSr, o5.new hS0, ?_, mset_same, rfl, by simp, fun k h => absurd h (Nat.not_lt_zero _), ?_, ?_, fun s h => (by cases h), fun k h => absurd h (Nat.not_lt_zero _)⟩, none, none, none, none, rfl⟩
    · rw [mset_ne hSL, l5, List.map_map]; rfl
    · intro n hn
      obtain ⟨i, hi, rfl⟩ := List.mem_map.mp hn
      have := List.mem_range.mp hi
      omega
    · exact List.pairwise_map.mpr ((List.nodup_range (n := tot)).imp fun h e => h (by omega))
  · rintro i x ρ μ' hx ⟨ss, left, I, v1, v2, v3, v4, rfl⟩
    have hi : i < many.toNat := by
      have := (List.getElem?_eq_some_iff.mp hx).1
      simpa using this
    rw [List.getElem?_map, List.getElem?_range hi] at hx
    cases hx
    walk_at "dw"
    refine we_lcB ss (fun s => .d (encS s)) (fun s => .int s.name) (wi_obj ?_)
    walk_at "dw"
    refine ⟨aS, _, rfl, I.ms, rfl, by have := I.len; omega, fun μ2 h => h _ _ I.ms, fun s hs μ2 hs2 => ?_, ?_⟩
    · walk_at "dw"
      exact w2_ixT ati_0 ⟨Sub.refl _, rfl⟩
    walk_at "dw"
    refine ⟨tyd_o I.ml, ?_⟩
    walk_at "dw"
    refine wc_lenO I.ml ?_
    rw [List.length_map]
    have hlp : 0 < left.length := by have := I.ll; omega
    walk_at "dw"
    refine ⟨((ns, row), (left.length : Int)), rfl, ⟨I.ra, by show (0 : Int) < (left.length : Int); omega, by show (left.length : Int) ≤ 1000000; have := I.ll; omega⟩, ?_⟩
    rintro _ μ6 ⟨⟨u, rfl, u0, u1⟩, s6⟩
    have u1 : u < (left.length : Int) := u1
    have hu : u.toNat < left.length := by omega
    walk_at "dw"
    refine wm_popAt (s6.off _ _ hLr I.ml) u0 (by have := I.ll; omega) (x := PV.i left[u.toNat]) (by rw [List.getElem?_map, List.getElem?_eq_getElem hu]; rfl) ?_
    have hms6 : mset μ6 aL (MO.lst ((left.map PV.i).eraseIdx u.toNat)) aS = some (.lst (ss.map fun s => .d (encS s))) := by rw [mset_ne hSL.symm]; exact s6.off _ _ hSr I.ms
    have hml6 : mset μ6 aL (MO.lst ((left.map PV.i).eraseIdx u.toNat)) aL = some (.lst ((left.eraseIdx u.toNat).map PV.i)) := by rw [mset_same, erase_map]
    have hra6 : RowAt ns row (mset μ6 aL (MO.lst ((left.map PV.i).eraseIdx u.toNat))) := s6.at.off hLr
    have hof6 : OffRow row μ (mset μ6 aL (MO.lst ((left.map PV.i).eraseIdx u.toNat))) := (I.off.trans s6.off).new hL0
    generalize mset μ6 aL (MO.lst ((left.map PV.i).eraseIdx u.toNat)) = μ7 at hms6 hml6 hra6 hof6 ⊢
    walk_at "dw"
    refine we_lst ?_
    walk_at "dw"
    refine w2_ixL ati_0 ?_
    walk_at "dw"
    refine w2_ixL ati_1 ?_
    walk_at "dw"
    have hidx : ((if decide (c0 ≤ (i : Int)) = true then (1 : Int) else 0) + (if decide (c1 ≤ (i : Int)) = true then (1 : Int) else 0)) = ((rk c0 c1 i : Nat) : Int) := by
      unfold rk
      by_cases h1 : c0 ≤ (i : Int) <;> by_cases h2 : c1 ≤ (i : Int) <;> simp [h1, h2]
    rw [hidx]
    have hrk : rk c0 c1 i ≤ 2 := by unfold rk; split <;> split <;> omega
    have hats : atI [PyData.str "place", PyData.str "any", PyData.str "name"] ((rk c0 c1 i : Nat) : Int) = some (.str (srtOf (rk c0 c1 i)).str) := by
      rcases (show rk c0 c1 i = 0 ∨ rk c0 c1 i = 1 ∨ rk c0 c1 i = 2 by omega) with h | h | h <;> rw [h] <;> rfl
    refine w2_ixL hats ?_
    walk_at "dw"
    refine ⟨tyd_o hms6, ?_⟩
    walk_at "dw"
    refine ⟨((ns, row), ss.map (·.name)), by rw [List.map_map]; rfl, ⟨hra6, ?_, ?_⟩, ?_⟩
    · intro n hn
      obtain ⟨s, hs, rfl⟩ := List.mem_map.mp hn
      obtain ⟨k, hk, rfl⟩ := List.getElem_of_mem hs
      exact ⟨(I.ok k hk).n0, (I.ok k hk).n1⟩
    · show (ss.map (·.name)).length ≤ 100
      rw [List.length_map]; have := I.len; omega
    rintro _ μ8 ⟨⟨o, ho, rfl⟩, s8⟩
    walk_at "dw"
    have hms8 := s8.off _ _ hSr hms6
    have hml8 := s8.off _ _ hLr hml6
    refine wm_append hms8 (by rw [List.length_map]; have := I.len; omega) ?_
    have hnm : left[u.toNat] ∈ left := List.getElem_mem hu
    have hnew : SlotOk ss ⟨left[u.toNat], srtOf (rk c0 c1 i), o⟩ := by
      refine ⟨(I.rng _ hnm).1, (I.rng _ hnm).2, fun t ht e => ?_, fun t ht => ?_, ho⟩
      · exact I.nin t ht (by rw [e]; exact hnm)
      · rw [List.getLast?_eq_getElem?] at ht
        obtain ⟨hk, rfl⟩ := List.getElem?_eq_some_iff.mp ht
        rw [I.rks _ hk]
        show rk c0 c1 (ss.length - 1) ≤ (srtOf (rk c0 c1 i)).rank
        rw [rank_of hrk]
        exact rk_mono (by have := I.len; omega)
    refine ⟨ss ++ [⟨left[u.toNat], srtOf (rk c0 c1 i), o⟩], left.eraseIdx u.toNat, ⟨s8.at.off hSr, (hof6.trans s8.off).new hS0, ?_, ?_, ?_, ?_, ?_, ?_, ?_, ?_, ?_⟩, _, _, _, _, rfl⟩
    · rw [mset_ne hSL]; exact hml8
    · rw [mset_same, List.map_append]; rfl
    · rw [List.length_append, I.len]; rfl
    · rw [List.length_eraseIdx_of_lt hu]; have := I.ll; omega
    · intro k hk
      rw [List.length_append, List.length_singleton] at hk
      by_cases hkn : k < ss.length
      · rw [List.getElem_append_left hkn, List.take_append_of_le_length (by omega)]
        exact I.ok k hkn
      · have hkk : k = ss.length := by omega
        subst hkk
        rw [List.getElem_append_right (Nat.le_refl _), List.take_left]
        simpa using hnew
    · intro n hn
      exact I.rng n (List.mem_of_mem_eraseIdx hn)
    · exact I.nd.sublist (List.eraseIdx_sublist _ _)
    · intro s hs hin
      rcases List.mem_append.mp hs with hs | hs
      · exact I.nin s hs (List.mem_of_mem_eraseIdx hin)
      · simp only [List.mem_singleton] at hs
        subst hs
        have h3 : left[u.toNat] ∉ left.eraseIdx u.toNat := by
          exact erase_not _ _ I.nd hu
        exact h3 hin
    · intro k hk
      rw [List.length_append, List.length_singleton] at hk
      by_cases hkn : k < ss.length
      · rw [List.getElem_append_left hkn]; exact I.rks k hkn
      · have hkk : k = ss.length := by omega
        subst hkk
        rw [List.getElem_append_right (Nat.le_refl _)]
        simp only [Nat.sub_self, List.getElem_cons_zero]
        rw [rank_of hrk, I.len]
  · rintro ρ μ' ⟨ss, left, I, v1, v2, v3, v4, rfl⟩
    have hlen := I.len
    rw [List.length_map, List.length_range] at hlen
    walk_at "dw"
    refine wc_tupO (ds := ss.map encS) (by rw [I.ms, List.map_map]; rfl) ?_
    walk_at "dw"
    refine ⟨((ns, row), 3), rfl, ⟨I.ra, by simp, by simp⟩, ?_⟩
    rintro _ μ6 ⟨⟨x, rfl, x0, x1⟩, s6⟩
    walk_at "dw"
    refine w2_eqD rfl rfl ?_
    walk_at "dw"
    refine ⟨((ns, row), 3), rfl, ⟨s6.at, by simp, by simp⟩, ?_⟩
    rintro _ μ7 ⟨⟨y, rfl, y0, y1⟩, s7⟩
    walk_at "dw"
    refine w2_eqD rfl rfl ?_
    walk_at "dw"
    obtain ⟨μ'', hsub, hst⟩ := row_end s7.at ((I.off.trans s6.off).trans s7.off)
    exact ⟨μ'', hsub, ⟨⟨ss, _, _⟩, ⟨by show ss.length ≤ 6; omega, I.ok⟩, rfl⟩, hst⟩
end
end Sc

namespace Sc
open PySem L2 PyProof.Rows Dw
local macro_rules | `(tactic| walk_at "dw1") => `(tactic| first
  | (with_reducible refine ws_seq ?_) | (with_reducible refine ws_ret ?_) | (with_reducible refine ws_set ?_) | (with_reducible refine ws_drop ?_) | (with_reducible refine ws_if ?_) | (with_reducible refine ws_next ?_)
  | ((with_reducible show We _ _ (tVar _) _ _ _); refine we_var rfl ?_) | (with_reducible refine we_int ?_) | (with_reducible refine we_bl ?_) | (with_reducible refine we_str ?_) | (with_reducible refine we_non ?_) | (with_reducible refine we_ty ?_)
  | (with_reducible refine we_op ?_) | (with_reducible refine we_isiT ?_) | (with_reducible refine we_cb ?_) | (with_reducible refine wa_cons ?_) | (with_reducible refine wa_nil ?_)
  | (with_reducible refine we_and ?_) | (with_reducible refine we_or ?_) | (with_reducible refine we_not ?_) | (with_reducible refine we_if ?_) | (with_reducible refine we_chain ?_)
  | (with_reducible refine we_fld ?_) | (with_reducible refine we_bm ?_) | (with_reducible refine we_bm0 ?_) | (with_reducible refine we_sl ?_) | (with_reducible refine wo_none ?_) | (with_reducible refine wo_some ?_)
  | (with_reducible refine wt_test ?_) | (with_reducible refine wt_B ?_) | (with_reducible refine wt_and ?_) | (with_reducible refine wt_or ?_) | (with_reducible refine wt_not ?_) | (with_reducible refine wt_yes ?_)
  | (with_reducible refine w2_I0i ?_) | (with_reducible refine w2_I0b ?_) | (with_reducible refine w2_isN ?_) | (with_reducible refine w2_notN ?_)
  | (with_reducible refine we_callL ?_) | (with_reducible refine we_call ?_) | (with_reducible refine we_tup ?_)
  | (with_reducible refine wc_lenT ?_) | (with_reducible refine wc_lenL ?_) | (with_reducible refine wc_lenS ?_) | (with_reducible refine wc_intB ?_) | (with_reducible refine wc_min2 ?_)
  | ((with_reducible show Wg _ _ (gTup _ _ _) _ _ _ _); first | refine wg_tup2 ?_ | refine wg_tup3 ?_ | refine wg_tup4 ?_) | (with_reducible refine we_un ?_) | (with_reducible refine ws_asg ?_) | (with_reducible refine wg_name ?_) | (with_reducible refine wgs_cons ?_) | (with_reducible refine wgs_nil ?_)
  | (with_reducible refine wsl_T ?_) | (with_reducible refine wsl_L ?_)
  | (with_reducible refine wc_tupL ?_) | (with_reducible refine wc_listT ?_)
  | (with_reducible refine wc_isi (kit_int _) ?_) | (with_reducible refine wc_isi (kit_bool _) ?_) | (with_reducible refine wc_isi (kit_tuple _) ?_) | (with_reducible refine wc_isi (kit_list _) ?_) | (with_reducible refine wc_isi (kit_str _) ?_)
  | (with_reducible refine ex_b ?_) | (with_reducible refine ex_i ?_) | (with_reducible refine ex_t ?_) | (with_reducible refine ex_l ?_)
  | ((with_reducible show ∃ _, unD _ = some _ ∧ _); refine ⟨_, rfl, by simp, ?_⟩))
local macro_rules | `(tactic| walk_at "dw") => `(tactic| repeat' walk_at "dw1")

section
variable {P : Program} {w : World} {K : Frg} {mg : Str → Option Value} {base : Heap} {fa : Addr} {fd : FuncData}
/-! ### _law_call -/
abbrev s_law_call : Stmt := topS 35
abbrev N_law_call : List Str := ["_law_row", "_law_face_here", "_law_found", "_law_slots", "_law_many", "_law_k", "_law_name", "_law_sort", "_law_default_here"]
theorem sc_law_call : FnScope N_law_call ["_law_row", "_law_face_here"] (defScope s_law_call) := ⟨rfl, rfl, rfl, by decide +kernel, rfl, by decide +kernel, by decide +kernel⟩

abbrev sp_call (K : Frg) : Sp := SpA (α := RA × Face) K (fun a => [.o a.1.2, .d (encF a.2)]) (fun a μ => RowAt a.1.1 a.1.2 μ ∧ a.2.Ok) (fun a μ x μ' => (∃ c : List Thing, c.length ≤ 10 ∧ (∀ t ∈ c, t.Ok) ∧ x = .d (.list (c.map encT))) ∧ RowStep a.1.1 a.1.2 μ μ')
structure CallInv (ns : List Int) (row aF : Addr) (μ0 μ' : Mu) (n : Nat) (c : List Thing) : Prop where
  ra : RowAt ns row μ'
  off : OffRow row μ0 μ'
  mf : μ' aF = some (.lst (c.map fun t => .d (encT t)))
  ok : ∀ t ∈ c, t.Ok
  len : c.length ≤ n
theorem shp_things {c : List Thing} (h : ∀ t ∈ c, t.Ok) : Shp 8 (.list (c.map encT)) = true := by
  show (c.map encT).all (Shp 7) = true
  rw [List.all_eq_true]
  intro d hd
  obtain ⟨t, ht, rfl⟩ := List.mem_map.mp hd
  exact shp_mono (by decide) (shp_thing (h t ht))
section
variable {ns : List Int} {row aF : Addr} {μ0 μ' : Mu} {n : Nat} {c : List Thing}
theorem CallInv.step (I : CallInv ns row aF μ0 μ' n c) (hr : aF ≠ row) {μ1 : Mu} (s : RowStep ns row μ' μ1) : CallInv ns row aF μ0 μ1 n c := ⟨s.at, I.off.trans s.off, s.off _ _ hr I.mf, I.ok, I.len⟩
theorem CallInv.app (I : CallInv ns row aF μ0 μ' n c) (hr : aF ≠ row) (h0 : μ0 aF = none) {c' : List Thing} {xs : List PV} (hx : xs = c'.map fun t => .d (encT t)) (ok : ∀ t ∈ c', t.Ok) (hl : c'.length ≤ n + 1) : CallInv ns row aF μ0 (mset μ' aF (.lst xs)) (n + 1) c' :=
  ⟨I.ra.off hr, I.off.new h0, by rw [mset_same, hx], ok, hl⟩
end
theorem ok_call (F : Fun K "_law_call" "_law_call" s_law_call fa fd) (B : Blt mg) (C_law_taken : Cal P w K mg base CX0 1 "_law_taken" ["_law_row", "_law_many"] (sp_taken K)) (C_law_plain : Cal P w K mg base CX0 2 "_law_plain" ["_law_row"] (sp_plain K)) : FnOk P w K mg base CX0 3 fa fd ["_law_row", "_law_face_here"] (sp_call K) := by
  refine ok_D F sc_law_call (fun _ => rfl) (fun cdv A outer s H E hr a μ hp => ⟨_, (pss_cons (ps_set (i := 2) sc_law_call.nd rfl (Or.inl rfl) (pe_lst pa_nil))
      (pss_cons (ps_set (i := 3) sc_law_call.nd rfl (Or.inl rfl) (pe_ix (kix K) (pv 1) pe_int (fun _ _ => rfl)))
      (pss_cons (ps_set (i := 4) sc_law_call.nd rfl (Or.inl rfl) (pe_cal C_law_taken hr (pa_cons (pv 0) (pa_cons (pe_op op_add (pe_op op_add (pe_callB (klen K) (by rfl) B.len PySem.boot_len (pa_cons (pv 3) pa_nil)) pe_int) (pe_op op_mul pe_int (pe_callTy call_int1 (by rfl) B.int (by decide +kernel) (pa_cons (pe_ix (kix K) (pv 1) pe_int (fun _ _ => rfl)) pa_nil)))) pa_nil))))
      (pss_cons (ps_for PassesOwn.never rfl (pi_range1 rfl B.range (pa_cons (pe_callB (call_min2 rfl) (by rfl) B.min (by decide +kernel) (pa_cons (pv 4) (pa_cons pe_int pa_nil))) pa_nil)) (pg_name (i := 5) sc_law_call.nd rfl (Or.inl rfl)) (pss_one (ps_expr (pkBm K PySem.F.plainAttrs_list PySem.F.slot_list_append PySem.F.type_list_append mt_append (pv 2) (pa_cons (pe_tup (pa_cons pe_non (pa_cons (pe_cal C_law_plain hr (pa_cons (pv 0) pa_nil)) pa_nil))) pa_nil)))))
      (pss_cons (ps_for PassesOwn.never rfl (pi_range1 rfl B.range (pa_cons (pe_callB (klen K) (by rfl) B.len PySem.boot_len (pa_cons (pv 3) pa_nil)) pa_nil)) (pg_name (i := 5) sc_law_call.nd rfl (Or.inl rfl)) (pss_cons (ps_asg (pe_ix (kix K) (pv 3) (pv 5) (fun _ _ => rfl)) (pkTG K 3 (by rfl) (pgs_cons (pg_name (i := 6) sc_law_call.nd rfl (Or.inl rfl)) (pgs_cons (pg_name (i := 7) sc_law_call.nd rfl (Or.inl rfl)) (pgs_cons (pg_name (i := 8) sc_law_call.nd rfl (Or.inl rfl)) pgs_nil)))))
      (pss_one (ps_if (PW.pt (pw_and (PW.pt (pw_or (pt_cmpR op_ge (pv 5) (pv 4) (nomark _)) (pw_or1 (pt_cmpR (keq K hr) (pv 7) pe_str (nomark _))))) (pw_and (PW.pt (pw_or (pt_cmpR op_isN (pv 8) pe_non (nomark _)) (pw_or1 (pt_cmpR (keq K hr) (pe_cal C_law_taken hr (pa_cons (pv 0) (pa_cons pe_int pa_nil))) pe_int (nomark _))))) (pw_and1 (pt_cmpR op_gt (pe_cal C_law_taken hr (pa_cons (pv 0) (pa_cons pe_int pa_nil))) pe_int (nomark _)))))) (pss_one (ps_expr (pkBm K PySem.F.plainAttrs_list PySem.F.slot_list_insert PySem.F.type_list_insert mt_insert (pv 2) (pa_cons (pe_op op_sub (pe_callB (klen K) (by rfl) B.len PySem.boot_len (pa_cons (pv 2) pa_nil)) (pe_op op_mul (pe_cal C_law_taken hr (pa_cons (pv 0) (pa_cons pe_int pa_nil))) (pe_callTy call_int1 (by rfl) B.int (by decide +kernel) (pa_cons (pe_cmpR (kne K hr) (pv 2) (pe_lst pa_nil) (nomark _)) pa_nil)))) (pa_cons (pe_tup (pa_cons (pv 6) (pa_cons (pe_cal C_law_plain hr (pa_cons (pv 0) pa_nil)) pa_nil))) pa_nil))))) pss_nil))))
      (pss_cons (ps_for PassesOwn.never rfl (pi_range1 rfl B.range (pa_cons (pe_cal C_law_taken hr (pa_cons (pv 0) (pa_cons (pe_ix (kix K) (pe_lst (pa_cons pe_int (pa_cons pe_int pa_nil))) (pe_callTy call_int1 (by rfl) B.int (by decide +kernel) (pa_cons (pe_ix (kix K) (pv 1) pe_int (fun _ _ => rfl)) pa_nil)) (fun _ _ => rfl)) pa_nil))) pa_nil)) (pg_name (i := 5) sc_law_call.nd rfl (Or.inl rfl)) (pss_one (ps_expr (pkBm K PySem.F.plainAttrs_list PySem.F.slot_list_append PySem.F.type_list_append mt_append (pv 2) (pa_cons (pe_tup (pa_cons (pe_cal C_law_taken hr (pa_cons (pv 0) (pa_cons pe_int pa_nil))) (pa_cons (pe_cal C_law_plain hr (pa_cons (pv 0) pa_nil)) pa_nil))) pa_nil)))))
      (pss_one (ps_ret (pe_slice (kslL K) (pv 2) po_none (po_some pe_int)))))))))), fun G0 => ?_⟩)
  obtain ⟨⟨ns, row⟩, face⟩ := a
  obtain ⟨hR, hF⟩ := hp
  try dsimp only [cxOf, Cx.nox] at hR hF ⊢
  have hlen := hF.len
  walk_at "dw"
  refine we_lstM ?_
  walk_at "dw"
  refine ⟨by simp, fun aF h0 => ?_⟩
  have hr0 : aF ≠ row := hR.ne h0
  have I0 : CallInv ns row aF μ (mset μ aF (.lst [])) 0 [] := ⟨hR.off hr0, OffRow.refl.new h0, mset_same, fun t h => (by cases h), Nat.le_refl _⟩
  generalize mset μ aF (.lst []) = μ1 at I0 ⊢
  walk_at "dw"
  refine w2_ixT ati_0 ?_
  walk_at "dw"
  refine w2_ixT ati_1 ?_
  walk_at "dw"
  refine w2_Ii (.inl ⟨by decide, by decide⟩) ?_
  walk_at "dw"
  rw [List.length_map]
  generalize hk : (face.slots.length : Int) + 2 + 2 * (if face.rest = true then (1 : Int) else 0) = kk
  have hk0 : 0 < kk := by rw [← hk]; split <;> omega
  have hk1 : kk ≤ 10 := by rw [← hk]; split <;> omega
  refine ⟨((ns, row), kk), rfl, ⟨I0.ra, hk0, by show kk ≤ 1000000; omega⟩, ?_⟩
  rintro _ μ2 ⟨⟨many, rfl, m0, m1⟩, s2⟩
  have m1 : many < kk := m1
  have I1 := I0.step hr0 s2
  walk_at "dw"
  refine ws_for (wi_rng ?_)
  walk_at "dw"
  have hmn : (if (10 : Int) < many then (10 : Int) else many) = many := by rw [if_neg (by omega)]
  rw [hmn]
  refine ⟨_, rfl, by omega, by omega, ?_⟩
  refine ⟨fun i ρ μ' => ∃ c, CallInv ns row aF μ μ' i c ∧ ∃ v, ρ = [some (.o row), some (.d (encF face)), some (.o aF), some (.t (face.slots.map encS)), some (.i many), v, none, none, none], ⟨[], I1, none, rfl⟩, fun _ _ _ _ _ => trivial, ?_, ?_⟩
  · rintro i x ρ μ' hx ⟨c, I, v, rfl⟩
    have hi : i < many.toNat := by
      have := (List.getElem?_eq_some_iff.mp hx).1
      simpa using this
    rw [List.getElem?_map, List.getElem?_range hi] at hx
    cases hx
    walk_at "dw"
    refine ⟨tyd_o I.mf, ?_⟩
    walk_at "dw"
    refine ⟨(ns, row), rfl, I.ra, ?_⟩
    rintro _ μ3 ⟨⟨e, he, rfl⟩, s3⟩
    have I3 := I.step hr0 s3
    walk_at "dw"
    refine wm_append I3.mf (by rw [List.length_map]; have := I3.len; omega) ?_
    refine ⟨c ++ [⟨none, e⟩], I3.app hr0 h0 (by rw [List.map_append]; rfl) ?_ (by have := I3.len; simp; omega), _, rfl⟩
    intro t ht
    rcases List.mem_append.mp ht with ht | ht
    · exact I3.ok t ht
    · simp only [List.mem_singleton] at ht; subst ht; exact ⟨fun n h => (by cases h), he⟩
  rintro ρ μ' ⟨c, I, v, rfl⟩
  rw [List.length_map, List.length_range] at I
  walk_at "dw"
  refine ws_for (wi_rng ?_)
  walk_at "dw"
  rw [List.length_map]
  refine ⟨_, rfl, by omega, by omega, ?_⟩
  rw [Int.toNat_natCast]
  refine ⟨fun i ρ μ' => ∃ c, CallInv ns row aF μ μ' (many.toNat + i) c ∧ ∃ v1 v2 v3 v4, ρ = [some (.o row), some (.d (encF face)), some (.o aF), some (.t (face.slots.map encS)), some (.i many), v1, v2, v3, v4], ⟨c, I, _, _, _, _, rfl⟩, fun _ _ _ _ _ => trivial, ?_, ?_⟩
  · rintro i x ρ μ' hx ⟨c, I, v1, v2, v3, v4, rfl⟩
    have hi : i < face.slots.length := by
      have := (List.getElem?_eq_some_iff.mp hx).1
      simpa using this
    rw [List.getElem?_map, List.getElem?_range hi] at hx
    cases hx
    have hSl := hF.each i hi
    have stay : ∀ μ2, CallInv ns row aF μ μ2 (many.toNat + i) c → ∃ c', CallInv ns row aF μ μ2 (many.toNat + (i + 1)) c' ∧ ∃ v1 v2 v3 v4, [some (PV.o row), some (.d (encF face)), some (.o aF), some (.t (face.slots.map encS)), some (.i many), some (.i (i : Int)), some (.i face.slots[i].name), some (.s face.slots[i].sort.str), some (.d (encO face.slots[i].dflt))] = [some (.o row), some (.d (encF face)), some (.o aF), some (.t (face.slots.map encS)), some (.i many), v1, v2, v3, v4] :=
      fun μ2 I2 => ⟨c, ⟨I2.ra, I2.off, I2.mf, I2.ok, by have := I2.len; omega⟩, _, _, _, _, rfl⟩
    walk_at "dw"
    refine w2_ixT (ati_n (d := encS face.slots[i]) (by rw [List.getElem?_map, List.getElem?_eq_getElem hi]; rfl)) ?_
    refine wg_tup3 ?_
    refine wgs_cons (wg_name (wgs_cons (wg_name (wgs_cons (wg_name (wgs_nil ?_))))))
    refine ws_if (wt_mono (Q' := fun _ μ2 => RowStep ns row μ' μ2) ?test fun b μ2 s2 => ⟨fun _ => ?body, fun _ => ?next⟩)
    case next =>
      walk_at "dw"
      exact stay μ2 (I.step hr0 s2)
    case body =>
      have I2 := I.step hr0 s2
      walk_at "dw"
      refine ⟨tyd_o I2.mf, ?_⟩
      walk_at "dw"
      refine wc_lenO I2.mf ?_
      rw [List.length_map]
      walk_at "dw"
      refine ⟨((ns, row), 2), rfl, ⟨I2.ra, by simp, by simp⟩, ?_⟩
      rintro _ μ3 ⟨⟨y, rfl, y0, y1⟩, s3⟩
      have y1 : y < 2 := y1
      have I3 := I2.step hr0 s3
      walk_at "dw"
      refine we_lst ?_
      walk_at "dw"
      refine w2_neO (ds := c.map encT) (by rw [I3.mf, List.map_map]; rfl) (shaped_of 8 (shp_things I3.ok)) rfl ?_
      rw [eqv_list_nil]
      walk_at "dw"
      refine w2_Ii (.inl ⟨by show -(2 ^ 64) < y; omega, by show y < 2 ^ 64; omega⟩) ?_
      walk_at "dw"
      refine ⟨(ns, row), rfl, I3.ra, ?_⟩
      rintro _ μ4 ⟨⟨e, he, rfl⟩, s4⟩
      have I4 := I3.step hr0 s4
      walk_at "dw"
      have hll := I4.len
      have hb0 : 0 ≤ y * (if (!(c.map encT).isEmpty) = true then (1 : Int) else 0) ∧ y * (if (!(c.map encT).isEmpty) = true then (1 : Int) else 0) ≤ (c.length : Int) := by
        cases hc : c with
        | nil => simp
        | cons a r => simp; omega
      generalize y * (if (!(c.map encT).isEmpty) = true then (1 : Int) else 0) = z at hb0 ⊢
      refine wm_insert I4.mf (by rw [List.length_map]; omega) (by omega) (by omega) ?_
      refine ⟨c.take ((c.length : Int) - z).toNat ++ [⟨some face.slots[i].name, e⟩] ++ c.drop ((c.length : Int) - z).toNat, ?_, _, _, _, _, rfl⟩
      refine I4.app hr0 h0 ?_ ?_ ?_
      · simp only [List.map_append, List.map_take, List.map_drop, List.map_cons, List.map_nil]; rfl
      · intro t ht
        simp only [List.mem_append, List.mem_singleton] at ht
        rcases ht with (ht | rfl) | ht
        · exact I4.ok t (List.mem_of_mem_take ht)
        · exact ⟨fun n h => (by cases h; exact ⟨hSl.n0, hSl.n1⟩), he⟩
        · exact I4.ok t (List.mem_of_mem_drop ht)
      · simp only [List.length_append, List.length_take, List.length_drop, List.length_singleton]; omega
    case test =>
      have last : ∀ μ2, RowStep ns row μ' μ2 → Wt K G0 (tTest (tOp (rI0 fun i j => .bl (decide (j < i))) (tCall (sp_taken K) [] E0 (tCons (tVar 0) (tCons (tC (.int 12)) tNil))) (tC (.int 0)))) [some (.o row), some (.d (encF face)), some (.o aF), some (.t (face.slots.map encS)), some (.i many), some (.i (i : Int)), some (.i face.slots[i].name), some (.s face.slots[i].sort.str), some (.d (encO face.slots[i].dflt))] μ2 fun b μ2 => RowStep ns row μ' μ2 := by
        intro μ2 s2
        walk_at "dw"
        refine ⟨((ns, row), 12), rfl, ⟨s2.at, by simp, by simp⟩, ?_⟩
        rintro _ μ3 ⟨⟨y, rfl, y0, y1⟩, s3⟩
        walk_at "dw"
        exact s2.trans s3
      have inner : Wt K G0 (tAnd (tOr (tTest (tOp (fun x y H Q => y = .non ∧ Q (.bl (decide (x = .non))) H) (tVar 8) (tC .non))) (tTest (tOp (rEqD K) (tCall (sp_taken K) [] E0 (tCons (tVar 0) (tCons (tC (.int 2)) tNil))) (tC (.int 1))))) (tTest (tOp (rI0 fun i j => .bl (decide (j < i))) (tCall (sp_taken K) [] E0 (tCons (tVar 0) (tCons (tC (.int 12)) tNil))) (tC (.int 0)))))
          [some (.o row), some (.d (encF face)), some (.o aF), some (.t (face.slots.map encS)), some (.i many), some (.i (i : Int)), some (.i face.slots[i].name), some (.s face.slots[i].sort.str), some (.d (encO face.slots[i].dflt))] μ' fun b μ2 => RowStep ns row μ' μ2 := by
        walk_at "dw"
        refine ⟨fun h => ?_, fun h => ?_⟩
        · exact ⟨fun _ => last μ' (RowStep.refl I.ra), fun h => (nomatch h)⟩
        · walk_at "dw"
          refine ⟨((ns, row), 2), rfl, ⟨I.ra, by simp, by simp⟩, ?_⟩
          rintro _ μ2 ⟨⟨y, rfl, y0, y1⟩, s2⟩
          walk_at "dw"
          refine w2_eqD rfl rfl ?_
          walk_at "dw"
          exact ⟨fun _ => last μ2 s2, fun _ => s2⟩
      walk_at "dw"
      refine ⟨fun h => ?_, fun h => ?_⟩
      · exact ⟨fun _ => inner, fun h => (nomatch h)⟩
      · walk_at "dw"
        refine w2_eqD (shp_srt _) (by decide +kernel) ?_
        walk_at "dw"
        exact ⟨fun _ => inner, fun _ => RowStep.refl I.ra⟩
  rintro ρ μ' ⟨c, I, v1, v2, v3, v4, rfl⟩
  rw [List.length_map, List.length_range] at I
  walk_at "dw"
  refine ws_for (wi_rng ?_)
  walk_at "dw"
  refine we_lst ?_
  walk_at "dw"
  refine w2_ixT ati_2 ?_
  walk_at "dw"
  obtain ⟨q, hq, hat⟩ : ∃ q : Int, (q = 2 ∨ q = 4) ∧ atI [PyData.int 2, PyData.int 4] (if face.more = true then 1 else 0) = some (.int q) := by
    cases face.more
    · exact ⟨2, .inl rfl, rfl⟩
    · exact ⟨4, .inr rfl, rfl⟩
  refine w2_ixL hat ?_
  walk_at "dw"
  refine ⟨((ns, row), q), rfl, ⟨I.ra, by show 0 < q; omega, by show q ≤ 1000000; omega⟩, ?_⟩
  rintro _ μ3 ⟨⟨nm, rfl, n0, n1⟩, s3⟩
  have n1 : nm < q := n1
  have I3 := I.step hr0 s3
  walk_at "dw"
  refine ⟨_, rfl, by omega, by omega, ?_⟩
  refine ⟨fun i ρ μ' => ∃ c, CallInv ns row aF μ μ' (many.toNat + face.slots.length + i) c ∧ ∃ v, ρ = [some (.o row), some (.d (encF face)), some (.o aF), some (.t (face.slots.map encS)), some (.i many), v, v2, v3, v4], ⟨c, I3, _, rfl⟩, fun _ _ _ _ _ => trivial, ?_, ?_⟩
  · rintro i x ρ μ' hx ⟨c, I, v, rfl⟩
    have hi : i < nm.toNat := by
      have := (List.getElem?_eq_some_iff.mp hx).1
      simpa using this
    walk_at "dw"
    refine ⟨tyd_o I.mf, ?_⟩
    walk_at "dw"
    refine ⟨((ns, row), 10), rfl, ⟨I.ra, by simp, by simp⟩, ?_⟩
    rintro _ μ4 ⟨⟨y, rfl, y0, y1⟩, s4⟩
    have I4 := I.step hr0 s4
    walk_at "dw"
    refine ⟨(ns, row), rfl, I4.ra, ?_⟩
    rintro _ μ5 ⟨⟨e, he, rfl⟩, s5⟩
    have I5 := I4.step hr0 s5
    walk_at "dw"
    refine wm_append I5.mf (by rw [List.length_map]; have := I5.len; omega) ?_
    refine ⟨c ++ [⟨some y, e⟩], I5.app hr0 h0 (by rw [List.map_append]; rfl) ?_ (by have := I5.len; simp; omega), _, rfl⟩
    intro t ht
    rcases List.mem_append.mp ht with ht | ht
    · exact I5.ok t ht
    · simp only [List.mem_singleton] at ht; subst ht; exact ⟨fun n h => (by cases h; exact ⟨y0, y1⟩), he⟩
  rintro ρ μ' ⟨c, I, v, rfl⟩
  walk_at "dw"
  refine wsl_O (ds := c.map encT) (by rw [I.mf, List.map_map]; rfl) ?_
  obtain ⟨μ'', hsub, hst⟩ := row_end I.ra I.off
  refine ⟨μ'', hsub, ⟨c.take 10, by rw [List.length_take]; omega, fun t ht => I.ok t (List.mem_of_mem_take ht), ?_⟩, hst⟩
  unfold Dw.cutD
  rw [HT.sIx_none, show HT.sIx (c.map encT).length (c.map encT).length (some 10) = min 10 (c.map encT).length from HT.sIx_nat _ _ 10, List.drop_zero, Nat.sub_zero, List.map_take, ← List.take_take, List.take_length]
end
end Sc

namespace Sc
open PySem L2 PyProof.Rows Dw
local macro_rules | `(tactic| walk_at "dw1") => `(tactic| first
  | (with_reducible refine ws_seq ?_) | (with_reducible refine ws_ret ?_) | (with_reducible refine ws_set ?_) | (with_reducible refine ws_drop ?_) | (with_reducible refine ws_if ?_) | (with_reducible refine ws_next ?_)
  | ((with_reducible show We _ _ (tVar _) _ _ _); refine we_var rfl ?_) | (with_reducible refine we_int ?_) | (with_reducible refine we_bl ?_) | (with_reducible refine we_str ?_) | (with_reducible refine we_non ?_) | (with_reducible refine we_ty ?_)
  | (with_reducible refine we_op ?_) | (with_reducible refine we_isiT ?_) | (with_reducible refine we_cb ?_) | (with_reducible refine wa_cons ?_) | (with_reducible refine wa_nil ?_)
  | (with_reducible refine we_and ?_) | (with_reducible refine we_or ?_) | (with_reducible refine we_not ?_) | (with_reducible refine we_if ?_) | (with_reducible refine we_chain ?_)
  | (with_reducible refine we_fld ?_) | (with_reducible refine we_bm ?_) | (with_reducible refine we_bm0 ?_) | (with_reducible refine we_sl ?_) | (with_reducible refine wo_none ?_) | (with_reducible refine wo_some ?_)
  | (with_reducible refine wt_test ?_) | (with_reducible refine wt_B ?_) | (with_reducible refine wt_and ?_) | (with_reducible refine wt_or ?_) | (with_reducible refine wt_not ?_) | (with_reducible refine wt_yes ?_)
  | (with_reducible refine w2_I0i ?_) | (with_reducible refine w2_I0b ?_) | (with_reducible refine w2_isN ?_) | (with_reducible refine w2_notN ?_)
  | (with_reducible refine we_callL ?_) | (with_reducible refine we_call ?_) | (with_reducible refine we_tup ?_)
  | (with_reducible refine wc_lenT ?_) | (with_reducible refine wc_lenL ?_) | (with_reducible refine wc_lenS ?_) | (with_reducible refine wc_intB ?_) | (with_reducible refine wc_min2 ?_)
  | ((with_reducible show Wg _ _ (gTup _ _ _) _ _ _ _); first | refine wg_tup2 ?_ | refine wg_tup3 ?_ | refine wg_tup4 ?_) | (with_reducible refine we_un ?_) | (with_reducible refine ws_asg ?_) | (with_reducible refine wg_name ?_) | (with_reducible refine wgs_cons ?_) | (with_reducible refine wgs_nil ?_)
  | (with_reducible refine wsl_T ?_) | (with_reducible refine wsl_L ?_)
  | (with_reducible refine wc_tupL ?_) | (with_reducible refine wc_listT ?_)
  | (with_reducible refine wc_isi (kit_int _) ?_) | (with_reducible refine wc_isi (kit_bool _) ?_) | (with_reducible refine wc_isi (kit_tuple _) ?_) | (with_reducible refine wc_isi (kit_list _) ?_) | (with_reducible refine wc_isi (kit_str _) ?_)
  | (with_reducible refine ex_b ?_) | (with_reducible refine ex_i ?_) | (with_reducible refine ex_t ?_) | (with_reducible refine ex_l ?_)
  | ((with_reducible show ∃ _, unD _ = some _ ∧ _); refine ⟨_, rfl, by simp, ?_⟩))
local macro_rules | `(tactic| walk_at "dw") => `(tactic| repeat' walk_at "dw1")

section
variable {P : Program} {w : World} {K : Frg} {mg : Str → Option Value} {base : Heap} {fa : Addr} {fd : FuncData}
/-! ### _law_alike, of one and the same data -/
abbrev s_law_alike : Stmt := topS 31
abbrev N_law_alike : List Str := ["_law_found", "_law_due", "_law_k"]
theorem sc_law_alike : FnScope N_law_alike ["_law_found", "_law_due"] (defScope s_law_alike) := ⟨rfl, rfl, rfl, by decide +kernel, rfl, by decide +kernel, by decide +kernel⟩

abbrev sp_alike (n : Nat) (K : Frg) : Sp := SpA (α := PyData) K (fun a => [.d a, .d a]) (fun a _ => Shp n a = true ∧ ∀ xs, (a = .tuple xs ∨ a = .list xs) → xs.length ≤ 1000) (fun _ μ x μ' => x = .b true ∧ μ = μ')
abbrev sp_alikeS (n : Nat) (K : Frg) : Sp := SpA (α := PyData) K (fun a => [.d a, .d a]) (fun a _ => Small n a) (fun _ μ x μ' => x = .b true ∧ μ = μ')
theorem body_alike (n : Nat) (hn : n ≤ 60) (F : Fun K "_law_alike" "_law_alike" s_law_alike fa fd) (B : Blt mg)
    (C_law_alike : Cal P w K mg base CX0 n "_law_alike" ["_law_found", "_law_due"] (SpA (α := PyData) K (fun a => [.d a, .d a]) (fun a _ => ∃ m, n = m + 1 ∧ Small m a) (fun _ μ x μ' => x = .b true ∧ μ = μ'))) : FnOk P w K mg base CX0 (n + 1) fa fd ["_law_found", "_law_due"] (sp_alikeS n K) := by
  refine ok_D F sc_law_alike (fun _ => rfl) (fun cdv A outer s H E hr d μ hp => ⟨_, (pss_cons (ps_if (PW.pt (pw_or (pt_val (pe_callB (kisi K) (by rfl) B.isinstance (by decide +kernel) (pa_cons (pv 1) (pa_cons (pe_bltn (v := .ty "tuple") (by rfl) B.tuple (by decide +kernel) rfl) pa_nil)))) (pw_or1 (pt_val (pe_callB (kisi K) (by rfl) B.isinstance (by decide +kernel) (pa_cons (pv 1) (pa_cons (pe_bltn (v := .ty "list") (by rfl) B.list (by decide +kernel) rfl) pa_nil))))))) (pss_cons (ps_if (PW.pt (pw_or (pt_cmpR (kne K hr) (pe_callB (kisi K) (by rfl) B.isinstance (by decide +kernel) (pa_cons (pv 0) (pa_cons (pe_bltn (v := .ty "tuple") (by rfl) B.tuple (by decide +kernel) rfl) pa_nil))) (pe_callB (kisi K) (by rfl) B.isinstance (by decide +kernel) (pa_cons (pv 1) (pa_cons (pe_bltn (v := .ty "tuple") (by rfl) B.tuple (by decide +kernel) rfl) pa_nil))) (nomark _)) (pw_or1 (pt_not (pt_val (pe_callB (kisiT K) (by rfl) B.isinstance (by decide +kernel) (pa_cons (pv 0) (pa_cons (pe_tup (pa_cons (pe_bltn (v := .ty "tuple") (by rfl) B.tuple (by decide +kernel) rfl) (pa_cons (pe_bltn (v := .ty "list") (by rfl) B.list (by decide +kernel) rfl) pa_nil))) pa_nil)))))))) (pss_one (ps_ret pe_bl)) pss_nil)
      (pss_cons (ps_if (pt_cmpR (kne K hr) (pe_callB (klen K) (by rfl) B.len PySem.boot_len (pa_cons (pv 0) pa_nil)) (pe_callB (klen K) (by rfl) B.len PySem.boot_len (pa_cons (pv 1) pa_nil)) (nomark _)) (pss_one (ps_ret pe_bl)) pss_nil)
      (pss_one (ps_ret (pe_cmpR (keq K hr) (pe_lc (own := [("_law_k", 2)]) (g := (gName 2)) rfl sc_law_alike.nd (pi_range1 rfl B.range (pa_cons (pe_callB (klen K) (by rfl) B.len PySem.boot_len (pa_cons (pv 1) pa_nil)) pa_nil)) (blkOk_by (own := [("_law_k", 2)]) (N := N_law_alike) (sc := defScope s_law_alike) (by decide +kernel)) (fun _ _ _ _ _ => (pg_name (i := 2) sc_law_alike.nd rfl (by first | exact Or.inl rfl | exact Or.inr rfl))) (fun _ _ _ _ _ => (pts_one (pt_not (pt_val (pe_cal C_law_alike hr (pa_cons (pe_ix (kix K) (pv 0) (pv 2) (fun _ _ => rfl)) (pa_cons (pe_ix (kix K) (pv 1) (pv 2) (fun _ _ => rfl)) pa_nil))))))) (fun _ _ _ _ _ => (pv 2))) (pe_lst pa_nil) (nomark _)))))) pss_nil)
      (pss_cons (ps_if (PW.pt (pw_or (pt_cmpR op_isN (pv 1) pe_non (nomark _)) (pw_or1 (pt_cmpR op_isN (pv 0) pe_non (nomark _))))) (pss_one (ps_ret (pe_and (pe_cmpR op_isN (pv 1) pe_non (nomark _)) (pe_one (pe_cmpR op_isN (pv 0) pe_non (nomark _)))))) pss_nil)
      (pss_cons (ps_if (PW.pt (pw_or (pt_val (pe_callB (kisi K) (by rfl) B.isinstance (by decide +kernel) (pa_cons (pv 1) (pa_cons (pe_bltn (v := .ty "bool") (by rfl) B.bool (by decide +kernel) rfl) pa_nil)))) (pw_or1 (pt_val (pe_callB (kisi K) (by rfl) B.isinstance (by decide +kernel) (pa_cons (pv 0) (pa_cons (pe_bltn (v := .ty "bool") (by rfl) B.bool (by decide +kernel) rfl) pa_nil))))))) (pss_one (ps_ret (pe_and (pe_callB (kisi K) (by rfl) B.isinstance (by decide +kernel) (pa_cons (pv 1) (pa_cons (pe_bltn (v := .ty "bool") (by rfl) B.bool (by decide +kernel) rfl) pa_nil))) (pe_and (pe_callB (kisi K) (by rfl) B.isinstance (by decide +kernel) (pa_cons (pv 0) (pa_cons (pe_bltn (v := .ty "bool") (by rfl) B.bool (by decide +kernel) rfl) pa_nil))) (pe_one (pe_cmpR (keq K hr) (pv 0) (pv 1) (nomark _))))))) pss_nil)
      (pss_cons (ps_if (pt_val (pe_callB (kisi K) (by rfl) B.isinstance (by decide +kernel) (pa_cons (pv 1) (pa_cons (pe_bltn (v := .ty "str") (by rfl) B.str (by decide +kernel) rfl) pa_nil)))) (pss_one (ps_ret (pe_and (pe_callB (kisi K) (by rfl) B.isinstance (by decide +kernel) (pa_cons (pv 0) (pa_cons (pe_bltn (v := .ty "str") (by rfl) B.str (by decide +kernel) rfl) pa_nil))) (pe_one (pe_cmpR (keq K hr) (pv 0) (pv 1) (nomark _)))))) pss_nil)
      (pss_one (ps_ret (pe_and (pe_callB (kisi K) (by rfl) B.isinstance (by decide +kernel) (pa_cons (pv 0) (pa_cons (pe_bltn (v := .ty "int") (by rfl) B.int (by decide +kernel) rfl) pa_nil))) (pe_one (pe_cmpR (keq K hr) (pv 0) (pv 1) (nomark _)))))))))), fun G0 => ?_⟩)
  have hS : Small n d := hp
  have hsh := hS.shp
  try dsimp only [cxOf, Cx.nox]
  have seq : ∀ xs : List PyData, (d = .tuple xs ∨ d = .list xs) → ∃ m, n = m + 1 ∧ xs.length ≤ 1000 ∧ ∀ x ∈ xs, Small m x := by
    intro xs hx
    cases n with
    | zero => rcases hx with rfl | rfl <;> cases hsh
    | succ m => rcases hx with rfl | rfl <;> exact ⟨m, rfl, hS.2.1, hS.2.2⟩
  cases d with
  | none =>
    walk_at "dw"
    refine ⟨fun h => (nomatch h), fun _ => ?_⟩
    walk_at "dw"
    refine ⟨fun h => (nomatch h), fun _ => ?_⟩
    walk_at "dw"
    refine ⟨fun _ => ⟨fun _ => ?_, fun h => (nomatch h)⟩, fun h => (nomatch h)⟩
    walk_at "dw"
    refine ⟨fun _ => ?_, fun h => (nomatch h)⟩
    walk_at "dw"
    exact ⟨_, Sub.refl _, rfl, rfl⟩
  | bool b =>
    walk_at "dw"
    refine ⟨fun h => (nomatch h), fun _ => ?_⟩
    walk_at "dw"
    refine ⟨fun h => (nomatch h), fun _ => ?_⟩
    walk_at "dw"
    refine ⟨fun h => (nomatch h), fun _ => ?_⟩
    walk_at "dw"
    refine ⟨fun h => (nomatch h), fun _ => ?_⟩
    walk_at "dw"
    refine ⟨fun _ => ⟨fun _ => ?_, fun h => (nomatch h)⟩, fun h => (nomatch h)⟩
    walk_at "dw"
    refine ⟨fun _ => ?_, fun h => (nomatch h)⟩
    walk_at "dw"
    refine ⟨fun _ => ?_, fun h => (nomatch h)⟩
    walk_at "dw"
    refine w2_eqD rfl rfl ?_
    exact ⟨_, Sub.refl _, by rw [eqv_same hsh], rfl⟩
  | int i =>
    walk_at "dw"
    refine ⟨fun h => (nomatch h), fun _ => ?_⟩
    walk_at "dw"
    refine ⟨fun h => (nomatch h), fun _ => ?_⟩
    walk_at "dw"
    refine ⟨fun h => (nomatch h), fun _ => ?_⟩
    walk_at "dw"
    refine ⟨fun h => (nomatch h), fun _ => ?_⟩
    walk_at "dw"
    refine ⟨fun h => (nomatch h), fun _ => ?_⟩
    walk_at "dw"
    refine ⟨fun h => (nomatch h), fun _ => ?_⟩
    walk_at "dw"
    refine ⟨fun h => (nomatch h), fun _ => ?_⟩
    walk_at "dw"
    refine ⟨fun _ => ?_, fun h => (nomatch h)⟩
    walk_at "dw"
    refine w2_eqD rfl rfl ?_
    exact ⟨_, Sub.refl _, by rw [eqv_same hsh], rfl⟩
  | str x =>
    have hs0 : SeqAt.shaped (.str x) = true := shaped_of 0 (by cases n <;> exact hsh)
    walk_at "dw"
    refine ⟨fun h => (nomatch h), fun _ => ?_⟩
    walk_at "dw"
    refine ⟨fun h => (nomatch h), fun _ => ?_⟩
    walk_at "dw"
    refine ⟨fun h => (nomatch h), fun _ => ?_⟩
    walk_at "dw"
    refine ⟨fun h => (nomatch h), fun _ => ?_⟩
    walk_at "dw"
    refine ⟨fun h => (nomatch h), fun _ => ?_⟩
    walk_at "dw"
    refine ⟨fun h => (nomatch h), fun _ => ?_⟩
    walk_at "dw"
    refine ⟨fun _ => ?_, fun h => (nomatch h)⟩
    walk_at "dw"
    refine ⟨fun _ => ?_, fun h => (nomatch h)⟩
    walk_at "dw"
    refine w2_eqD hs0 hs0 ?_
    exact ⟨_, Sub.refl _, by rw [eqv_same hsh], rfl⟩
  | dict kvs => cases n <;> cases hsh
  | tuple xs =>
    obtain ⟨m, hm, hl, hall⟩ := seq xs (.inl rfl)
    walk_at "dw"
    refine ⟨fun _ => ⟨fun _ => ?_, fun h => (nomatch h)⟩, fun h => (nomatch h)⟩
    walk_at "dw"
    refine w2_neD rfl rfl ?_
    walk_at "dw"
    refine ⟨fun h => (nomatch h), fun _ => ?_⟩
    walk_at "dw"
    refine ⟨_, _, _, rfl, kit_tuple _, kit_list _, ?_⟩
    walk_at "dw"
    refine ⟨fun h => (nomatch h), fun _ => ?_⟩
    walk_at "dw"
    refine w2_neD rfl rfl ?_
    rw [eqv_int, decide_eq_true rfl]
    walk_at "dw"
    refine ⟨fun h => (nomatch h), fun _ => ?_⟩
    walk_at "dw"
    refine we_lcA (List.range xs.length) (fun (k : Nat) => PV.i (k : Int)) (fun _ => false) (fun (k : Nat) => PyData.int (k : Int)) (wi_rng ?_)
    walk_at "dw"
    refine ⟨_, rfl, by omega, by omega, ?_⟩
    rw [Int.toNat_natCast]
    refine ⟨rfl, by rw [List.length_range]; omega, fun _ _ => trivial, fun k hk μ1 hs1 => ?_, ?_⟩
    · have hk' : k < xs.length := List.mem_range.mp hk
      have hget : xs[k]? = some xs[k] := List.getElem?_eq_getElem hk'
      walk_at "dw"
      refine w2_ixT (ati_n hget) ?_
      walk_at "dw"
      refine w2_ixT (ati_n hget) ?_
      walk_at "dw"
      refine ⟨xs[k], rfl, ⟨m, hm, hall _ (List.getElem_mem hk')⟩, ?_⟩
      rintro _ _ ⟨rfl, rfl⟩
      walk_at "dw"
      exact ⟨Sub.refl _, rfl, fun h => (nomatch h)⟩
    refine we_lst ?_
    walk_at "dw"
    rw [List.filter_eq_nil_iff.mpr (fun _ _ => Bool.false_ne_true)]
    refine w2_eqD rfl rfl ?_
    exact ⟨_, Sub.refl _, rfl, rfl⟩
  | list xs =>
    obtain ⟨m, hm, hl, hall⟩ := seq xs (.inr rfl)
    walk_at "dw"
    refine ⟨fun h => (nomatch h), fun _ => ?_⟩
    walk_at "dw"
    refine ⟨fun _ => ?_, fun h => (nomatch h)⟩
    walk_at "dw"
    refine w2_neD rfl rfl ?_
    walk_at "dw"
    refine ⟨fun h => (nomatch h), fun _ => ?_⟩
    walk_at "dw"
    refine ⟨_, _, _, rfl, kit_tuple _, kit_list _, ?_⟩
    walk_at "dw"
    refine ⟨fun h => (nomatch h), fun _ => ?_⟩
    walk_at "dw"
    refine w2_neD rfl rfl ?_
    rw [eqv_int, decide_eq_true rfl]
    walk_at "dw"
    refine ⟨fun h => (nomatch h), fun _ => ?_⟩
    walk_at "dw"
    refine we_lcA (List.range xs.length) (fun (k : Nat) => PV.i (k : Int)) (fun _ => false) (fun (k : Nat) => PyData.int (k : Int)) (wi_rng ?_)
    walk_at "dw"
    refine ⟨_, rfl, by omega, by omega, ?_⟩
    rw [Int.toNat_natCast]
    refine ⟨rfl, by rw [List.length_range]; omega, fun _ _ => trivial, fun k hk μ1 hs1 => ?_, ?_⟩
    · have hk' : k < xs.length := List.mem_range.mp hk
      have hget : xs[k]? = some xs[k] := List.getElem?_eq_getElem hk'
      walk_at "dw"
      refine w2_ixL (ati_n hget) ?_
      walk_at "dw"
      refine w2_ixL (ati_n hget) ?_
      walk_at "dw"
      refine ⟨xs[k], rfl, ⟨m, hm, hall _ (List.getElem_mem hk')⟩, ?_⟩
      rintro _ _ ⟨rfl, rfl⟩
      walk_at "dw"
      exact ⟨Sub.refl _, rfl, fun h => (nomatch h)⟩
    refine we_lst ?_
    walk_at "dw"
    rw [List.filter_eq_nil_iff.mpr (fun _ _ => Bool.false_ne_true)]
    refine w2_eqD rfl rfl ?_
    exact ⟨_, Sub.refl _, rfl, rfl⟩
theorem ok_alike (F : Fun K "_law_alike" "_law_alike" s_law_alike fa fd) (B : Blt mg) (gl : mg "_law_alike" = some (.ref fa)) (bn : Binds K fd ["_law_found", "_law_due"] []) : ∀ n : Nat, n ≤ 60 → FnOk P w K mg base CX0 (n + 1) fa fd ["_law_found", "_law_due"] (sp_alikeS n K) := by
  intro n
  induction n with
  | zero =>
    intro _
    refine body_alike 0 (by decide) F B ⟨fa, fd, gl, F.kp, bn, ⟨fun vs H Q E h => ?_, fun _ _ _ _ _ _ _ _ _ _ _ _ _ h => ?_⟩⟩
    · obtain ⟨_, _, _, _, _, ⟨m, hm, _⟩, _⟩ := h; cases hm
    · obtain ⟨_, _, _, _, _, ⟨m, hm, _⟩, _⟩ := h; cases hm
  | succ n ih =>
    intro hn
    refine body_alike (n + 1) hn F B ⟨fa, fd, gl, F.kp, bn, (ih (by omega)).imp fun vs H Q E h => ?_⟩
    obtain ⟨G, μ, a, rl, S, ⟨m, hm, h1⟩, k⟩ := h
    cases hm
    exact ⟨G, μ, a, rl, S, h1, k⟩
end
end Sc

namespace Sc
open PySem L2 PyProof.Rows Dw
local macro_rules | `(tactic| walk_at "dw1") => `(tactic| first
  | (with_reducible refine ws_seq ?_) | (with_reducible refine ws_ret ?_) | (with_reducible refine ws_set ?_) | (with_reducible refine ws_drop ?_) | (with_reducible refine ws_if ?_) | (with_reducible refine ws_next ?_)
  | ((with_reducible show We _ _ (tVar _) _ _ _); refine we_var rfl ?_) | (with_reducible refine we_int ?_) | (with_reducible refine we_bl ?_) | (with_reducible refine we_str ?_) | (with_reducible refine we_non ?_) | (with_reducible refine we_ty ?_)
  | (with_reducible refine we_op ?_) | (with_reducible refine we_isiT ?_) | (with_reducible refine we_cb ?_) | (with_reducible refine wa_cons ?_) | (with_reducible refine wa_nil ?_)
  | (with_reducible refine we_and ?_) | (with_reducible refine we_or ?_) | (with_reducible refine we_not ?_) | (with_reducible refine we_if ?_) | (with_reducible refine we_chain ?_)
  | (with_reducible refine we_fld ?_) | (with_reducible refine we_bm ?_) | (with_reducible refine we_bm0 ?_) | (with_reducible refine we_sl ?_) | (with_reducible refine wo_none ?_) | (with_reducible refine wo_some ?_)
  | (with_reducible refine wt_test ?_) | (with_reducible refine wt_B ?_) | (with_reducible refine wt_and ?_) | (with_reducible refine wt_or ?_) | (with_reducible refine wt_not ?_) | (with_reducible refine wt_yes ?_)
  | (with_reducible refine w2_I0i ?_) | (with_reducible refine w2_I0b ?_) | (with_reducible refine w2_isN ?_) | (with_reducible refine w2_notN ?_)
  | (with_reducible refine we_callL ?_) | (with_reducible refine we_call ?_) | (with_reducible refine we_tup ?_)
  | (with_reducible refine wc_lenT ?_) | (with_reducible refine wc_lenL ?_) | (with_reducible refine wc_lenS ?_) | (with_reducible refine wc_intB ?_) | (with_reducible refine wc_min2 ?_)
  | ((with_reducible show Wg _ _ (gTup _ _ _) _ _ _ _); first | refine wg_tup2 ?_ | refine wg_tup3 ?_ | refine wg_tup4 ?_) | (with_reducible refine we_un ?_) | (with_reducible refine ws_asg ?_) | (with_reducible refine wg_name ?_) | (with_reducible refine wgs_cons ?_) | (with_reducible refine wgs_nil ?_)
  | (with_reducible refine wsl_T ?_) | (with_reducible refine wsl_L ?_)
  | (with_reducible refine wc_tupL ?_) | (with_reducible refine wc_listT ?_)
  | (with_reducible refine wc_isi (kit_int _) ?_) | (with_reducible refine wc_isi (kit_bool _) ?_) | (with_reducible refine wc_isi (kit_tuple _) ?_) | (with_reducible refine wc_isi (kit_list _) ?_) | (with_reducible refine wc_isi (kit_str _) ?_)
  | (with_reducible refine ex_b ?_) | (with_reducible refine ex_i ?_) | (with_reducible refine ex_t ?_) | (with_reducible refine ex_l ?_)
  | ((with_reducible show ∃ _, unD _ = some _ ∧ _); refine ⟨_, rfl, by simp, ?_⟩))
local macro_rules | `(tactic| walk_at "dw") => `(tactic| repeat' walk_at "dw1")

section
variable {P : Program} {w : World} {K : Frg} {mg : Str → Option Value} {base : Heap} {fa : Addr} {fd : FuncData}
/-! ### _law_for -/
abbrev s_law_for : Stmt := topS 36
abbrev N_law_for : List Str := ["_law_face_here", "_law_names", "_law_number", "_law_slots", "_law_rest", "_law_more", "_law_k"]
theorem sc_law_for : FnScope N_law_for ["_law_face_here", "_law_names", "_law_number"] (defScope s_law_for) := ⟨rfl, rfl, rfl, by decide +kernel, rfl, by decide +kernel, by decide +kernel⟩

abbrev sp_for (K : Frg) : Sp := SpA (α := Face × List (Option Int) × Nat) K (fun a => [.d (encF a.1), .l (a.2.1.map encN), .i (a.2.2 : Int)]) (fun a μ => a.1.slots.length ≤ 1000 ∧ a.2.1.length ≤ 1000 ∧ a.2.2 < a.2.1.length) (fun a μ x μ' => x = .d (encG (lawFor a.1 a.2.1 a.2.2)) ∧ μ = μ')
theorem flatN (l : List (Option Int)) : (l.map encN).all flatD = true := by
  rw [List.all_eq_true]
  intro x hx
  obtain ⟨o, _, rfl⟩ := List.mem_map.mp hx
  cases o <;> rfl
theorem cntN5 (l : List (Option Int)) : ((l.map encN).countP fun z => PyData.eqv z .none) = l.countP fun x => decide (x = none) := by
  rw [List.countP_map]
  congr 1
  funext x
  cases x <;> rfl
theorem ok_for (F : Fun K "_law_for" "_law_for" s_law_for fa fd) (B : Blt mg) : FnOk P w K mg base CX0 1 fa fd ["_law_face_here", "_law_names", "_law_number"] (sp_for K) := by
  refine ok_D F sc_law_for (fun _ => rfl) (fun cdv A outer s H E hr a μ hp => ⟨_, (pss_cons (ps_asg (pv 0) (pkTG K 3 (by rfl) (pgs_cons (pg_name (i := 3) sc_law_for.nd rfl (Or.inl rfl)) (pgs_cons (pg_name (i := 4) sc_law_for.nd rfl (Or.inl rfl)) (pgs_cons (pg_name (i := 5) sc_law_for.nd rfl (Or.inl rfl)) pgs_nil)))))
      (pss_cons (ps_if (pt_cmpR op_isN (pe_ix (kix K) (pv 1) (pv 2) (fun _ _ => rfl)) pe_non (nomark _)) (pss_cons (ps_set (i := 6) sc_law_for.nd rfl (Or.inl rfl) (pkBm K PySem.F.plainAttrs_list PySem.F.slot_list_count PySem.F.type_list_count (mt_countF K) (pe_slice (kslL K) (pv 1) po_none (po_some (pv 2))) (pa_cons pe_non pa_nil)))
      (pss_cons (ps_if (PW.pt (pw_and (pt_cmpR op_lt (pv 6) (pe_callB (klen K) (by rfl) B.len PySem.boot_len (pa_cons (pv 3) pa_nil)) (nomark _)) (pw_and1 (pt_cmpR (kne K hr) (pe_ix (kix K) (pe_ix (kix K) (pv 3) (pv 6) (fun _ _ => rfl)) pe_int (fun _ _ => rfl)) pe_str (nomark _))))) (pss_one (ps_ret (pe_tup (pa_cons pe_str (pa_cons (pv 6) pa_nil))))) pss_nil)
      (pss_one (ps_ret (pe_ifExp (pt_val (pv 4)) (pe_tup (pa_cons pe_str pa_nil)) (pe_tup (pa_cons pe_str (pa_cons (pv 2) pa_nil)))))))) pss_nil)
      (pss_cons (ps_for PassesOwn.never rfl (pi_range1 rfl B.range (pa_cons (pe_callB (klen K) (by rfl) B.len PySem.boot_len (pa_cons (pv 3) pa_nil)) pa_nil)) (pg_name (i := 6) sc_law_for.nd rfl (Or.inl rfl)) (pss_one (ps_if (PW.pt (pw_and (pt_cmpR (keq K hr) (pe_ix (kix K) (pe_ix (kix K) (pv 3) (pv 6) (fun _ _ => rfl)) pe_int (fun _ _ => rfl)) (pe_ix (kix K) (pv 1) (pv 2) (fun _ _ => rfl)) (nomark _)) (pw_and1 (pt_cmpR (kne K hr) (pe_ix (kix K) (pe_ix (kix K) (pv 3) (pv 6) (fun _ _ => rfl)) pe_int (fun _ _ => rfl)) pe_str (nomark _))))) (pss_one (ps_ret (pe_tup (pa_cons pe_str (pa_cons (pv 6) pa_nil))))) pss_nil)))
      (pss_one (ps_ret (pe_ifExp (pt_val (pv 5)) (pe_tup (pa_cons pe_str (pa_cons (pe_ix (kix K) (pv 1) (pv 2) (fun _ _ => rfl)) pa_nil))) (pe_tup (pa_cons pe_str (pa_cons (pe_ix (kix K) (pv 1) (pv 2) (fun _ _ => rfl)) pa_nil))))))))), fun G0 => ?_⟩)
  obtain ⟨face, names, i⟩ := a
  obtain ⟨hl, hl2, hi⟩ := hp
  try dsimp only [cxOf, Cx.nox] at hl hl2 hi ⊢
  have hget : (names.map encN)[i]? = some (encN names[i]) := by rw [List.getElem?_map, List.getElem?_eq_getElem hi]; rfl
  walk_at "dw"
  refine w2_ixL (ati_n hget) ?_
  walk_at "dw"
  rw [isN_encN]
  refine ⟨fun h => ?_, fun h => ?_⟩
  · have hn : names[i] = none := of_decide_eq_true h
    have hm : lawFor face names i = (if placeK face ((names.take i).countP fun x => decide (x = none)) = true then .slot ((names.take i).countP fun x => decide (x = none)) else if face.rest = true then .rest else .over i) := by
      unfold lawFor; rw [List.getElem?_eq_getElem hi, hn]
    rw [hm]
    walk_at "dw"
    rw [cut_take _ _ (by rw [List.length_map]; omega)]
    refine ⟨tyd_l, ?_⟩
    walk_at "dw"
    rw [← List.map_take]
    refine wm_count rfl (flatN _) ?_
    rw [cntN5]
    generalize hk : (names.take i).countP (fun x => decide (x = none)) = k
    walk_at "dw"
    rw [List.length_map]
    refine ⟨fun h2 => ?_, fun h2 => ?_⟩
    · have hk2 : k < face.slots.length := by have := of_decide_eq_true h2; omega
      have hp2 : placeK face k = !decide (face.slots[k].sort = .name) := by unfold placeK; rw [List.getElem?_eq_getElem hk2]
      walk_at "dw"
      refine w2_ixT (ati_n (d := encS face.slots[k]) (by rw [List.getElem?_map, List.getElem?_eq_getElem hk2]; rfl)) ?_
      walk_at "dw"
      refine w2_ixT ati_1 ?_
      walk_at "dw"
      refine w2_neD (shp_srt _) (by decide +kernel) ?_
      rw [eqv_str, str_name]
      walk_at "dw"
      refine ⟨fun h3 => ?_, fun h3 => ?_⟩
      · walk_at "dw"
        refine ⟨_, Sub.refl _, ?_, rfl⟩
        rw [hp2, h3, if_pos rfl]; rfl
      · walk_at "dw"
        rw [hp2, h3, if_neg Bool.false_ne_true]
        refine ⟨fun h4 => ?_, fun h4 => ?_⟩
        · walk_at "dw"
          exact ⟨_, Sub.refl _, by rw [if_pos h4]; rfl, rfl⟩
        · walk_at "dw"
          exact ⟨_, Sub.refl _, by rw [h4, if_neg Bool.false_ne_true]; rfl, rfl⟩
    · have hk2 : ¬ k < face.slots.length := by have := of_decide_eq_false h2; omega
      have hp2 : placeK face k = false := by unfold placeK; rw [List.getElem?_eq_none (by omega)]
      rw [hp2, if_neg Bool.false_ne_true]
      refine ⟨fun h => (nomatch h), fun _ => ?_⟩
      walk_at "dw"
      refine ⟨fun h4 => ?_, fun h4 => ?_⟩
      · walk_at "dw"
        exact ⟨_, Sub.refl _, by rw [if_pos h4]; rfl, rfl⟩
      · walk_at "dw"
        exact ⟨_, Sub.refl _, by rw [h4, if_neg Bool.false_ne_true]; rfl, rfl⟩
  · obtain ⟨n, hn⟩ : ∃ n, names[i] = some n := by
      cases hh : names[i] with
      | none => rw [hh] at h; cases h
      | some n => exact ⟨n, rfl⟩
    rw [hn] at hget
    have hm : lawFor face names i = (match slotNamed face n with | some k => .slot k | none => if face.more = true then .more n else .unknown n) := by
      unfold lawFor; rw [List.getElem?_eq_getElem hi, hn] <;> rfl
    walk_at "dw"
    refine ws_for (wi_rng ?_)
    walk_at "dw"
    rw [List.length_map]
    refine ⟨_, rfl, by omega, by omega, ?_⟩
    rw [Int.toNat_natCast]
    refine ⟨fun j ρ μ' => μ = μ' ∧ (∀ k, k < j → hitK face n k = false) ∧ ∃ v, ρ = [some (.d (encF face)), some (.l (names.map encN)), some (.i (i : Int)), some (.t (face.slots.map encS)), some (.b face.rest), some (.b face.more), v], ⟨rfl, fun k hk => absurd hk (Nat.not_lt_zero _), _, rfl⟩, fun _ _ _ _ _ => trivial, ?_, ?_⟩
    · rintro k x ρ μ' hx ⟨rfl, hI, v, rfl⟩
      have hk : k < face.slots.length := by
        have := (List.getElem?_eq_some_iff.mp hx).1
        simpa using this
      rw [List.getElem?_map, List.getElem?_range hk] at hx
      cases hx
      have hat : (face.slots.map encS)[k]? = some (encS face.slots[k]) := by rw [List.getElem?_map, List.getElem?_eq_getElem hk]; rfl
      have hhit : hitK face n k = (decide (face.slots[k].name = n) && !decide (face.slots[k].sort = .place)) := by unfold hitK; rw [List.getElem?_eq_getElem hk]; rfl
      have go : hitK face n k = false → μ = μ ∧ (∀ j, j < k + 1 → hitK face n j = false) ∧ ∃ v, [some (PV.d (encF face)), some (.l (names.map encN)), some (.i (i : Int)), some (.t (face.slots.map encS)), some (.b face.rest), some (.b face.more), some (.i (k : Int))] = [some (.d (encF face)), some (.l (names.map encN)), some (.i (i : Int)), some (.t (face.slots.map encS)), some (.b face.rest), some (.b face.more), v] := fun h => ⟨rfl, fun j hj => by
        rcases Nat.lt_or_eq_of_le (Nat.le_of_lt_succ hj) with hj | rfl
        · exact hI j hj
        · exact h, _, rfl⟩
      walk_at "dw"
      refine w2_ixT (ati_n hat) ?_
      walk_at "dw"
      refine w2_ixT ati_0 ?_
      walk_at "dw"
      refine w2_ixL (ati_n hget) ?_
      refine w2_eqD rfl rfl ?_
      rw [show PyData.eqv (PyData.int face.slots[k].name) (encN (some n)) = decide (face.slots[k].name = n) from eqv_int _ _]
      walk_at "dw"
      refine ⟨fun h2 => ?_, fun h2 => ?_⟩
      · walk_at "dw"
        refine w2_ixT (ati_n hat) ?_
        walk_at "dw"
        refine w2_ixT ati_1 ?_
        walk_at "dw"
        refine w2_neD (shp_srt _) (by decide +kernel) ?_
        rw [eqv_str, str_place]
        walk_at "dw"
        refine ⟨fun h3 => ?_, fun h3 => ?_⟩
        · walk_at "dw"
          refine ⟨_, Sub.refl _, ?_, rfl⟩
          have hsn : slotNamed face n = some k := by
            unfold slotNamed
            rw [List.head?_filter]
            exact find_range hk (by rw [hhit, h2, h3]; rfl) hI
          rw [hm, hsn]; rfl
        · walk_at "dw"
          exact go (by rw [hhit, h3, Bool.and_false])
      · refine ⟨fun h => (nomatch h), fun _ => ?_⟩
        walk_at "dw"
        exact go (by rw [hhit, h2, Bool.false_and])
    · rintro ρ μ' ⟨rfl, hI, v, rfl⟩
      rw [List.length_map, List.length_range] at hI
      have hsn : slotNamed face n = none := by
        unfold slotNamed
        rw [List.head?_filter]
        exact find_none hI
      rw [hm, hsn]
      walk_at "dw"
      refine ⟨fun h4 => ?_, fun h4 => ?_⟩
      · walk_at "dw"
        refine w2_ixL (ati_n hget) ?_
        walk_at "dw"
        exact ⟨_, Sub.refl _, by rw [if_pos h4]; rfl, rfl⟩
      · walk_at "dw"
        refine w2_ixL (ati_n hget) ?_
        walk_at "dw"
        exact ⟨_, Sub.refl _, by rw [h4, if_neg Bool.false_ne_true]; rfl, rfl⟩
end
end Sc

namespace Sc
open PySem L2 PyProof.Rows Dw
local macro_rules | `(tactic| walk_at "dw1") => `(tactic| first
  | (with_reducible refine ws_seq ?_) | (with_reducible refine ws_ret ?_) | (with_reducible refine ws_set ?_) | (with_reducible refine ws_drop ?_) | (with_reducible refine ws_if ?_) | (with_reducible refine ws_next ?_)
  | ((with_reducible show We _ _ (tVar _) _ _ _); refine we_var rfl ?_) | (with_reducible refine we_int ?_) | (with_reducible refine we_bl ?_) | (with_reducible refine we_str ?_) | (with_reducible refine we_non ?_) | (with_reducible refine we_ty ?_)
  | (with_reducible refine we_op ?_) | (with_reducible refine we_isiT ?_) | (with_reducible refine we_cb ?_) | (with_reducible refine wa_cons ?_) | (with_reducible refine wa_nil ?_)
  | (with_reducible refine we_and ?_) | (with_reducible refine we_or ?_) | (with_reducible refine we_not ?_) | (with_reducible refine we_if ?_) | (with_reducible refine we_chain ?_)
  | (with_reducible refine we_fld ?_) | (with_reducible refine we_bm ?_) | (with_reducible refine we_bm0 ?_) | (with_reducible refine we_sl ?_) | (with_reducible refine wo_none ?_) | (with_reducible refine wo_some ?_)
  | (with_reducible refine wt_test ?_) | (with_reducible refine wt_B ?_) | (with_reducible refine wt_and ?_) | (with_reducible refine wt_or ?_) | (with_reducible refine wt_not ?_) | (with_reducible refine wt_yes ?_)
  | (with_reducible refine w2_I0i ?_) | (with_reducible refine w2_I0b ?_) | (with_reducible refine w2_isN ?_) | (with_reducible refine w2_notN ?_)
  | (with_reducible refine we_callL ?_) | (with_reducible refine we_call ?_) | (with_reducible refine we_tup ?_)
  | (with_reducible refine wc_lenT ?_) | (with_reducible refine wc_lenL ?_) | (with_reducible refine wc_lenS ?_) | (with_reducible refine wc_intB ?_) | (with_reducible refine wc_min2 ?_)
  | ((with_reducible show Wg _ _ (gTup _ _ _) _ _ _ _); first | refine wg_tup2 ?_ | refine wg_tup3 ?_ | refine wg_tup4 ?_) | (with_reducible refine we_un ?_) | (with_reducible refine ws_asg ?_) | (with_reducible refine wg_name ?_) | (with_reducible refine wgs_cons ?_) | (with_reducible refine wgs_nil ?_)
  | (with_reducible refine wsl_T ?_) | (with_reducible refine wsl_L ?_)
  | (with_reducible refine wc_tupL ?_) | (with_reducible refine wc_listT ?_)
  | (with_reducible refine wc_isi (kit_int _) ?_) | (with_reducible refine wc_isi (kit_bool _) ?_) | (with_reducible refine wc_isi (kit_tuple _) ?_) | (with_reducible refine wc_isi (kit_list _) ?_) | (with_reducible refine wc_isi (kit_str _) ?_)
  | (with_reducible refine ex_b ?_) | (with_reducible refine ex_i ?_) | (with_reducible refine ex_t ?_) | (with_reducible refine ex_l ?_)
  | ((with_reducible show ∃ _, unD _ = some _ ∧ _); refine ⟨_, rfl, by simp, ?_⟩))
local macro_rules | `(tactic| walk_at "dw") => `(tactic| repeat' walk_at "dw1")

section
variable {P : Program} {w : World} {K : Frg} {mg : Str → Option Value} {base : Heap} {fa : Addr} {fd : FuncData}
/-! ### _law_matched -/
abbrev s_law_matched : Stmt := topS 37
abbrev N_law_matched : List Str := ["_law_face_here", "_law_names", "_law_slots", "_law_goes", "_law_number", "_law_name", "_law_k", "_law_filled", "_law_more"]
theorem sc_law_matched : FnScope N_law_matched ["_law_face_here", "_law_names"] (defScope s_law_matched) := ⟨rfl, rfl, rfl, by decide +kernel, rfl, by decide +kernel, by decide +kernel⟩

abbrev sp_lmatched (K : Frg) : Sp := SpA (α := Face × List (Option Int)) K (fun a => [.d (encF a.1), .l (a.2.map encN)]) (fun a μ => a.1.slots.length ≤ 1000 ∧ a.2.length ≤ 1000) (fun a μ x μ' => x = .d (encOut (lawMatched a.1 a.2)) ∧ μ = μ')
theorem inOU (k : Str) (b : Bool) (h : ([PyData.str kOver, PyData.str kUnknown].any fun y => PyData.eqv y (.str k)) = b) : (if false = true then !([PyData.str "over", PyData.str "unknown"].any fun y => PyData.eqv y (.str k)) else [PyData.str "over", PyData.str "unknown"].any fun y => PyData.eqv y (.str k)) = b := h
theorem findSome_none {β : Type} {g : Nat → Option β} {n : Nat} (h : ∀ j, j < n → g j = none) : (List.range n).findSome? g = none := by
  rw [List.findSome?_eq_none_iff]
  intro x hx
  exact h x (List.mem_range.mp hx)
theorem findSome_at {β : Type} {g : Nat → Option β} {n i : Nat} {c : β} (hi : i < n) (h : ∀ j, j < i → g j = none) (hc : g i = some c) : (List.range n).findSome? g = some c := by
  rw [List.findSome?_eq_some_iff]
  refine ⟨List.range i, i, (List.range (n - i - 1)).map (· + (i + 1)), ?_, hc, fun x hx => h x (List.mem_range.mp hx)⟩
  have h1 : n = i + (1 + (n - i - 1)) := by omega
  conv => lhs; rw [h1, List.range_add, List.range_add]
  simp [Nat.add_assoc, Nat.add_comm, Nat.add_left_comm]
theorem slot_lt {f : Face} {names : List (Option Int)} {i k : Nat} (h : lawFor f names i = .slot k) : k < f.slots.length := by
  unfold lawFor at h
  split at h
  · split at h
    · rename_i hs
      cases h; exact hit_lt hs
    · split at h <;> cases h
  · simp only at h
    split at h
    · rename_i hp
      cases h
      unfold placeK at hp
      split at hp
      · rename_i hs; exact (List.getElem?_eq_some_iff.mp hs).1
      · cases hp
    · split at h <;> cases h
theorem idx_first {g : Go} : ∀ (l : List Go) (m : Nat), m < l.idxOf g → l[m]? ≠ some g
  | [], m, h => by simp
  | a :: l, m, h => by
    rw [List.idxOf_cons] at h
    by_cases ha : a = g
    · subst ha; simp at h
    · have hb : (a == g) = false := beq_eq_false_iff_ne.mpr ha
      rw [hb] at h
      cases m with
      | zero => intro e; simp at e; exact ha e
      | succ m =>
        have h' : m < l.idxOf g := by simp at h; omega
        simpa using idx_first l m h'
theorem word_enc (g : Go) : ∃ r, encG g = .tuple (.str g.word :: r) := by cases g <;> exact ⟨_, rfl⟩
def isMore : Go → Bool
  | .more _ => true
  | _ => false
theorem word_more (g : Go) : decide (g.word = kMore) = isMore g := by
  cases g
  · show decide (kSlot = kMore) = false; decide +kernel
  · show decide (kRest = kMore) = false; decide +kernel
  · show decide (kMore = kMore) = true; decide +kernel
  · show decide (kOver = kMore) = false; decide +kernel
  · show decide (kUnknown = kMore) = false; decide +kernel
theorem word_rest (g : Go) : decide (g.word = kRest) = decide (g = .rest) := by
  cases g
  · rw [show decide (Go.word (.slot _) = kRest) = false from (by show decide (kSlot = kRest) = false; decide +kernel)]; simp
  · show decide (kRest = kRest) = true; decide +kernel
  · rw [show decide (Go.word (.more _) = kRest) = false from (by show decide (kMore = kRest) = false; decide +kernel)]; simp
  · rw [show decide (Go.word (.over _) = kRest) = false from (by show decide (kOver = kRest) = false; decide +kernel)]; simp
  · rw [show decide (Go.word (.unknown _) = kRest) = false from (by show decide (kUnknown = kRest) = false; decide +kernel)]; simp
theorem shp_word (g : Go) : SeqAt.shaped (.str g.word) = true := by
  cases g
  · show SeqAt.shaped (.str kSlot) = true; decide +kernel
  · show SeqAt.shaped (.str kRest) = true; decide +kernel
  · show SeqAt.shaped (.str kMore) = true; decide +kernel
  · show SeqAt.shaped (.str kOver) = true; decide +kernel
  · show SeqAt.shaped (.str kUnknown) = true; decide +kernel
def moreB (goes : List Go) (k : Nat) : Bool := match goes[k]? with
  | some g => isMore g
  | none => false
def moreN (goes : List Go) (k : Nat) : Int := match goes[k]? with
  | some (.more n) => n
  | _ => 0
theorem more_list (goes : List Go) : ((List.range goes.length).filter (moreB goes)).map (fun k => encP (moreN goes k, (k : Int))) = ((moreG goes).map fun p => (p.1, (p.2 : Int))).map encP := by
  unfold moreG
  generalize List.range goes.length = l
  induction l with
  | nil => rfl
  | cons k l ih =>
    cases hk : goes[k]? with
    | none => simp only [List.filter_cons, moreB, hk, List.filterMap_cons, moreK]; exact ih
    | some g =>
      cases g with
      | more n =>
        have h1 : moreB goes k = true := by unfold moreB; rw [hk]; rfl
        have h2 : moreK goes k = some (n, k) := by unfold moreK; rw [hk]
        have h3 : moreN goes k = n := by unfold moreN; rw [hk]
        rw [List.filter_cons, h1, if_pos rfl, List.filterMap_cons, h2, List.map_cons, List.map_cons, List.map_cons, h3, ih]
      | _ => simp only [List.filter_cons, moreB, hk, List.filterMap_cons, moreK, isMore]; exact ih
theorem more_nodup {f : Face} {goes : List Go} (h : ∀ j, j < goes.length → bad f goes j = none) : ((moreG goes).map (·.1)).Nodup := by
  have key : ∀ n, n ≤ goes.length → (((List.range n).filterMap (moreK goes)).map (·.1)).Nodup ∧ ∀ m ∈ ((List.range n).filterMap (moreK goes)).map (·.1), Go.more m ∈ goes.take n := by
    intro n
    induction n with
    | zero => intro _; exact ⟨List.nodup_nil, fun m hm => by cases hm⟩
    | succ n ih =>
      intro hn
      obtain ⟨h1, h2⟩ := ih (by omega)
      have hgn : goes[n]? = some goes[n] := List.getElem?_eq_getElem (by omega)
      have hb := h n (by omega)
      have htk : goes.take (n + 1) = goes.take n ++ [goes[n]] := by rw [List.take_add_one, hgn]; rfl
      rw [List.range_succ, List.filterMap_append, List.map_append, htk]
      cases hg : goes[n] with
      | more m =>
        rw [hg] at hgn
        have e : List.filterMap (moreK goes) [n] = [(m, n)] := by simp only [List.filterMap_cons, List.filterMap_nil, moreK, hgn]
        rw [e]
        unfold bad at hb
        rw [hgn] at hb
        have hnot : Go.more m ∉ goes.take n := by
          intro hin
          simp only [if_pos hin] at hb
          cases hb
        refine ⟨List.nodup_append.mpr ⟨h1, by simp, fun a ha b hb2 => ?_⟩, fun x hx => ?_⟩
        · simp only [List.map_cons, List.map_nil, List.mem_singleton] at hb2
          subst hb2
          intro e; subst e
          exact hnot (h2 _ ha)
        · rcases List.mem_append.mp hx with hx | hx
          · exact List.mem_append_left _ (h2 x hx)
          · simp only [List.map_cons, List.map_nil, List.mem_singleton] at hx
            subst hx; exact List.mem_append_right _ (by simp)
      | _ =>
        rw [hg] at hgn
        have e : List.filterMap (moreK goes) [n] = [] := by simp only [List.filterMap_cons, List.filterMap_nil, moreK, hgn]
        rw [e, List.map_nil, List.append_nil]
        exact ⟨h1, fun x hx => List.mem_append_left _ (h2 x hx)⟩
  exact (key goes.length (Nat.le_refl _)).1
theorem look_mem {l : List (Int × Nat)} (hnd : (l.map (·.1)).Nodup) {p : Int × Nat} (h : p ∈ l) : lookM l p.1 = p.2 := by
  induction l with
  | nil => cases h
  | cons a l ih =>
    rw [List.map_cons, List.nodup_cons] at hnd
    unfold lookM
    by_cases ha : a.1 = p.1
    · rw [List.find?_cons, decide_eq_true ha]
      rcases List.mem_cons.mp h with rfl | h
      · rfl
      · exact absurd (List.mem_map.mpr ⟨p, h, ha.symm⟩) hnd.1
    · rw [List.find?_cons, decide_eq_false ha]
      rcases List.mem_cons.mp h with rfl | h
      · exact absurd rfl ha
      · exact ih hnd.2 h
theorem sort_more {l : List (Int × Nat)} (hnd : (l.map (·.1)).Nodup) {qs : List (Int × Int)} (hp : qs.Perm (l.map fun p => (p.1, (p.2 : Int)))) (hs : qs.Pairwise (fun a b => SrtO.lexB b a = false)) : qs = (sortM l).map fun p => (p.1, (p.2 : Int)) := by
  have h1 : (qs.map (·.1)).Perm (l.map (·.1)) := by
    have := hp.map (·.1)
    rw [List.map_map] at this
    exact this
  have h2 : (qs.map (·.1)).Pairwise (· ≤ ·) := by
    refine List.pairwise_map.mpr (hs.imp fun {a b} h => ?_)
    have := SrtO.lexB_no.mp h
    omega
  have h3 := srt_eq h1 h2
  unfold sortM
  rw [← h3, List.map_map, List.map_map]
  conv => lhs; rw [← List.map_id qs]
  refine List.map_congr_left fun q hq => ?_
  obtain ⟨p, hpl, rfl⟩ := List.mem_map.mp (hp.mem_iff.mp hq)
  show (p.1, (p.2 : Int)) = (p.1, (lookM l p.1 : Int))
  rw [look_mem hnd hpl]
theorem idx_any {l : List Go} {g : Go} (h : g ∈ l) : ∃ z, (l.map encG)[l.idxOf g]? = some z ∧ PyData.eqv z (encG g) = true ∧ ∀ (m : Nat) (z' : PyData), m < l.idxOf g → (l.map encG)[m]? = some z' → PyData.eqv z' (encG g) = false := by
  have hlt := List.idxOf_lt_length_of_mem h
  refine ⟨encG g, ?_, by rw [eqv_go]; simp, ?_⟩
  · rw [List.getElem?_map, List.getElem?_eq_getElem hlt, List.getElem_idxOf]; rfl
  · intro m z' hm hz
    have hml : m < l.length := by omega
    rw [List.getElem?_map, List.getElem?_eq_getElem hml] at hz
    cases hz
    show PyData.eqv (encG l[m]) (encG g) = false
    rw [eqv_go, decide_eq_false]
    intro e
    exact idx_first l m hm (by rw [List.getElem?_eq_getElem hml, e])
theorem ok_lmatched (F : Fun K "_law_matched" "_law_matched" s_law_matched fa fd) (B : Blt mg) (C_law_for : Cal P w K mg base CX0 1 "_law_for" ["_law_face_here", "_law_names", "_law_number"] (sp_for K)) : FnOk P w K mg base CX0 2 fa fd ["_law_face_here", "_law_names"] (sp_lmatched K) := by
  refine ok_D F sc_law_matched (fun _ => rfl) (fun cdv A outer s H E hr a μ hp => ⟨_, (pss_cons (ps_set (i := 2) sc_law_matched.nd rfl (Or.inl rfl) (pe_ix (kix K) (pv 0) pe_int (fun _ _ => rfl)))
      (pss_cons (ps_set (i := 3) sc_law_matched.nd rfl (Or.inr rfl) (pe_lc (own := [("_law_number", 4)]) (g := (gName 4)) rfl sc_law_matched.nd (pi_range1 rfl B.range (pa_cons (pe_callB (klen K) (by rfl) B.len PySem.boot_len (pa_cons (pv 1) pa_nil)) pa_nil)) (blkOk_by (own := [("_law_number", 4)]) (N := N_law_matched) (sc := defScope s_law_matched) (by decide +kernel)) (fun _ _ _ _ _ => (pg_name (i := 4) sc_law_matched.nd rfl (by first | exact Or.inl rfl | exact Or.inr rfl))) (fun _ _ _ _ _ => pts_nil) (fun _ _ _ _ _ => (pe_cal C_law_for hr (pa_cons (pv 0) (pa_cons (pv 1) (pa_cons (pv 4) pa_nil)))))))
      (pss_cons (ps_for PassesOwn.never rfl (pi_range1 rfl B.range (pa_cons (pe_callB (klen K) (by rfl) B.len PySem.boot_len (pa_cons (pv 3) pa_nil)) pa_nil)) (pg_name (i := 4) sc_law_matched.nd rfl (Or.inl rfl)) (pss_cons (ps_if (pt_cmpR (kin K) (pe_ix (kix K) (pe_ix (kix K) (pv 3) (pv 4) (fun _ _ => rfl)) pe_int (fun _ _ => rfl)) (pe_tup (pa_cons pe_str (pa_cons pe_str pa_nil))) (by rfl)) (pss_one (ps_ret (pe_ix (kix K) (pv 3) (pv 4) (fun _ _ => rfl)))) pss_nil)
      (pss_one (ps_if (PW.pt (pw_and (pt_cmpR (kne K hr) (pe_ix (kix K) (pe_ix (kix K) (pv 3) (pv 4) (fun _ _ => rfl)) pe_int (fun _ _ => rfl)) pe_str (nomark _)) (pw_and1 (pt_cmpR (kinD K hr) (pe_ix (kix K) (pv 3) (pv 4) (fun _ _ => rfl)) (pe_slice (kslL K) (pv 3) po_none (po_some (pv 4))) (by rfl))))) (pss_cons (ps_set (i := 5) sc_law_matched.nd rfl (Or.inl rfl) (pe_ifExp (pt_cmpR (keq K hr) (pe_ix (kix K) (pe_ix (kix K) (pv 3) (pv 4) (fun _ _ => rfl)) pe_int (fun _ _ => rfl)) pe_str (nomark _)) (pe_ix (kix K) (pe_ix (kix K) (pv 2) (pe_ix (kix K) (pe_ix (kix K) (pv 3) (pv 4) (fun _ _ => rfl)) pe_int (fun _ _ => rfl)) (fun _ _ => rfl)) pe_int (fun _ _ => rfl)) (pe_ix (kix K) (pe_ix (kix K) (pv 3) (pv 4) (fun _ _ => rfl)) pe_int (fun _ _ => rfl))))
      (pss_one (ps_ret (pe_tup (pa_cons pe_str (pa_cons (pv 5) pa_nil)))))) pss_nil))))
      (pss_cons (ps_for PassesOwn.never rfl (pi_range1 rfl B.range (pa_cons (pe_callB (klen K) (by rfl) B.len PySem.boot_len (pa_cons (pv 2) pa_nil)) pa_nil)) (pg_name (i := 6) sc_law_matched.nd rfl (Or.inl rfl)) (pss_one (ps_if (PW.pt (pw_and (pt_cmpR (kninD K hr) (pe_tup (pa_cons pe_str (pa_cons (pv 6) pa_nil))) (pv 3) (by rfl)) (pw_and1 (pt_cmpR op_isN (pe_ix (kix K) (pe_ix (kix K) (pv 2) (pv 6) (fun _ _ => rfl)) pe_int (fun _ _ => rfl)) pe_non (nomark _))))) (pss_one (ps_ret (pe_tup (pa_cons pe_str (pa_cons (pe_ix (kix K) (pe_ix (kix K) (pv 2) (pv 6) (fun _ _ => rfl)) pe_int (fun _ _ => rfl)) pa_nil))))) pss_nil)))
      (pss_cons (ps_setLc (i := 7) (own := [("_law_k", 6)]) (g := (gName 6)) rfl sc_law_matched.nd rfl rfl (sw_true rfl rfl rfl (by decide +kernel)) (pi_range1 rfl B.range (pa_cons (pe_callB (klen K) (by rfl) B.len PySem.boot_len (pa_cons (pv 2) pa_nil)) pa_nil)) (blkOk_by (own := [("_law_k", 6)]) (N := N_law_matched) (sc := defScope s_law_matched) (by decide +kernel)) (fun _ _ _ _ _ => (pg_name (i := 6) sc_law_matched.nd rfl (by first | exact Or.inl rfl | exact Or.inr rfl))) (fun _ _ _ _ _ => pts_nil) (fun _ _ _ _ _ => (pe_ifExp (pt_cmpR (kinD K hr) (pe_tup (pa_cons pe_str (pa_cons (pv 6) pa_nil))) (pv 3) (by rfl)) (pkBm K PySem.F.plainAttrs_list PySem.F.slot_list_index PySem.F.type_list_index (kindexD K hr) (pv 3) (pa_cons (pe_tup (pa_cons pe_str (pa_cons (pv 6) pa_nil))) pa_nil)) pe_non)))
      (pss_cons (ps_set (i := 8) sc_law_matched.nd rfl (Or.inl rfl) (pe_callB (ksortedP K) (by rfl) B.sorted (by decide +kernel) (pa_cons (pe_lc (own := [("_law_k", 6)]) (g := (gName 6)) rfl sc_law_matched.nd (pi_range1 rfl B.range (pa_cons (pe_callB (klen K) (by rfl) B.len PySem.boot_len (pa_cons (pv 3) pa_nil)) pa_nil)) (blkOk_by (own := [("_law_k", 6)]) (N := N_law_matched) (sc := defScope s_law_matched) (by decide +kernel)) (fun _ _ _ _ _ => (pg_name (i := 6) sc_law_matched.nd rfl (by first | exact Or.inl rfl | exact Or.inr rfl))) (fun _ _ _ _ _ => (pts_one (pt_cmpR (keq K hr) (pe_ix (kix K) (pe_ix (kix K) (pv 3) (pv 6) (fun _ _ => rfl)) pe_int (fun _ _ => rfl)) pe_str (nomark _)))) (fun _ _ _ _ _ => (pe_tup (pa_cons (pe_ix (kix K) (pe_ix (kix K) (pv 3) (pv 6) (fun _ _ => rfl)) pe_int (fun _ _ => rfl)) (pa_cons (pv 6) pa_nil))))) pa_nil)))
      (pss_one (ps_ret (pe_tup (pa_cons pe_str (pa_cons (pe_callTy (ktup K) (by rfl) B.tuple (by decide +kernel) (pa_cons (pv 7) pa_nil)) (pa_cons (pe_callTy (ktup K) (by rfl) B.tuple (by decide +kernel) (pa_cons (pe_lc (own := [("_law_k", 6)]) (g := (gName 6)) rfl sc_law_matched.nd (pi_range1 rfl B.range (pa_cons (pe_callB (klen K) (by rfl) B.len PySem.boot_len (pa_cons (pv 3) pa_nil)) pa_nil)) (blkOk_by (own := [("_law_k", 6)]) (N := N_law_matched) (sc := defScope s_law_matched) (by decide +kernel)) (fun _ _ _ _ _ => (pg_name (i := 6) sc_law_matched.nd rfl (by first | exact Or.inl rfl | exact Or.inr rfl))) (fun _ _ _ _ _ => (pts_one (pt_cmpR (keq K hr) (pe_ix (kix K) (pe_ix (kix K) (pv 3) (pv 6) (fun _ _ => rfl)) pe_int (fun _ _ => rfl)) pe_str (nomark _)))) (fun _ _ _ _ _ => (pv 6))) pa_nil)) (pa_cons (pe_callTy (ktup K) (by rfl) B.tuple (by decide +kernel) (pa_cons (pv 8) pa_nil)) pa_nil))))))))))))), fun G0 => ?_⟩)
  obtain ⟨face, names⟩ := a
  obtain ⟨hl, hl2⟩ := hp
  try dsimp only [cxOf, Cx.nox] at hl hl2 ⊢
  walk_at "dw"
  refine w2_ixT ati_0 ?_
  walk_at "dw"
  refine we_lcB (List.range names.length) (fun (k : Nat) => PV.i (k : Int)) (fun k => encG (lawFor face names k)) (wi_rng ?_)
  walk_at "dw"
  rw [List.length_map]
  refine ⟨_, rfl, by omega, by omega, ?_⟩
  rw [Int.toNat_natCast]
  refine ⟨rfl, by rw [List.length_range]; omega, fun _ _ => trivial, fun k hk μ1 hs1 => ?_, ?_⟩
  · have hk' := List.mem_range.mp hk
    walk_at "dw"
    refine ⟨(face, names, k), rfl, ⟨hl, hl2, hk'⟩, ?_⟩
    rintro _ _ ⟨rfl, rfl⟩
    exact ⟨Sub.refl _, rfl⟩
  rw [show ((List.range names.length).map fun k => encG (lawFor face names k)) = (goesOf face names).map encG by unfold goesOf; rw [List.map_map]; rfl]
  have hgl := goes_len face names
  have hgslot : ∀ (i k : Nat), (goesOf face names)[i]? = some (.slot k) → k < face.slots.length := by
    intro i k h
    have hi : i < names.length := by rw [← hgl]; exact (List.getElem?_eq_some_iff.mp h).1
    rw [goes_get _ _ hi] at h
    exact slot_lt (Option.some.inj h)
  have hlm : lawMatched face names = (match (List.range names.length).findSome? (bad face (goesOf face names)) with | some c => .clash c | none => lawEnd face (goesOf face names)) := rfl
  rw [hlm]
  generalize goesOf face names = goes at hgl hgslot ⊢
  clear hlm
  rw [← hgl] at hl2 ⊢
  have hget : ∀ (i : Nat) (h : i < goes.length), (goes.map encG)[i]? = some (encG goes[i]) := fun i h => by rw [List.getElem?_map, List.getElem?_eq_getElem h]; rfl
  walk_at "dw"
  refine ws_for (wi_rng ?_)
  walk_at "dw"
  rw [List.length_map]
  refine ⟨_, rfl, by omega, by omega, ?_⟩
  rw [Int.toNat_natCast]
  refine ⟨fun i ρ μ' => μ = μ' ∧ (∀ j, j < i → bad face goes j = none) ∧ ∃ v, ρ = [some (.d (encF face)), some (.l (names.map encN)), some (.t (face.slots.map encS)), some (.l (goes.map encG)), v, none, none, none, none], ⟨rfl, fun j hj => absurd hj (Nat.not_lt_zero _), _, rfl⟩, fun _ _ _ _ _ => trivial, ?_, ?_⟩
  · rintro i x ρ μ' hx ⟨rfl, hI, v, rfl⟩
    have hi : i < goes.length := by
      have := (List.getElem?_eq_some_iff.mp hx).1
      simpa using this
    rw [List.getElem?_map, List.getElem?_range hi] at hx
    cases hx
    have hgi : goes[i]? = some goes[i] := List.getElem?_eq_getElem hi
    have go : bad face goes i = none → μ = μ ∧ (∀ j, j < i + 1 → bad face goes j = none) ∧ ∃ v, [some (PV.d (encF face)), some (.l (names.map encN)), some (.t (face.slots.map encS)), some (.l (goes.map encG)), some (.i (i : Int)), none, none, none, none] = [some (.d (encF face)), some (.l (names.map encN)), some (.t (face.slots.map encS)), some (.l (goes.map encG)), v, none, none, none, none] := fun h => ⟨rfl, fun j hj => by
      rcases Nat.lt_or_eq_of_le (Nat.le_of_lt_succ hj) with hj | rfl
      · exact hI j hj
      · exact h, _, rfl⟩
    have hat := hget i hi
    cases hg : goes[i] with
    | over k =>
      rw [hg] at hat hgi
      walk_at "dw"
      refine w2_ixL (ati_n hat) ?_
      refine we_int ?_
      refine w2_ixT ati_0 ?_
      walk_at "dw"
      refine w2_inT rfl rfl ?_
      rw [inOU kOver true (by decide +kernel)]
      walk_at "dw"
      refine ⟨fun _ => ?_, fun h => (nomatch h)⟩
      walk_at "dw"
      refine w2_ixL (ati_n hat) ?_
      refine ⟨_, Sub.refl _, ?_, rfl⟩
      rw [findSome_at hi hI (c := .over k) (by unfold bad; rw [hgi])]; rfl
    | unknown n =>
      rw [hg] at hat hgi
      walk_at "dw"
      refine w2_ixL (ati_n hat) ?_
      refine we_int ?_
      refine w2_ixT ati_0 ?_
      walk_at "dw"
      refine w2_inT rfl rfl ?_
      rw [inOU kUnknown true (by decide +kernel)]
      walk_at "dw"
      refine ⟨fun _ => ?_, fun h => (nomatch h)⟩
      walk_at "dw"
      refine w2_ixL (ati_n hat) ?_
      refine ⟨_, Sub.refl _, ?_, rfl⟩
      rw [findSome_at hi hI (c := .unknown n) (by unfold bad; rw [hgi])]; rfl
    | rest =>
      rw [hg] at hat hgi
      walk_at "dw"
      refine w2_ixL (ati_n hat) ?_
      refine we_int ?_
      refine w2_ixT ati_0 ?_
      walk_at "dw"
      refine w2_inT rfl rfl ?_
      rw [inOU kRest false (by decide +kernel)]
      walk_at "dw"
      refine ⟨fun h => (nomatch h), fun _ => ?_⟩
      walk_at "dw"
      refine w2_ixL (ati_n hat) ?_
      refine we_int ?_
      refine w2_ixT ati_0 ?_
      walk_at "dw"
      refine w2_neD (by decide +kernel) (by decide +kernel) ?_
      rw [show PyData.eqv (.str kRest) (.str "rest") = true by decide +kernel]
      walk_at "dw"
      refine ⟨fun h => (nomatch h), fun _ => ⟨fun h => (nomatch h), fun _ => ?_⟩⟩
      walk_at "dw"
      exact go (by unfold bad; rw [hgi])
    | slot k =>
      rw [hg] at hat hgi
      have hk := hgslot i k hgi
      walk_at "dw"
      refine w2_ixL (ati_n hat) ?_
      refine we_int ?_
      refine w2_ixT ati_0 ?_
      walk_at "dw"
      refine w2_inT rfl rfl ?_
      rw [inOU kSlot false (by decide +kernel)]
      walk_at "dw"
      refine ⟨fun h => (nomatch h), fun _ => ?_⟩
      walk_at "dw"
      refine w2_ixL (ati_n hat) ?_
      refine we_int ?_
      refine w2_ixT ati_0 ?_
      walk_at "dw"
      refine w2_neD (by decide +kernel) (by decide +kernel) ?_
      rw [show PyData.eqv (.str kSlot) (.str "rest") = false by decide +kernel]
      walk_at "dw"
      refine ⟨fun _ => ?_, fun h => (nomatch h)⟩
      walk_at "dw"
      refine w2_ixL (ati_n hat) ?_
      walk_at "dw"
      rw [cut_take _ _ (by rw [List.length_map]; omega), ← List.map_take]
      refine w2_inD (shaped_of 2 (shp_go (.slot k))) (shaped_of 3 (shp_goes _)) ?_
      rw [any_go]
      walk_at "dw"
      refine ⟨fun h => ?_, fun h => ?_⟩
      · walk_at "dw"
        refine w2_ixL (ati_n hat) ?_
        refine we_int ?_
        refine w2_ixT ati_0 ?_
        walk_at "dw"
        refine w2_eqD (by decide +kernel) (by decide +kernel) ?_
        rw [show PyData.eqv (.str kSlot) (.str "slot") = true by decide +kernel]
        walk_at "dw"
        refine ⟨fun _ => ?_, fun h => (nomatch h)⟩
        walk_at "dw"
        refine w2_ixL (ati_n hat) ?_
        refine we_int ?_
        refine w2_ixT ati_1 ?_
        refine w2_ixT (ati_n (d := encS face.slots[k]) (by rw [List.getElem?_map, List.getElem?_eq_getElem hk]; rfl)) ?_
        walk_at "dw"
        refine w2_ixT ati_0 ?_
        walk_at "dw"
        refine ⟨_, Sub.refl _, ?_, rfl⟩
        rw [findSome_at hi hI (c := .twice face.slots[k].name) (by unfold bad; rw [hgi]; simp only [if_pos (of_decide_eq_true h), nameK, List.getElem?_eq_getElem hk])]; rfl
      · walk_at "dw"
        exact go (by unfold bad; rw [hgi]; simp only [if_neg (of_decide_eq_false h)])
    | more n =>
      rw [hg] at hat hgi
      walk_at "dw"
      refine w2_ixL (ati_n hat) ?_
      refine we_int ?_
      refine w2_ixT ati_0 ?_
      walk_at "dw"
      refine w2_inT rfl rfl ?_
      rw [inOU kMore false (by decide +kernel)]
      walk_at "dw"
      refine ⟨fun h => (nomatch h), fun _ => ?_⟩
      walk_at "dw"
      refine w2_ixL (ati_n hat) ?_
      refine we_int ?_
      refine w2_ixT ati_0 ?_
      walk_at "dw"
      refine w2_neD (by decide +kernel) (by decide +kernel) ?_
      rw [show PyData.eqv (.str kMore) (.str "rest") = false by decide +kernel]
      walk_at "dw"
      refine ⟨fun _ => ?_, fun h => (nomatch h)⟩
      walk_at "dw"
      refine w2_ixL (ati_n hat) ?_
      walk_at "dw"
      rw [cut_take _ _ (by rw [List.length_map]; omega), ← List.map_take]
      refine w2_inD (shaped_of 2 (shp_go (.more n))) (shaped_of 3 (shp_goes _)) ?_
      rw [any_go]
      walk_at "dw"
      refine ⟨fun h => ?_, fun h => ?_⟩
      · walk_at "dw"
        refine w2_ixL (ati_n hat) ?_
        refine we_int ?_
        refine w2_ixT ati_0 ?_
        walk_at "dw"
        refine w2_eqD (by decide +kernel) (by decide +kernel) ?_
        rw [show PyData.eqv (.str kMore) (.str "slot") = false by decide +kernel]
        walk_at "dw"
        refine ⟨fun h => (nomatch h), fun _ => ?_⟩
        walk_at "dw"
        refine w2_ixL (ati_n hat) ?_
        refine we_int ?_
        refine w2_ixT ati_1 ?_
        walk_at "dw"
        refine ⟨_, Sub.refl _, ?_, rfl⟩
        rw [findSome_at hi hI (c := .twice n) (by unfold bad; rw [hgi]; simp only [if_pos (of_decide_eq_true h)])]; rfl
      · walk_at "dw"
        exact go (by unfold bad; rw [hgi]; simp only [if_neg (of_decide_eq_false h)])
  rintro ρ μ' ⟨rfl, hI, v, rfl⟩
  rw [List.length_map, List.length_range] at hI
  rw [findSome_none hI]
  have hnd := more_nodup hI
  clear hI
  walk_at "dw"
  refine ws_for (wi_rng ?_)
  walk_at "dw"
  rw [List.length_map]
  refine ⟨_, rfl, by omega, by omega, ?_⟩
  rw [Int.toNat_natCast]
  refine ⟨fun i ρ μ' => μ = μ' ∧ (∀ j, j < i → lackL face goes j = false) ∧ ∃ u, ρ = [some (.d (encF face)), some (.l (names.map encN)), some (.t (face.slots.map encS)), some (.l (goes.map encG)), v, none, u, none, none], ⟨rfl, fun j hj => absurd hj (Nat.not_lt_zero _), _, rfl⟩, fun _ _ _ _ _ => trivial, ?_, ?_⟩
  · rintro k x ρ μ' hx ⟨rfl, hI, u, rfl⟩
    have hk : k < face.slots.length := by
      have := (List.getElem?_eq_some_iff.mp hx).1
      simpa using this
    rw [List.getElem?_map, List.getElem?_range hk] at hx
    cases hx
    have hlk : lackL face goes k = (!decide (Go.slot k ∈ goes) && decide (face.slots[k].dflt = none)) := by unfold lackL; rw [List.getElem?_eq_getElem hk]
    have hats : (face.slots.map encS)[k]? = some (encS face.slots[k]) := by rw [List.getElem?_map, List.getElem?_eq_getElem hk]; rfl
    have go : lackL face goes k = false → μ = μ ∧ (∀ j, j < k + 1 → lackL face goes j = false) ∧ ∃ u, [some (PV.d (encF face)), some (.l (names.map encN)), some (.t (face.slots.map encS)), some (.l (goes.map encG)), v, none, some (.i (k : Int)), none, none] = [some (.d (encF face)), some (.l (names.map encN)), some (.t (face.slots.map encS)), some (.l (goes.map encG)), v, none, u, none, none] := fun h => ⟨rfl, fun j hj => by
      rcases Nat.lt_or_eq_of_le (Nat.le_of_lt_succ hj) with hj | rfl
      · exact hI j hj
      · exact h, _, rfl⟩
    walk_at "dw"
    refine w2_notInD (d := encG (.slot k)) (shaped_of 2 (shp_go (.slot k))) (shaped_of 3 (shp_goes _)) ?_
    rw [any_go]
    walk_at "dw"
    refine ⟨fun h => ?_, fun h => ?_⟩
    · walk_at "dw"
      refine w2_ixT (ati_n hats) ?_
      walk_at "dw"
      refine w2_ixT ati_2 ?_
      walk_at "dw"
      rw [isN_encO]
      refine ⟨fun h2 => ?_, fun h2 => ?_⟩
      · walk_at "dw"
        refine w2_ixT (ati_n hats) ?_
        walk_at "dw"
        refine w2_ixT ati_0 ?_
        walk_at "dw"
        refine ⟨_, Sub.refl _, ?_, rfl⟩
        unfold lawEnd
        rw [find_range hk (by rw [hlk, h, h2]; rfl) hI]
        show PV.d _ = PV.d (encC (.lacks (nameK face k)))
        unfold nameK
        rw [List.getElem?_eq_getElem hk]
        rfl
      · walk_at "dw"
        exact go (by rw [hlk, h2, Bool.and_false])
    · refine ⟨fun h => (nomatch h), fun _ => ?_⟩
      walk_at "dw"
      exact go (by rw [hlk, h, Bool.false_and])
  rintro ρ μ' ⟨rfl, hI, u, rfl⟩
  rw [List.length_map, List.length_range] at hI
  have hend : lawEnd face goes = .fits ((List.range face.slots.length).map fun k => idxG goes (.slot k)) (restG goes) (sortM (moreG goes)) := by unfold lawEnd; rw [find_none hI]
  show Ws K G0 _ _ μ (retD fun x μ' => x = PV.d (encOut (lawEnd face goes)) ∧ μ = μ')
  rw [hend]
  walk_at "dw"
  refine we_lcB (List.range face.slots.length) (fun (k : Nat) => PV.i (k : Int)) (fun k => optI (idxG goes (.slot k))) (wi_rng ?_)
  walk_at "dw"
  rw [List.length_map]
  refine ⟨_, rfl, by omega, by omega, ?_⟩
  rw [Int.toNat_natCast]
  refine ⟨rfl, by rw [List.length_range]; omega, fun _ _ => trivial, fun k hk μ1 hs1 => ?_, ?_⟩
  · walk_at "dw"
    refine w2_inD (d := encG (.slot k)) (shaped_of 2 (shp_go (.slot k))) (shaped_of 3 (shp_goes _)) ?_
    rw [any_go]
    walk_at "dw"
    refine ⟨fun h => ?_, fun h => ?_⟩
    · have hm := of_decide_eq_true h
      obtain ⟨z, hz1, hz2, hz3⟩ := idx_any hm
      walk_at "dw"
      refine ⟨tyd_l, ?_⟩
      walk_at "dw"
      refine wm_indexD (d := encG (.slot k)) (shaped_of 3 (shp_goes _)) (shaped_of 2 (shp_go (.slot k))) hz1 hz2 hz3 ?_
      refine ⟨Sub.refl _, ?_⟩
      unfold idxG
      rw [if_pos hm]; rfl
    · walk_at "dw"
      refine ⟨Sub.refl _, ?_⟩
      unfold idxG
      rw [if_neg (of_decide_eq_false h)]; rfl
  walk_at "dw"
  refine we_lcA (List.range goes.length) (fun (k : Nat) => PV.i (k : Int)) (moreB goes) (fun k => encP (moreN goes k, (k : Int))) (wi_rng ?_)
  walk_at "dw"
  rw [List.length_map]
  refine ⟨_, rfl, by omega, by omega, ?_⟩
  rw [Int.toNat_natCast]
  refine ⟨rfl, by rw [List.length_range]; omega, fun _ _ => trivial, fun k hk μ1 hs1 => ?_, ?_⟩
  · have hk' := List.mem_range.mp hk
    have hgk : goes[k]? = some goes[k] := List.getElem?_eq_getElem hk'
    have hat := hget k hk'
    obtain ⟨r, hr2⟩ := word_enc goes[k]
    have hat2 := hat
    rw [hr2] at hat2
    walk_at "dw"
    refine w2_ixL (ati_n hat2) ?_
    walk_at "dw"
    refine w2_ixT ati_0 ?_
    walk_at "dw"
    refine w2_eqD (shp_word _) (by decide +kernel) ?_
    rw [eqv_str, show decide (goes[k].word = Str.ofString "more") = isMore goes[k] from word_more _]
    walk_at "dw"
    refine ⟨Sub.refl _, by unfold moreB; rw [hgk], fun hm => ?_⟩
    obtain ⟨n, hn⟩ : ∃ n, goes[k] = .more n := by
      unfold moreB at hm
      rw [hgk] at hm
      have hm' : isMore goes[k] = true := hm
      cases hg : goes[k] with
      | more n => exact ⟨n, rfl⟩
      | _ => rw [hg] at hm'; cases hm'
    rw [hn] at hat hgk
    walk_at "dw"
    refine w2_ixL (ati_n hat) ?_
    refine we_int ?_
    refine w2_ixT ati_1 ?_
    walk_at "dw"
    refine ⟨Sub.refl _, ?_⟩
    unfold moreN
    rw [hgk]; rfl
  rw [more_list]
  walk_at "dw"
  refine wc_sortedP fun qs hp hs => ?_
  rw [sort_more hnd hp hs]
  walk_at "dw"
  refine we_lcA (List.range goes.length) (fun (k : Nat) => PV.i (k : Int)) (fun (k : Nat) => decide (goes[k]? = some Go.rest)) (fun (k : Nat) => PyData.int (k : Int)) (wi_rng ?_)
  walk_at "dw"
  rw [List.length_map]
  refine ⟨_, rfl, by omega, by omega, ?_⟩
  rw [Int.toNat_natCast]
  refine ⟨rfl, by rw [List.length_range]; omega, fun _ _ => trivial, fun k hk μ1 hs1 => ?_, ?_⟩
  · have hk' := List.mem_range.mp hk
    have hgk : goes[k]? = some goes[k] := List.getElem?_eq_getElem hk'
    have hat := hget k hk'
    obtain ⟨r, hr2⟩ := word_enc goes[k]
    rw [hr2] at hat
    walk_at "dw"
    refine w2_ixL (ati_n hat) ?_
    walk_at "dw"
    refine w2_ixT ati_0 ?_
    walk_at "dw"
    refine w2_eqD (shp_word _) (by decide +kernel) ?_
    rw [eqv_str, show decide (goes[k].word = Str.ofString "rest") = decide (goes[k] = .rest) from word_rest _]
    walk_at "dw"
    refine ⟨Sub.refl _, by rw [hgk]; simp, fun _ => ?_⟩
    walk_at "dw"
    exact ⟨Sub.refl _, rfl⟩
  walk_at "dw"
  refine ⟨_, Sub.refl _, ?_, rfl⟩
  simp only [encOut, encM, List.map_map, restG]
  rfl
end
end Sc

namespace Sc
open PySem L2 PyProof.Rows Dw
local macro_rules | `(tactic| walk_at "dw1") => `(tactic| first
  | (with_reducible refine ws_seq ?_) | (with_reducible refine ws_ret ?_) | (with_reducible refine ws_set ?_) | (with_reducible refine ws_drop ?_) | (with_reducible refine ws_if ?_) | (with_reducible refine ws_next ?_)
  | ((with_reducible show We _ _ (tVar _) _ _ _); refine we_var rfl ?_) | (with_reducible refine we_int ?_) | (with_reducible refine we_bl ?_) | (with_reducible refine we_str ?_) | (with_reducible refine we_non ?_) | (with_reducible refine we_ty ?_)
  | (with_reducible refine we_op ?_) | (with_reducible refine we_isiT ?_) | (with_reducible refine we_cb ?_) | (with_reducible refine wa_cons ?_) | (with_reducible refine wa_nil ?_)
  | (with_reducible refine we_and ?_) | (with_reducible refine we_or ?_) | (with_reducible refine we_not ?_) | (with_reducible refine we_if ?_) | (with_reducible refine we_chain ?_)
  | (with_reducible refine we_fld ?_) | (with_reducible refine we_bm ?_) | (with_reducible refine we_bm0 ?_) | (with_reducible refine we_sl ?_) | (with_reducible refine wo_none ?_) | (with_reducible refine wo_some ?_)
  | (with_reducible refine wt_test ?_) | (with_reducible refine wt_B ?_) | (with_reducible refine wt_and ?_) | (with_reducible refine wt_or ?_) | (with_reducible refine wt_not ?_) | (with_reducible refine wt_yes ?_)
  | (with_reducible refine w2_I0i ?_) | (with_reducible refine w2_I0b ?_) | (with_reducible refine w2_isN ?_) | (with_reducible refine w2_notN ?_)
  | (with_reducible refine we_callL ?_) | (with_reducible refine we_call ?_) | (with_reducible refine we_tup ?_)
  | (with_reducible refine wc_lenT ?_) | (with_reducible refine wc_lenL ?_) | (with_reducible refine wc_lenS ?_) | (with_reducible refine wc_intB ?_) | (with_reducible refine wc_min2 ?_)
  | ((with_reducible show Wg _ _ (gTup _ _ _) _ _ _ _); first | refine wg_tup2 ?_ | refine wg_tup3 ?_ | refine wg_tup4 ?_) | (with_reducible refine we_un ?_) | (with_reducible refine ws_asg ?_) | (with_reducible refine wg_name ?_) | (with_reducible refine wgs_cons ?_) | (with_reducible refine wgs_nil ?_)
  | (with_reducible refine wsl_T ?_) | (with_reducible refine wsl_L ?_)
  | (with_reducible refine wc_tupL ?_) | (with_reducible refine wc_listT ?_)
  | (with_reducible refine wc_isi (kit_int _) ?_) | (with_reducible refine wc_isi (kit_bool _) ?_) | (with_reducible refine wc_isi (kit_tuple _) ?_) | (with_reducible refine wc_isi (kit_list _) ?_) | (with_reducible refine wc_isi (kit_str _) ?_)
  | (with_reducible refine ex_b ?_) | (with_reducible refine ex_i ?_) | (with_reducible refine ex_t ?_) | (with_reducible refine ex_l ?_)
  | ((with_reducible show ∃ _, unD _ = some _ ∧ _); refine ⟨_, rfl, by simp, ?_⟩))
local macro_rules | `(tactic| walk_at "dw") => `(tactic| repeat' walk_at "dw1")

section
variable {P : Program} {w : World} {K : Frg} {mg : Str → Option Value} {base : Heap} {fa : Addr} {fd : FuncData}
/-! ### _law_worth -/
abbrev s_law_worth : Stmt := topS 38
abbrev N_law_worth : List Str := ["_law_e", "_law_worths", "_law_said", "_law_first"]
theorem sc_law_worth : FnScope N_law_worth ["_law_e", "_law_worths", "_law_said"] (defScope s_law_worth) := ⟨rfl, rfl, rfl, by decide +kernel, rfl, by decide +kernel, by decide +kernel⟩

abbrev sp_worth (n : Nat) (K : Frg) : Sp := SpA (α := WArg) K wIn (fun a μ => WPre n a μ) wPost
theorem body_worth (n : Nat) (hn : n ≤ 60) (F : Fun K "_law_worth" "_law_worth" s_law_worth fa fd)
    (C_law_worth : Cal P w K mg base CX0 n "_law_worth" ["_law_e", "_law_worths", "_law_said"] (SpA (α := WArg) K wIn (fun a μ => ∃ m, n = m + 1 ∧ WPre m a μ) wPost)) : FnOk P w K mg base CX0 (n + 1) fa fd ["_law_e", "_law_worths", "_law_said"] (sp_worth n K) := by
  refine ok_D F sc_law_worth (fun _ => rfl) (fun cdv A outer s H E hr a μ hp => ⟨_, (pss_cons (ps_if (pt_cmpR (keq K hr) (pe_ix (kix K) (pv 0) pe_int (fun _ _ => rfl)) pe_str (nomark _)) (pss_cons (ps_set (i := 3) sc_law_worth.nd rfl (Or.inl rfl) (pe_cal C_law_worth hr (pa_cons (pe_ix (kix K) (pv 0) pe_int (fun _ _ => rfl)) (pa_cons (pv 1) (pa_cons (pv 2) pa_nil)))))
      (pss_one (ps_ret (pe_op op_add (pv 3) (pe_cal C_law_worth hr (pa_cons (pe_ix (kix K) (pv 0) pe_int (fun _ _ => rfl)) (pa_cons (pv 1) (pa_cons (pv 2) pa_nil)))))))) pss_nil)
      (pss_cons (ps_if (pt_cmpR (keq K hr) (pe_ix (kix K) (pv 0) pe_int (fun _ _ => rfl)) pe_str (nomark _)) (pss_one (ps_expr (pkBm K PySem.F.plainAttrs_list PySem.F.slot_list_append PySem.F.type_list_append mt_append (pv 2) (pa_cons (pe_ix (kix K) (pv 0) pe_int (fun _ _ => rfl)) pa_nil)))) pss_nil)
      (pss_one (ps_ret (pe_ifExp (pt_cmpR (keq K hr) (pe_ix (kix K) (pv 0) pe_int (fun _ _ => rfl)) pe_str (nomark _)) (pe_dget (hu_of hr) (pv 1) (pe_ix (kix K) (pv 0) pe_int (fun _ _ => rfl)) (fun _ _ => rfl)) (pe_ix (kix K) (pv 0) pe_int (fun _ _ => rfl))))))), fun G0 => ?_⟩)
  obtain ⟨e, ⟨ws, aW⟩, said, aS⟩ := a
  obtain ⟨hE, hW, hS, hl⟩ := hp
  try dsimp only [cxOf, Cx.nox] at hE hW hS hl ⊢
  have h1000 : said.length ≤ 1000 := Nat.le_trans (Nat.le_add_right _ _) hl
  have same : μ = mset μ aS (.lst ((said ++ []).map PV.i)) := by rw [List.append_nil, mset_id hS]
  cases e with
  | num i =>
    walk_at "dw"
    refine w2_ixT ati_0 ?_
    walk_at "dw"
    refine w2_eqD (by decide +kernel) (by decide +kernel) ?_
    rw [show PyData.eqv (.str kNum) (.str "plus") = false by decide +kernel]
    walk_at "dw"
    refine ⟨fun h => (nomatch h), fun _ => ?_⟩
    walk_at "dw"
    refine w2_ixT ati_0 ?_
    walk_at "dw"
    refine w2_eqD (by decide +kernel) (by decide +kernel) ?_
    rw [show PyData.eqv (.str kNum) (.str "say") = false by decide +kernel]
    walk_at "dw"
    refine ⟨fun h => (nomatch h), fun _ => ?_⟩
    walk_at "dw"
    refine w2_ixT ati_0 ?_
    walk_at "dw"
    refine w2_eqD (by decide +kernel) (by decide +kernel) ?_
    rw [show PyData.eqv (.str kNum) (.str "slot") = false by decide +kernel]
    walk_at "dw"
    refine ⟨fun h => (nomatch h), fun _ => ?_⟩
    walk_at "dw"
    refine w2_ixT ati_1 ?_
    exact ⟨_, Sub.refl _, rfl, same⟩
  | say i =>
    walk_at "dw"
    refine w2_ixT ati_0 ?_
    walk_at "dw"
    refine w2_eqD (by decide +kernel) (by decide +kernel) ?_
    rw [show PyData.eqv (.str kSay) (.str "plus") = false by decide +kernel]
    walk_at "dw"
    refine ⟨fun h => (nomatch h), fun _ => ?_⟩
    walk_at "dw"
    refine w2_ixT ati_0 ?_
    walk_at "dw"
    refine w2_eqD (by decide +kernel) (by decide +kernel) ?_
    rw [show PyData.eqv (.str kSay) (.str "say") = true by decide +kernel]
    walk_at "dw"
    refine ⟨fun _ => ?_, fun h => (nomatch h)⟩
    walk_at "dw"
    refine ⟨tyd_o hS, ?_⟩
    walk_at "dw"
    refine w2_ixT ati_1 ?_
    walk_at "dw"
    refine wm_append hS (by rw [List.length_map]; omega) ?_
    walk_at "dw"
    refine w2_ixT ati_0 ?_
    walk_at "dw"
    refine w2_eqD (by decide +kernel) (by decide +kernel) ?_
    rw [show PyData.eqv (.str kSay) (.str "slot") = false by decide +kernel]
    walk_at "dw"
    refine ⟨fun h => (nomatch h), fun _ => ?_⟩
    walk_at "dw"
    refine w2_ixT ati_1 ?_
    exact ⟨_, Sub.refl _, rfl, by simp only [List.map_append]; rfl⟩
  | slot i =>
    have hm : i ∈ ws.map (·.1) := by cases n <;> exact hE.2
    walk_at "dw"
    refine w2_ixT ati_0 ?_
    walk_at "dw"
    refine w2_eqD (by decide +kernel) (by decide +kernel) ?_
    rw [show PyData.eqv (.str kSlot) (.str "plus") = false by decide +kernel]
    walk_at "dw"
    refine ⟨fun h => (nomatch h), fun _ => ?_⟩
    walk_at "dw"
    refine w2_ixT ati_0 ?_
    walk_at "dw"
    refine w2_eqD (by decide +kernel) (by decide +kernel) ?_
    rw [show PyData.eqv (.str kSlot) (.str "say") = false by decide +kernel]
    walk_at "dw"
    refine ⟨fun h => (nomatch h), fun _ => ?_⟩
    walk_at "dw"
    refine w2_ixT ati_0 ?_
    walk_at "dw"
    refine w2_eqD (by decide +kernel) (by decide +kernel) ?_
    rw [show PyData.eqv (.str kSlot) (.str "slot") = true by decide +kernel]
    walk_at "dw"
    refine ⟨fun _ => ?_, fun h => (nomatch h)⟩
    walk_at "dw"
    refine we_dget ?_
    walk_at "dw"
    refine w2_ixT ati_1 ?_
    refine ⟨_, _, Sum.inl i, _, rfl, rfl, hW, val_lookW hm, ?_⟩
    exact ⟨_, Sub.refl _, rfl, same⟩
  | plus x y =>
    obtain ⟨m, rfl⟩ : ∃ m, n = m + 1 := by cases n with
      | zero => cases hE
      | succ m => exact ⟨m, rfl⟩
    have hne : aW ≠ aS := fun e => by subst e; rw [hW] at hS; cases hS
    have hx := sayE_len m x hE.1
    rw [Nat.pow_succ] at hl
    walk_at "dw"
    refine w2_ixT ati_0 ?_
    walk_at "dw"
    refine w2_eqD (by decide +kernel) (by decide +kernel) ?_
    rw [show PyData.eqv (.str kPlus) (.str "plus") = true by decide +kernel]
    walk_at "dw"
    refine ⟨fun _ => ?_, fun h => (nomatch h)⟩
    walk_at "dw"
    refine w2_ixT ati_1 ?_
    walk_at "dw"
    refine ⟨(x, (ws, aW), (said, aS)), rfl, ⟨m, rfl, hE.1, hW, hS, by show said.length + 2 ^ m ≤ 1000; omega⟩, ?_⟩
    rintro _ _ ⟨rfl, rfl⟩
    walk_at "dw"
    refine w2_ixT ati_2 ?_
    walk_at "dw"
    refine ⟨(y, (ws, aW), (said ++ sayE x, aS)), rfl, ⟨m, rfl, hE.2, by show mset μ aS _ aW = _; rw [mset_ne hne]; exact hW, mset_same, by show (said ++ sayE x).length + 2 ^ m ≤ 1000; rw [List.length_append]; omega⟩, ?_⟩
    rintro _ _ ⟨rfl, rfl⟩
    walk_at "dw"
    refine ⟨_, Sub.refl _, rfl, ?_⟩
    show mset (mset μ aS _) aS _ = mset μ aS _
    rw [mset_mset, List.append_assoc]
    rfl
theorem ok_worth (F : Fun K "_law_worth" "_law_worth" s_law_worth fa fd) (gl : mg "_law_worth" = some (.ref fa)) (bn : Binds K fd ["_law_e", "_law_worths", "_law_said"] []) : ∀ n : Nat, n ≤ 60 → FnOk P w K mg base CX0 (n + 1) fa fd ["_law_e", "_law_worths", "_law_said"] (sp_worth n K) := by
  intro n
  induction n with
  | zero =>
    intro _
    refine body_worth 0 (by decide) F ⟨fa, fd, gl, F.kp, bn, ⟨fun vs H Q E h => ?_, fun _ _ _ _ _ _ _ _ _ _ _ _ _ h => ?_⟩⟩
    · obtain ⟨_, _, _, _, _, ⟨m, hm, _⟩, _⟩ := h; cases hm
    · obtain ⟨_, _, _, _, _, ⟨m, hm, _⟩, _⟩ := h; cases hm
  | succ n ih =>
    intro hn
    refine body_worth (n + 1) hn F ⟨fa, fd, gl, F.kp, bn, (ih (by omega)).imp fun vs H Q E h => ?_⟩
    obtain ⟨G, μ, a, rl, S, ⟨m, hm, h1⟩, k⟩ := h
    cases hm
    exact ⟨G, μ, a, rl, S, h1, k⟩
end
end Sc

namespace Sc
open PySem L2 PyProof.Rows Dw
local macro_rules | `(tactic| walk_at "dw1") => `(tactic| first
  | (with_reducible refine ws_seq ?_) | (with_reducible refine ws_ret ?_) | (with_reducible refine ws_set ?_) | (with_reducible refine ws_drop ?_) | (with_reducible refine ws_if ?_) | (with_reducible refine ws_next ?_)
  | ((with_reducible show We _ _ (tVar _) _ _ _); refine we_var rfl ?_) | (with_reducible refine we_int ?_) | (with_reducible refine we_bl ?_) | (with_reducible refine we_str ?_) | (with_reducible refine we_non ?_) | (with_reducible refine we_ty ?_)
  | (with_reducible refine we_op ?_) | (with_reducible refine we_isiT ?_) | (with_reducible refine we_cb ?_) | (with_reducible refine wa_cons ?_) | (with_reducible refine wa_nil ?_)
  | (with_reducible refine we_and ?_) | (with_reducible refine we_or ?_) | (with_reducible refine we_not ?_) | (with_reducible refine we_if ?_) | (with_reducible refine we_chain ?_)
  | (with_reducible refine we_fld ?_) | (with_reducible refine we_bm ?_) | (with_reducible refine we_bm0 ?_) | (with_reducible refine we_sl ?_) | (with_reducible refine wo_none ?_) | (with_reducible refine wo_some ?_)
  | (with_reducible refine wt_test ?_) | (with_reducible refine wt_B ?_) | (with_reducible refine wt_and ?_) | (with_reducible refine wt_or ?_) | (with_reducible refine wt_not ?_) | (with_reducible refine wt_yes ?_)
  | (with_reducible refine w2_I0i ?_) | (with_reducible refine w2_I0b ?_) | (with_reducible refine w2_isN ?_) | (with_reducible refine w2_notN ?_)
  | (with_reducible refine we_callL ?_) | (with_reducible refine we_call ?_) | (with_reducible refine we_tup ?_)
  | (with_reducible refine wc_lenT ?_) | (with_reducible refine wc_lenL ?_) | (with_reducible refine wc_lenS ?_) | (with_reducible refine wc_intB ?_) | (with_reducible refine wc_min2 ?_)
  | ((with_reducible show Wg _ _ (gTup _ _ _) _ _ _ _); first | refine wg_tup2 ?_ | refine wg_tup3 ?_ | refine wg_tup4 ?_) | (with_reducible refine we_un ?_) | (with_reducible refine ws_asg ?_) | (with_reducible refine wg_name ?_) | (with_reducible refine wgs_cons ?_) | (with_reducible refine wgs_nil ?_)
  | (with_reducible refine wsl_T ?_) | (with_reducible refine wsl_L ?_)
  | (with_reducible refine wc_tupL ?_) | (with_reducible refine wc_listT ?_)
  | (with_reducible refine wc_isi (kit_int _) ?_) | (with_reducible refine wc_isi (kit_bool _) ?_) | (with_reducible refine wc_isi (kit_tuple _) ?_) | (with_reducible refine wc_isi (kit_list _) ?_) | (with_reducible refine wc_isi (kit_str _) ?_)
  | (with_reducible refine ex_b ?_) | (with_reducible refine ex_i ?_) | (with_reducible refine ex_t ?_) | (with_reducible refine ex_l ?_)
  | ((with_reducible show ∃ _, unD _ = some _ ∧ _); refine ⟨_, rfl, by simp, ?_⟩))
local macro_rules | `(tactic| walk_at "dw") => `(tactic| repeat' walk_at "dw1")

/-- between two turns of the loop over the slots -/
structure DoneInv (f : Face) (c : List Thing) (a : List (Option Nat)) (aS aW : Addr) (μ μ' : Mu) (i : Nat) : Prop where
  sub : Sub μ μ'
  mw : μ' aW = some (.dk (encWs (goW (numsOf c) ((f.slots.zip a).take i) ([], saidOf c)).1))
  ms : μ' aS = some (.lst ((goW (numsOf c) ((f.slots.zip a).take i) ([], saidOf c)).2.map PV.i))
  len : (goW (numsOf c) ((f.slots.zip a).take i) ([], saidOf c)).2.length ≤ 10 + 2 * i
theorem DoneInv.step {f : Face} {c : List Thing} {a : List (Option Nat)} {aS aW : Addr} {μ μ' μ2 : Mu} {i : Nat} (I : DoneInv f c a aS aW μ μ' i) (hf : f.Ok) (hs : i < f.slots.length) (ha : i < a.length) {st : List (Int × Int) × List Int}
    (hst : st = stepW (numsOf c) f.slots[i] a[i] (goW (numsOf c) ((f.slots.zip a).take i) ([], saidOf c))) (sub : Sub μ μ2) (mw : μ2 aW = some (.dk (encWs st.1))) (ms : μ2 aS = some (.lst (st.2.map PV.i)))
    (hd : ∀ e, f.slots[i].dflt = some e ∨ e = .num 0 → (sayE e).length ≤ 2) : DoneInv f c a aS aW μ μ2 (i + 1) := by
  have hz : (f.slots.zip a)[i]? = some (f.slots[i], a[i]) := by
    rw [List.getElem?_zip_eq_some]
    exact ⟨List.getElem?_eq_getElem hs, List.getElem?_eq_getElem ha⟩
  have hgo : goW (numsOf c) ((f.slots.zip a).take (i + 1)) ([], saidOf c) = st := by
    rw [List.take_add_one, hz, goW_app, hst]; rfl
  refine ⟨sub, by rw [hgo]; exact mw, by rw [hgo]; exact ms, ?_⟩
  have hl := I.len
  rw [hgo, hst]
  cases hai : a[i] with
  | some k => show (goW _ _ _).2.length ≤ _; omega
  | none =>
    show ((goW _ _ _).2 ++ sayE (dfE f.slots[i])).length ≤ _
    rw [List.length_append]
    have : (sayE (dfE f.slots[i])).length ≤ 2 := by
      cases hdf : f.slots[i].dflt with
      | none => exact hd _ (.inr (by unfold dfE; rw [hdf]; rfl))
      | some e => exact hd _ (.inl (by unfold dfE; rw [hdf]; rfl))
    omega
section
variable {P : Program} {w : World} {K : Frg} {mg : Str → Option Value} {base : Heap} {fa : Addr} {fd : FuncData}
/-! ### _law_done -/
abbrev s_law_done : Stmt := topS 39
abbrev N_law_done : List Str := ["_law_face_here", "_law_call_here", "_law_said", "_law_numbers", "_law_name", "_law_e", "_law_told", "_law_worths", "_law_k", "_law_sort", "_law_default_here", "_law_every", "_law_more", "_law_slot"]
theorem sc_law_done : FnScope N_law_done ["_law_face_here", "_law_call_here"] (defScope s_law_done) := ⟨rfl, rfl, rfl, by decide +kernel, rfl, by decide +kernel, by decide +kernel⟩

abbrev sp_ldone (K : Frg) : Sp := SpA (α := Face × List Thing) K (fun a => [.d (encF a.1), .l (a.2.map encT)]) (fun a μ => a.1.Ok ∧ a.2.length ≤ 10 ∧ ∀ t ∈ a.2, t.Ok) (fun a μ x μ' => x = .d (encDone a.1 a.2 (lawMatched a.1 (a.2.map (·.name)))) ∧ μ = μ')
structure LInv (c : List Thing) (aS aN : Addr) (μ μ' : Mu) (i : Nat) : Prop where
  sub : Sub μ μ'
  ms : μ' aS = some (.lst ((saidOf (c.take i)).map PV.i))
  mn : μ' aN = some (.lst ((numsOf (c.take i)).map PV.i))
theorem ok_ldone (F : Fun K "_law_done" "_law_done" s_law_done fa fd) (B : Blt mg) (C_law_worth : Cal P w K mg base CX0 2 "_law_worth" ["_law_e", "_law_worths", "_law_said"] (sp_worth 1 K))
    (C_law_matched : Cal P w K mg base CX0 2 "_law_matched" ["_law_face_here", "_law_names"] (sp_lmatched K)) : FnOk P w K mg base CX0 3 fa fd ["_law_face_here", "_law_call_here"] (sp_ldone K) := by
  refine ok_D F sc_law_done (fun _ => rfl) (fun cdv A outer s H E hr a μ hp => ⟨_, (pss_cons (ps_set (i := 2) sc_law_done.nd rfl (Or.inl rfl) (pe_lst pa_nil))
      (pss_cons (ps_set (i := 3) sc_law_done.nd rfl (Or.inr rfl) (pe_lst pa_nil))
      (pss_cons (ps_for PassesOwn.never rfl (pkList K (pv 1)) (pkTG K 2 (by rfl) (pgs_cons (pg_name (i := 4) sc_law_done.nd rfl (Or.inl rfl)) (pgs_cons (pg_name (i := 5) sc_law_done.nd rfl (Or.inl rfl)) pgs_nil))) (pss_one (ps_expr (pkBm K PySem.F.plainAttrs_list PySem.F.slot_list_append PySem.F.type_list_append mt_append (pv 3) (pa_cons (pe_cal C_law_worth hr (pa_cons (pv 5) (pa_cons pe_dnewK (pa_cons (pv 2) pa_nil)))) pa_nil)))))
      (pss_cons (ps_set (i := 6) sc_law_done.nd rfl (Or.inl rfl) (pe_cal C_law_matched hr (pa_cons (pv 0) (pa_cons (pe_lc (own := [("_law_name", 4), ("_law_e", 5)]) (g := (gTup K 2 (gCons (gName 4) (gCons (gName 5) gNil)))) rfl sc_law_done.nd (pkList K (pv 1)) (blkOk_by (own := [("_law_name", 4), ("_law_e", 5)]) (N := N_law_done) (sc := defScope s_law_done) (by decide +kernel)) (fun _ _ _ _ _ => (pkTG K 2 (by rfl) (pgs_cons (pg_name (i := 4) sc_law_done.nd rfl (by first | exact Or.inl rfl | exact Or.inr rfl)) (pgs_cons (pg_name (i := 5) sc_law_done.nd rfl (by first | exact Or.inl rfl | exact Or.inr rfl)) pgs_nil)))) (fun _ _ _ _ _ => pts_nil) (fun _ _ _ _ _ => (pv 4))) pa_nil))))
      (pss_cons (ps_if (pt_cmpR (kne K hr) (pe_ix (kix K) (pv 6) pe_int (fun _ _ => rfl)) pe_str (nomark _)) (pss_one (ps_ret (pe_tup (pa_cons (pe_callTy (ktup K) (by rfl) B.tuple (by decide +kernel) (pa_cons (pv 2) pa_nil)) (pa_cons (pv 6) pa_nil))))) pss_nil)
      (pss_cons (ps_set (i := 7) sc_law_done.nd rfl (Or.inr rfl) pe_dnewK)
      (pss_cons (ps_for PassesOwn.never rfl (pi_range1 rfl B.range (pa_cons (pe_callB (klen K) (by rfl) B.len PySem.boot_len (pa_cons (pe_ix (kix K) (pv 0) pe_int (fun _ _ => rfl)) pa_nil)) pa_nil)) (pg_name (i := 8) sc_law_done.nd rfl (Or.inl rfl)) (pss_cons (ps_asg (pe_ix (kix K) (pe_ix (kix K) (pv 0) pe_int (fun _ _ => rfl)) (pv 8) (fun _ _ => rfl)) (pkTG K 3 (by rfl) (pgs_cons (pg_name (i := 4) sc_law_done.nd rfl (Or.inl rfl)) (pgs_cons (pg_name (i := 9) sc_law_done.nd rfl (Or.inl rfl)) (pgs_cons (pg_name (i := 10) sc_law_done.nd rfl (Or.inl rfl)) pgs_nil)))))
      (pss_one (ps_dput (hu_of hr) (pv 7) (pv 4) (pe_ifExp (pt_cmpR op_isN (pe_ix (kix K) (pe_ix (kix K) (pv 6) pe_int (fun _ _ => rfl)) (pv 8) (fun _ _ => rfl)) pe_non (nomark _)) (pe_cal C_law_worth hr (pa_cons (pv 10) (pa_cons (pv 7) (pa_cons (pv 2) pa_nil)))) (pe_ix (kix K) (pv 3) (pe_ix (kix K) (pe_ix (kix K) (pv 6) pe_int (fun _ _ => rfl)) (pv 8) (fun _ _ => rfl)) (fun _ _ => rfl))) rfl))))
      (pss_cons (ps_set (i := 11) sc_law_done.nd rfl (Or.inl rfl) (pe_callTy (ktup K) (by rfl) B.tuple (by decide +kernel) (pa_cons (pe_lc (own := [("_law_slot", 13)]) (g := (gName 13)) rfl sc_law_done.nd (pkTup K (pe_ix (kix K) (pv 0) pe_int (fun _ _ => rfl))) (blkOk_by (own := [("_law_slot", 13)]) (N := N_law_done) (sc := defScope s_law_done) (by decide +kernel)) (fun _ _ _ _ _ => (pg_name (i := 13) sc_law_done.nd rfl (by first | exact Or.inl rfl | exact Or.inr rfl))) (fun _ _ _ _ _ => pts_nil) (fun _ _ _ _ _ => (pe_dget (hu_of hr) (pv 7) (pe_ix (kix K) (pv 13) pe_int (fun _ _ => rfl)) (fun _ _ => rfl)))) pa_nil)))
      (pss_cons (ps_set (i := 12) sc_law_done.nd rfl (Or.inl rfl) (pe_callTy (ktup K) (by rfl) B.tuple (by decide +kernel) (pa_cons (pe_lc (own := [("_law_name", 4), ("_law_k", 8)]) (g := (gTup K 2 (gCons (gName 4) (gCons (gName 8) gNil)))) rfl sc_law_done.nd (pkTup K (pe_ix (kix K) (pv 6) pe_int (fun _ _ => rfl))) (blkOk_by (own := [("_law_name", 4), ("_law_k", 8)]) (N := N_law_done) (sc := defScope s_law_done) (by decide +kernel)) (fun _ _ _ _ _ => (pkTG K 2 (by rfl) (pgs_cons (pg_name (i := 4) sc_law_done.nd rfl (by first | exact Or.inl rfl | exact Or.inr rfl)) (pgs_cons (pg_name (i := 8) sc_law_done.nd rfl (by first | exact Or.inl rfl | exact Or.inr rfl)) pgs_nil)))) (fun _ _ _ _ _ => pts_nil) (fun _ _ _ _ _ => (pe_tup (pa_cons (pv 4) (pa_cons (pe_ix (kix K) (pv 3) (pv 8) (fun _ _ => rfl)) pa_nil))))) pa_nil)))
      (pss_one (ps_ret (pe_tup (pa_cons (pe_callTy (ktup K) (by rfl) B.tuple (by decide +kernel) (pa_cons (pv 2) pa_nil)) (pa_cons (pe_tup (pa_cons pe_str (pa_cons (pv 11) (pa_cons (pe_callTy (ktup K) (by rfl) B.tuple (by decide +kernel) (pa_cons (pe_lc (own := [("_law_k", 8)]) (g := (gName 8)) rfl sc_law_done.nd (pkTup K (pe_ix (kix K) (pv 6) pe_int (fun _ _ => rfl))) (blkOk_by (own := [("_law_k", 8)]) (N := N_law_done) (sc := defScope s_law_done) (by decide +kernel)) (fun _ _ _ _ _ => (pg_name (i := 8) sc_law_done.nd rfl (by first | exact Or.inl rfl | exact Or.inr rfl))) (fun _ _ _ _ _ => pts_nil) (fun _ _ _ _ _ => (pe_ix (kix K) (pv 3) (pv 8) (fun _ _ => rfl)))) pa_nil)) (pa_cons (pv 12) pa_nil))))) pa_nil)))))))))))))), fun G0 => ?_⟩)
  obtain ⟨f, c⟩ := a
  obtain ⟨hf, hc1, hc2⟩ := hp
  try dsimp only [cxOf, Cx.nox] at hf hc1 hc2 ⊢
  have hsl := hf.len
  have hsd := said_len hc2
  walk_at "dw"
  refine we_lstM ?_
  walk_at "dw"
  refine ⟨by simp, fun aS h0 => ?_⟩
  walk_at "dw"
  refine we_lstM ?_
  walk_at "dw"
  refine ⟨by simp, fun aN h1 => ?_⟩
  have hSN : aS ≠ aN := ne_mu mset_same h1
  have h1' : μ aN = none := by rw [mset_ne hSN.symm] at h1; exact h1
  have I0 : LInv c aS aN μ (mset (mset μ aS (.lst [])) aN (.lst [])) 0 := ⟨sub_put (Sub.new h0) h1', by rw [mset_ne hSN, mset_same]; rfl, mset_same⟩
  generalize mset (mset μ aS (.lst [])) aN (.lst []) = μ1 at I0 ⊢
  walk_at "dw"
  refine ws_for (wi_lst ?_)
  walk_at "dw"
  refine ⟨fun i ρ μ' => LInv c aS aN μ μ' i ∧ ∃ v4 v5 : Option PV, ρ = [some (.d (encF f)), some (.l (c.map encT)), some (.o aS), some (.o aN), v4, v5, none, none, none, none, none, none, none, none], ⟨I0, _, _, rfl⟩, fun _ _ _ _ _ => trivial, ?_, ?_⟩
  · rintro j x ρ μ2 hx ⟨I, v4, v5, rfl⟩
    rw [List.getElem?_map, List.getElem?_map] at hx
    cases hj : c[j]? with
    | none => rw [hj] at hx; cases hx
    | some t =>
      rw [hj] at hx
      cases hx
      have htk : c.take (j + 1) = c.take j ++ [t] := by rw [List.take_add_one, hj]; rfl
      have hok := hc2 t (List.mem_of_getElem? hj)
      have hlen := said_len (c := c.take j) fun x hx => hc2 x (List.mem_of_mem_take hx)
      have hlt : (c.take j).length ≤ 10 := by rw [List.length_take]; omega
      refine wg_tup2 (wgs_cons (wg_name (wgs_cons (wg_name (wgs_nil ?_)))))
      walk_at "dw"
      refine ⟨tyd_o I.mn, ?_⟩
      walk_at "dw"
      refine we_dnew fun aD hD => ?_
      have hneS : aS ≠ aD := ne_mu I.ms hD
      have hneN : aN ≠ aD := ne_mu I.mn hD
      walk_at "dw"
      refine ⟨(t.e, ([], aD), (saidOf (c.take j), aS)), rfl, ⟨?_, mset_same, by show mset μ2 aD _ aS = _; rw [mset_ne hneS]; exact I.ms, by show (saidOf (c.take j)).length + 2 ^ 1 ≤ 1000; omega⟩, ?_⟩
      · show ExOk [] 1 t.e
        have := hok.pl
        cases he : t.e <;> rw [he] at this <;> first | exact this | cases this
      rintro _ _ ⟨rfl, rfl⟩
      walk_at "dw"
      refine wm_append (by rw [mset_ne hSN.symm, mset_ne hneN]; exact I.mn) (by rw [List.length_map]; unfold numsOf; rw [List.length_map]; omega) ?_
      have hD0 : μ aD = none := by
        cases hh : μ aD with
        | none => rfl
        | some o => rw [I.sub _ _ hh] at hD; cases hD
      refine ⟨⟨sub_put (sub_put (sub_put I.sub hD0) h0) h1', by rw [mset_ne hSN, mset_same, htk, said_snoc], ?_⟩, _, _, rfl⟩
      rw [mset_same, htk]
      unfold numsOf
      rw [List.map_append, List.map_append]
      rfl
  rintro ρ μ2 ⟨I, v4, v5, rfl⟩
  rw [List.length_map, List.length_map] at I
  have hS1 := I.ms
  have hN1 := I.mn
  have hsub1 := I.sub
  rw [List.take_length] at hS1 hN1
  clear I I0
  walk_at "dw"
  refine we_lcT c (fun t => encN t.name) (fun t => encE t.e) (fun t => encN t.name) (wi_lst ?_)
  walk_at "dw"
  refine ⟨by rw [List.map_map]; rfl, by omega, fun _ _ => trivial, fun t ht μ3 hs3 => ?_, ?_⟩
  · walk_at "dw"
    exact ⟨Sub.refl _, rfl⟩
  walk_at "dw"
  have hn10 : (c.map (·.name)).length = c.length := List.length_map _
  refine ⟨(f, c.map (·.name)), by rw [List.map_map]; rfl, ⟨by show f.slots.length ≤ 1000; omega, by show (c.map (·.name)).length ≤ 1000; omega⟩, ?_⟩
  rintro _ _ ⟨rfl, rfl⟩
  have fin : ∀ (x : PV) (μ' : Mu), Sub μ μ' → x = .d (encDone f c (lawMatched f (c.map (·.name)))) → ∃ μ'', Sub μ'' μ' ∧ x = .d (encDone f c (lawMatched f (c.map (·.name)))) ∧ μ = μ'' := fun x μ' hs hx => ⟨μ, hs, hx, rfl⟩
  show Ws K G0 _ ([some (.d (encF f)), some (.l (c.map encT)), some (.o aS), some (.o aN), v4, v5, some (.d (encOut (lawMatched f (c.map (·.name))))), none, none, none, none, none, none, none]) _ _
  cases hout : lawMatched f (c.map (·.name)) with
  | clash k =>
    obtain ⟨z, r, hz, hz1, hz2⟩ := clash_head k
    rw [hout] at fin
    rw [show encOut (.clash k) = PyData.tuple (.str z :: r) from hz]
    walk_at "dw"
    refine w2_ixT ati_0 ?_
    walk_at "dw"
    refine w2_neD hz1 (by decide +kernel) ?_
    rw [show PyData.eqv (.str z) (.str "fits") = false from hz2]
    walk_at "dw"
    refine ⟨fun _ => ?_, fun h => (nomatch h)⟩
    walk_at "dw"
    refine wc_tupO (by rw [hS1, map_dI]) ?_
    walk_at "dw"
    refine fin _ _ hsub1 ?_
    show PV.d _ = PV.d (.tuple [encI (saidOf c), encC k])
    rw [hz]; rfl
  | fits a b m =>
    have FT := fits_of hout
    rw [hn10] at FT
    rw [hout] at fin
    walk_at "dw"
    refine w2_ixT ati_0 ?_
    walk_at "dw"
    refine w2_neD (by decide +kernel) (by decide +kernel) ?_
    rw [show PyData.eqv (.str kFits) (.str "fits") = true by decide +kernel]
    walk_at "dw"
    refine ⟨fun h => (nomatch h), fun _ => ?_⟩
    walk_at "dw"
    refine we_dnew fun aW hW0 => ?_
    have hW1 : μ aW = none := by
      cases hh : μ aW with
      | none => rfl
      | some o => rw [hsub1 _ _ hh] at hW0; cases hW0
    have hne : aS ≠ aW := ne_mu hS1 hW0
    have hneN : aN ≠ aW := ne_mu hN1 hW0
    have I0 : DoneInv f c a aS aW μ (mset μ2 aW (.dk [])) 0 := ⟨sub_put hsub1 hW1, mset_same, by rw [mset_ne hne]; exact hS1, by show (saidOf c).length ≤ _; omega⟩
    have hN2 : mset μ2 aW (.dk []) aN = some (.lst ((numsOf c).map PV.i)) := by rw [mset_ne hneN]; exact hN1
    generalize mset μ2 aW (.dk []) = μ3 at I0 hN2 ⊢
    walk_at "dw"
    refine ws_for (wi_rng ?_)
    walk_at "dw"
    refine w2_ixT ati_0 ?_
    walk_at "dw"
    rw [List.length_map]
    refine ⟨_, rfl, by omega, by omega, ?_⟩
    rw [Int.toNat_natCast]
    refine ⟨fun i ρ μ' => (DoneInv f c a aS aW μ μ' i ∧ μ' aN = some (.lst ((numsOf c).map PV.i))) ∧ ∃ w4 w8 w9 w10 : Option PV, ρ = [some (.d (encF f)), some (.l (c.map encT)), some (.o aS), some (.o aN), w4, v5, some (.d (encOut (.fits a b m))), some (.o aW), w8, w9, w10, none, none, none], ⟨⟨I0, hN2⟩, _, _, _, _, rfl⟩, fun _ _ _ _ _ => trivial, ?_, ?_⟩
    · rintro i x ρ μ3 hx ⟨⟨I, hN3⟩, w4, w8, w9, w10, rfl⟩
      have hs : i < f.slots.length := by
        have := (List.getElem?_eq_some_iff.mp hx).1
        simpa using this
      rw [List.getElem?_map, List.getElem?_range hs] at hx
      cases hx
      have ha : i < a.length := by rw [FT.len]; exact hs
      have hSl := hf.each i hs
      have hkeys : (goW (numsOf c) ((f.slots.zip a).take i) ([], saidOf c)).1.map (·.1) = (f.slots.take i).map (·.name) := by
        rw [goW_keys]
        show [] ++ _ = _
        rw [List.nil_append, List.map_take, ← List.map_take, show (fun p : Slot × Option Nat => p.1.name) = (fun s : Slot => s.name) ∘ Prod.fst from rfl, ← List.map_map, List.map_take, List.map_fst_zip (by rw [FT.len]; exact Nat.le_refl _)]
      have hnew : f.slots[i].name ∉ (f.slots.take i).map (·.name) := by
        intro hm
        obtain ⟨t, ht, e⟩ := List.mem_map.mp hm
        exact hSl.nw t ht e
      have hsay : ∀ e, f.slots[i].dflt = some e ∨ e = .num 0 → (sayE e).length ≤ 2 := by
        rintro e (h | rfl)
        · exact sayE_len 1 e (hSl.df e h)
        · simp [sayE]
      obtain ⟨st, hst⟩ : ∃ st, st = goW (numsOf c) ((f.slots.zip a).take i) ([], saidOf c) := ⟨_, rfl⟩
      have hWm : μ3 aW = some (.dk (encWs st.1)) := by rw [hst]; exact I.mw
      have hSm : μ3 aS = some (.lst (st.2.map PV.i)) := by rw [hst]; exact I.ms
      have hlm : st.2.length ≤ 10 + 2 * i := by rw [hst]; exact I.len
      rw [← hst] at hkeys
      rw [← hkeys] at hnew
      have hlk : st.1.length ≤ i := by
        have := congrArg List.length hkeys
        simp only [List.length_map, List.length_take] at this
        omega
      have hlW : (encWs st.1).length < 100000 := by unfold encWs; rw [List.length_map]; omega
      have hoat : (a.map optI)[i]? = some (optI a[i]) := by rw [List.getElem?_map, List.getElem?_eq_getElem ha]; rfl
      walk_at "dw"
      refine w2_ixT ati_0 ?_
      walk_at "dw"
      refine w2_ixT (ati_n (d := encS f.slots[i]) (by rw [List.getElem?_map, List.getElem?_eq_getElem hs]; rfl)) ?_
      refine wg_tup3 ?_
      refine wgs_cons (wg_name (wgs_cons (wg_name (wgs_cons (wg_name (wgs_nil ?_))))))
      refine ws_dput ?_
      cases hai : a[i] with
      | none =>
        rw [hai] at hoat
        obtain ⟨e, hde⟩ : ∃ e, f.slots[i].dflt = some e := by
          have := FT.df i hs (by rw [List.getElem?_eq_getElem ha, hai])
          cases hd : f.slots[i].dflt with
          | none => exact absurd hd this
          | some e => exact ⟨e, rfl⟩
        have hex : ExOk (st.1.map (·.1)) 1 e := by rw [hkeys]; exact hSl.df e hde
        walk_at "dw"
        refine w2_ixT ati_1 ?_
        walk_at "dw"
        refine w2_ixT (ati_n hoat) ?_
        walk_at "dw"
        refine ⟨fun _ => ?_, fun h => (nomatch h)⟩
        walk_at "dw"
        refine ⟨(e, (st.1, aW), (st.2, aS)), by rw [hde]; rfl, ⟨hex, hWm, hSm, by show st.2.length + 2 ^ 1 ≤ 1000; omega⟩, ?_⟩
        rintro _ _ ⟨rfl, rfl⟩
        walk_at "dw"
        refine ⟨aW, _, Sum.inl f.slots[i].name, rfl, rfl, by rw [mset_ne hne.symm]; exact hWm, hlW, ?_⟩
        rw [put_newW hnew]
        exact ⟨⟨I.step hf hs ha (st := (st.1 ++ [(f.slots[i].name, valE st.1 e)], st.2 ++ sayE e)) (by rw [hai, ← hst]; unfold stepW dfE; rw [hde]; rfl) (sub_put (sub_put I.sub h0) hW1) mset_same (by rw [mset_ne hne, mset_same]) hsay, by rw [mset_ne hneN, mset_ne hSN.symm]; exact hN3⟩, _, _, _, _, rfl⟩
      | some k =>
        rw [hai] at hoat
        have hk : k < c.length := FT.fa i k (by rw [List.getElem?_eq_getElem ha, hai])
        walk_at "dw"
        refine w2_ixT ati_1 ?_
        walk_at "dw"
        refine w2_ixT (ati_n hoat) ?_
        walk_at "dw"
        refine ⟨fun h => (nomatch h), fun _ => ?_⟩
        walk_at "dw"
        refine w2_ixT ati_1 ?_
        walk_at "dw"
        refine w2_ixT (ati_n hoat) ?_
        refine w2_ixO hN3 (ati_n (numsP_get hk)) ?_
        walk_at "dw"
        refine ⟨aW, _, Sum.inl f.slots[i].name, rfl, rfl, hWm, hlW, ?_⟩
        rw [put_newW hnew]
        exact ⟨⟨I.step hf hs ha (st := (st.1 ++ [(f.slots[i].name, numK (numsOf c) k)], st.2)) (by rw [hai, ← hst]; rfl) (sub_put I.sub hW1) mset_same (by rw [mset_ne hne]; exact hSm) hsay, by rw [mset_ne hneN]; exact hN3⟩, _, _, _, _, rfl⟩
    · rintro ρ μ3 ⟨⟨I, hN3⟩, w4, w8, w9, w10, rfl⟩
      have htk : (f.slots.zip a).take ((List.range f.slots.length).map fun (i : Nat) => PV.i (i : Int)).length = f.slots.zip a := List.take_of_length_le (by rw [List.length_zip, List.length_map, List.length_range]; exact Nat.min_le_left _ _)
      have hWm := I.mw
      have hSm := I.ms
      rw [htk] at hWm hSm
      have hkeys : (goW (numsOf c) (f.slots.zip a) ([], saidOf c)).1.map (·.1) = f.slots.map (·.name) := by
        rw [goW_keys]
        show [] ++ _ = _
        rw [List.nil_append, show (fun p : Slot × Option Nat => p.1.name) = (fun s : Slot => s.name) ∘ Prod.fst from rfl, ← List.map_map, List.map_fst_zip (by rw [FT.len]; exact Nat.le_refl _)]
      walk_at "dw"
      refine we_lcB f.slots (fun s => .d (encS s)) (fun s => .int (lookW (goW (numsOf c) (f.slots.zip a) ([], saidOf c)).1 s.name)) (wi_tup ?_)
      walk_at "dw"
      refine w2_ixT ati_0 ?_
      refine ⟨_, rfl, by rw [List.map_map]; rfl, by omega, fun _ _ => trivial, fun s hs μ4 hs4 => ?_, ?_⟩
      · walk_at "dw"
        refine we_dget ?_
        walk_at "dw"
        refine w2_ixT ati_0 ?_
        refine ⟨_, _, Sum.inl s.name, _, rfl, rfl, hs4 _ _ hWm, val_lookW (by rw [hkeys]; exact List.mem_map_of_mem hs), ?_⟩
        exact ⟨Sub.refl _, rfl⟩
      walk_at "dw"
      refine we_lcT m (fun p => .int p.1) (fun p => .int (p.2 : Int)) (fun p => .tuple [.int p.1, .int (numK (numsOf c) p.2)]) (wi_tup ?_)
      walk_at "dw"
      refine w2_ixT ati_3 ?_
      refine ⟨_, rfl, by rw [List.map_map]; rfl, by have := FT.lm; omega, fun _ _ => trivial, fun p hp μ4 hs4 => ?_, ?_⟩
      · walk_at "dw"
        refine w2_ixO (hs4 _ _ hN3) (ati_n (numsP_get (FT.fm p hp))) ?_
        walk_at "dw"
        exact ⟨Sub.refl _, rfl⟩
      walk_at "dw"
      refine wc_tupO (by rw [hSm, map_dI]) ?_
      walk_at "dw"
      refine we_lcB b (fun (k : Nat) => PV.i (k : Int)) (fun k => .int (numK (numsOf c) k)) (wi_tup ?_)
      walk_at "dw"
      refine w2_ixT ati_2 ?_
      refine ⟨_, rfl, by rw [List.map_map]; rfl, by have := FT.lb; omega, fun _ _ => trivial, fun k hk μ4 hs4 => ?_, ?_⟩
      · walk_at "dw"
        refine w2_ixO (hs4 _ _ hN3) (ati_n (numsP_get (FT.fb k hk))) ?_
        exact ⟨Sub.refl _, rfl⟩
      walk_at "dw"
      refine fin _ _ I.sub ?_
      simp only [encDone, encI, List.map_map]
      rfl
end
end Sc

namespace Sc
open PySem L2 PyProof.Rows Dw
local macro_rules | `(tactic| walk_at "dw1") => `(tactic| first
  | (with_reducible refine ws_seq ?_) | (with_reducible refine ws_ret ?_) | (with_reducible refine ws_set ?_) | (with_reducible refine ws_drop ?_) | (with_reducible refine ws_if ?_) | (with_reducible refine ws_next ?_)
  | ((with_reducible show We _ _ (tVar _) _ _ _); refine we_var rfl ?_) | (with_reducible refine we_int ?_) | (with_reducible refine we_bl ?_) | (with_reducible refine we_str ?_) | (with_reducible refine we_non ?_) | (with_reducible refine we_ty ?_)
  | (with_reducible refine we_op ?_) | (with_reducible refine we_isiT ?_) | (with_reducible refine we_cb ?_) | (with_reducible refine wa_cons ?_) | (with_reducible refine wa_nil ?_)
  | (with_reducible refine we_and ?_) | (with_reducible refine we_or ?_) | (with_reducible refine we_not ?_) | (with_reducible refine we_if ?_) | (with_reducible refine we_chain ?_)
  | (with_reducible refine we_fld ?_) | (with_reducible refine we_bm ?_) | (with_reducible refine we_bm0 ?_) | (with_reducible refine we_sl ?_) | (with_reducible refine wo_none ?_) | (with_reducible refine wo_some ?_)
  | (with_reducible refine wt_test ?_) | (with_reducible refine wt_B ?_) | (with_reducible refine wt_and ?_) | (with_reducible refine wt_or ?_) | (with_reducible refine wt_not ?_) | (with_reducible refine wt_yes ?_)
  | (with_reducible refine w2_I0i ?_) | (with_reducible refine w2_I0b ?_) | (with_reducible refine w2_isN ?_) | (with_reducible refine w2_notN ?_)
  | (with_reducible refine we_callL ?_) | (with_reducible refine we_call ?_) | (with_reducible refine we_tup ?_)
  | (with_reducible refine wc_lenT ?_) | (with_reducible refine wc_lenL ?_) | (with_reducible refine wc_lenS ?_) | (with_reducible refine wc_intB ?_) | (with_reducible refine wc_min2 ?_)
  | ((with_reducible show Wg _ _ (gTup _ _ _) _ _ _ _); first | refine wg_tup2 ?_ | refine wg_tup3 ?_ | refine wg_tup4 ?_) | (with_reducible refine we_un ?_) | (with_reducible refine ws_asg ?_) | (with_reducible refine wg_name ?_) | (with_reducible refine wgs_cons ?_) | (with_reducible refine wgs_nil ?_)
  | (with_reducible refine wsl_T ?_) | (with_reducible refine wsl_L ?_)
  | (with_reducible refine wc_tupL ?_) | (with_reducible refine wc_listT ?_)
  | (with_reducible refine wc_isi (kit_int _) ?_) | (with_reducible refine wc_isi (kit_bool _) ?_) | (with_reducible refine wc_isi (kit_tuple _) ?_) | (with_reducible refine wc_isi (kit_list _) ?_) | (with_reducible refine wc_isi (kit_str _) ?_)
  | (with_reducible refine ex_b ?_) | (with_reducible refine ex_i ?_) | (with_reducible refine ex_t ?_) | (with_reducible refine ex_l ?_)
  | ((with_reducible show ∃ _, unD _ = some _ ∧ _); refine ⟨_, rfl, by simp, ?_⟩))
local macro_rules | `(tactic| walk_at "dw") => `(tactic| repeat' walk_at "dw1")

section
variable {K : Frg} {G0 : Hp} {ρ : Rho} {μ : Mu} {Q : PV → Mu → Prop}
/-- a comprehension whose test and element draw -/
theorem we_lcR {ns : List Int} {row : Addr} {wi : TI} {tt : TT} {te : TE} {v : Nat} (J : Nat → List PyData → Prop)
    (h : Wi K G0 wi ρ μ fun xs C μ1 => xs.length ≤ 1000 ∧ RowAt ns row μ1 ∧ (∀ μ', C μ') ∧ J 0 [] ∧
      (∀ i x ds μ', xs[i]? = some x → J i ds → RowAt ns row μ' → Wt K G0 tt ((wipeD ρ [v]).set v (some x)) μ' fun b μ2 => RowStep ns row μ' μ2 ∧ (b = true → We K G0 te ((wipeD ρ [v]).set v (some x)) μ2 fun y μ3 => RowStep ns row μ' μ3 ∧ ∃ d, y = .d d ∧ J (i + 1) (ds ++ [d])) ∧ (b = false → J (i + 1) ds)) ∧
      (∀ D ds μ', μ1 D = none → J xs.length ds → RowAt ns row μ' → OffRow row μ1 μ' → μ' D = some (.lst (ds.map .d)) → Q (.o D) μ')) :
    We K G0 (tLc wi (gName v) tt te [v]) ρ μ Q := by
  refine we_lcM ?_ (hw_name (by simp))
  refine fun σ G H e rs S R k => h σ G H e rs S R fun Jt G' H' xs C μ' e' it S' ⟨hl, hR, hC, h0, hs, hq⟩ => k Jt G' H' xs C μ' e' it S' ?_
  intro D hD
  have hne : D ≠ row := hR.ne hD
  refine ⟨fun i acc μ2 => ∃ ds, acc = ds.map .d ∧ ds.length ≤ i ∧ J i ds ∧ RowAt ns row μ2 ∧ OffRow row μ' μ2 ∧ μ2 D = some (.lst acc), ⟨[], rfl, Nat.le_refl _, h0, hR.off hne, OffRow.refl.new hD, mset_same⟩, ?_, ?_, ?_⟩
  · rintro i acc μ2 hi ⟨ds, rfl, hdl, hJ, hR2, hO2, hm⟩
    exact ⟨hC _, hm, by rw [List.length_map]; omega⟩
  · rintro i x acc μ2 hx ⟨ds, rfl, hdl, hJ, hR2, hO2, hm⟩
    refine wg_name ?_
    refine wt_mono (hs i x ds μ2 hx hJ hR2) fun b μ3 ⟨s3, h1, h2⟩ => ?_
    cases b with
    | true =>
      rw [if_pos rfl]
      refine we_mono (h1 rfl) fun y μ4 ⟨s4, d, hy, hJ'⟩ => ?_
      subst hy
      have hm4 : μ4 D = some (.lst (ds.map .d)) := s4.off _ _ hne hm
      exact ⟨hm4, ds ++ [d], by rw [List.map_append]; rfl, by rw [List.length_append]; simp; omega, hJ', s4.at.off hne, (hO2.trans s4.off).new hD, mset_same⟩
    | false =>
      rw [if_neg (by decide)]
      exact ⟨ds, rfl, by omega, h2 rfl, s3.at, hO2.trans s3.off, s3.off _ _ hne hm⟩
  · rintro acc μ2 ⟨ds, rfl, hdl, hJ, hR2, hO2, hm⟩
    exact hq D ds μ2 hD hJ hR2 hO2 hm
theorem RowAt.del {ns : List Int} {row a : Addr} {μ : Mu} (h : RowAt ns row μ) (hn : a ≠ row) : RowAt ns row (mdel μ a) := by
  obtain ⟨c, m, g, h0, e⟩ := h
  exact ⟨c, m, g, h0, by rw [mdel_ne (Ne.symm hn)]; exact e⟩
theorem OffRow.del {row a : Addr} {μ μ' : Mu} (h : OffRow row μ μ') (hn : μ a = none) : OffRow row μ (mdel μ' a) := fun b o hb e => by
  rw [mdel_ne (fun h => by rw [h, hn] at e; cases e)]
  exact h b o hb e
theorem we_lcRf {ns : List Int} {row : Addr} {wi : TI} {tt : TT} {te : TE} {v : Nat} (J : Nat → List PyData → Prop)
    (h : Wi K G0 wi ρ μ fun xs C μ1 => xs.length ≤ 1000 ∧ RowAt ns row μ1 ∧ (∀ μ', C μ') ∧ J 0 [] ∧
      (∀ i x ds μ', xs[i]? = some x → J i ds → RowAt ns row μ' → Wt K G0 tt ((wipeD ρ [v]).set v (some x)) μ' fun b μ2 => RowStep ns row μ' μ2 ∧ (b = true → We K G0 te ((wipeD ρ [v]).set v (some x)) μ2 fun y μ3 => RowStep ns row μ' μ3 ∧ ∃ d, y = .d d ∧ J (i + 1) (ds ++ [d])) ∧ (b = false → J (i + 1) ds)) ∧
      (∀ ds μ', J xs.length ds → RowAt ns row μ' → OffRow row μ1 μ' → Q (.l ds) μ')) :
    We K G0 (tLc wi (gName v) tt te [v]) ρ μ Q := by
  refine we_freeze (we_lcR (ns := ns) (row := row) J ?_)
  refine fun σ G H e rs S R k => h σ G H e rs S R fun Jt G' H' xs C μ' e' it S' ⟨hl, hR, hC, h0, hs, hq⟩ => k Jt G' H' xs C μ' e' it S' ?_
  exact ⟨hl, hR, hC, h0, hs, fun D ds μ2 hD hJ hR2 hO2 hm => ⟨D, ds, rfl, hm, hq ds _ hJ (hR2.del (hR.ne hD)) (hO2.del hD)⟩⟩
theorem rng_at {n i : Nat} {x : PV} (h : ((List.range n).map fun (k : Nat) => PV.i (k : Int))[i]? = some x) : i < n ∧ x = .i (i : Int) := by
  have hi : i < n := by
    have := (List.getElem?_eq_some_iff.mp h).1
    simpa using this
  rw [List.getElem?_map, List.getElem?_range hi] at h
  cases h
  exact ⟨hi, rfl⟩
theorem rng_len (n : Nat) : ((List.range n).map fun (k : Nat) => PV.i (k : Int)).length = n := by rw [List.length_map, List.length_range]
theorem wc_listTM {ds : List PyData} (q : ∀ p, μ p = none → Q (.o p) (mset μ p (.lst (ds.map .d)))) : Wc K G0 (rListC K) [.t ds] μ Q := fun vs G H e rl S R k => by
  obtain ⟨v, rfl, rv⟩ := rl1 rl
  obtain ⟨a, xs, rfl, h1, h2⟩ := rp_tup rv
  refine ⟨a, xs, rfl, .inr (.inl (.inl (S.sub _ _ h1))), fun p hp => ?_⟩
  exact k _ G _ (.o p) _ (Same.refl _) rfl (S.new (m := .lst (ds.map .d)) hp ⟨xs, rfl, relL_of h2⟩) (q p (S.mfree hp))
end
section
variable {P : Program} {w : World} {K : Frg} {mg : Str → Option Value} {base : Heap} {fa : Addr} {fd : FuncData}
/-! ### _law_wanted -/
abbrev s_law_wanted : Stmt := topS 40
abbrev N_law_wanted : List Str := ["_law_row", "_law_face_here", "_law_told", "_law_worths", "_law_rest", "_law_more", "_law_turn", "_law_slot", "_law_k", "_law_name"]
theorem sc_law_wanted : FnScope N_law_wanted ["_law_row", "_law_face_here"] (defScope s_law_wanted) := ⟨rfl, rfl, rfl, by decide +kernel, rfl, by decide +kernel, by decide +kernel⟩

abbrev lenS (w : Want) : Prop := w.worths.length ≤ 20 ∧ w.rest.length ≤ 20 ∧ w.more.length ≤ 20
abbrev sp_lwanted (K : Frg) : Sp := SpA (α := RA × Face) K (fun a => [.o a.1.2, .d (encF a.2)]) (fun a μ => RowAt a.1.1 a.1.2 μ ∧ a.2.Ok) (fun a μ x μ' => (∃ wt : Want, wt.Ok a.2 ∧ (lenW wt ∧ lenS wt) ∧ x = .d (encW wt)) ∧ RowStep a.1.1 a.1.2 μ μ')
abbrev moD (m : List (Int × Int)) : List PyData := m.map fun p => .tuple [.int p.1, .int p.2]
def JI (b : Int) (i : Nat) (ds : List PyData) : Prop := ∃ is : List Int, ds = is.map .int ∧ is.length = i ∧ ∀ x ∈ is, 0 ≤ x ∧ x < b
theorem JI.snoc {b : Int} {i : Nat} {ds : List PyData} {x : Int} (h : JI b i ds) (h0 : 0 ≤ x) (h1 : x < b) : JI b (i + 1) (ds ++ [.int x]) := by
  obtain ⟨is, rfl, hl, hb⟩ := h
  refine ⟨is ++ [x], by rw [List.map_append]; rfl, by rw [List.length_append, hl]; rfl, fun y hy => ?_⟩
  rcases List.mem_append.mp hy with hy | hy
  · exact hb y hy
  · rw [List.mem_singleton.mp hy]; exact ⟨h0, h1⟩
def JM (i : Nat) (ds : List PyData) : Prop := ∃ m : List (Int × Int), ds = moD m ∧ m.length ≤ i ∧ Rising (m.map (·.1)) ∧ ∀ p ∈ m, (0 ≤ p.1 ∧ p.1 < (i : Int)) ∧ 0 ≤ p.2 ∧ p.2 < 100
theorem JM.keep {i : Nat} {ds : List PyData} (h : JM i ds) : JM (i + 1) ds := by
  obtain ⟨m, rfl, hl, hr, hb⟩ := h
  exact ⟨m, rfl, by omega, hr, fun p hp => ⟨⟨(hb p hp).1.1, by have := (hb p hp).1.2; omega⟩, (hb p hp).2⟩⟩
theorem JM.snoc {i : Nat} {ds : List PyData} {x : Int} (h : JM i ds) (h0 : 0 ≤ x) (h1 : x < 100) : JM (i + 1) (ds ++ [.tuple [.int (i : Int), .int x]]) := by
  obtain ⟨m, rfl, hl, hr, hb⟩ := h
  refine ⟨m ++ [((i : Int), x)], by unfold moD; rw [List.map_append]; rfl, by rw [List.length_append]; simp; omega, ?_, fun p hp => ?_⟩
  · rw [List.map_append]
    refine List.pairwise_append.mpr ⟨hr, List.pairwise_singleton _ _, fun a ha b hb' => ?_⟩
    obtain ⟨p, hp, rfl⟩ := List.mem_map.mp ha
    rw [show b = (i : Int) by simpa using hb']
    exact (hb p hp).1.2
  · rcases List.mem_append.mp hp with hp | hp
    · exact ⟨⟨(hb p hp).1.1, by have := (hb p hp).1.2; omega⟩, (hb p hp).2⟩
    · rw [List.mem_singleton.mp hp]
      exact ⟨⟨by simp, by simp; omega⟩, h0, h1⟩
theorem off_none {row a : Addr} {μ μ' : Mu} (h : OffRow row μ μ') (hr : a ≠ row) (e : μ' a = none) : μ a = none := by
  cases hh : μ a with
  | none => rfl
  | some o => rw [h _ _ hr hh] at e; cases e
theorem ints_get {is : List Int} {ds : List PyData} (h : ds = is.map .int) : ds.map PV.d = is.map PV.i := by rw [h, List.map_map]; rfl
structure WInv (f : Face) (ns : List Int) (row aW : Addr) (b : Nat) (μ μ' : Mu) (wt : Want) : Prop where
  ra : RowAt ns row μ'
  off : OffRow row μ μ'
  mw : μ' aW = some (.lst (wt.worths.map PV.i))
  a0 : μ aW = none
  nr : aW ≠ row
  ok : wt.Ok f
  lr : wt.rest.length ≤ b
  lm : wt.more.length ≤ 10
theorem WInv.step {f : Face} {ns : List Int} {row aW : Addr} {b : Nat} {μ μ' μ2 : Mu} {wt : Want} (I : WInv f ns row aW b μ μ' wt) (s : RowStep ns row μ' μ2) : WInv f ns row aW b μ μ2 wt :=
  ⟨s.at, I.off.trans s.off, s.off _ _ I.nr I.mw, I.a0, I.nr, I.ok, I.lr, I.lm⟩
theorem map_dM (m : List (Int × Int)) : (moD m).map PV.d = m.map fun p => PV.t [.int p.1, .int p.2] := by unfold moD; rw [List.map_map]; rfl
theorem ok_lwanted (F : Fun K "_law_wanted" "_law_wanted" s_law_wanted fa fd) (B : Blt mg) (C_law_taken : Cal P w K mg base CX0 1 "_law_taken" ["_law_row", "_law_many"] (sp_taken K)) (C_law_call : Cal P w K mg base CX0 3 "_law_call" ["_law_row", "_law_face_here"] (sp_call K))
    (C_law_done : Cal P w K mg base CX0 3 "_law_done" ["_law_face_here", "_law_call_here"] (sp_ldone K)) : FnOk P w K mg base CX0 4 fa fd ["_law_row", "_law_face_here"] (sp_lwanted K) := by
  refine ok_D F sc_law_wanted (fun _ => rfl) (fun cdv A outer s H E hr a μ hp => ⟨_, (pss_cons (ps_set (i := 2) sc_law_wanted.nd rfl (Or.inl rfl) (pe_ix (kix K) (pe_cal C_law_done hr (pa_cons (pv 1) (pa_cons (pe_cal C_law_call hr (pa_cons (pv 0) (pa_cons (pv 1) pa_nil))) pa_nil))) pe_int (fun _ _ => rfl)))
      (pss_cons (ps_setLc (i := 3) (own := [("_law_slot", 7)]) (g := (gName 7)) rfl sc_law_wanted.nd rfl rfl (sw_true rfl rfl rfl (by decide +kernel)) (pkTup K (pe_ix (kix K) (pv 1) pe_int (fun _ _ => rfl))) (blkOk_by (own := [("_law_slot", 7)]) (N := N_law_wanted) (sc := defScope s_law_wanted) (by decide +kernel)) (fun _ _ _ _ _ => (pg_name (i := 7) sc_law_wanted.nd rfl (by first | exact Or.inl rfl | exact Or.inr rfl))) (fun _ _ _ _ _ => pts_nil) (fun _ _ _ _ _ => (pe_cal C_law_taken hr (pa_cons (pv 0) (pa_cons pe_int pa_nil)))))
      (pss_cons (ps_setLc (i := 4) (own := [("_law_k", 8)]) (g := (gName 8)) rfl sc_law_wanted.nd rfl rfl (sw_true rfl rfl rfl (by decide +kernel)) (pi_range1 rfl B.range (pa_cons (pe_op op_mul (pe_cal C_law_taken hr (pa_cons (pv 0) (pa_cons pe_int pa_nil))) (pe_callTy call_int1 (by rfl) B.int (by decide +kernel) (pa_cons (pe_ix (kix K) (pv 1) pe_int (fun _ _ => rfl)) pa_nil))) pa_nil)) (blkOk_by (own := [("_law_k", 8)]) (N := N_law_wanted) (sc := defScope s_law_wanted) (by decide +kernel)) (fun _ _ _ _ _ => (pg_name (i := 8) sc_law_wanted.nd rfl (by first | exact Or.inl rfl | exact Or.inr rfl))) (fun _ _ _ _ _ => pts_nil) (fun _ _ _ _ _ => (pe_cal C_law_taken hr (pa_cons (pv 0) (pa_cons pe_int pa_nil)))))
      (pss_cons (ps_setLc (i := 5) (own := [("_law_name", 9)]) (g := (gName 9)) rfl sc_law_wanted.nd rfl rfl (sw_true rfl rfl rfl (by decide +kernel)) (pi_range1 rfl B.range (pa_cons pe_int pa_nil)) (blkOk_by (own := [("_law_name", 9)]) (N := N_law_wanted) (sc := defScope s_law_wanted) (by decide +kernel)) (fun _ _ _ _ _ => (pg_name (i := 9) sc_law_wanted.nd rfl (by first | exact Or.inl rfl | exact Or.inr rfl))) (fun _ _ _ _ _ => (pts_one (PW.pt (pw_and (pt_val (pe_ix (kix K) (pv 1) pe_int (fun _ _ => rfl))) (pw_and1 (pt_cmpR (keq K hr) (pe_cal C_law_taken hr (pa_cons (pv 0) (pa_cons pe_int pa_nil))) pe_int (nomark _))))))) (fun _ _ _ _ _ => (pe_tup (pa_cons (pv 9) (pa_cons (pe_cal C_law_taken hr (pa_cons (pv 0) (pa_cons pe_int pa_nil))) pa_nil)))))
      (pss_cons (ps_if (pt_cmpR (keq K hr) (pe_ix (kix K) (pv 2) pe_int (fun _ _ => rfl)) pe_str (nomark _)) (pss_one (ps_par3 (i := 3) (j := 4) (l := 5) (by rfl) sc_law_wanted.nd rfl rfl rfl (by decide) (by decide) (by decide) rfl rfl rfl (pa_cons (pe_callTy (klst K) (by rfl) B.list (by decide +kernel) (pa_cons (pe_ix (kix K) (pv 2) pe_int (fun _ _ => rfl)) pa_nil)) (pa_cons (pe_callTy (klst K) (by rfl) B.list (by decide +kernel) (pa_cons (pe_ix (kix K) (pv 2) pe_int (fun _ _ => rfl)) pa_nil)) (pa_cons (pe_callTy (klst K) (by rfl) B.list (by decide +kernel) (pa_cons (pe_ix (kix K) (pv 2) pe_int (fun _ _ => rfl)) pa_nil)) pa_nil))) rfl)) pss_nil)
      (pss_cons (ps_for PassesOwn.never rfl (pi_range1 rfl B.range (pa_cons (pe_op op_mul (pe_cal C_law_taken hr (pa_cons (pv 0) (pa_cons pe_int pa_nil))) (pe_callTy call_int1 (by rfl) B.int (by decide +kernel) (pa_cons (pe_cmpR (kne K hr) (pv 3) (pe_lst pa_nil) (nomark _)) pa_nil))) pa_nil)) (pg_name (i := 6) sc_law_wanted.nd rfl (Or.inl rfl)) (pss_one (ps_asg (pe_cal C_law_taken hr (pa_cons (pv 0) (pa_cons (pe_ix (kix K) (pe_lst (pa_cons pe_int (pa_cons pe_int pa_nil))) (pe_op op_fdiv (pe_cal C_law_taken hr (pa_cons (pv 0) (pa_cons pe_int pa_nil))) pe_int) (fun _ _ => rfl)) pa_nil))) (pg_sub (pv 3) (pe_cal C_law_taken hr (pa_cons (pv 0) (pa_cons (pe_callB (klen K) (by rfl) B.len PySem.boot_len (pa_cons (pv 3) pa_nil)) pa_nil))) set_list))))
      (pss_cons (ps_if (pt_cmpR (keq K hr) (pe_cal C_law_taken hr (pa_cons (pv 0) (pa_cons pe_int pa_nil))) pe_int (nomark _)) (pss_one (ps_set (i := 4) sc_law_wanted.nd rfl (Or.inl rfl) (pe_op op_cat (pv 4) (pe_lc (own := [("_law_k", 8)]) (g := (gName 8)) rfl sc_law_wanted.nd (pi_range1 rfl B.range (pa_cons (pe_ix (kix K) (pe_lst (pa_cons pe_int (pa_cons pe_int pa_nil))) (pe_callTy call_int1 (by rfl) B.int (by decide +kernel) (pa_cons (pe_ix (kix K) (pv 1) pe_int (fun _ _ => rfl)) pa_nil)) (fun _ _ => rfl)) pa_nil)) (blkOk_by (own := [("_law_k", 8)]) (N := N_law_wanted) (sc := defScope s_law_wanted) (by decide +kernel)) (fun _ _ _ _ _ => (pg_name (i := 8) sc_law_wanted.nd rfl (by first | exact Or.inl rfl | exact Or.inr rfl))) (fun _ _ _ _ _ => pts_nil) (fun _ _ _ _ _ => (pe_cal C_law_taken hr (pa_cons (pv 0) (pa_cons pe_int pa_nil)))))))) pss_nil)
      (pss_cons (ps_if (PW.pt (pw_and (pt_val (pe_ix (kix K) (pv 1) pe_int (fun _ _ => rfl))) (pw_and1 (pt_cmpR (keq K hr) (pe_cal C_law_taken hr (pa_cons (pv 0) (pa_cons pe_int pa_nil))) pe_int (nomark _))))) (pss_one (ps_setLc (i := 5) (own := [("_law_name", 9)]) (g := (gName 9)) rfl sc_law_wanted.nd rfl rfl (sw_true rfl rfl rfl (by decide +kernel)) (pi_range1 rfl B.range (pa_cons pe_int pa_nil)) (blkOk_by (own := [("_law_name", 9)]) (N := N_law_wanted) (sc := defScope s_law_wanted) (by decide +kernel)) (fun _ _ _ _ _ => (pg_name (i := 9) sc_law_wanted.nd rfl (by first | exact Or.inl rfl | exact Or.inr rfl))) (fun _ _ _ _ _ => (pts_one (pt_cmpR (keq K hr) (pe_cal C_law_taken hr (pa_cons (pv 0) (pa_cons pe_int pa_nil))) pe_int (nomark _)))) (fun _ _ _ _ _ => (pe_tup (pa_cons (pv 9) (pa_cons (pe_cal C_law_taken hr (pa_cons (pv 0) (pa_cons pe_int pa_nil))) pa_nil)))))) pss_nil)
      (pss_one (ps_ret (pe_tup (pa_cons (pe_callTy (ktup K) (by rfl) B.tuple (by decide +kernel) (pa_cons (pv 3) pa_nil)) (pa_cons (pe_callTy (ktup K) (by rfl) B.tuple (by decide +kernel) (pa_cons (pv 4) pa_nil)) (pa_cons (pe_callTy (ktup K) (by rfl) B.tuple (by decide +kernel) (pa_cons (pv 5) pa_nil)) pa_nil)))))))))))))), fun G0 => ?_⟩)
  obtain ⟨⟨ns, row⟩, f⟩ := a
  obtain ⟨hR, hf⟩ := hp
  try dsimp only [cxOf, Cx.nox] at hR hf ⊢
  have hsl := hf.len
  walk_at "dw"
  refine ⟨((ns, row), f), rfl, ⟨hR, hf⟩, ?_⟩
  rintro _ μ1 ⟨⟨c, hl, hc, rfl⟩, s1⟩
  walk_at "dw"
  refine ⟨(f, c), rfl, ⟨hf, hl, hc⟩, ?_⟩
  rintro _ _ ⟨rfl, rfl⟩
  rw [done_two]
  walk_at "dw"
  refine w2_ixT ati_1 ?_
  generalize hout : lawMatched f (c.map (·.name)) = out
  walk_at "dw"
  -- worths
  refine we_lcR (ns := ns) (row := row) (JI 100) (wi_tup ?_)
  unfold encF
  walk_at "dw"
  refine w2_ixT ati_0 ?_
  refine ⟨_, rfl, by rw [List.length_map, List.length_map]; omega, s1.at, fun _ => trivial, ⟨[], rfl, rfl, fun x hx => (by cases hx)⟩, fun i x ds μ2 _ hJ hR2 => ?_, fun aW ds μ2 hW0 hJ hR2 hO2 hm => ?_⟩
  · walk_at "dw"
    refine ⟨RowStep.refl hR2, fun _ => ?_, fun h => (nomatch h)⟩
    walk_at "dw"
    refine ⟨((ns, row), 100), rfl, ⟨hR2, by simp, by simp⟩, ?_⟩
    rintro _ μ3 ⟨⟨t, rfl, t0, t1⟩, s3⟩
    exact ⟨s3, _, rfl, hJ.snoc t0 t1⟩
  have hWr : aW ≠ row := s1.at.ne hW0
  have hW1 : μ aW = none := off_none s1.off hWr hW0
  have hO3 : OffRow row μ μ2 := s1.off.trans hO2
  obtain ⟨ws, rfl, hwl, hwb⟩ := hJ
  rw [ints_get rfl] at hm
  have hwl : ws.length = f.slots.length := by rw [hwl, List.length_map, List.length_map]
  -- rest
  walk_at "dw"
  refine we_lcRf (ns := ns) (row := row) (JI 100) (wi_rng ?_)
  walk_at "dw"
  refine ⟨((ns, row), 3), rfl, ⟨hR2, by simp, by simp⟩, ?_⟩
  rintro _ μ3 ⟨⟨t, rfl, t0, t1⟩, s3⟩
  have t1 : t < 3 := t1
  walk_at "dw"
  refine w2_ixT ati_1 ?_
  walk_at "dw"
  refine w2_Ii (.inl ⟨by show -(2 ^ 64) < t; omega, by show t < 2 ^ 64; omega⟩) ?_
  obtain ⟨q, hq, q0, q1⟩ : ∃ q : Int, t * (if f.rest = true then (1 : Int) else 0) = q ∧ 0 ≤ q ∧ q ≤ 2 := ⟨_, rfl, by split <;> omega, by split <;> omega⟩
  rw [hq]
  walk_at "dw"
  refine ⟨q, rfl, by omega, by omega, ?_⟩
  refine ⟨by rw [rng_len]; omega, s3.at, fun _ => trivial, ⟨[], rfl, rfl, fun x hx => (by cases hx)⟩, fun i x ds μ4 _ hJ hR4 => ?_, fun ds μ4 hJ hR4 hO4 => ?_⟩
  · walk_at "dw"
    refine ⟨RowStep.refl hR4, fun _ => ?_, fun h => (nomatch h)⟩
    walk_at "dw"
    refine ⟨((ns, row), 100), rfl, ⟨hR4, by simp, by simp⟩, ?_⟩
    rintro _ μ5 ⟨⟨t, rfl, t0, t1⟩, s5⟩
    exact ⟨s5, _, rfl, hJ.snoc t0 t1⟩
  obtain ⟨rs, rfl, hrl, hrb⟩ := hJ
  rw [rng_len] at hrl
  have hm4 : μ4 aW = some (.lst (ws.map PV.i)) := hO4 _ _ hWr (s3.off _ _ hWr hm)
  have hO5 : OffRow row μ μ4 := (hO3.trans s3.off).trans hO4
  -- more
  walk_at "dw"
  refine we_lcRf (ns := ns) (row := row) JM (wi_rng ?_)
  walk_at "dw"
  refine ⟨_, rfl, by decide, by decide, ?_⟩
  refine ⟨by rw [rng_len]; decide, hR4, fun _ => trivial, ⟨[], rfl, Nat.le_refl _, List.Pairwise.nil, fun x hx => (by cases hx)⟩, fun i x ds μ5 hx hJ hR5 => ?_, fun ds μ5 hJ hR5 hO6 => ?_⟩
  · obtain ⟨hi, rfl⟩ := rng_at hx
    walk_at "dw"
    refine w2_ixT ati_2 ?_
    walk_at "dw"
    refine ⟨fun h => ?_, fun h => ?_⟩
    · walk_at "dw"
      refine ⟨((ns, row), 6), rfl, ⟨hR5, by simp, by simp⟩, ?_⟩
      rintro _ μ6 ⟨⟨t, rfl, t0, t1⟩, s6⟩
      walk_at "dw"
      refine w2_eqD rfl rfl ?_
      walk_at "dw"
      refine ⟨s6, fun _ => ?_, fun _ => hJ.keep⟩
      walk_at "dw"
      refine ⟨((ns, row), 100), rfl, ⟨s6.at, by simp, by simp⟩, ?_⟩
      rintro _ μ7 ⟨⟨t, rfl, t0, t1⟩, s7⟩
      walk_at "dw"
      exact ⟨s6.trans s7, _, rfl, hJ.snoc t0 t1⟩
    · exact ⟨RowStep.refl hR5, fun h => (nomatch h), fun _ => hJ.keep⟩
  obtain ⟨mo, rfl, hml, hmr, hmb⟩ := hJ
  rw [rng_len] at hml hmb
  have hm5 : μ5 aW = some (.lst (ws.map PV.i)) := hO6 _ _ hWr hm4
  have hO7 : OffRow row μ μ5 := hO5.trans hO6
  have I0 : WInv f ns row aW 10 μ μ5 ⟨ws, rs, mo⟩ := ⟨hR5, hO7, hm5, hW1, hWr, ⟨hwl, fun x hx => ⟨(hwb x hx).1, by have := (hwb x hx).2; omega⟩, hmr, fun n hn => (by
    obtain ⟨p, hp, rfl⟩ := List.mem_map.mp hn
    exact (hmb p hp).1), hrb, fun p hp => (hmb p hp).2⟩, by show rs.length ≤ 10; omega, by show mo.length ≤ 10; exact hml⟩
  have hR6 := hR5
  show Ws K G0 _ _ _ _
  refine ws_cut (fun ρ' μ' => ∃ (aW : Addr) (wt : Want) (v6 v7 v8 v9 : Option PV), WInv f ns row aW 10 μ μ' wt ∧ ρ' = [some (.o row), some (.t [.tuple (f.slots.map encS), .bool f.rest, .bool f.more]), some (.d (sndD (encDone f c out))), some (.o aW), some (.l (wt.rest.map .int)), some (.l (moD wt.more)), v6, v7, v8, v9]) ?_ ?_
  · cases out with
    | clash k =>
      obtain ⟨z, r, hz, hz1, hz2⟩ := clash_head k
      rw [show sndD (encDone f c (.clash k)) = PyData.tuple (.str z :: r) from hz]
      walk_at "dw"
      refine w2_ixT ati_0 ?_
      walk_at "dw"
      refine w2_eqD hz1 (by decide +kernel) ?_
      rw [show PyData.eqv (.str z) (.str "fits") = false from hz2]
      walk_at "dw"
      refine ⟨fun h => (nomatch h), fun _ => ?_⟩
      walk_at "dw"
      exact ⟨aW, _, _, _, _, _, I0, rfl⟩
    | fits a b m =>
      have FT := fits_of hout
      rw [List.length_map] at FT
      have hok := want_of hf hc hout
      have h1 : (wantOf f c a b m).rest.length ≤ 10 := by unfold wantOf; rw [List.length_map]; have := FT.lb; omega
      have h2 : (wantOf f c a b m).more.length ≤ 10 := by unfold wantOf; rw [List.length_map]; have := FT.lm; omega
      rw [done_fits]
      generalize wantOf f c a b m = wt at hok h1 h2 ⊢
      unfold fitsW encI encMo
      walk_at "dw"
      refine w2_ixT ati_0 ?_
      walk_at "dw"
      refine w2_eqD (by decide +kernel) (by decide +kernel) ?_
      rw [show PyData.eqv (.str kFits) (.str "fits") = true by decide +kernel]
      walk_at "dw"
      refine ⟨fun _ => ?_, fun h => (nomatch h)⟩
      refine ws_par3 ?_
      walk_at "dw"
      refine w2_ixT ati_1 ?_
      refine wa_nil ?_
      refine wc_listTM fun p hp => ?_
      walk_at "dw"
      refine w2_ixT ati_2 ?_
      walk_at "dw"
      refine w2_ixT ati_3 ?_
      walk_at "dw"
      refine ⟨_, _, _, rfl, ?_⟩
      have hpr : p ≠ row := hR6.ne hp
      exact ⟨p, wt, _, _, _, _, ⟨hR6.off hpr, hO7.new (off_none hO7 hpr hp), by rw [mset_same, ints_get rfl], off_none hO7 hpr hp, hpr, hok, h1, h2⟩, rfl⟩
  rintro ρ' μ6 ⟨aW, wt, v6, v7, v8, v9, I, rfl⟩
  generalize PV.d (sndD (encDone f c out)) = told
  -- worths exchanged
  refine ws_cut (fun ρ' μ' => ∃ (wt : Want) (v6 v7 v8 v9 : Option PV), WInv f ns row aW 10 μ μ' wt ∧ ρ' = [some (.o row), some (.t [.tuple (f.slots.map encS), .bool f.rest, .bool f.more]), some told, some (.o aW), some (.l (wt.rest.map .int)), some (.l (moD wt.more)), v6, v7, v8, v9]) ?_ ?_
  · refine ws_for (wi_rng ?_)
    walk_at "dw"
    refine ⟨((ns, row), 3), rfl, ⟨I.ra, by simp, by simp⟩, ?_⟩
    rintro _ μ7 ⟨⟨t, rfl, t0, t1⟩, s7⟩
    have t1 : t < 3 := t1
    have I7 := I.step s7
    walk_at "dw"
    refine we_lst ?_
    walk_at "dw"
    refine w2_neO (ds := wt.worths.map .int) (by rw [I7.mw, ints_get rfl]) (shaped_of 1 (shp_intL _)) rfl ?_
    rw [eqv_list_nil]
    walk_at "dw"
    refine w2_Ii (.inl ⟨by show -(2 ^ 64) < t; omega, by show t < 2 ^ 64; omega⟩) ?_
    obtain ⟨q, hq, q0, q1, q2⟩ : ∃ q : Int, t * (if (!(wt.worths.map PyData.int).isEmpty) = true then (1 : Int) else 0) = q ∧ 0 ≤ q ∧ q ≤ 2 ∧ (0 < q → 0 < f.slots.length) := ⟨_, rfl, by split <;> omega, by split <;> omega, fun h => by
      split at h
      · rename_i hne
        have : wt.worths ≠ [] := fun e => by rw [e] at hne; cases hne
        have := List.length_pos_iff.mpr this
        have := I.ok.len
        omega
      · omega⟩
    rw [hq]
    walk_at "dw"
    refine ⟨q, rfl, by omega, by omega, ?_⟩
    refine ⟨fun _ ρ' μ' => ∃ (wt : Want) (v6 v7 v8 v9 : Option PV), WInv f ns row aW 10 μ μ' wt ∧ ρ' = [some (.o row), some (.t [.tuple (f.slots.map encS), .bool f.rest, .bool f.more]), some told, some (.o aW), some (.l (wt.rest.map .int)), some (.l (moD wt.more)), v6, v7, v8, v9], ⟨wt, _, _, _, _, I7, rfl⟩, fun _ _ _ _ _ => trivial, ?_, ?_⟩
    · rintro i x ρ' μ8 hx ⟨wt, v6, v7, v8, v9, I, rfl⟩
      obtain ⟨hi, rfl⟩ := rng_at hx
      have hpos := q2 (by omega)
      have hwl := I.ok.len
      walk_at "dw"
      refine we_lst ?_
      walk_at "dw"
      refine ⟨((ns, row), 4), rfl, ⟨I.ra, by simp, by simp⟩, ?_⟩
      rintro _ μ9 ⟨⟨u, rfl, u0, u1⟩, s9⟩
      have u1 : u < 4 := u1
      have I9 := I.step s9
      walk_at "dw"
      refine w2_Ii (show CDiv u 3 from ⟨by decide, by decide⟩) ?_
      obtain ⟨q, hq, hat⟩ : ∃ q : Int, (0 < q ∧ q ≤ 250) ∧ atI [PyData.int 100, PyData.int 250] (u / 3) = some (.int q) := by
        rcases (show u / 3 = 0 ∨ u / 3 = 1 by omega) with h | h
        · rw [h]; exact ⟨100, by decide, rfl⟩
        · rw [h]; exact ⟨250, by decide, rfl⟩
      refine w2_ixL hat ?_
      walk_at "dw"
      refine ⟨((ns, row), q), rfl, ⟨I9.ra, by show 0 < q; omega, by show q ≤ 1000000; omega⟩, ?_⟩
      rintro _ μ10 ⟨⟨y, rfl, y0, y1⟩, s10⟩
      have y1 : y < q := y1
      have I10 := I9.step s10
      refine wg_sub ?_
      walk_at "dw"
      refine wc_lenO I10.mw ?_
      rw [List.length_map]
      walk_at "dw"
      refine ⟨((ns, row), (wt.worths.length : Int)), rfl, ⟨I10.ra, by show 0 < (wt.worths.length : Int); omega, by show (wt.worths.length : Int) ≤ 1000000; omega⟩, ?_⟩
      rintro _ μ11 ⟨⟨z, rfl, z0, z1⟩, s11⟩
      have z1 : z < (wt.worths.length : Int) := z1
      have I11 := I10.step s11
      refine wst_list I11.mw (j := z.toNat) (by unfold ixN; rw [List.length_map, if_pos z0, if_pos (by omega)]) ?_
      refine ⟨⟨wt.worths.set z.toNat y, wt.rest, wt.more⟩, _, _, _, _, ⟨I11.ra.off I11.nr, I11.off.new I11.a0, by rw [mset_same, List.map_set], I11.a0, I11.nr, ⟨by show (wt.worths.set _ _).length = _; rw [List.length_set]; exact hwl, fun x hx => ?_, I11.ok.ris, I11.ok.ten, I11.ok.re, I11.ok.mo⟩, I11.lr, I11.lm⟩, rfl⟩
      rcases List.mem_or_eq_of_mem_set hx with hx | rfl
      · exact I11.ok.wo x hx
      · exact ⟨y0, by omega⟩
    · rintro ρ' μ8 ⟨wt, v6, v7, v8, v9, I, rfl⟩
      exact ⟨wt, _, _, _, _, I, rfl⟩
  clear I v6 v7 v8 v9 wt
  rintro ρ' μ7 ⟨wt, v6, v7, v8, v9, I, rfl⟩
  -- more rest
  refine ws_cut (fun ρ' μ' => ∃ (wt : Want) (v6 v7 v8 v9 : Option PV), WInv f ns row aW 20 μ μ' wt ∧ ρ' = [some (.o row), some (.t [.tuple (f.slots.map encS), .bool f.rest, .bool f.more]), some told, some (.o aW), some (.l (wt.rest.map .int)), some (.l (moD wt.more)), v6, v7, v8, v9]) ?_ ?_
  · walk_at "dw"
    refine ⟨((ns, row), 8), rfl, ⟨I.ra, by simp, by simp⟩, ?_⟩
    rintro _ μ9 ⟨⟨t, rfl, t0, t1⟩, s9⟩
    have I9 := I.step s9
    have hlr := I9.lr
    walk_at "dw"
    refine w2_eqD rfl rfl ?_
    walk_at "dw"
    refine ⟨fun _ => ?_, fun _ => ?_⟩
    · walk_at "dw"
      refine we_lcRf (ns := ns) (row := row) (JI 100) (wi_rng ?_)
      walk_at "dw"
      refine we_lst ?_
      walk_at "dw"
      refine w2_ixT ati_1 ?_
      walk_at "dw"
      obtain ⟨q, hq, hat⟩ : ∃ q : Int, (0 ≤ q ∧ q ≤ 7) ∧ atI [PyData.int 1, PyData.int 7] (if f.rest = true then 1 else 0) = some (.int q) := by
        cases f.rest
        · exact ⟨1, by decide, rfl⟩
        · exact ⟨7, by decide, rfl⟩
      refine w2_ixL hat ?_
      walk_at "dw"
      refine ⟨q, rfl, by omega, by omega, ?_⟩
      refine ⟨by rw [rng_len]; omega, I9.ra, fun _ => trivial, ⟨[], rfl, rfl, fun x hx => (by cases hx)⟩, fun i x ds μ4 _ hJ hR4 => ?_, fun ds μ4 hJ hR4 hO4 => ?_⟩
      · walk_at "dw"
        refine ⟨RowStep.refl hR4, fun _ => ?_, fun h => (nomatch h)⟩
        walk_at "dw"
        refine ⟨((ns, row), 100), rfl, ⟨hR4, by simp, by simp⟩, ?_⟩
        rintro _ μ5 ⟨⟨t, rfl, t0, t1⟩, s5⟩
        exact ⟨s5, _, rfl, hJ.snoc t0 t1⟩
      obtain ⟨rs, rfl, hrl, hrb⟩ := hJ
      rw [rng_len] at hrl
      refine w2_cat (by rw [List.length_map, List.length_map]; omega) ?_
      rw [← List.map_append]
      refine ⟨⟨wt.worths, wt.rest ++ rs, wt.more⟩, _, _, _, _, ⟨hR4, I9.off.trans hO4, hO4 _ _ I9.nr I9.mw, I9.a0, I9.nr, ⟨I9.ok.len, I9.ok.wo, I9.ok.ris, I9.ok.ten, fun x hx => ?_, I9.ok.mo⟩, by show (wt.rest ++ rs).length ≤ 20; rw [List.length_append]; omega, I9.lm⟩, rfl⟩
      rcases List.mem_append.mp hx with hx | hx
      · exact I9.ok.re x hx
      · exact hrb x hx
    · walk_at "dw"
      exact ⟨wt, _, _, _, _, ⟨I9.ra, I9.off, I9.mw, I9.a0, I9.nr, I9.ok, by omega, I9.lm⟩, rfl⟩
  clear I v6 v7 v8 v9 wt
  rintro ρ' μ8 ⟨wt, v6, v7, v8, v9, I, rfl⟩
  refine ws_cut (fun ρ' μ' => ∃ (wt : Want) (v6 v7 v8 v9 : Option PV), WInv f ns row aW 20 μ μ' wt ∧ ρ' = [some (.o row), some (.t [.tuple (f.slots.map encS), .bool f.rest, .bool f.more]), some told, some (.o aW), some (.l (wt.rest.map .int)), some (.l (moD wt.more)), v6, v7, v8, v9]) ?_ ?_
  · walk_at "dw"
    refine w2_ixT ati_2 ?_
    walk_at "dw"
    refine ⟨fun h => ?_, fun h => ?_⟩
    · walk_at "dw"
      refine ⟨((ns, row), 8), rfl, ⟨I.ra, by simp, by simp⟩, ?_⟩
      rintro _ μ9 ⟨⟨t, rfl, t0, t1⟩, s9⟩
      have I9 := I.step s9
      walk_at "dw"
      refine w2_eqD rfl rfl ?_
      walk_at "dw"
      refine ⟨fun _ => ?_, fun _ => ?_⟩
      · walk_at "dw"
        refine we_lcRf (ns := ns) (row := row) JM (wi_rng ?_)
        walk_at "dw"
        refine ⟨_, rfl, by decide, by decide, ?_⟩
        refine ⟨by rw [rng_len]; decide, I9.ra, fun _ => trivial, ⟨[], rfl, Nat.le_refl _, List.Pairwise.nil, fun x hx => (by cases hx)⟩, fun i x ds μ5 hx hJ hR5 => ?_, fun ds μ5 hJ hR5 hO6 => ?_⟩
        · obtain ⟨hi, rfl⟩ := rng_at hx
          walk_at "dw"
          refine ⟨((ns, row), 2), rfl, ⟨hR5, by simp, by simp⟩, ?_⟩
          rintro _ μ6 ⟨⟨t, rfl, t0, t1⟩, s6⟩
          walk_at "dw"
          refine w2_eqD rfl rfl ?_
          walk_at "dw"
          refine ⟨s6, fun _ => ?_, fun _ => hJ.keep⟩
          walk_at "dw"
          refine ⟨((ns, row), 100), rfl, ⟨s6.at, by simp, by simp⟩, ?_⟩
          rintro _ μ7 ⟨⟨t, rfl, t0, t1⟩, s7⟩
          walk_at "dw"
          exact ⟨s6.trans s7, _, rfl, hJ.snoc t0 t1⟩
        obtain ⟨mo, rfl, hml, hmr, hmb⟩ := hJ
        rw [rng_len] at hml hmb
        exact ⟨⟨wt.worths, wt.rest, mo⟩, _, _, _, _, ⟨hR5, I9.off.trans hO6, hO6 _ _ I9.nr I9.mw, I9.a0, I9.nr, ⟨I9.ok.len, I9.ok.wo, hmr, fun n hn => (by
          obtain ⟨p, hp, rfl⟩ := List.mem_map.mp hn
          exact (hmb p hp).1), I9.ok.re, fun p hp => (hmb p hp).2⟩, I9.lr, hml⟩, rfl⟩
      · walk_at "dw"
        exact ⟨wt, _, _, _, _, I9, rfl⟩
    · refine ⟨fun h => (nomatch h), fun _ => ?_⟩
      walk_at "dw"
      exact ⟨wt, _, _, _, _, I, rfl⟩
  clear I v6 v7 v8 v9 wt
  rintro ρ' μ9 ⟨wt, v6, v7, v8, v9, I, rfl⟩
  walk_at "dw"
  refine wc_tupO (ds := wt.worths.map .int) (by rw [I.mw, ints_get rfl]) ?_
  walk_at "dw"
  obtain ⟨μ'', hsub, hst⟩ := row_end I.ra I.off
  refine ⟨μ'', hsub, ⟨wt, I.ok, ⟨⟨by rw [I.ok.len]; omega, by have := I.lr; omega, by have := I.lm; omega⟩, ⟨by rw [I.ok.len]; omega, by have := I.lr; omega, by have := I.lm; omega⟩⟩, rfl⟩, hst⟩
end
end Sc

namespace Sc
open PySem L2 PyProof.Rows Dw
local macro_rules | `(tactic| walk_at "dw1") => `(tactic| first
  | (with_reducible refine ws_seq ?_) | (with_reducible refine ws_ret ?_) | (with_reducible refine ws_set ?_) | (with_reducible refine ws_drop ?_) | (with_reducible refine ws_if ?_) | (with_reducible refine ws_next ?_)
  | ((with_reducible show We _ _ (tVar _) _ _ _); refine we_var rfl ?_) | (with_reducible refine we_int ?_) | (with_reducible refine we_bl ?_) | (with_reducible refine we_str ?_) | (with_reducible refine we_non ?_) | (with_reducible refine we_ty ?_)
  | (with_reducible refine we_op ?_) | (with_reducible refine we_isiT ?_) | (with_reducible refine we_cb ?_) | (with_reducible refine wa_cons ?_) | (with_reducible refine wa_nil ?_)
  | (with_reducible refine we_and ?_) | (with_reducible refine we_or ?_) | (with_reducible refine we_not ?_) | (with_reducible refine we_if ?_) | (with_reducible refine we_chain ?_)
  | (with_reducible refine we_fld ?_) | (with_reducible refine we_bm ?_) | (with_reducible refine we_bm0 ?_) | (with_reducible refine we_sl ?_) | (with_reducible refine wo_none ?_) | (with_reducible refine wo_some ?_)
  | (with_reducible refine wt_test ?_) | (with_reducible refine wt_B ?_) | (with_reducible refine wt_and ?_) | (with_reducible refine wt_or ?_) | (with_reducible refine wt_not ?_) | (with_reducible refine wt_yes ?_)
  | (with_reducible refine w2_I0i ?_) | (with_reducible refine w2_I0b ?_) | (with_reducible refine w2_isN ?_) | (with_reducible refine w2_notN ?_)
  | (with_reducible refine we_callL ?_) | (with_reducible refine we_call ?_) | (with_reducible refine we_tup ?_)
  | (with_reducible refine wc_lenT ?_) | (with_reducible refine wc_lenL ?_) | (with_reducible refine wc_lenS ?_) | (with_reducible refine wc_intB ?_) | (with_reducible refine wc_min2 ?_)
  | ((with_reducible show Wg _ _ (gTup _ _ _) _ _ _ _); first | refine wg_tup2 ?_ | refine wg_tup3 ?_ | refine wg_tup4 ?_) | (with_reducible refine we_un ?_) | (with_reducible refine ws_asg ?_) | (with_reducible refine wg_name ?_) | (with_reducible refine wgs_cons ?_) | (with_reducible refine wgs_nil ?_)
  | (with_reducible refine wsl_T ?_) | (with_reducible refine wsl_L ?_)
  | (with_reducible refine wc_tupL ?_) | (with_reducible refine wc_listT ?_)
  | (with_reducible refine wc_isi (kit_int _) ?_) | (with_reducible refine wc_isi (kit_bool _) ?_) | (with_reducible refine wc_isi (kit_tuple _) ?_) | (with_reducible refine wc_isi (kit_list _) ?_) | (with_reducible refine wc_isi (kit_str _) ?_)
  | (with_reducible refine ex_b ?_) | (with_reducible refine ex_i ?_) | (with_reducible refine ex_t ?_) | (with_reducible refine ex_l ?_)
  | ((with_reducible show ∃ _, unD _ = some _ ∧ _); refine ⟨_, rfl, by simp, ?_⟩))
local macro_rules | `(tactic| walk_at "dw") => `(tactic| repeat' walk_at "dw1")

section
open LamX
/-! ### _law_word, handed a lambda -/
abbrev s_law_word : Stmt := topS 43
abbrev N_law_word : List Str := ["_law_work", "_law_e", "_law_kinds"]
theorem sc_law_word : FnScope N_law_word ["_law_work"] (defScope s_law_word) := ⟨rfl, rfl, rfl, by decide +kernel, rfl, by decide +kernel, by decide +kernel⟩

abbrev kWanted : Str := "wanted"
abbrev kNoneS : Str := "none"
def wordD (CW : Addr) (D : Addr) : Str := if D = CW then kWanted else kNoneS
/-- what is wished of the lambda's reading -/
def eWord (K : Frg) (CW CN : Addr) (Q : VK) : XK := fun cls d H' => ∃ (D : Addr) (G' : Hp) (μ' : Mu), cls = .ref D ∧ d = none ∧ (D = CW ∨ D = CN) ∧ Sep K G' μ' H' ∧ ∀ (G'' H'' : Hp), Same G' G'' → Sep K G'' μ' H'' → Q (.str (wordD CW D)) H''
def TTw (K : Frg) (CW CN : Addr) : (XK → Hp → VK → Prop) → Hp → VK → Prop := fun tl H Q => tl (eWord K CW CN Q) H fun _ H' => Q .non H'
abbrev tIs (K : Frg) (D a : Addr) (v : V) : TE := tCB (rIsE K D a) (tCons (tVar 1) (tCons (tC v) tNil))
abbrev tSuite (K : Frg) (CW CN CF CC : Addr) (D a : Addr) : TS := tSeq (tAsg (tLst (tCons (tIs K D a (.ref CW)) (tCons (tIs K D a (.ref CN)) (tCons (tIs K D a (.ref CF)) (tCons (tIs K D a (.ref CC)) tNil))))) (gName 2))
  (tSeq (tIfS (tOr (tTest (tOp (rNeD K) (tBM K "list" (rCntF K) (tVar 2) (tCons (tC (.bl true)) tNil)) (tC (.int 1)))) (tNot (tB (tIs K D a (.ty "ValueError"))))) (tRet (tC (.str "other"))) tNext)
  (tRet (tOp (rIx K) (tLst (tCons (tC (.str "wanted")) (tCons (tC (.str "none")) (tCons (tC (.str "other")) (tCons (tC (.str "other")) tNil))))) (tBM K "list" (rIndexD K) (tVar 2) (tCons (tC (.bl true)) tNil)))))
/-- only what the clause's own name holds is known -/
def tFew (t : TS) : TS := fun D σ H => σ.length = 3 → t D [none, (σ[1]?).join, none] H
theorem few_ok' {X : Cx} {ss : List Stmt} {t : TS} (hN : X.N.length = 3) (h : PSs X ss t) : PSs X ss (tFew t) := ⟨fun pins s σ H D I h' => by
  have hl := I.len
  refine h.run pins s [none, (σ[1]?).join, none] H D ⟨I.ok, I.os, I.bare, I.base, ?_, I.cell, I.free, I.freeC, I.pin, I.hok, by rw [hN]; rfl⟩ (h' (by rw [hl, hN]))
  obtain ⟨m, h1, h2⟩ := I.loc
  refine ⟨m, h1, fun i x v hx hv vis => h2 i x v hx ?_ vis⟩
  match i, hv with
  | 0, hv => cases hv
  | 1, hv =>
    have hv : (σ[1]?).join = some v := Option.some.inj hv
    cases hs : σ[1]? with
    | none => rw [hs] at hv; cases hv
    | some o => rw [hs] at hv; exact congrArg some hv
  | 2, hv => cases hv
  | n + 3, hv => simp at hv⟩
structure Kinds (K : Frg) (CW CN CF CC : Addr) (D : Addr) (b1 b2 : Bool) : Prop where
  x : L2.ExcC K D
  w : PySem.W.kitOne K (.ref D) (.ref CW) = some b1
  n : PySem.W.kitOne K (.ref D) (.ref CN) = some b2
  f : PySem.W.kitOne K (.ref D) (.ref CF) = some false
  c : PySem.W.kitOne K (.ref D) (.ref CC) = some false
  v : PySem.W.kitOne K (.ref D) (.type "ValueError") = some true
theorem ws_suite {K : Frg} {G0 : Hp} {μ : Mu} {CW CN CF CC D a : Addr} {b1 b2 : Bool} (hk : Kinds K CW CN CF CC D b1 b2) (hb : (b1 = true ∧ b2 = false ∧ D = CW) ∨ (b1 = false ∧ b2 = true ∧ D ≠ CW)) :
    Ws K G0 (tSuite K CW CN CF CC D a) [none, some (.o a), none] μ { nx := fun _ _ => False, rt := fun x μ' => x = .s (wordD CW D) ∧ Sub μ μ', bk := fun _ _ => False, ct := fun _ _ => False } := by
  have fin : ∀ (x : PV) (μ' : Mu), x = .s (wordD CW D) → Sub μ μ' → x = .s (wordD CW D) ∧ Sub μ μ' := fun x μ' h1 h2 => ⟨h1, h2⟩
  walk_at "dw"
  refine we_lst ?_
  walk_at "dw"
  refine we_obj ?_
  walk_at "dw"
  refine wc_isE hk.w ?_
  walk_at "dw"
  refine we_obj ?_
  walk_at "dw"
  refine wc_isE hk.n ?_
  walk_at "dw"
  refine we_obj ?_
  walk_at "dw"
  refine wc_isE hk.f ?_
  walk_at "dw"
  refine we_obj ?_
  walk_at "dw"
  refine wc_isE hk.c ?_
  walk_at "dw"
  refine ⟨tyd_l, ?_⟩
  walk_at "dw"
  refine wm_count rfl rfl ?_
  rcases hb with ⟨rfl, rfl, rfl⟩ | ⟨rfl, rfl, hne⟩
  · walk_at "dw"
    refine w2_neD rfl rfl ?_
    walk_at "dw"
    refine ⟨fun h => (nomatch h), fun _ => ?_⟩
    walk_at "dw"
    refine wc_isT hk.v ?_
    walk_at "dw"
    refine ⟨fun h => (nomatch h), fun _ => ?_⟩
    walk_at "dw"
    refine we_lst ?_
    walk_at "dw"
    refine ⟨tyd_l, ?_⟩
    walk_at "dw"
    refine wm_indexD (z := .bool true) (j := 0) rfl rfl rfl rfl (fun m z hm => absurd hm (Nat.not_lt_zero _)) ?_
    refine w2_ixL ati_0 ?_
    exact ⟨by unfold wordD; rw [if_pos rfl], Sub.refl _⟩
  · walk_at "dw"
    refine w2_neD rfl rfl ?_
    walk_at "dw"
    refine ⟨fun h => (nomatch h), fun _ => ?_⟩
    walk_at "dw"
    refine wc_isT hk.v ?_
    walk_at "dw"
    refine ⟨fun h => (nomatch h), fun _ => ?_⟩
    walk_at "dw"
    refine we_lst ?_
    walk_at "dw"
    refine ⟨tyd_l, ?_⟩
    walk_at "dw"
    refine wm_indexD (z := .bool true) (j := 1) rfl rfl rfl rfl (fun m z hm hz => ?_) ?_
    · obtain rfl : m = 0 := by omega
      cases hz
      rfl
    refine w2_ixL ati_1 ?_
    exact ⟨by unfold wordD; rw [if_neg hne], Sub.refl _⟩
/-- _law_word keeps its wish -/
theorem word_gives {X : Cx} {g CS CW CN CF CC : Addr} {cdg : Value} {q : Str} {k : Nat} (hr : Room (k + 1) X.A) (B : Blt X.mg) (gS : X.mg "SlotError" = some (.ref CS)) (gW : X.mg "BadWanted" = some (.ref CW)) (gN : X.mg "NoCall" = some (.ref CN)) (gF : X.mg "BadFace" = some (.ref CF)) (gC : X.mg "BadCall" = some (.ref CC)) (gV : X.mg "ValueError" = none)
    (mW : PySem.W.exmOne X.K (.ref CW) (.ref CS) = some true) (mN : PySem.W.exmOne X.K (.ref CN) (.ref CS) = some true) (hne : CN ≠ CW) (kW : Kinds X.K CW CN CF CC CW true false) (kN : Kinds X.K CW CN CF CC CN false true) :
    GivesTo X N_law_word "_law_word" (defScope s_law_word) g cdg (defBody s_law_word) "_law_work" q (TTw X.K CW CN) := by
  intro f c' s H Q tl act hc h
  have hr2 : Room k (cxOf C8.CX0 X.prog X.w X.K X.mg X.base N_law_word "_law_word" (defScope s_law_word) g cdg X.A X.stack s H C8.E0).A := hr.deeper _
  have hus : ∀ (a : Addr) (pn : List (Addr × Obj)), ((cxOf C8.CX0 X.prog X.w X.K X.mg X.base N_law_word "_law_word" (defScope s_law_word) g cdg X.A X.stack s H C8.E0).nox.suite a pn).A.units + 65 < cLine := fun a pn => by
    have h := hr2.un
    have e : ((cxOf C8.CX0 X.prog X.w X.K X.mg X.base N_law_word "_law_word" (defScope s_law_word) g cdg X.A X.stack s H C8.E0).nox.suite a pn).A.units = (cxOf C8.CX0 X.prog X.w X.K X.mg X.base N_law_word "_law_word" (defScope s_law_word) g cdg X.A X.stack s H C8.E0).A.units := rfl
    omega
  have hx : ∀ D, (D = CW ∨ D = CN) → L2.ExcC X.K D := fun D hD => by rcases hD with rfl | rfl; exact kW.x; exact kN.x
  refine ⟨_, pss_cons (ps_try_as (X := (cxOf C8.CX0 X.prog X.w X.K X.mg X.base N_law_word "_law_word" (defScope s_law_word) g cdg X.A X.stack s H C8.E0).nox) (i := 1) (c := .ref CS)
      (tb := fun W D σ H => ∃ Ech : XK, (∀ cls d σ' H', Ech cls d H' → W cls d σ' H') ∧ σ[0]? = some (some (.ref f)) ∧ H c' = some (CodeO c' q) ∧ tl Ech H fun _ H' => D.nx σ H')
      (ts := fun a cls d D σ H => ∃ Dc, cls = .ref Dc ∧ d = none ∧ (Dc = CW ∨ Dc = CN) ∧ tFew (tSuite X.K CW CN CF CC Dc a) D σ H) (Wout := fun _ _ _ _ => False)
      rfl rfl sc_law_word.nd rfl rfl ⟨rfl, by decide, .inl gS⟩ Dw.takes0 (fun W pn xe tk _ => ?_) (fun a oe cls d pn hz hf => ?_)) (pss_one (ps_ret pe_non)), ?_⟩
  · refine ⟨fun pins s' σ H' D I h' => ?_⟩
    obtain ⟨Ech, hW, h1, h2, h3⟩ := h'
    exact (pss_one (ps_expr (act W pn xe Ech _ _ tk hW))).run pins s' σ H' D I ⟨h1, h2, h3⟩
  · refine ⟨fun pins s' σ H' D I h' => ?_⟩
    obtain ⟨Dc, e1, e2, hD, h3⟩ := h'
    subst e1; subst e2
    refine (few_ok' rfl ?_).run pins s' σ H' D I h3
    exact pss_cons (ps_set (i := 2) sc_law_word.nd rfl (Or.inl rfl) (pe_lst (pa_cons (pe_callB (call_isE (hx Dc hD) hz hf) (by rfl) B.isinstance (by decide +kernel) (pa_cons (pv 1) (pa_cons (pe_glob (v := .ref CW) rfl gW rfl) pa_nil))) (pa_cons (pe_callB (call_isE (hx Dc hD) hz hf) (by rfl) B.isinstance (by decide +kernel) (pa_cons (pv 1) (pa_cons (pe_glob (v := .ref CN) rfl gN rfl) pa_nil))) (pa_cons (pe_callB (call_isE (hx Dc hD) hz hf) (by rfl) B.isinstance (by decide +kernel) (pa_cons (pv 1) (pa_cons (pe_glob (v := .ref CF) rfl gF rfl) pa_nil))) (pa_cons (pe_callB (call_isE (hx Dc hD) hz hf) (by rfl) B.isinstance (by decide +kernel) (pa_cons (pv 1) (pa_cons (pe_glob (v := .ref CC) rfl gC rfl) pa_nil))) pa_nil))))))
      (pss_cons (ps_if (PW.pt (pw_or (pt_cmpR (op_neD (Nat.lt_of_succ_lt (hus _ _))) (pkBm X.K PySem.F.plainAttrs_list PySem.F.slot_list_count PySem.F.type_list_count (mt_countF X.K) (pv 2) (pa_cons pe_bl pa_nil)) pe_int (nomark _)) (pw_or1 (pt_not (pt_val (pe_callB (call_isE (hx Dc hD) hz hf) (by rfl) B.isinstance (by decide +kernel) (pa_cons (pv 1) (pa_cons (pe_bltn (v := .ty "ValueError") (by rfl) gV (by decide +kernel) rfl) pa_nil)))))))) (pss_one (ps_ret pe_str)) pss_nil)
      (pss_one (ps_ret (pe_ix (kix X.K) (pe_lst (pa_cons pe_str (pa_cons pe_str (pa_cons pe_str (pa_cons pe_str pa_nil))))) (pkBm X.K PySem.F.plainAttrs_list PySem.F.slot_list_index PySem.F.type_list_index (mt_indexD (hus _ _)) (pv 2) (pa_cons pe_bl pa_nil)) (fun _ _ => rfl)))))
  · refine ⟨eWord X.K CW CN Q, fun cls d σ' H' hE => ?_, rfl, hc, h⟩
    obtain ⟨D, G', μ', rfl, rfl, hD, S, hq⟩ := hE
    refine ⟨true, by rcases hD with rfl | rfl; exact mW; exact mN, fun _ a _ => ⟨D, rfl, rfl, hD, fun hl => ?_⟩, fun h => (nomatch h)⟩
    have hl : σ'.length = 3 := by rw [List.length_set] at hl; exact hl
    rw [List.getElem?_set_self (by omega)]
    have hws := ws_suite (G0 := G') (μ := μ') (a := a) (K := X.K) (CW := CW) (CN := CN) (CF := CF) (CC := CC) (D := D) (b1 := decide (D = CW)) (b2 := decide (D = CN)) (by
      rcases hD with rfl | rfl
      · rw [decide_eq_true rfl, decide_eq_false (Ne.symm hne)]; exact kW
      · rw [decide_eq_true rfl, decide_eq_false hne]; exact kN) (by
      rcases hD with rfl | rfl
      · exact .inl ⟨decide_eq_true rfl, decide_eq_false (Ne.symm hne), rfl⟩
      · exact .inr ⟨decide_eq_false hne, decide_eq_true rfl, hne⟩)
    refine hws [none, some (.ref a), none] G' H' (Same.refl _) (.cons trivial (.cons (show RelP X.K G' (.ref a) (.o a) from rfl) (.cons trivial .nil))) S _ (fun _ _ _ _ _ _ _ _ z => z.elim) (fun v G'' H'' x μ'' e'' rv S'' hx => ?_) (fun _ _ _ _ _ _ _ _ z => z.elim) (fun _ _ _ _ _ _ _ _ z => z.elim)
    obtain ⟨rfl, hs⟩ := hx
    cases rp_str rv
    exact hq G'' H'' e'' (S''.less hs)
end
end Sc

namespace Sc
open PySem L2 PyProof.Rows Dw
local macro_rules | `(tactic| walk_at "dw1") => `(tactic| first
  | (with_reducible refine ws_seq ?_) | (with_reducible refine ws_ret ?_) | (with_reducible refine ws_set ?_) | (with_reducible refine ws_drop ?_) | (with_reducible refine ws_if ?_) | (with_reducible refine ws_next ?_)
  | ((with_reducible show We _ _ (tVar _) _ _ _); refine we_var rfl ?_) | (with_reducible refine we_int ?_) | (with_reducible refine we_bl ?_) | (with_reducible refine we_str ?_) | (with_reducible refine we_non ?_) | (with_reducible refine we_ty ?_)
  | (with_reducible refine we_op ?_) | (with_reducible refine we_isiT ?_) | (with_reducible refine we_cb ?_) | (with_reducible refine wa_cons ?_) | (with_reducible refine wa_nil ?_)
  | (with_reducible refine we_and ?_) | (with_reducible refine we_or ?_) | (with_reducible refine we_not ?_) | (with_reducible refine we_if ?_) | (with_reducible refine we_chain ?_)
  | (with_reducible refine we_fld ?_) | (with_reducible refine we_bm ?_) | (with_reducible refine we_bm0 ?_) | (with_reducible refine we_sl ?_) | (with_reducible refine wo_none ?_) | (with_reducible refine wo_some ?_)
  | (with_reducible refine wt_test ?_) | (with_reducible refine wt_B ?_) | (with_reducible refine wt_and ?_) | (with_reducible refine wt_or ?_) | (with_reducible refine wt_not ?_) | (with_reducible refine wt_yes ?_)
  | (with_reducible refine w2_I0i ?_) | (with_reducible refine w2_I0b ?_) | (with_reducible refine w2_isN ?_) | (with_reducible refine w2_notN ?_)
  | (with_reducible refine we_callL ?_) | (with_reducible refine we_call ?_) | (with_reducible refine we_tup ?_)
  | (with_reducible refine wc_lenT ?_) | (with_reducible refine wc_lenL ?_) | (with_reducible refine wc_lenS ?_) | (with_reducible refine wc_intB ?_) | (with_reducible refine wc_min2 ?_)
  | ((with_reducible show Wg _ _ (gTup _ _ _) _ _ _ _); first | refine wg_tup2 ?_ | refine wg_tup3 ?_ | refine wg_tup4 ?_) | (with_reducible refine we_un ?_) | (with_reducible refine ws_asg ?_) | (with_reducible refine wg_name ?_) | (with_reducible refine wgs_cons ?_) | (with_reducible refine wgs_nil ?_)
  | (with_reducible refine wsl_T ?_) | (with_reducible refine wsl_L ?_)
  | (with_reducible refine wc_tupL ?_) | (with_reducible refine wc_listT ?_)
  | (with_reducible refine wc_isi (kit_int _) ?_) | (with_reducible refine wc_isi (kit_bool _) ?_) | (with_reducible refine wc_isi (kit_tuple _) ?_) | (with_reducible refine wc_isi (kit_list _) ?_) | (with_reducible refine wc_isi (kit_str _) ?_)
  | (with_reducible refine ex_b ?_) | (with_reducible refine ex_i ?_) | (with_reducible refine ex_t ?_) | (with_reducible refine ex_l ?_)
  | ((with_reducible show ∃ _, unD _ = some _ ∧ _); refine ⟨_, rfl, by simp, ?_⟩))
local macro_rules | `(tactic| walk_at "dw") => `(tactic| repeat' walk_at "dw1")

section
variable {P : Program} {w : World} {K : Frg} {mg : Str → Option Value} {base : Heap} {fa : Addr} {fd : FuncData}
/-! ### _law_least -/
abbrev s_law_least : Stmt := topS 42
abbrev N_law_least : List Str := ["_law_face_here", "_law_wanted_here", "_law_worths", "_law_rest", "_law_more", "_law_slots", "_law_ahead", "_law_must", "_law_k", "_law_many", "_law_names"]
theorem sc_law_least : FnScope N_law_least ["_law_face_here", "_law_wanted_here"] (defScope s_law_least) := ⟨rfl, rfl, rfl, by decide +kernel, rfl, by decide +kernel, by decide +kernel⟩

def condL (f : Face) (wt : Want) (k : Nat) : Bool := (isPl f k && mustK f wt.worths k) || (!wt.rest.isEmpty && placeK f k)
def lawMany (f : Face) (wt : Want) : Nat → Nat
  | 0 => 0
  | i + 1 => if condL f wt i = true then i + 1 else lawMany f wt i
theorem lawMany_char (f : Face) (wt : Want) : ∀ i, (∀ k, k < i → condL f wt k = true → k < lawMany f wt i) ∧ (lawMany f wt i = 0 ∨ ∃ k, k < i ∧ condL f wt k = true ∧ lawMany f wt i = k + 1)
  | 0 => ⟨fun k hk => absurd hk (Nat.not_lt_zero _), .inl rfl⟩
  | i + 1 => by
    obtain ⟨h1, h2⟩ := lawMany_char f wt i
    by_cases h : condL f wt i = true
    · have e : lawMany f wt (i + 1) = i + 1 := if_pos h
      rw [e]
      exact ⟨fun k hk _ => hk, .inr ⟨i, Nat.lt_succ_self _, h, rfl⟩⟩
    · have e : lawMany f wt (i + 1) = lawMany f wt i := if_neg h
      rw [e]
      refine ⟨fun k hk hc => ?_, ?_⟩
      · rcases Nat.lt_or_eq_of_le (Nat.le_of_lt_succ hk) with hk | rfl
        · exact h1 k hk hc
        · exact absurd hc h
      · rcases h2 with h2 | ⟨k, hk, hc, e⟩
        · exact .inl h2
        · exact .inr ⟨k, by omega, hc, e⟩
theorem lawMany_eq {f : Face} (hf : f.Ok) (wt : Want) : lawMany f wt f.slots.length = manyW f wt := by
  obtain ⟨h1, h2⟩ := lawMany_char f wt f.slots.length
  unfold manyW
  by_cases hr : wt.rest = []
  · rw [if_pos hr]
    have hc : ∀ k, condL f wt k = true ↔ isPl f k = true ∧ mustK f wt.worths k = true := fun k => by unfold condL; rw [hr]; simp
    refine Nat.le_antisymm ?_ ?_
    · rcases h2 with h2 | ⟨k, hk, hck, e⟩
      · omega
      · have := many0_ge ((hc k).mp hck).2 ((hc k).mp hck).1
        omega
    · rcases many0_in (f := f) (ws := wt.worths) with e | ⟨k, m1, m2, e⟩
      · omega
      · have := h1 k (must_lt m1) ((hc k).mpr ⟨m2, m1⟩)
        omega
  · rw [if_neg hr]
    have hc : ∀ k, condL f wt k = true ↔ placeK f k = true := fun k => by
      unfold condL
      have : wt.rest.isEmpty = false := by cases h : wt.rest with | nil => exact absurd h hr | cons a r => rfl
      rw [this]
      simp only [Bool.not_false, Bool.true_and, Bool.or_eq_true, Bool.and_eq_true]
      refine ⟨fun h => ?_, .inr⟩
      rcases h with h | h
      · exact (places_iff hf k).mp (pl_lt hf h.1)
      · exact h
    refine Nat.le_antisymm ?_ ?_
    · rcases h2 with h2 | ⟨k, hk, hck, e⟩
      · omega
      · have := (places_iff hf k).mpr ((hc k).mp hck)
        omega
    · by_cases hp : placesOf f = 0
      · omega
      · have hk : placesOf f - 1 < placesOf f := by omega
        have := h1 (placesOf f - 1) (by have := places_le f; omega) ((hc _).mpr ((places_iff hf _).mp hk))
        omega
theorem any_nat (l : List Nat) (i : Nat) : ((natL l).any fun y => PyData.eqv y (.int (i : Int))) = decide (i ∈ l) := by
  rw [Bool.eq_iff_iff, List.any_eq_true, decide_eq_true_eq]
  constructor
  · rintro ⟨y, hy, e⟩
    obtain ⟨k, hk, rfl⟩ := List.mem_map.mp hy
    rw [eqv_int, decide_eq_true_eq] at e
    have : k = i := by omega
    exact this ▸ hk
  · intro h
    exact ⟨.int (i : Int), List.mem_map.mpr ⟨i, h, rfl⟩, by rw [eqv_int]; exact decide_eq_true rfl⟩
theorem all_natF (l : List Nat) : (natL l).all flatD = true := by
  rw [List.all_eq_true]
  intro x hx
  obtain ⟨n, _, rfl⟩ := List.mem_map.mp hx
  rfl
abbrev sp_lleast (K : Frg) : Sp := SpA (α := FW) K (fun a => [.d (encF a.1), .d (encW a.2)]) (fun a _ => a.1.Ok ∧ a.2.Ok a.1) (fun a μ x μ' => x = .d (leastD a.1 a.2) ∧ μ = μ')
theorem ok_lleast (F : Fun K "_law_least" "_law_least" s_law_least fa fd) (B : Blt mg) (C_law_worth : Cal P w K mg base CX0 2 "_law_worth" ["_law_e", "_law_worths", "_law_said"] (sp_worth 1 K)) : FnOk P w K mg base CX0 3 fa fd ["_law_face_here", "_law_wanted_here"] (sp_lleast K) := by
  refine ok_D F sc_law_least (fun _ => rfl) (fun cdv A outer s H E hr a μ hp => ⟨_, (pss_cons (ps_asg (pv 1) (pkTG K 3 (by rfl) (pgs_cons (pg_name (i := 2) sc_law_least.nd rfl (Or.inl rfl)) (pgs_cons (pg_name (i := 3) sc_law_least.nd rfl (Or.inl rfl)) (pgs_cons (pg_name (i := 4) sc_law_least.nd rfl (Or.inl rfl)) pgs_nil)))))
      (pss_cons (ps_set (i := 5) sc_law_least.nd rfl (Or.inr rfl) (pe_ix (kix K) (pv 0) pe_int (fun _ _ => rfl)))
      (pss_cons (ps_set (i := 6) sc_law_least.nd rfl (Or.inl rfl) pe_dnewK)
      (pss_cons (ps_set (i := 7) sc_law_least.nd rfl (Or.inl rfl) (pe_lst pa_nil))
      (pss_cons (ps_for PassesOwn.never rfl (pi_range1 rfl B.range (pa_cons (pe_callB (klen K) (by rfl) B.len PySem.boot_len (pa_cons (pv 5) pa_nil)) pa_nil)) (pg_name (i := 8) sc_law_least.nd rfl (Or.inl rfl)) (pss_cons (ps_if (PW.pt (pw_or (pt_cmpR op_isN (pe_ix (kix K) (pe_ix (kix K) (pv 5) (pv 8) (fun _ _ => rfl)) pe_int (fun _ _ => rfl)) pe_non (nomark _)) (pw_or1 (pt_cmpR (kne K hr) (pe_cal C_law_worth hr (pa_cons (pe_ix (kix K) (pe_ix (kix K) (pv 5) (pv 8) (fun _ _ => rfl)) pe_int (fun _ _ => rfl)) (pa_cons (pv 6) (pa_cons (pe_lst pa_nil) pa_nil)))) (pe_ix (kix K) (pv 2) (pv 8) (fun _ _ => rfl)) (nomark _))))) (pss_one (ps_expr (pkBm K PySem.F.plainAttrs_list PySem.F.slot_list_append PySem.F.type_list_append mt_append (pv 7) (pa_cons (pv 8) pa_nil)))) pss_nil)
      (pss_one (ps_dput (hu_of hr) (pv 6) (pe_ix (kix K) (pe_ix (kix K) (pv 5) (pv 8) (fun _ _ => rfl)) pe_int (fun _ _ => rfl)) (pe_ix (kix K) (pv 2) (pv 8) (fun _ _ => rfl)) rfl))))
      (pss_cons (ps_set (i := 9) sc_law_least.nd rfl (Or.inr rfl) pe_int)
      (pss_cons (ps_for PassesOwn.never rfl (pi_range1 rfl B.range (pa_cons (pe_callB (klen K) (by rfl) B.len PySem.boot_len (pa_cons (pv 5) pa_nil)) pa_nil)) (pg_name (i := 8) sc_law_least.nd rfl (Or.inl rfl)) (pss_one (ps_if (PW.pt (pw_or (PW.pt (pw_and (pt_cmpR (keq K hr) (pe_ix (kix K) (pe_ix (kix K) (pv 5) (pv 8) (fun _ _ => rfl)) pe_int (fun _ _ => rfl)) pe_str (nomark _)) (pw_and1 (pt_cmpR (kin K) (pv 8) (pv 7) (by rfl))))) (pw_or1 (PW.pt (pw_and (pt_cmpR (kne K hr) (pv 3) (pe_tup pa_nil) (nomark _)) (pw_and1 (pt_cmpR (kne K hr) (pe_ix (kix K) (pe_ix (kix K) (pv 5) (pv 8) (fun _ _ => rfl)) pe_int (fun _ _ => rfl)) pe_str (nomark _)))))))) (pss_one (ps_set (i := 9) sc_law_least.nd rfl (Or.inr rfl) (pe_op op_add (pv 8) pe_int))) pss_nil)))
      (pss_cons (ps_set (i := 10) sc_law_least.nd rfl (Or.inl rfl) (pe_callB (ksorted K) (by rfl) B.sorted (by decide +kernel) (pa_cons (pe_lc (own := [("_law_k", 8)]) (g := (gName 8)) rfl sc_law_least.nd (pkList K (pv 7)) (blkOk_by (own := [("_law_k", 8)]) (N := N_law_least) (sc := defScope s_law_least) (by decide +kernel)) (fun _ _ _ _ _ => (pg_name (i := 8) sc_law_least.nd rfl (by first | exact Or.inl rfl | exact Or.inr rfl))) (fun _ _ _ _ _ => (pts_one (pt_cmpR op_ge (pv 8) (pv 9) (nomark _)))) (fun _ _ _ _ _ => (pe_ix (kix K) (pe_ix (kix K) (pv 5) (pv 8) (fun _ _ => rfl)) pe_int (fun _ _ => rfl)))) pa_nil)))
      (pss_one (ps_ret (pe_tup (pa_cons (pe_op op_add (pe_op op_add (pe_op op_add (pv 9) (pe_callB (klen K) (by rfl) B.len PySem.boot_len (pa_cons (pv 10) pa_nil))) (pe_callB (klen K) (by rfl) B.len PySem.boot_len (pa_cons (pv 3) pa_nil))) (pe_callB (klen K) (by rfl) B.len PySem.boot_len (pa_cons (pv 4) pa_nil))) (pa_cons (pv 9) (pa_cons (pe_callTy (ktup K) (by rfl) B.tuple (by decide +kernel) (pa_cons (pv 10) pa_nil)) pa_nil)))))))))))))), fun G0 => ?_⟩)
  obtain ⟨f, wt⟩ := a
  obtain ⟨hf, hw⟩ := hp
  try dsimp only [cxOf, Cx.nox] at hf hw ⊢
  have hsl := hf.len
  have hl := hw.len
  have hml := must_len f wt.worths
  have hol := oth_len f wt
  unfold encF encW encI encMo
  walk_at "dw"
  refine w2_ixT ati_0 ?_
  walk_at "dw"
  refine we_dnew fun aA hA0 => ?_
  walk_at "dw"
  refine we_lstM ?_
  walk_at "dw"
  refine ⟨by simp, fun aF hF0 => ?_⟩
  have hne : aA ≠ aF := ne_mu mset_same hF0
  have hF1 : μ aF = none := by
    cases hh : μ aF with
    | none => rfl
    | some o => rw [mset_ne (Ne.symm hne), hh] at hF0; cases hF0
  have I0 : Sub μ (mset (mset μ aA (.dk [])) aF (.lst [])) ∧ mset (mset μ aA (.dk [])) aF (.lst []) aA = some (.dk (encWs (aheadW f wt.worths 0))) ∧ mset (mset μ aA (.dk [])) aF (.lst []) aF = some (.lst (((List.range 0).filter (mustK f wt.worths)).map fun (k : Nat) => PV.i (k : Int))) :=
    ⟨sub_put (Sub.new hA0) hF1, by rw [mset_ne hne, mset_same]; rfl, mset_same⟩
  generalize mset (mset μ aA (.dk [])) aF (.lst []) = μ1 at I0 ⊢
  walk_at "dw"
  refine ws_for (wi_rng ?_)
  walk_at "dw"
  rw [List.length_map]
  refine ⟨_, rfl, by omega, by omega, ?_⟩
  rw [Int.toNat_natCast]
  refine ⟨fun i ρ μ' => (Sub μ μ' ∧ μ' aA = some (.dk (encWs (aheadW f wt.worths i))) ∧ μ' aF = some (.lst (((List.range i).filter (mustK f wt.worths)).map fun (k : Nat) => PV.i (k : Int)))) ∧ ∃ v8, ρ = [some (.t [.tuple (f.slots.map encS), .bool f.rest, .bool f.more]), some (.t [.tuple (wt.worths.map .int), .tuple (wt.rest.map .int), .tuple (moD wt.more)]), some (.t (wt.worths.map .int)), some (.t (wt.rest.map .int)), some (.t (moD wt.more)), some (.t (f.slots.map encS)), some (.o aA), some (.o aF), v8, none, none], ⟨I0, _, rfl⟩, fun _ _ _ _ _ => trivial, ?_, ?_⟩
  · rintro i x ρ μ2 hx ⟨⟨hS, hA, hF⟩, v8, rfl⟩
    obtain ⟨his, rfl⟩ := rng_at hx
    have hi : i < wt.worths.length := by omega
    have hSl := hf.each i his
    have hks := List.getElem?_eq_getElem his
    have hsat : (f.slots.map encS)[i]? = some (encS f.slots[i]) := by rw [List.getElem?_map, hks]; rfl
    have hwat : (wt.worths.map PyData.int)[i]? = some (.int wt.worths[i]) := by rw [List.getElem?_map, List.getElem?_eq_getElem hi]; rfl
    have hkeys := ahead_keys hl i
    have hnew : f.slots[i].name ∉ (aheadW f wt.worths i).map (·.1) := by
      rw [hkeys]
      intro hm
      obtain ⟨t, ht, e⟩ := List.mem_map.mp hm
      exact hSl.nw t ht e
    have hlW : (encWs (aheadW f wt.worths i)).length < 100000 := by
      unfold encWs aheadW
      rw [List.length_map, List.length_map, List.length_take, List.length_zip]
      omega
    have hrl : (((List.range i).filter (mustK f wt.worths)).map fun (k : Nat) => PV.i (k : Int)).length ≤ i := by
      rw [List.length_map]
      have := List.length_filter_le (mustK f wt.worths) (List.range i)
      rw [List.length_range] at this
      exact this
    have hgd : wt.worths.getD i 0 = wt.worths[i] := getD_lt hi
    have hstep : (List.range (i + 1)).filter (mustK f wt.worths) = (List.range i).filter (mustK f wt.worths) ++ (if mustK f wt.worths i = true then [i] else []) := by
      rw [List.range_succ, List.filter_append]
      congr 1
      by_cases h : mustK f wt.worths i = true
      · simp [h]
      · simp [h]
    refine wg_name ?_
    refine ws_cut (fun ρ' μ3 => ρ' = [some (.t [.tuple (f.slots.map encS), .bool f.rest, .bool f.more]), some (.t [.tuple (wt.worths.map .int), .tuple (wt.rest.map .int), .tuple (moD wt.more)]), some (.t (wt.worths.map .int)), some (.t (wt.rest.map .int)), some (.t (moD wt.more)), some (.t (f.slots.map encS)), some (.o aA), some (.o aF), some (.i (i : Int)), none, none] ∧ Sub μ μ3 ∧ μ3 aA = some (.dk (encWs (aheadW f wt.worths i))) ∧ μ3 aF = some (.lst (((List.range (i + 1)).filter (mustK f wt.worths)).map fun (k : Nat) => PV.i (k : Int)))) ?_ ?_
    · walk_at "dw"
      refine w2_ixT (ati_n hsat) ?_
      unfold encS
      walk_at "dw"
      refine w2_ixT ati_2 ?_
      rw [← show encS = fun s => PyData.tuple [.int s.name, .str s.sort.str, encO s.dflt] from rfl]
      cases hd : f.slots[i].dflt with
      | none =>
        have hm : mustK f wt.worths i = true := by unfold mustK; rw [hks]; simp only [hd]
        walk_at "dw"
        refine ⟨fun _ => ⟨fun _ => ?_, fun h => (nomatch h)⟩, fun h => (nomatch h)⟩
        walk_at "dw"
        refine ⟨tyd_o hF, ?_⟩
        walk_at "dw"
        refine wm_append hF (by omega) ?_
        exact ⟨rfl, sub_put hS hF1, by rw [mset_ne hne]; exact hA, by rw [mset_same, hstep, if_pos hm, List.map_append]; rfl⟩
      | some e =>
        have hex : ExOk ((aheadW f wt.worths i).map (·.1)) 1 e := by rw [hkeys]; exact hSl.df e hd
        have hm : mustK f wt.worths i = !decide (valE (aheadW f wt.worths i) e = wt.worths[i]) := by unfold mustK; rw [hks]; simp only [hd]; rw [hgd]
        walk_at "dw"
        refine ⟨fun h => (by cases e <;> cases h), fun _ => ?_⟩
        walk_at "dw"
        refine w2_ixT (ati_n hsat) ?_
        walk_at "dw"
        refine w2_ixT (ds := [.int f.slots[i].name, .str f.slots[i].sort.str, encO f.slots[i].dflt]) ati_2 ?_
        rw [hd]
        walk_at "dw"
        refine we_lstM ?_
        walk_at "dw"
        refine ⟨by simp, fun aL hL0 => ?_⟩
        have hL1 : μ aL = none := sub_none hS hL0
        have hnA : aA ≠ aL := ne_mu hA hL0
        have hnF : aF ≠ aL := ne_mu hF hL0
        walk_at "dw"
        refine ⟨(e, (aheadW f wt.worths i, aA), ([], aL)), rfl, ⟨hex, by show mset μ2 aL _ aA = _; rw [mset_ne hnA]; exact hA, mset_same, by simp⟩, ?_⟩
        rintro _ _ ⟨rfl, rfl⟩
        have hS3 : Sub μ (mset (mset μ2 aL (.lst [])) aL (.lst (([] ++ sayE e).map PV.i))) := sub_put (sub_put hS hL1) hL1
        have hA3 : mset (mset μ2 aL (.lst [])) aL (.lst (([] ++ sayE e).map PV.i)) aA = some (.dk (encWs (aheadW f wt.worths i))) := by rw [mset_ne hnA, mset_ne hnA]; exact hA
        have hF3 : mset (mset μ2 aL (.lst [])) aL (.lst (([] ++ sayE e).map PV.i)) aF = some (.lst (((List.range i).filter (mustK f wt.worths)).map fun (k : Nat) => PV.i (k : Int))) := by rw [mset_ne hnF, mset_ne hnF]; exact hF
        generalize mset (mset μ2 aL (.lst [])) aL (.lst (([] ++ sayE e).map PV.i)) = μ3 at hS3 hA3 hF3 ⊢
        walk_at "dw"
        refine w2_ixT (ati_n hwat) ?_
        walk_at "dw"
        refine w2_neD rfl rfl ?_
        rw [eqv_int, ← hm]
        walk_at "dw"
        refine ⟨fun h => ?_, fun h => ?_⟩
        · walk_at "dw"
          refine ⟨tyd_o hF3, ?_⟩
          walk_at "dw"
          refine wm_append hF3 (by omega) ?_
          exact ⟨rfl, sub_put hS3 hF1, by rw [mset_ne hne]; exact hA3, by rw [mset_same, hstep, if_pos h, List.map_append]; rfl⟩
        · walk_at "dw"
          exact ⟨rfl, hS3, hA3, by rw [hstep, if_neg (by rw [h]; decide), List.append_nil]; exact hF3⟩
    rintro ρ' μ3 ⟨rfl, h1, h2, h3⟩
    refine ws_dput ?_
    walk_at "dw"
    refine w2_ixT (ati_n hwat) ?_
    walk_at "dw"
    refine w2_ixT (ati_n hsat) ?_
    unfold encS
    walk_at "dw"
    refine w2_ixT ati_0 ?_
    refine ⟨aA, _, Sum.inl f.slots[i].name, rfl, rfl, h2, hlW, ?_⟩
    refine ⟨⟨sub_put h1 hA0, by rw [mset_same, put_newW hnew, ahead_snoc his hi], by rw [mset_ne (Ne.symm hne)]; exact h3⟩, _, rfl⟩
  rintro ρ μ2 ⟨⟨hS, hA, hF⟩, v8, rfl⟩
  rw [rng_len] at hF
  refine ws_freeze aF (natL (mustL f wt.worths)) (by rw [hF, List.map_map]; rfl) ?_
  simp only [List.map_cons, List.map_nil]
  rw [show fzV aF (natL (mustL f wt.worths)) (some (.o aF)) = some (.l (natL (mustL f wt.worths))) from if_pos rfl]
  have hS2 : Sub μ (mdel μ2 aF) := fun b o e => by
    have hb : b ≠ aF := fun h => by rw [h, hF1] at e; cases e
    rw [mdel_ne hb]
    exact hS b o e
  generalize fzV aF (natL (mustL f wt.worths)) v8 = v8
  generalize fzV aF (natL (mustL f wt.worths)) (some (.o aA)) = v6
  generalize mdel μ2 aF = μ2 at hS2
  walk_at "dw"
  refine ws_for (wi_rng ?_)
  walk_at "dw"
  rw [List.length_map]
  refine ⟨_, rfl, by omega, by omega, ?_⟩
  rw [Int.toNat_natCast]
  refine ⟨fun i ρ μ' => μ2 = μ' ∧ ∃ v8, ρ = [some (.t [.tuple (f.slots.map encS), .bool f.rest, .bool f.more]), some (.t [.tuple (wt.worths.map .int), .tuple (wt.rest.map .int), .tuple (moD wt.more)]), some (.t (wt.worths.map .int)), some (.t (wt.rest.map .int)), some (.t (moD wt.more)), some (.t (f.slots.map encS)), v6, some (.l (natL (mustL f wt.worths))), v8, some (.i (lawMany f wt i : Int)), none], ⟨rfl, _, rfl⟩, fun _ _ _ _ _ => trivial, ?_, ?_⟩
  · rintro i x ρ μ' hx ⟨rfl, v8, rfl⟩
    obtain ⟨his, rfl⟩ := rng_at hx
    have hks := List.getElem?_eq_getElem his
    have hsat : (f.slots.map encS)[i]? = some (.tuple [.int f.slots[i].name, .str f.slots[i].sort.str, encO f.slots[i].dflt]) := by rw [List.getElem?_map, hks]; rfl
    have hpl : isPl f i = decide (f.slots[i].sort = .place) := by unfold isPl; rw [hks]
    have hpk : placeK f i = !decide (f.slots[i].sort = .name) := by unfold placeK; rw [hks]
    have hmu : mustK f wt.worths i = decide (i ∈ mustL f wt.worths) := by rw [Bool.eq_iff_iff, decide_eq_true_eq]; exact mem_mustL.symm
    refine wg_name ?_
    refine ws_if (wt_mono (Q' := fun b μ' => μ2 = μ' ∧ b = condL f wt i) ?test fun b μ3 hb => ⟨fun h => ?body, fun h => ?next⟩)
    case body =>
      obtain ⟨rfl, hb⟩ := hb
      have e : lawMany f wt (i + 1) = i + 1 := if_pos (by rw [← hb, h])
      walk_at "dw"
      dsimp only
      rw [e]
      exact ⟨rfl, _, rfl⟩
    case next =>
      obtain ⟨rfl, hb⟩ := hb
      have e : lawMany f wt (i + 1) = lawMany f wt i := if_neg (by rw [← hb, h]; decide)
      walk_at "dw"
      dsimp only
      rw [e]
      exact ⟨rfl, _, rfl⟩
    case test =>
      have hrest : (wt.rest.map PyData.int).isEmpty = wt.rest.isEmpty := by cases wt.rest <;> rfl
      walk_at "dw"
      refine w2_ixT (ati_n hsat) ?_
      walk_at "dw"
      refine w2_ixT ati_1 ?_
      walk_at "dw"
      refine w2_eqD (shp_srt _) (by decide +kernel) ?_
      rw [eqv_str, str_place, ← hpl]
      walk_at "dw"
      refine ⟨fun h1 => ?_, fun h1 => ?_⟩
      · walk_at "dw"
        refine w2_inL rfl (all_natF _) ?_
        rw [any_nat, ← hmu]
        walk_at "dw"
        refine ⟨fun h2 => ⟨rfl, by have h2 : mustK f wt.worths i = true := h2; unfold condL; rw [h1, h2]; rfl⟩, fun h2 => ?_⟩
        have h2 : mustK f wt.worths i = false := h2
        walk_at "dw"
        refine w2_neD (shaped_of 1 (shp_intT _)) rfl ?_
        rw [eqv_tup_nil, hrest]
        walk_at "dw"
        refine ⟨fun h3 => ?_, fun h3 => ⟨rfl, by unfold condL; rw [h1, h2, h3]; rfl⟩⟩
        walk_at "dw"
        refine w2_ixT (ati_n hsat) ?_
        walk_at "dw"
        refine w2_ixT ati_1 ?_
        walk_at "dw"
        refine w2_neD (shp_srt _) (by decide +kernel) ?_
        rw [eqv_str, str_name, ← hpk]
        walk_at "dw"
        exact ⟨rfl, by unfold condL; rw [h1, h2, h3]; rfl⟩
      · refine ⟨fun h => (nomatch h), fun _ => ?_⟩
        walk_at "dw"
        refine w2_neD (shaped_of 1 (shp_intT _)) rfl ?_
        rw [eqv_tup_nil, hrest]
        walk_at "dw"
        refine ⟨fun h3 => ?_, fun h3 => ⟨rfl, by unfold condL; rw [h1, h3]; rfl⟩⟩
        walk_at "dw"
        refine w2_ixT (ati_n hsat) ?_
        walk_at "dw"
        refine w2_ixT ati_1 ?_
        walk_at "dw"
        refine w2_neD (shp_srt _) (by decide +kernel) ?_
        rw [eqv_str, str_name, ← hpk]
        walk_at "dw"
        exact ⟨rfl, by unfold condL; rw [h1, h3]; rfl⟩
  rintro ρ μ' ⟨rfl, v8, rfl⟩
  rw [rng_len, lawMany_eq hf wt]
  walk_at "dw"
  refine we_lcA (mustL f wt.worths) (fun (k : Nat) => .i (k : Int)) (fun k => decide (manyW f wt ≤ k)) (fun k => .int (nameK f k)) (wi_lst ?_)
  walk_at "dw"
  refine ⟨by rw [List.map_map]; rfl, by omega, fun _ _ => trivial, fun k hk μ1 hs1 => ?_, ?_⟩
  · have hkl := must_lt (mem_mustL.mp hk)
    have hks := List.getElem?_eq_getElem hkl
    walk_at "dw"
    refine ⟨Sub.refl _, decide_eq_decide.mpr (by omega), fun _ => ?_⟩
    walk_at "dw"
    refine w2_ixT (ati_n (d := encS f.slots[k]) (by rw [List.getElem?_map, hks]; rfl)) ?_
    unfold encS
    walk_at "dw"
    refine w2_ixT ati_0 ?_
    exact ⟨Sub.refl _, by rw [nameK_at hks]⟩
  rw [show (((mustL f wt.worths).filter fun k => decide (manyW f wt ≤ k)).map fun k => PyData.int (nameK f k)) = ((othW f wt).map (nameK f)).map .int by rw [List.map_map]; rfl]
  walk_at "dw"
  refine wc_sorted (by rw [List.length_map]; omega) fun ns' h1 h2 => ?_
  have hlen : ns'.length = (othW f wt).length := by rw [h1.length_eq, List.length_map]
  rw [show ns' = srt ((othW f wt).map (nameK f)) from srt_eq h1 h2] at hlen ⊢
  walk_at "dw"
  simp only [List.length_map]
  refine ⟨μ, hS2, ?_, rfl⟩
  unfold leastD sizeW
  rw [hlen]
  simp only [List.length_map, Int.natCast_add]
end
end Sc

namespace Sc
open PySem L2 PyProof.Rows Dw
local macro_rules | `(tactic| walk_at "dw1") => `(tactic| first
  | (with_reducible refine ws_seq ?_) | (with_reducible refine ws_ret ?_) | (with_reducible refine ws_set ?_) | (with_reducible refine ws_drop ?_) | (with_reducible refine ws_if ?_) | (with_reducible refine ws_next ?_)
  | ((with_reducible show We _ _ (tVar _) _ _ _); refine we_var rfl ?_) | (with_reducible refine we_int ?_) | (with_reducible refine we_bl ?_) | (with_reducible refine we_str ?_) | (with_reducible refine we_non ?_) | (with_reducible refine we_ty ?_)
  | (with_reducible refine we_op ?_) | (with_reducible refine we_isiT ?_) | (with_reducible refine we_cb ?_) | (with_reducible refine wa_cons ?_) | (with_reducible refine wa_nil ?_)
  | (with_reducible refine we_and ?_) | (with_reducible refine we_or ?_) | (with_reducible refine we_not ?_) | (with_reducible refine we_if ?_) | (with_reducible refine we_chain ?_)
  | (with_reducible refine we_fld ?_) | (with_reducible refine we_bm ?_) | (with_reducible refine we_bm0 ?_) | (with_reducible refine we_sl ?_) | (with_reducible refine wo_none ?_) | (with_reducible refine wo_some ?_)
  | (with_reducible refine wt_test ?_) | (with_reducible refine wt_B ?_) | (with_reducible refine wt_and ?_) | (with_reducible refine wt_or ?_) | (with_reducible refine wt_not ?_) | (with_reducible refine wt_yes ?_)
  | (with_reducible refine w2_I0i ?_) | (with_reducible refine w2_I0b ?_) | (with_reducible refine w2_isN ?_) | (with_reducible refine w2_notN ?_)
  | (with_reducible refine we_callL ?_) | (with_reducible refine we_call ?_) | (with_reducible refine we_tup ?_)
  | (with_reducible refine wc_lenT ?_) | (with_reducible refine wc_lenL ?_) | (with_reducible refine wc_lenS ?_) | (with_reducible refine wc_intB ?_) | (with_reducible refine wc_min2 ?_)
  | ((with_reducible show Wg _ _ (gTup _ _ _) _ _ _ _); first | refine wg_tup2 ?_ | refine wg_tup3 ?_ | refine wg_tup4 ?_) | (with_reducible refine we_un ?_) | (with_reducible refine ws_asg ?_) | (with_reducible refine wg_name ?_) | (with_reducible refine wgs_cons ?_) | (with_reducible refine wgs_nil ?_)
  | (with_reducible refine wsl_T ?_) | (with_reducible refine wsl_L ?_)
  | (with_reducible refine wc_tupL ?_) | (with_reducible refine wc_listT ?_)
  | (with_reducible refine wc_isi (kit_int _) ?_) | (with_reducible refine wc_isi (kit_bool _) ?_) | (with_reducible refine wc_isi (kit_tuple _) ?_) | (with_reducible refine wc_isi (kit_list _) ?_) | (with_reducible refine wc_isi (kit_str _) ?_)
  | (with_reducible refine ex_b ?_) | (with_reducible refine ex_i ?_) | (with_reducible refine ex_t ?_) | (with_reducible refine ex_l ?_)
  | ((with_reducible show ∃ _, unD _ = some _ ∧ _); refine ⟨_, rfl, by simp, ?_⟩))
local macro_rules | `(tactic| walk_at "dw") => `(tactic| repeat' walk_at "dw1")

section
variable {P : Program} {w : World} {K : Frg} {mg : Str → Option Value} {base : Heap} {fa : Addr} {fd : FuncData}
/-! ### _law_odd -/
abbrev s_law_odd : Stmt := topS 44
abbrev N_law_odd : List Str := ["_law_row", "_law_wanted_here", "_law_worths", "_law_rest", "_law_more", "_law_far", "_law_some"]
theorem sc_law_odd : FnScope N_law_odd ["_law_row", "_law_wanted_here"] (defScope s_law_odd) := ⟨rfl, rfl, rfl, by decide +kernel, rfl, by decide +kernel, by decide +kernel⟩

def odd8 (wt : Want) (far : Int) : List Want := [⟨wt.worths ++ [1], wt.rest, wt.more⟩, ⟨wt.worths, wt.rest ++ [100 + far], wt.more⟩, ⟨wt.worths, wt.rest ++ [0 - 1 - far], wt.more⟩,
  ⟨wt.worths, wt.rest, [(3, 1), (3, 1)]⟩, ⟨wt.worths, wt.rest, [(4, 1), (3, 1)]⟩, ⟨wt.worths, wt.rest, [(10 + far, 1)]⟩, ⟨wt.worths, wt.rest, [(1, 100 + far)]⟩, ⟨wt.worths, wt.rest, [(0 - 1 - far, 1)]⟩]
def odd3 (wt : Want) (far : Int) : List Want := [⟨wt.worths.drop 1, wt.rest, wt.more⟩, ⟨wt.worths.drop 1 ++ [10000 + far], wt.rest, wt.more⟩, ⟨wt.worths.drop 1 ++ [0 - 1 - far], wt.rest, wt.more⟩]
theorem not_ris (a b : Int) (h : b ≤ a) (l : List Int) : ¬ Rising (a :: b :: l) := fun r => by
  have := (List.pairwise_cons.mp r).1 b List.mem_cons_self
  omega
theorem odd8_bad {f : Face} {wt : Want} {far : Int} (hw : wt.Ok f) (h0 : 0 ≤ far) : ∀ x ∈ odd8 wt far, ¬ x.Ok f := by
  intro x hx O
  unfold odd8 at hx
  simp only [List.mem_cons, List.not_mem_nil, or_false] at hx
  have hl := hw.len
  rcases hx with rfl | rfl | rfl | rfl | rfl | rfl | rfl | rfl
  · have := O.len
    simp at this
    omega
  · have := (O.re (100 + far) (by simp)).2
    omega
  · have := (O.re (0 - 1 - far) (by simp)).1
    omega
  · exact not_ris 3 3 (by decide) [] O.ris
  · exact not_ris 4 3 (by decide) [] O.ris
  · have := (O.ten (10 + far) (by simp [Want.names])).2
    omega
  · have := (O.mo (1, 100 + far) (by simp)).2
    have : (100 + far) < 100 := this
    omega
  · have := (O.ten (0 - 1 - far) (by simp [Want.names])).1
    omega
theorem odd3_bad {f : Face} {wt : Want} {far : Int} (hw : wt.Ok f) (h0 : 0 ≤ far) (hn : wt.worths ≠ []) : ∀ x ∈ odd3 wt far, ¬ x.Ok f := by
  intro x hx O
  unfold odd3 at hx
  simp only [List.mem_cons, List.not_mem_nil, or_false] at hx
  have hl := hw.len
  have hp := List.length_pos_iff.mpr hn
  rcases hx with rfl | rfl | rfl
  · have := O.len
    simp at this
    omega
  · have := (O.wo (10000 + far) (by simp)).2
    omega
  · have := (O.wo (0 - 1 - far) (by simp)).1
    omega
theorem odd_len {wt : Want} {far : Int} (h1 : wt.worths.length ≤ 20) (h2 : wt.rest.length ≤ 20) (h3 : wt.more.length ≤ 20) : ∀ x ∈ odd8 wt far ++ odd3 wt far, lenW x := by
  intro x hx
  unfold odd8 odd3 at hx
  simp only [List.cons_append, List.nil_append, List.mem_cons, List.not_mem_nil, or_false] at hx
  rcases hx with rfl | rfl | rfl | rfl | rfl | rfl | rfl | rfl | rfl | rfl | rfl <;> (refine ⟨?_, ?_, ?_⟩ <;> simp <;> omega)
def oddE8 (wt : Want) (far : Int) : List PyData := [.tuple [.tuple (wt.worths.map .int ++ [.int 1]), .tuple (wt.rest.map .int), .tuple (moD wt.more)], .tuple [.tuple (wt.worths.map .int), .tuple (wt.rest.map .int ++ [.int (100 + far)]), .tuple (moD wt.more)], .tuple [.tuple (wt.worths.map .int), .tuple (wt.rest.map .int ++ [.int (0 - 1 - far)]), .tuple (moD wt.more)],
  .tuple [.tuple (wt.worths.map .int), .tuple (wt.rest.map .int), .tuple [.tuple [.int 3, .int 1], .tuple [.int 3, .int 1]]], .tuple [.tuple (wt.worths.map .int), .tuple (wt.rest.map .int), .tuple [.tuple [.int 4, .int 1], .tuple [.int 3, .int 1]]], .tuple [.tuple (wt.worths.map .int), .tuple (wt.rest.map .int), .tuple [.tuple [.int (10 + far), .int 1]]],
  .tuple [.tuple (wt.worths.map .int), .tuple (wt.rest.map .int), .tuple [.tuple [.int 1, .int (100 + far)]]], .tuple [.tuple (wt.worths.map .int), .tuple (wt.rest.map .int), .tuple [.tuple [.int (0 - 1 - far), .int 1]]]]
theorem oddE8_eq (wt : Want) (far : Int) : oddE8 wt far = (odd8 wt far).map encW := by
  unfold oddE8 odd8 encW encI encMo moD
  simp only [List.map_cons, List.map_nil, List.map_append]
def oddE3 (wt : Want) (far : Int) : List PyData := [.tuple [.tuple ((wt.worths.map .int).drop 1), .tuple (wt.rest.map .int), .tuple (moD wt.more)], .tuple [.tuple ((wt.worths.map .int).drop 1 ++ [.int (10000 + far)]), .tuple (wt.rest.map .int), .tuple (moD wt.more)], .tuple [.tuple ((wt.worths.map .int).drop 1 ++ [.int (0 - 1 - far)]), .tuple (wt.rest.map .int), .tuple (moD wt.more)]]
theorem oddE3_eq (wt : Want) (far : Int) : oddE3 wt far = (odd3 wt far).map encW := by
  unfold oddE3 odd3 encW encI encMo moD
  simp only [List.map_cons, List.map_nil, List.map_append, List.map_drop]
theorem w2_catLM {G0 : Hp} {μ : Mu} {Q : PV → Mu → Prop} {ds es : List PyData} (hl : ds.length + es.length ≤ 100000) (q : ∀ p, μ p = none → Q (.o p) (mset μ p (.lst ((ds ++ es).map .d)))) : W2 K G0 rCat (.l ds) (.l es) μ Q := fun v w G H e rv rw S R k => by
  obtain ⟨a, xs, rfl, h1, h2⟩ := rp_lst rv
  obtain ⟨b, ys, rfl, h3, h4⟩ := rp_lst rw
  refine ⟨a, b, xs, ys, rfl, rfl, S.sub _ _ h1, S.sub _ _ h3, sz_le (by rw [dqa_len h2, dqa_len h4]; exact hl), fun p hp => ?_⟩
  exact k _ G _ (.o p) _ (Same.refl _) rfl (S.new (m := .lst ((ds ++ es).map .d)) hp ⟨xs ++ ys, rfl, relL_of (dqa_app h2 h4)⟩) (q p (S.mfree hp))
abbrev sp_odd (K : Frg) : Sp := SpA (α := (RA × Face) × Want) K (fun a => [.o a.1.1.2, .d (encW a.2)]) (fun a μ => RowAt a.1.1.1 a.1.1.2 μ ∧ a.2.Ok a.1.2 ∧ lenS a.2) (fun a μ x μ' => (∃ wb : Want, ¬ wb.Ok a.1.2 ∧ lenW wb ∧ x = .d (encW wb)) ∧ RowStep a.1.1.1 a.1.1.2 μ μ')
theorem ok_odd (F : Fun K "_law_odd" "_law_odd" s_law_odd fa fd) (B : Blt mg) (C_law_taken : Cal P w K mg base CX0 1 "_law_taken" ["_law_row", "_law_many"] (sp_taken K)) : FnOk P w K mg base CX0 2 fa fd ["_law_row", "_law_wanted_here"] (sp_odd K) := by
  refine ok_D F sc_law_odd (fun _ => rfl) (fun cdv A outer s H E hr a μ hp => ⟨_, (pss_cons (ps_asg (pv 1) (pkTG K 3 (by rfl) (pgs_cons (pg_name (i := 2) sc_law_odd.nd rfl (Or.inl rfl)) (pgs_cons (pg_name (i := 3) sc_law_odd.nd rfl (Or.inl rfl)) (pgs_cons (pg_name (i := 4) sc_law_odd.nd rfl (Or.inl rfl)) pgs_nil)))))
      (pss_cons (ps_set (i := 5) sc_law_odd.nd rfl (Or.inl rfl) (pe_ix (kix K) (pe_lst (pa_cons pe_int (pa_cons (pe_cal C_law_taken hr (pa_cons (pv 0) (pa_cons (pe_op op_pow pe_int pe_int) pa_nil))) pa_nil))) (pe_cal C_law_taken hr (pa_cons (pv 0) (pa_cons pe_int pa_nil))) (fun _ _ => rfl)))
      (pss_cons (ps_set (i := 6) sc_law_odd.nd rfl (Or.inl rfl) (pe_lst (pa_cons (pe_tup (pa_cons (pe_op (kcat K) (pv 2) (pe_tup (pa_cons pe_int pa_nil))) (pa_cons (pv 3) (pa_cons (pv 4) pa_nil)))) (pa_cons (pe_tup (pa_cons (pv 2) (pa_cons (pe_op (kcat K) (pv 3) (pe_tup (pa_cons (pe_op op_add pe_int (pv 5)) pa_nil))) (pa_cons (pv 4) pa_nil)))) (pa_cons (pe_tup (pa_cons (pv 2) (pa_cons (pe_op (kcat K) (pv 3) (pe_tup (pa_cons (pe_op op_sub (pe_op op_sub pe_int pe_int) (pv 5)) pa_nil))) (pa_cons (pv 4) pa_nil)))) pa_nil)))))
      (pss_cons (ps_set (i := 6) sc_law_odd.nd rfl (Or.inl rfl) (pe_op op_cat (pv 6) (pe_lst (pa_cons (pe_tup (pa_cons (pv 2) (pa_cons (pv 3) (pa_cons (pe_tup (pa_cons (pe_tup (pa_cons pe_int (pa_cons pe_int pa_nil))) (pa_cons (pe_tup (pa_cons pe_int (pa_cons pe_int pa_nil))) pa_nil))) pa_nil)))) (pa_cons (pe_tup (pa_cons (pv 2) (pa_cons (pv 3) (pa_cons (pe_tup (pa_cons (pe_tup (pa_cons pe_int (pa_cons pe_int pa_nil))) (pa_cons (pe_tup (pa_cons pe_int (pa_cons pe_int pa_nil))) pa_nil))) pa_nil)))) (pa_cons (pe_tup (pa_cons (pv 2) (pa_cons (pv 3) (pa_cons (pe_tup (pa_cons (pe_tup (pa_cons (pe_op op_add pe_int (pv 5)) (pa_cons pe_int pa_nil))) pa_nil)) pa_nil)))) pa_nil))))))
      (pss_cons (ps_set (i := 6) sc_law_odd.nd rfl (Or.inl rfl) (pe_op op_cat (pv 6) (pe_lst (pa_cons (pe_tup (pa_cons (pv 2) (pa_cons (pv 3) (pa_cons (pe_tup (pa_cons (pe_tup (pa_cons pe_int (pa_cons (pe_op op_add pe_int (pv 5)) pa_nil))) pa_nil)) pa_nil)))) (pa_cons (pe_tup (pa_cons (pv 2) (pa_cons (pv 3) (pa_cons (pe_tup (pa_cons (pe_tup (pa_cons (pe_op op_sub (pe_op op_sub pe_int pe_int) (pv 5)) (pa_cons pe_int pa_nil))) pa_nil)) pa_nil)))) pa_nil)))))
      (pss_cons (ps_if (pt_cmpR (kne K hr) (pv 2) (pe_tup pa_nil) (nomark _)) (pss_cons (ps_set (i := 6) sc_law_odd.nd rfl (Or.inl rfl) (pe_op op_cat (pv 6) (pe_lst (pa_cons (pe_tup (pa_cons (pe_slice (kslT K) (pv 2) (po_some pe_int) po_none) (pa_cons (pv 3) (pa_cons (pv 4) pa_nil)))) (pa_cons (pe_tup (pa_cons (pe_op (kcat K) (pe_slice (kslT K) (pv 2) (po_some pe_int) po_none) (pe_tup (pa_cons (pe_op op_add pe_int (pv 5)) pa_nil))) (pa_cons (pv 3) (pa_cons (pv 4) pa_nil)))) pa_nil)))))
      (pss_one (ps_expr (pkBm K PySem.F.plainAttrs_list PySem.F.slot_list_append PySem.F.type_list_append mt_append (pv 6) (pa_cons (pe_tup (pa_cons (pe_op (kcat K) (pe_slice (kslT K) (pv 2) (po_some pe_int) po_none) (pe_tup (pa_cons (pe_op op_sub (pe_op op_sub pe_int pe_int) (pv 5)) pa_nil))) (pa_cons (pv 3) (pa_cons (pv 4) pa_nil)))) pa_nil))))) pss_nil)
      (pss_one (ps_ret (pe_ix (kix K) (pv 6) (pe_cal C_law_taken hr (pa_cons (pv 0) (pa_cons (pe_callB (klen K) (by rfl) B.len PySem.boot_len (pa_cons (pv 6) pa_nil)) pa_nil))) (fun _ _ => rfl)))))))))), fun G0 => ?_⟩)
  obtain ⟨⟨⟨ns, row⟩, f⟩, wt⟩ := a
  obtain ⟨hR, hw, l1, l2, l3⟩ := hp
  try dsimp only [cxOf, Cx.nox] at hR hw l1 l2 l3 ⊢
  unfold encW encI encMo
  walk_at "dw"
  refine we_lst ?_
  walk_at "dw"
  refine w2_Ii (by unfold CPow; decide) ?_
  walk_at "dw"
  refine ⟨((ns, row), 1000000), rfl, ⟨hR, by simp, by simp⟩, ?_⟩
  rintro _ μ1 ⟨⟨t, rfl, t0, t1⟩, s1⟩
  walk_at "dw"
  refine ⟨((ns, row), 2), rfl, ⟨s1.at, by simp, by simp⟩, ?_⟩
  rintro _ μ2 ⟨⟨u, rfl, u0, u1⟩, s2⟩
  have u1 : u < 2 := u1
  obtain ⟨far, hfar, hat⟩ : ∃ far : Int, 0 ≤ far ∧ atI [PyData.int 0, PyData.int t] u = some (.int far) := by
    rcases (show u = 0 ∨ u = 1 by omega) with rfl | rfl
    · exact ⟨0, by decide, rfl⟩
    · exact ⟨t, t0, rfl⟩
  refine w2_ixL hat ?_
  have s12 := s1.trans s2
  have hwl : (wt.worths.map PyData.int).length ≤ 20 := by rw [List.length_map]; exact l1
  have hrl : (wt.rest.map PyData.int).length ≤ 20 := by rw [List.length_map]; exact l2
  walk_at "dw"
  refine we_lst ?_
  walk_at "dw"
  refine w2_catT (by simp only [List.length_cons, List.length_nil]; omega) ?_
  walk_at "dw"
  refine w2_catT (by simp only [List.length_cons, List.length_nil]; omega) ?_
  walk_at "dw"
  refine w2_catT (by simp only [List.length_cons, List.length_nil]; omega) ?_
  walk_at "dw"
  refine we_lst ?_
  walk_at "dw"
  refine w2_cat (by simp) ?_
  walk_at "dw"
  refine we_lst ?_
  walk_at "dw"
  refine w2_cat (by simp) ?_
  have b8 : ∀ x ∈ odd8 wt far, ¬ x.Ok f ∧ lenW x := fun x hx => ⟨odd8_bad hw hfar x hx, odd_len l1 l2 l3 x (List.mem_append_left _ hx)⟩
  show Ws K G0 _ _ _ _
  refine ws_cut (fun ρ' μ' => RowAt ns row μ' ∧ OffRow row μ μ' ∧ ∃ (ws : List Want) (z : PV), ws ≠ [] ∧ ws.length ≤ 20 ∧ (∀ x ∈ ws, ¬ x.Ok f ∧ lenW x) ∧ (z = .l (ws.map encW) ∨ ∃ p, z = .o p ∧ p ≠ row ∧ μ' p = some (.lst ((ws.map encW).map .d))) ∧ ρ' = [some (.o row), some (.t [.tuple (wt.worths.map .int), .tuple (wt.rest.map .int), .tuple (moD wt.more)]), some (.t (wt.worths.map .int)), some (.t (wt.rest.map .int)), some (.t (moD wt.more)), some (.i far), some z]) ?_ ?_
  · walk_at "dw"
    refine w2_neD (shaped_of 1 (shp_intT _)) rfl ?_
    rw [eqv_tup_nil]
    walk_at "dw"
    refine ⟨fun h => ?_, fun h => ?_⟩
    · have hn : wt.worths ≠ [] := fun e => by rw [e] at h; cases h
      have hcut : Dw.cutD (wt.worths.map PyData.int) (some 1) none = (wt.worths.map PyData.int).drop 1 := cut_drop _ 1 (by rw [List.length_map]; exact List.length_pos_iff.mpr hn)
      have hdl : ((wt.worths.map PyData.int).drop 1).length ≤ 20 := by rw [List.length_drop]; omega
      walk_at "dw"
      refine we_lst ?_
      walk_at "dw"
      rw [hcut]
      refine w2_catT (by simp only [List.length_cons, List.length_nil]; omega) ?_
      walk_at "dw"
      refine w2_catLM (by simp) fun p hp => ?_
      have hpr : p ≠ row := s12.at.ne hp
      walk_at "dw"
      refine ⟨tyd_o mset_same, ?_⟩
      walk_at "dw"
      rw [hcut]
      refine w2_catT (by simp only [List.length_cons, List.length_nil]; omega) ?_
      walk_at "dw"
      refine wm_append mset_same (by simp) ?_
      have hp0 : μ p = none := off_none s12.off hpr hp
      refine ⟨(s12.at.off hpr).off hpr, (s12.off.new hp0).new hp0, odd8 wt far ++ odd3 wt far, .o p, by unfold odd8; simp, by unfold odd8 odd3; simp, fun x hx => ?_, .inr ⟨p, rfl, hpr, ?_⟩, rfl⟩
      · rcases List.mem_append.mp hx with hx | hx
        · exact b8 x hx
        · exact ⟨odd3_bad hw hfar hn x hx, odd_len l1 l2 l3 x (List.mem_append_right _ hx)⟩
      · have e : ((odd8 wt far ++ odd3 wt far).map encW) = oddE8 wt far ++ oddE3 wt far := by rw [List.map_append, oddE8_eq, oddE3_eq]
        rw [mset_same, e]
        rfl
    · walk_at "dw"
      refine ⟨s12.at, s12.off, odd8 wt far, .l (oddE8 wt far), by unfold odd8; simp, by unfold odd8; simp, b8, .inl (by rw [oddE8_eq]), rfl⟩
  rintro ρ' μ3 ⟨hR3, hO3, ws, z, hne, hwl20, hbad, hz, rfl⟩
  have hpos := List.length_pos_iff.mpr hne
  have fin : ∀ (μ4 : Mu) (i : Int), RowStep ns row μ3 μ4 → 0 ≤ i → i < (ws.length : Int) → ∃ wb, (ws.map encW)[i.toNat]? = some (encW wb) ∧ ∃ μ'', Sub μ'' μ4 ∧ (∃ wb' : Want, ¬ wb'.Ok f ∧ lenW wb' ∧ PV.d (encW wb) = .d (encW wb')) ∧ RowStep ns row μ μ'' := by
    intro μ4 i s4 i0 i1
    have hi : i.toNat < ws.length := by omega
    obtain ⟨μ'', h1, h2⟩ := row_end s4.at (hO3.trans s4.off)
    exact ⟨ws[i.toNat], by rw [List.getElem?_map, List.getElem?_eq_getElem hi]; rfl, μ'', h1, ⟨ws[i.toNat], (hbad _ (List.getElem_mem hi)).1, (hbad _ (List.getElem_mem hi)).2, rfl⟩, h2⟩
  rcases hz with rfl | ⟨p, rfl, hpr, hp⟩
  · walk_at "dw"
    rw [List.length_map]
    refine ⟨((ns, row), (ws.length : Int)), rfl, ⟨hR3, by show 0 < (ws.length : Int); omega, by show (ws.length : Int) ≤ 1000000; omega⟩, ?_⟩
    rintro _ μ4 ⟨⟨i, rfl, i0, i1⟩, s4⟩
    have i1 : i < (ws.length : Int) := i1
    obtain ⟨wb, hat, hfin⟩ := fin μ4 i s4 i0 i1
    obtain ⟨n, rfl⟩ := Int.eq_ofNat_of_zero_le i0
    refine w2_ixL (ati_n hat) ?_
    exact hfin
  · walk_at "dw"
    refine wc_lenO hp ?_
    rw [List.length_map, List.length_map]
    walk_at "dw"
    refine ⟨((ns, row), (ws.length : Int)), rfl, ⟨hR3, by show 0 < (ws.length : Int); omega, by show (ws.length : Int) ≤ 1000000; omega⟩, ?_⟩
    rintro _ μ4 ⟨⟨i, rfl, i0, i1⟩, s4⟩
    have i1 : i < (ws.length : Int) := i1
    obtain ⟨wb, hat, hfin⟩ := fin μ4 i s4 i0 i1
    obtain ⟨n, rfl⟩ := Int.eq_ofNat_of_zero_le i0
    refine w2_ixO (s4.off _ _ hpr hp) (ati_n (d := PV.d (encW wb)) (by have hat : (ws.map encW)[n]? = some (encW wb) := hat; rw [List.getElem?_map, hat]; rfl)) ?_
    exact hfin
end
end Sc

namespace Sc
open PySem L2 PyProof.Rows Dw
local macro_rules | `(tactic| walk_at "dw1") => `(tactic| first
  | (with_reducible refine ws_seq ?_) | (with_reducible refine ws_ret ?_) | (with_reducible refine ws_set ?_) | (with_reducible refine ws_drop ?_) | (with_reducible refine ws_if ?_) | (with_reducible refine ws_next ?_)
  | ((with_reducible show We _ _ (tVar _) _ _ _); refine we_var rfl ?_) | (with_reducible refine we_int ?_) | (with_reducible refine we_bl ?_) | (with_reducible refine we_str ?_) | (with_reducible refine we_non ?_) | (with_reducible refine we_ty ?_)
  | (with_reducible refine we_op ?_) | (with_reducible refine we_isiT ?_) | (with_reducible refine we_cb ?_) | (with_reducible refine wa_cons ?_) | (with_reducible refine wa_nil ?_)
  | (with_reducible refine we_and ?_) | (with_reducible refine we_or ?_) | (with_reducible refine we_not ?_) | (with_reducible refine we_if ?_) | (with_reducible refine we_chain ?_)
  | (with_reducible refine we_fld ?_) | (with_reducible refine we_bm ?_) | (with_reducible refine we_bm0 ?_) | (with_reducible refine we_sl ?_) | (with_reducible refine wo_none ?_) | (with_reducible refine wo_some ?_)
  | (with_reducible refine wt_test ?_) | (with_reducible refine wt_B ?_) | (with_reducible refine wt_and ?_) | (with_reducible refine wt_or ?_) | (with_reducible refine wt_not ?_) | (with_reducible refine wt_yes ?_)
  | (with_reducible refine w2_I0i ?_) | (with_reducible refine w2_I0b ?_) | (with_reducible refine w2_isN ?_) | (with_reducible refine w2_notN ?_)
  | (with_reducible refine we_callL ?_) | (with_reducible refine we_call ?_) | (with_reducible refine we_tup ?_)
  | (with_reducible refine wc_lenT ?_) | (with_reducible refine wc_lenL ?_) | (with_reducible refine wc_lenS ?_) | (with_reducible refine wc_intB ?_) | (with_reducible refine wc_min2 ?_)
  | ((with_reducible show Wg _ _ (gTup _ _ _) _ _ _ _); first | refine wg_tup2 ?_ | refine wg_tup3 ?_ | refine wg_tup4 ?_) | (with_reducible refine we_un ?_) | (with_reducible refine ws_asg ?_) | (with_reducible refine wg_name ?_) | (with_reducible refine wgs_cons ?_) | (with_reducible refine wgs_nil ?_)
  | (with_reducible refine wsl_T ?_) | (with_reducible refine wsl_L ?_)
  | (with_reducible refine wc_tupL ?_) | (with_reducible refine wc_listT ?_)
  | (with_reducible refine wc_isi (kit_int _) ?_) | (with_reducible refine wc_isi (kit_bool _) ?_) | (with_reducible refine wc_isi (kit_tuple _) ?_) | (with_reducible refine wc_isi (kit_list _) ?_) | (with_reducible refine wc_isi (kit_str _) ?_)
  | (with_reducible refine ex_b ?_) | (with_reducible refine ex_i ?_) | (with_reducible refine ex_t ?_) | (with_reducible refine ex_l ?_)
  | ((with_reducible show ∃ _, unD _ = some _ ∧ _); refine ⟨_, rfl, by simp, ?_⟩))
local macro_rules | `(tactic| walk_at "dw") => `(tactic| repeat' walk_at "dw1")

theorem RowStep.tab {T : List (Addr × Str)} {ns : List Int} {row : Addr} {μ μ' : Mu} (h : RowStep ns row μ μ') (ha : RowAt ns row μ) (hT : TabM T μ) : TabM T μ' := by
  obtain ⟨c, m, g, _, rfl⟩ := h
  obtain ⟨c', m', g', _, e⟩ := ha
  exact hT.set e (fun u z => by cases z) fun u z => by cases z
theorem RowAt.offT {T : List (Addr × Str)} {ns : List Int} {row : Addr} {μ μ' : Mu} (h : RowAt ns row μ) (hT : TabM T μ) (ho : OffT T μ μ') : RowAt ns row μ' := by
  obtain ⟨c, m, g, h0, e⟩ := h
  exact ⟨c, m, g, h0, ho row _ (hT.notT e fun u z => by cases z) e⟩
section
open LamX
variable {P : Program} {w : World} {K : Frg} {mg : Str → Option Value} {base : Heap} {fa : Addr} {fd : FuncData} {TT : List (Addr × Str)}
theorem we_word {G0 : Hp} {ρ : Rho} {μ : Mu} {Q : PV → Mu → Prop} {CW CN : Addr} {α : Type} {inp : α → List PV} {pre : α → Mu → Prop} {post : α → Mu → PV → Mu → Prop} {exn : α → Mu → Addr → Mu → Prop} {ta : TA} (hT : TabM TT μ)
    (h : ∀ μ1, TabM TT μ1 → OffT TT μ μ1 → Wa K G0 ta ρ μ1 fun xs μ2 => ∃ a, xs = inp a ∧ pre a μ2 ∧ (∀ x μ3, post a μ2 x μ3 → Q .n μ3) ∧ ∀ C μ3, exn a μ2 C μ3 → (C = CW ∨ C = CN) ∧ Q (.s (wordD CW C)) μ3) :
    We K G0 (tLam TT (TTw K CW CN) fun E => tCall (SpX K inp pre post exn) [] E ta) ρ μ Q := fun σ G H e rs S R k => ⟨tabs_of S hT, fun H1 eN t1 => by
  obtain ⟨μ1, S1, hT1, hO1⟩ := sep_grow S hT eN t1
  show tCall (SpX K inp pre post exn) [] (eWord K CW CN R) ta σ H1 fun _ H' => R .non H'
  exact (h μ1 hT1 hO1) σ G H1 e rs S1 _ fun vs G1 H2 xs μ2 e1 rl S2 ⟨a, hx, hp, hq, hn⟩ => by
    subst hx
    rw [List.append_nil]
    exact ⟨G1, μ2, a, rl, S2, hp, fun v G' H' x μ' e' r S' ps => k .non G' H' .n μ' (e1.trans e') mk_non S' (hq x μ' ps), fun C G' H' μ' e' S' xn => ⟨C, G', μ', rfl, rfl, (hn C μ' xn).1, S', fun G'' H'' e'' S'' => k _ G'' H'' (.s (wordD CW C)) μ' ((e1.trans e').trans e'') (mk_str _) S'' (hn C μ' xn).2⟩⟩⟩
theorem small_least {f : Face} {wt : Want} (hf : f.Ok) : Small 3 (leastD f wt) := by
  have h6 := hf.len
  refine small_tup (by simp) fun y hy => ?_
  rcases List.mem_cons.mp hy with rfl | hy
  · exact small_int
  rcases List.mem_cons.mp hy with rfl | hy
  · exact small_int
  rw [List.mem_singleton.mp hy]
  refine small_tup (by rw [List.length_map, (srt_perm _).length_eq, List.length_map]; have := oth_len f wt; omega) fun z hz => ?_
  obtain ⟨n, _, rfl⟩ := List.mem_map.mp hz
  exact small_int
/-! ### law -/
abbrev s_law : Stmt := topS 45
abbrev N_law : List Str := ["_law_script", "_law_row", "_law_turn", "_law_face_here", "_law_wanted_here", "_law_word_here", "_law_due", "_law_bad"]
theorem sc_law : FnScope N_law ["_law_script"] (defScope s_law) := ⟨rfl, rfl, rfl, by decide +kernel, rfl, by decide +kernel, by decide +kernel⟩

abbrev sp_law (TT : List (Addr × Str)) (K : Frg) : Sp := SpA (α := List Int) K (fun ns => [.sq ns]) (fun _ μ => TabM TT μ) (fun _ _ x _ => x = .b true)
theorem ok_law {cN pN fw CF CC CW CN CS : Addr} {oc dV kV doc pm cdv ct : Value} {an od : Option Addr} {osl : Array (Option Value)} (F : Fun K "law" "law" s_law fa fd) (hcd : fd.code = .ref cN) (B : Blt mg) (TB : LamX.TabB base mg cN pN) (hmT : (pN, ("law" : Str) ++ ".<locals>." ++ "<lambda>") ∈ TT) (hu : ∀ p ∈ TT, p.1 = pN → p.2 = ("law" : Str) ++ ".<locals>." ++ "<lambda>")
    (gw : mg "_law_word" = some (.ref fw)) (kw : PySem.W.keepIn K (.ref fw) = true) (lw : K.lookup fw = some ⟨oc, od, .func (PySem.W.fnOf "_law_word" "_law_word" (defArgs s_law_word) (defBody s_law_word) (defScope s_law_word) dV kV doc pm an cdv ct), osl⟩) (cw : PySem.W.codeIn K cdv "_law_word" = true)
    (bw : L2.Binds K (PySem.W.fnOf "_law_word" "_law_word" (defArgs s_law_word) (defBody s_law_word) (defScope s_law_word) dV kV doc pm an cdv ct) ["_law_work"] [])
    (gS : mg "SlotError" = some (.ref CS)) (gW : mg "BadWanted" = some (.ref CW)) (gN : mg "NoCall" = some (.ref CN)) (gF : mg "BadFace" = some (.ref CF)) (gC : mg "BadCall" = some (.ref CC)) (gV : mg "ValueError" = none)
    (mW : PySem.W.exmOne K (.ref CW) (.ref CS) = some true) (mN : PySem.W.exmOne K (.ref CN) (.ref CS) = some true) (hne : CN ≠ CW) (kW : Kinds K CW CN CF CC CW true false) (kN : Kinds K CW CN CF CC CN false true)
    (C_law_face : Cal P w K mg base CX0 4 "_law_face" ["_law_row"] (sp_face K)) (C_law_wanted : Cal P w K mg base CX0 4 "_law_wanted" ["_law_row", "_law_face_here"] (sp_lwanted K)) (C_law_least : Cal P w K mg base CX0 3 "_law_least" ["_law_face_here", "_law_wanted_here"] (sp_lleast K))
    (C_law_odd : Cal P w K mg base CX0 2 "_law_odd" ["_law_row", "_law_wanted_here"] (sp_odd K)) (C_law_alike : Cal P w K mg base CX0 4 "_law_alike" ["_law_found", "_law_due"] (sp_alikeS 3 K))
    (C_least : Cal P w K mg base (L2.CX P w) 7 "least" ["face", "wanted"] (sp_least K CF CW CN)) (C_fewest : Cal P w K mg base (L2.CX P w) 7 "fewest" ["face", "wanted"] (sp_fewest K CF CW CN)) : FnOk P w K mg base CX0 11 fa fd ["_law_script"] (sp_law TT K) := by
  refine ok_DC F hcd sc_law (fun _ => rfl) (fun A outer s H E hr ns μ hp => ⟨_, (pss_cons (ps_set (i := 1) sc_law.nd rfl (Or.inl rfl) (pe_lst (pa_cons (pv 0) (pa_cons pe_int (pa_cons pe_int (pa_cons pe_int pa_nil))))))
      (pss_cons (ps_for PassesOwn.never rfl (pi_range1 rfl B.range (pa_cons pe_int pa_nil)) (pg_name (i := 2) sc_law.nd rfl (Or.inl rfl)) (pss_cons (ps_set (i := 3) sc_law.nd rfl (Or.inr rfl) (pe_cal C_law_face hr (pa_cons (pv 1) pa_nil)))
      (pss_cons (ps_set (i := 4) sc_law.nd rfl (Or.inr rfl) (pe_cal C_law_wanted hr (pa_cons (pv 1) (pa_cons (pv 3) pa_nil))))
      (pss_cons (ps_set (i := 5) sc_law.nd rfl (Or.inl rfl) (pe_lamcall (T := TT) (TT := TTw K CW CN) (Ng := N_law_word) (a := "_law_work") (k := 8) rfl gw kw lw cw bw sc_law_word rfl (by first | exact Or.inl rfl | exact Or.inr (Or.inl rfl)) (word_gives hr B gS gW gN gF gC gV mW mN hne kW kN) TB rfl hmT hu hr (lamS_by (sc := defScope s_law) (by decide +kernel)) rfl (fun _ _ _ _ _ => rfl) (fun A outer s H E f c' hr2 => by exact (pe_calX C_fewest hr2 (takes_of rfl rfl rfl rfl) (pa_cons (pv 3) (pa_cons (pv 4) pa_nil))))))
      (pss_cons (ps_if (PW.pt (pw_or (pt_cmpR (kne K hr) (pe_lamcall (T := TT) (TT := TTw K CW CN) (Ng := N_law_word) (a := "_law_work") (k := 8) rfl gw kw lw cw bw sc_law_word rfl (by first | exact Or.inl rfl | exact Or.inr (Or.inl rfl)) (word_gives hr B gS gW gN gF gC gV mW mN hne kW kN) TB rfl hmT hu hr (lamS_by (sc := defScope s_law) (by decide +kernel)) rfl (fun _ _ _ _ _ => rfl) (fun A outer s H E f c' hr2 => by exact (pe_calX C_least hr2 (takes_of rfl rfl rfl rfl) (pa_cons (pv 3) (pa_cons (pv 4) pa_nil))))) (pv 5) (nomark _)) (pw_or1 (pt_cmpR (knin K) (pv 5) (pe_tup (pa_cons pe_non (pa_cons pe_str pa_nil))) (by rfl))))) (pss_one (ps_ret pe_bl)) pss_nil)
      (pss_cons (ps_set (i := 6) sc_law.nd rfl (Or.inl rfl) (pe_cal C_law_least hr (pa_cons (pv 3) (pa_cons (pv 4) pa_nil))))
      (pss_cons (ps_if (PW.pt (pw_and (pt_cmpR op_isN (pv 5) pe_non (nomark _)) (pw_and1 (pt_not (pt_val (pe_cal C_law_alike hr (pa_cons (pe_calL C_least hr (pa_cons (pv 3) (pa_cons (pv 4) pa_nil))) (pa_cons (pv 6) pa_nil)))))))) (pss_one (ps_ret pe_bl)) pss_nil)
      (pss_cons (ps_set (i := 7) sc_law.nd rfl (Or.inr rfl) (pe_cal C_law_odd hr (pa_cons (pv 1) (pa_cons (pv 4) pa_nil))))
      (pss_cons (ps_if (pt_cmpR (kne K hr) (pe_lamcall (T := TT) (TT := TTw K CW CN) (Ng := N_law_word) (a := "_law_work") (k := 8) rfl gw kw lw cw bw sc_law_word rfl (by first | exact Or.inl rfl | exact Or.inr (Or.inl rfl)) (word_gives hr B gS gW gN gF gC gV mW mN hne kW kN) TB rfl hmT hu hr (lamS_by (sc := defScope s_law) (by decide +kernel)) rfl (fun _ _ _ _ _ => rfl) (fun A outer s H E f c' hr2 => by exact (pe_calX C_fewest hr2 (takes_of rfl rfl rfl rfl) (pa_cons (pv 3) (pa_cons (pv 7) pa_nil))))) pe_str (nomark _)) (pss_one (ps_ret pe_bl)) pss_nil)
      (pss_one (ps_if (pt_cmpR (kne K hr) (pe_lamcall (T := TT) (TT := TTw K CW CN) (Ng := N_law_word) (a := "_law_work") (k := 8) rfl gw kw lw cw bw sc_law_word rfl (by first | exact Or.inl rfl | exact Or.inr (Or.inl rfl)) (word_gives hr B gS gW gN gF gC gV mW mN hne kW kN) TB rfl hmT hu hr (lamS_by (sc := defScope s_law) (by decide +kernel)) rfl (fun _ _ _ _ _ => rfl) (fun A outer s H E f c' hr2 => by exact (pe_calX C_least hr2 (takes_of rfl rfl rfl rfl) (pa_cons (pv 3) (pa_cons (pv 7) pa_nil))))) pe_str (nomark _)) (pss_one (ps_ret pe_bl)) pss_nil)))))))))))
      (pss_one (ps_ret pe_bl)))), fun G0 => ?_⟩)
  have hT0 : TabM TT μ := hp
  try dsimp only [cxOf, Cx.nox]
  have wN : wordD CW CN = kNoneS := if_neg hne
  have wW : wordD CW CW = kWanted := if_pos rfl
  walk_at "dw"
  refine we_lstM ?_
  walk_at "dw"
  refine ⟨by simp, fun row h0 => ?_⟩
  have hR0 : RowAt ns row (mset μ row (rowMO ns 0 0 0)) := ⟨0, 0, 0, Int.le_refl _, mset_same⟩
  have hT1 : TabM TT (mset μ row (rowMO ns 0 0 0)) := hT0.new h0 fun ps z => by cases z
  show Ws K G0 _ _ (mset μ row (rowMO ns 0 0 0)) _
  generalize mset μ row (rowMO ns 0 0 0) = μ1 at hR0 hT1 ⊢
  walk_at "dw"
  refine ws_for (wi_rng ?_)
  walk_at "dw"
  refine ⟨_, rfl, by decide, by decide, ?_⟩
  refine ⟨fun i ρ μ' => (RowAt ns row μ' ∧ TabM TT μ') ∧ ∃ v2 v3 v4 v5 v6 v7, ρ = [some (.sq ns), some (.o row), v2, v3, v4, v5, v6, v7], ⟨⟨hR0, hT1⟩, _, _, _, _, _, _, rfl⟩, fun _ _ _ _ _ => trivial, ?_, ?_⟩
  · rintro i x ρ μ2 hx ⟨⟨hR, hT⟩, v2, v3, v4, v5, v6, v7, rfl⟩
    walk_at "dw"
    refine ⟨(ns, row), rfl, hR, ?_⟩
    rintro _ μ3 ⟨⟨f, hf, rfl⟩, s3⟩
    walk_at "dw"
    refine ⟨((ns, row), f), rfl, ⟨s3.at, hf⟩, ?_⟩
    rintro _ μ4 ⟨⟨wt, hw, ⟨hlw, hls⟩, rfl⟩, s4⟩
    have hw : wt.Ok f := hw
    have hR4 : RowAt ns row μ4 := s4.at
    have hT4 : TabM TT μ4 := s4.tab s3.at (s3.tab hR hT)
    show Ws K G0 _ _ _ _
    refine ws_cut (fun ρ' μ' => (RowAt ns row μ' ∧ TabM TT μ') ∧ ∃ (wd : PyData) (v6 v7 : Option PV), ((Can f wt ∧ wd = .none) ∨ (¬ Can f wt ∧ wd = .str kNoneS)) ∧ ρ' = [some (.sq ns), some (.o row), some x, some (.d (encF f)), some (.d (encW wt)), some (.d wd), v6, v7]) ?_ ?_
    · refine ws_set (we_word hT4 fun μ5 hT5 hO5 => ?_)
      have hR5 : RowAt ns row μ5 := hR4.offT hT4 hO5
      walk_at "dw"
      refine ⟨(faceX f, wt), rfl, ⟨facePre hf, hlw⟩, ?_, ?_⟩
      · rintro y μ6 ⟨f', hf', e, hw', hC, aR, hA0, rfl, rfl⟩
        cases face_inj e
        exact ⟨⟨hR5.off (hR5.ne hA0), hT5.new hA0 (fun ps z => by cases z)⟩, .none, _, _, .inl ⟨hC, rfl⟩, rfl⟩
      · rintro C μ6 ⟨rfl, ⟨_, h⟩ | ⟨f', hf', e, ⟨rfl, h⟩ | ⟨rfl, _, h⟩⟩⟩
        · rw [face_ok hf] at h; cases h
        · cases face_inj e
          exact absurd hw h
        · cases face_inj e
          refine ⟨.inr rfl, ?_⟩
          rw [wN]
          exact ⟨⟨hR5, hT5⟩, _, _, _, .inr ⟨h, rfl⟩, rfl⟩
    clear v2 v3 v4 v5 v6 v7
    rintro ρ' μ5 ⟨⟨hR5, hT5⟩, wd, v6, v7, hwd, rfl⟩
    refine ws_cut (fun ρ' μ' => (RowAt ns row μ' ∧ TabM TT μ') ∧ ∃ (wd : PyData) (v6 v7 : Option PV), ((Can f wt ∧ wd = .none) ∨ (¬ Can f wt ∧ wd = .str kNoneS)) ∧ ρ' = [some (.sq ns), some (.o row), some x, some (.d (encF f)), some (.d (encW wt)), some (.d wd), v6, v7]) ?_ ?_
    · refine ws_if (wt_or ?_)
      refine wt_test (we_op (we_word hT5 fun μ6 hT6 hO6 => ?_))
      have hR6 : RowAt ns row μ6 := hR5.offT hT5 hO6
      walk_at "dw"
      refine ⟨(faceX f, wt), rfl, ⟨facePre hf, hlw⟩, ?_, ?_⟩
      · rintro y μ7 ⟨f', hf', e, hw', hC, rfl, rfl⟩
        cases face_inj e
        obtain rfl : wd = .none := by
          rcases hwd with ⟨_, h⟩ | ⟨h, _⟩
          · exact h
          · exact absurd hC h
        walk_at "dw"
        refine w2_neD rfl rfl ?_
        walk_at "dw"
        refine ⟨fun h => (nomatch h), fun _ => ?_⟩
        walk_at "dw"
        refine w2_inT rfl rfl ?_
        walk_at "dw"
        refine ⟨fun h => (nomatch h), fun _ => ?_⟩
        walk_at "dw"
        exact ⟨⟨hR6, hT6⟩, .none, _, _, .inl ⟨hC, rfl⟩, rfl⟩
      · rintro C μ6 ⟨rfl, ⟨_, h⟩ | ⟨f', hf', e, ⟨rfl, h⟩ | ⟨rfl, _, h⟩⟩⟩
        · rw [face_ok hf] at h; cases h
        · cases face_inj e
          exact absurd hw h
        · cases face_inj e
          refine ⟨.inr rfl, ?_⟩
          obtain rfl : wd = .str kNoneS := by
            rcases hwd with ⟨h', _⟩ | ⟨_, h'⟩
            · exact absurd h' h
            · exact h'
          rw [wN]
          walk_at "dw"
          refine w2_neD (by decide +kernel) (by decide +kernel) ?_
          rw [show PyData.eqv (.str kNoneS) (.str kNoneS) = true by decide +kernel]
          walk_at "dw"
          refine ⟨fun h => (nomatch h), fun _ => ?_⟩
          walk_at "dw"
          refine w2_inT rfl rfl ?_
          rw [show (if true = true then !([PyData.none, PyData.str "none"].any fun y => PyData.eqv y (.str kNoneS)) else [PyData.none, PyData.str "none"].any fun y => PyData.eqv y (.str kNoneS)) = false by decide +kernel]
          walk_at "dw"
          refine ⟨fun h => (nomatch h), fun _ => ?_⟩
          walk_at "dw"
          exact ⟨⟨hR6, hT6⟩, _, _, _, .inr ⟨h, rfl⟩, rfl⟩
    clear hwd v6 v7 wd
    rintro ρ' μ6 ⟨⟨hR6, hT6⟩, wd, v6, v7, hwd, rfl⟩
    walk_at "dw"
    refine ⟨(f, wt), rfl, ⟨hf, hw⟩, ?_⟩
    rintro _ _ ⟨rfl, rfl⟩
    refine ws_cut (fun ρ' μ' => (RowAt ns row μ' ∧ TabM TT μ') ∧ ∃ (wd : PyData) (v6 v7 : Option PV), ((Can f wt ∧ wd = .none) ∨ (¬ Can f wt ∧ wd = .str kNoneS)) ∧ ρ' = [some (.sq ns), some (.o row), some x, some (.d (encF f)), some (.d (encW wt)), some (.d wd), v6, v7]) ?_ ?_
    · rcases hwd with ⟨hC, rfl⟩ | ⟨hC, rfl⟩
      · walk_at "dw"
        refine ⟨fun _ => ?_, fun h => (nomatch h)⟩
        walk_at "dw"
        refine ⟨(faceX f, wt), rfl, ⟨facePre hf, hlw⟩, ?_, ?_⟩
        · rintro y μ7 ⟨f', hf', e, hw', _, rfl, rfl⟩
          cases face_inj e
          walk_at "dw"
          refine ⟨leastD f wt, rfl, small_least hf, ?_⟩
          rintro _ _ ⟨rfl, rfl⟩
          walk_at "dw"
          refine ⟨fun h => (nomatch h), fun _ => ?_⟩
          walk_at "dw"
          exact ⟨⟨hR6, hT6⟩, .none, _, _, .inl ⟨hC, rfl⟩, rfl⟩
        · rintro C μ6 ⟨rfl, ⟨_, h⟩ | ⟨f', hf', e, ⟨rfl, h⟩ | ⟨rfl, _, h⟩⟩⟩
          · rw [face_ok hf] at h; cases h
          · cases face_inj e
            exact absurd hw h
          · cases face_inj e
            exact absurd hC h
      · walk_at "dw"
        refine ⟨fun h => (nomatch h), fun _ => ?_⟩
        walk_at "dw"
        refine ⟨fun h => (nomatch h), fun _ => ?_⟩
        walk_at "dw"
        exact ⟨⟨hR6, hT6⟩, _, _, _, .inr ⟨hC, rfl⟩, rfl⟩
    clear hwd v6 v7 wd
    rintro ρ' μ7 ⟨⟨hR7, hT7⟩, wd, v6, v7, hwd, rfl⟩
    walk_at "dw"
    refine ⟨(((ns, row), f), wt), rfl, ⟨hR7, hw, hls⟩, ?_⟩
    rintro _ μ8 ⟨⟨wb, hb, hbl, rfl⟩, s8⟩
    have hb : ¬ wb.Ok f := hb
    have hR8 : RowAt ns row μ8 := s8.at
    have hT8 : TabM TT μ8 := s8.tab hR7 hT7
    show Ws K G0 _ _ _ _
    refine ws_cut (fun ρ' μ' => (RowAt ns row μ' ∧ TabM TT μ') ∧ ρ' = [some (.sq ns), some (.o row), some x, some (.d (encF f)), some (.d (encW wt)), some (.d wd), v6, some (.d (encW wb))]) ?_ ?_
    · refine ws_if (wt_test (we_op (we_word hT8 fun μ9 hT9 hO9 => ?_)))
      have hR9 : RowAt ns row μ9 := hR8.offT hT8 hO9
      walk_at "dw"
      refine ⟨(faceX f, wb), rfl, ⟨facePre hf, hbl⟩, ?_, ?_⟩
      · rintro y μ6 ⟨f', hf', e, hw', _⟩
        cases face_inj e
        exact absurd hw' hb
      · rintro C μ6 ⟨rfl, ⟨_, h⟩ | ⟨f', hf', e, ⟨rfl, h⟩ | ⟨rfl, hw', h⟩⟩⟩
        · rw [face_ok hf] at h; cases h
        · refine ⟨.inl rfl, ?_⟩
          rw [wW]
          walk_at "dw"
          refine w2_neD (by decide +kernel) (by decide +kernel) ?_
          rw [show PyData.eqv (.str kWanted) (.str "wanted") = true by decide +kernel]
          walk_at "dw"
          refine ⟨fun h => (nomatch h), fun _ => ?_⟩
          walk_at "dw"
          exact ⟨⟨hR9, hT9⟩, rfl⟩
        · cases face_inj e
          exact absurd hw' hb
    rintro ρ' μ9 ⟨⟨hR9, hT9⟩, rfl⟩
    refine ws_if (wt_test (we_op (we_word hT9 fun μ10 hT10 hO10 => ?_)))
    have hR10 : RowAt ns row μ10 := hR9.offT hT9 hO10
    walk_at "dw"
    refine ⟨(faceX f, wb), rfl, ⟨facePre hf, hbl⟩, ?_, ?_⟩
    · rintro y μ6 ⟨f', hf', e, hw', _⟩
      cases face_inj e
      exact absurd hw' hb
    · rintro C μ6 ⟨rfl, ⟨_, h⟩ | ⟨f', hf', e, ⟨rfl, h⟩ | ⟨rfl, hw', h⟩⟩⟩
      · rw [face_ok hf] at h; cases h
      · refine ⟨.inl rfl, ?_⟩
        rw [wW]
        walk_at "dw"
        refine w2_neD (by decide +kernel) (by decide +kernel) ?_
        rw [show PyData.eqv (.str kWanted) (.str "wanted") = true by decide +kernel]
        walk_at "dw"
        refine ⟨fun h => (nomatch h), fun _ => ?_⟩
        walk_at "dw"
        exact ⟨⟨hR10, hT10⟩, _, _, _, _, _, _, rfl⟩
      · cases face_inj e
        exact absurd hw' hb
  · rintro ρ μ6 ⟨⟨hR6, hT6⟩, v2, v3, v4, v5, v6, v7, rfl⟩
    walk_at "dw"
    exact ⟨_, Sub.refl _, rfl⟩
end
end Sc

namespace Sc
open PySem L2 PyProof.Rows Dw
/-! ## the end -/
def ktObj (o : Obj) : Bool := match o with
  | ⟨.type "tuple", none, .seq its _, _⟩ => decide (its.size ≤ 3) && (its.toList.map absV == sorts3.map fun x => some (V.str x))
  | _ => false
theorem rel_abs {x : V} {u : Value} (h : absV u = some x) : RelV x u := by
  cases u <;> first | (cases h; rfl) | (cases h; exact ⟨_, rfl⟩) | cases h
theorem vals_abs : ∀ {xs : List V} {us : List Value}, us.map absV = xs.map some → Vals xs us
  | [], [], _ => .nil
  | [], _ :: _, h => by cases h
  | _ :: _, [], h => by cases h
  | x :: xs, u :: us, h => by
    rw [List.map_cons, List.map_cons, List.cons.injEq] at h
    exact .cons (rel_abs h.1) (vals_abs h.2)
theorem kit_cls {K : Frg} {D C : Addr} {b : Bool} (hd : PySem.W.hasDictIn K C = true) (ht : PySem.W.typeIn K (.ref C) = some (.type "type")) (h : PySem.W.subIn K (.ref D) (.ref C) = some b) : PySem.W.kitCls K (.ref D) (.ref C) = some b := by
  obtain ⟨cd, hc, _⟩ := PySem.W.any_some hd
  have e2 : ((PySem.W.clsIn K C).isSome && PySem.W.typeIn K (.ref C) == some (.type "type")) = true := by rw [hc, ht] <;> rfl
  show (if ((PySem.W.clsIn K C).isSome && PySem.W.typeIn K (.ref C) == some (.type "type")) = true then PySem.W.subIn K (.ref D) (.ref C) else none) = some b
  rw [if_pos e2]
  exact h
theorem kit_true {K : Frg} {D C : Addr} (hd : PySem.W.hasDictIn K C = true) (ht : PySem.W.typeIn K (.ref C) = some (.type "type")) (h : PySem.W.subIn K (.ref D) (.ref C) = some true) : PySem.W.kitOne K (.ref D) (.ref C) = some true := by
  unfold PySem.W.kitOne
  split
  · rfl
  · exact kit_cls hd ht h
theorem kit_false {K : Frg} {D C : Addr} (hn : D ≠ C) (hd : PySem.W.hasDictIn K C = true) (ht : PySem.W.typeIn K (.ref C) = some (.type "type")) (h : PySem.W.subIn K (.ref D) (.ref C) = some false) : PySem.W.kitOne K (.ref D) (.ref C) = some false := by
  unfold PySem.W.kitOne
  rw [if_neg]
  · exact kit_cls hd ht h
  · intro e
    exact hn (Value.ref.inj (eq_of_beq e))
theorem kit_type {K : Frg} {D : Addr} {T : String} {b : Bool} (hm : PySem.W.kitMeta T = true) (h : PySem.W.subIn K (.ref D) (.type T) = some b) : PySem.W.kitOne K (.ref D) (.type T) = some b := by
  show PySem.W.kitCls K (.ref D) (.type T) = some b
  show (if PySem.W.kitMeta T = true then PySem.W.subIn K (.ref D) (.type T) else none) = some b
  rw [if_pos hm]
  exact h
theorem kt_of {K : Frg} {a : Addr} {o : Obj} (l : K.lookup a = some o) (h : ktObj o = true) (G : Hp) : RelP K G (.ref a) (.kt sorts3) := by
  obtain ⟨oc, od, dt, sl⟩ := o
  unfold ktObj at h
  split at h
  · rename_i its n sl' e
    cases e
    rw [Bool.and_eq_true] at h
    have h1 : its.size ≤ 3 := of_decide_eq_true h.1
    have h2 := vals_abs (xs := sorts3.map V.str) (us := its.toList) (by rw [List.map_map]; exact beq_iff_eq.mp h.2)
    exact ⟨a, rfl, fun G => .inr ⟨_, its, n, l, rfl, rfl, Nat.le_trans h1 (by decide), h2⟩, _, l, rfl, rfl⟩
  · cases h
theorem all_mk {l : PySem.W.OpenLaw} {w : World} {K : PySem.W.Frag} {h : Heap} {mg : Str → Option Value} {fa : Addr} (X : K.In h) (G : h.Ns mainGlobals mg) (hfa : mg "law" = some (.ref fa)) (TF : TabsFor ["law"] K h)
    {f0 : Addr} {od0 an0 : Option Addr} {sl0 : Array (Option Value)} {oc0 kV0 dc0 pm0 cd0 ct0 : Value}
    {f1 : Addr} {od1 an1 : Option Addr} {sl1 : Array (Option Value)} {oc1 kV1 dc1 pm1 cd1 ct1 : Value}
    {f2 : Addr} {od2 an2 : Option Addr} {sl2 : Array (Option Value)} {oc2 kV2 dc2 pm2 cd2 ct2 : Value}
    {f3 : Addr} {od3 an3 : Option Addr} {sl3 : Array (Option Value)} {oc3 kV3 dc3 pm3 cd3 ct3 : Value}
    {f4 : Addr} {od4 an4 : Option Addr} {sl4 : Array (Option Value)} {oc4 kV4 dc4 pm4 cd4 ct4 : Value}
    {f5 : Addr} {od5 an5 : Option Addr} {sl5 : Array (Option Value)} {oc5 kV5 dc5 pm5 cd5 ct5 : Value}
    {f6 : Addr} {od6 an6 : Option Addr} {sl6 : Array (Option Value)} {oc6 kV6 dc6 pm6 cd6 ct6 : Value}
    {f7 : Addr} {od7 an7 : Option Addr} {sl7 : Array (Option Value)} {oc7 kV7 dc7 pm7 cd7 ct7 : Value}
    {f8 : Addr} {od8 an8 : Option Addr} {sl8 : Array (Option Value)} {oc8 kV8 dc8 pm8 cd8 ct8 : Value}
    {f9 : Addr} {od9 an9 : Option Addr} {sl9 : Array (Option Value)} {oc9 kV9 dc9 pm9 cd9 ct9 : Value}
    {f10 : Addr} {od10 an10 : Option Addr} {sl10 : Array (Option Value)} {oc10 kV10 dc10 pm10 cd10 ct10 : Value}
    {f11 : Addr} {od11 an11 : Option Addr} {sl11 : Array (Option Value)} {oc11 kV11 dc11 pm11 cd11 ct11 : Value}
    {f12 : Addr} {od12 an12 : Option Addr} {sl12 : Array (Option Value)} {oc12 kV12 dc12 pm12 cd12 ct12 : Value}
    {f13 : Addr} {od13 an13 : Option Addr} {sl13 : Array (Option Value)} {oc13 kV13 dc13 pm13 cd13 ct13 : Value}
    {f14 : Addr} {od14 an14 : Option Addr} {sl14 : Array (Option Value)} {oc14 kV14 dc14 pm14 cd14 ct14 : Value}
    {f15 : Addr} {od15 an15 : Option Addr} {sl15 : Array (Option Value)} {oc15 kV15 dc15 pm15 cd15 ct15 : Value}
    {f16 : Addr} {od16 an16 : Option Addr} {sl16 : Array (Option Value)} {oc16 kV16 dc16 pm16 cd16 ct16 : Value}
    {f17 : Addr} {od17 an17 : Option Addr} {sl17 : Array (Option Value)} {oc17 kV17 dc17 pm17 cd17 ct17 : Value}
    {f18 : Addr} {od18 an18 : Option Addr} {sl18 : Array (Option Value)} {oc18 kV18 dc18 pm18 cd18 ct18 : Value}
    {f19 : Addr} {od19 an19 : Option Addr} {sl19 : Array (Option Value)} {oc19 kV19 dc19 pm19 cd19 ct19 : Value}
    {f20 : Addr} {od20 an20 : Option Addr} {sl20 : Array (Option Value)} {oc20 kV20 dc20 pm20 cd20 ct20 : Value}
    {f21 : Addr} {od21 an21 : Option Addr} {sl21 : Array (Option Value)} {oc21 kV21 dc21 pm21 cd21 ct21 : Value}
    {f22 : Addr} {od22 an22 : Option Addr} {sl22 : Array (Option Value)} {oc22 kV22 dc22 pm22 cd22 ct22 : Value}
    {f23 : Addr} {od23 an23 : Option Addr} {sl23 : Array (Option Value)} {oc23 kV23 dc23 pm23 cd23 ct23 : Value}
    {f24 : Addr} {od24 an24 : Option Addr} {sl24 : Array (Option Value)} {oc24 kV24 dc24 pm24 cd24 ct24 : Value}
    {f25 : Addr} {od25 an25 : Option Addr} {sl25 : Array (Option Value)} {oc25 kV25 dc25 pm25 cd25 ct25 : Value}
    {f26 : Addr} {od26 an26 : Option Addr} {sl26 : Array (Option Value)} {oc26 kV26 dc26 pm26 cd26 ct26 : Value}
    {f27 : Addr} {od27 an27 : Option Addr} {sl27 : Array (Option Value)} {oc27 kV27 dc27 pm27 cd27 ct27 : Value}
    {f28 c28A p28A : Addr} {od28 an28 : Option Addr} {sl28 : Array (Option Value)} {oc28 kV28 dc28 pm28 ct28 : Value}
    {qe28 : Value} {qd28 : Option Addr} {qv28 : Array Value} {qs28 : Array (Option Value)}
    {C_BadFace : Addr}
    {C_BadWanted : Addr}
    {C_NoCall : Addr}
    {C_SlotError : Addr}
    {C_BadCall : Addr}
    {aS : Addr} {oS : Obj}
    {uMOST_WORTH : Tok}
    {uNAMES : Tok}
    {uNUMBERS : Tok}
    {uMOST_SLOTS : Tok}
    {uMOST_THINGS : Tok}
    (a0 : PySem.W.nsIn K mainGlobals "is_number" = some (some (.ref f0)))
    (l0 : K.lookup f0 = some ⟨oc0, od0, .func (PySem.W.fnOf "is_number" "is_number" (defArgs s_is_number) (defBody s_is_number) (defScope s_is_number) .none kV0 dc0 pm0 an0 cd0 ct0), sl0⟩) (c0 : PySem.W.codeIn K cd0 "is_number" = true) (k0 : PySem.W.keepIn K (.ref f0) = true)
    (a1 : PySem.W.nsIn K mainGlobals "is_plain" = some (some (.ref f1)))
    (l1 : K.lookup f1 = some ⟨oc1, od1, .func (PySem.W.fnOf "is_plain" "is_plain" (defArgs s_is_plain) (defBody s_is_plain) (defScope s_is_plain) .none kV1 dc1 pm1 an1 cd1 ct1), sl1⟩) (c1 : PySem.W.codeIn K cd1 "is_plain" = true) (k1 : PySem.W.keepIn K (.ref f1) = true)
    (a2 : PySem.W.nsIn K mainGlobals "is_expression" = some (some (.ref f2)))
    (l2 : K.lookup f2 = some ⟨oc2, od2, .func (PySem.W.fnOf "is_expression" "is_expression" (defArgs s_is_expression) (defBody s_is_expression) (defScope s_is_expression) .none kV2 dc2 pm2 an2 cd2 ct2), sl2⟩) (c2 : PySem.W.codeIn K cd2 "is_expression" = true) (k2 : PySem.W.keepIn K (.ref f2) = true)
    (a3 : PySem.W.nsIn K mainGlobals "is_slot" = some (some (.ref f3)))
    (l3 : K.lookup f3 = some ⟨oc3, od3, .func (PySem.W.fnOf "is_slot" "is_slot" (defArgs s_is_slot) (defBody s_is_slot) (defScope s_is_slot) .none kV3 dc3 pm3 an3 cd3 ct3), sl3⟩) (c3 : PySem.W.codeIn K cd3 "is_slot" = true) (k3 : PySem.W.keepIn K (.ref f3) = true)
    (a4 : PySem.W.nsIn K mainGlobals "need_face" = some (some (.ref f4)))
    (l4 : K.lookup f4 = some ⟨oc4, od4, .func (PySem.W.fnOf "need_face" "need_face" (defArgs s_need_face) (defBody s_need_face) (defScope s_need_face) .none kV4 dc4 pm4 an4 cd4 ct4), sl4⟩) (c4 : PySem.W.codeIn K cd4 "need_face" = true) (k4 : PySem.W.keepIn K (.ref f4) = true)
    (a5 : PySem.W.nsIn K mainGlobals "slot_named" = some (some (.ref f5)))
    (l5 : K.lookup f5 = some ⟨oc5, od5, .func (PySem.W.fnOf "slot_named" "slot_named" (defArgs s_slot_named) (defBody s_slot_named) (defScope s_slot_named) .none kV5 dc5 pm5 an5 cd5 ct5), sl5⟩) (c5 : PySem.W.codeIn K cd5 "slot_named" = true) (k5 : PySem.W.keepIn K (.ref f5) = true)
    (a6 : PySem.W.nsIn K mainGlobals "places_of" = some (some (.ref f6)))
    (l6 : K.lookup f6 = some ⟨oc6, od6, .func (PySem.W.fnOf "places_of" "places_of" (defArgs s_places_of) (defBody s_places_of) (defScope s_places_of) .none kV6 dc6 pm6 an6 cd6 ct6), sl6⟩) (c6 : PySem.W.codeIn K cd6 "places_of" = true) (k6 : PySem.W.keepIn K (.ref f6) = true)
    (a7 : PySem.W.nsIn K mainGlobals "worked" = some (some (.ref f7)))
    (l7 : K.lookup f7 = some ⟨oc7, od7, .func (PySem.W.fnOf "worked" "worked" (defArgs s_worked) (defBody s_worked) (defScope s_worked) .none kV7 dc7 pm7 an7 cd7 ct7), sl7⟩) (c7 : PySem.W.codeIn K cd7 "worked" = true) (k7 : PySem.W.keepIn K (.ref f7) = true)
    (a8 : PySem.W.nsIn K mainGlobals "need_wanted" = some (some (.ref f8)))
    (l8 : K.lookup f8 = some ⟨oc8, od8, .func (PySem.W.fnOf "need_wanted" "need_wanted" (defArgs s_need_wanted) (defBody s_need_wanted) (defScope s_need_wanted) .none kV8 dc8 pm8 an8 cd8 ct8), sl8⟩) (c8 : PySem.W.codeIn K cd8 "need_wanted" = true) (k8 : PySem.W.keepIn K (.ref f8) = true)
    (a9 : PySem.W.nsIn K mainGlobals "must_hand" = some (some (.ref f9)))
    (l9 : K.lookup f9 = some ⟨oc9, od9, .func (PySem.W.fnOf "must_hand" "must_hand" (defArgs s_must_hand) (defBody s_must_hand) (defScope s_must_hand) .none kV9 dc9 pm9 an9 cd9 ct9), sl9⟩) (c9 : PySem.W.codeIn K cd9 "must_hand" = true) (k9 : PySem.W.keepIn K (.ref f9) = true)
    (a10 : PySem.W.nsIn K mainGlobals "needed" = some (some (.ref f10)))
    (l10 : K.lookup f10 = some ⟨oc10, od10, .func (PySem.W.fnOf "needed" "needed" (defArgs s_needed) (defBody s_needed) (defScope s_needed) .none kV10 dc10 pm10 an10 cd10 ct10), sl10⟩) (c10 : PySem.W.codeIn K cd10 "needed" = true) (k10 : PySem.W.keepIn K (.ref f10) = true)
    (a11 : PySem.W.nsIn K mainGlobals "need_some" = some (some (.ref f11)))
    (l11 : K.lookup f11 = some ⟨oc11, od11, .func (PySem.W.fnOf "need_some" "need_some" (defArgs s_need_some) (defBody s_need_some) (defScope s_need_some) .none kV11 dc11 pm11 an11 cd11 ct11), sl11⟩) (c11 : PySem.W.codeIn K cd11 "need_some" = true) (k11 : PySem.W.keepIn K (.ref f11) = true)
    (a12 : PySem.W.nsIn K mainGlobals "fewest" = some (some (.ref f12)))
    (l12 : K.lookup f12 = some ⟨oc12, od12, .func (PySem.W.fnOf "fewest" "fewest" (defArgs s_fewest) (defBody s_fewest) (defScope s_fewest) .none kV12 dc12 pm12 an12 cd12 ct12), sl12⟩) (c12 : PySem.W.codeIn K cd12 "fewest" = true) (k12 : PySem.W.keepIn K (.ref f12) = true)
    (a13 : PySem.W.nsIn K mainGlobals "least" = some (some (.ref f13)))
    (l13 : K.lookup f13 = some ⟨oc13, od13, .func (PySem.W.fnOf "least" "least" (defArgs s_least) (defBody s_least) (defScope s_least) .none kV13 dc13 pm13 an13 cd13 ct13), sl13⟩) (c13 : PySem.W.codeIn K cd13 "least" = true) (k13 : PySem.W.keepIn K (.ref f13) = true)
    (a14 : PySem.W.nsIn K mainGlobals "_law_taken" = some (some (.ref f14)))
    (l14 : K.lookup f14 = some ⟨oc14, od14, .func (PySem.W.fnOf "_law_taken" "_law_taken" (defArgs s_law_taken) (defBody s_law_taken) (defScope s_law_taken) .none kV14 dc14 pm14 an14 cd14 ct14), sl14⟩) (c14 : PySem.W.codeIn K cd14 "_law_taken" = true) (k14 : PySem.W.keepIn K (.ref f14) = true)
    (a15 : PySem.W.nsIn K mainGlobals "_law_plain" = some (some (.ref f15)))
    (l15 : K.lookup f15 = some ⟨oc15, od15, .func (PySem.W.fnOf "_law_plain" "_law_plain" (defArgs s_law_plain) (defBody s_law_plain) (defScope s_law_plain) .none kV15 dc15 pm15 an15 cd15 ct15), sl15⟩) (c15 : PySem.W.codeIn K cd15 "_law_plain" = true) (k15 : PySem.W.keepIn K (.ref f15) = true)
    (a16 : PySem.W.nsIn K mainGlobals "_law_default" = some (some (.ref f16)))
    (l16 : K.lookup f16 = some ⟨oc16, od16, .func (PySem.W.fnOf "_law_default" "_law_default" (defArgs s_law_default) (defBody s_law_default) (defScope s_law_default) .none kV16 dc16 pm16 an16 cd16 ct16), sl16⟩) (c16 : PySem.W.codeIn K cd16 "_law_default" = true) (k16 : PySem.W.keepIn K (.ref f16) = true)
    (a17 : PySem.W.nsIn K mainGlobals "_law_face" = some (some (.ref f17)))
    (l17 : K.lookup f17 = some ⟨oc17, od17, .func (PySem.W.fnOf "_law_face" "_law_face" (defArgs s_law_face) (defBody s_law_face) (defScope s_law_face) .none kV17 dc17 pm17 an17 cd17 ct17), sl17⟩) (c17 : PySem.W.codeIn K cd17 "_law_face" = true) (k17 : PySem.W.keepIn K (.ref f17) = true)
    (a18 : PySem.W.nsIn K mainGlobals "_law_call" = some (some (.ref f18)))
    (l18 : K.lookup f18 = some ⟨oc18, od18, .func (PySem.W.fnOf "_law_call" "_law_call" (defArgs s_law_call) (defBody s_law_call) (defScope s_law_call) .none kV18 dc18 pm18 an18 cd18 ct18), sl18⟩) (c18 : PySem.W.codeIn K cd18 "_law_call" = true) (k18 : PySem.W.keepIn K (.ref f18) = true)
    (a19 : PySem.W.nsIn K mainGlobals "_law_alike" = some (some (.ref f19)))
    (l19 : K.lookup f19 = some ⟨oc19, od19, .func (PySem.W.fnOf "_law_alike" "_law_alike" (defArgs s_law_alike) (defBody s_law_alike) (defScope s_law_alike) .none kV19 dc19 pm19 an19 cd19 ct19), sl19⟩) (c19 : PySem.W.codeIn K cd19 "_law_alike" = true) (k19 : PySem.W.keepIn K (.ref f19) = true)
    (a20 : PySem.W.nsIn K mainGlobals "_law_for" = some (some (.ref f20)))
    (l20 : K.lookup f20 = some ⟨oc20, od20, .func (PySem.W.fnOf "_law_for" "_law_for" (defArgs s_law_for) (defBody s_law_for) (defScope s_law_for) .none kV20 dc20 pm20 an20 cd20 ct20), sl20⟩) (c20 : PySem.W.codeIn K cd20 "_law_for" = true) (k20 : PySem.W.keepIn K (.ref f20) = true)
    (a21 : PySem.W.nsIn K mainGlobals "_law_matched" = some (some (.ref f21)))
    (l21 : K.lookup f21 = some ⟨oc21, od21, .func (PySem.W.fnOf "_law_matched" "_law_matched" (defArgs s_law_matched) (defBody s_law_matched) (defScope s_law_matched) .none kV21 dc21 pm21 an21 cd21 ct21), sl21⟩) (c21 : PySem.W.codeIn K cd21 "_law_matched" = true) (k21 : PySem.W.keepIn K (.ref f21) = true)
    (a22 : PySem.W.nsIn K mainGlobals "_law_worth" = some (some (.ref f22)))
    (l22 : K.lookup f22 = some ⟨oc22, od22, .func (PySem.W.fnOf "_law_worth" "_law_worth" (defArgs s_law_worth) (defBody s_law_worth) (defScope s_law_worth) .none kV22 dc22 pm22 an22 cd22 ct22), sl22⟩) (c22 : PySem.W.codeIn K cd22 "_law_worth" = true) (k22 : PySem.W.keepIn K (.ref f22) = true)
    (a23 : PySem.W.nsIn K mainGlobals "_law_done" = some (some (.ref f23)))
    (l23 : K.lookup f23 = some ⟨oc23, od23, .func (PySem.W.fnOf "_law_done" "_law_done" (defArgs s_law_done) (defBody s_law_done) (defScope s_law_done) .none kV23 dc23 pm23 an23 cd23 ct23), sl23⟩) (c23 : PySem.W.codeIn K cd23 "_law_done" = true) (k23 : PySem.W.keepIn K (.ref f23) = true)
    (a24 : PySem.W.nsIn K mainGlobals "_law_wanted" = some (some (.ref f24)))
    (l24 : K.lookup f24 = some ⟨oc24, od24, .func (PySem.W.fnOf "_law_wanted" "_law_wanted" (defArgs s_law_wanted) (defBody s_law_wanted) (defScope s_law_wanted) .none kV24 dc24 pm24 an24 cd24 ct24), sl24⟩) (c24 : PySem.W.codeIn K cd24 "_law_wanted" = true) (k24 : PySem.W.keepIn K (.ref f24) = true)
    (a25 : PySem.W.nsIn K mainGlobals "_law_least" = some (some (.ref f25)))
    (l25 : K.lookup f25 = some ⟨oc25, od25, .func (PySem.W.fnOf "_law_least" "_law_least" (defArgs s_law_least) (defBody s_law_least) (defScope s_law_least) .none kV25 dc25 pm25 an25 cd25 ct25), sl25⟩) (c25 : PySem.W.codeIn K cd25 "_law_least" = true) (k25 : PySem.W.keepIn K (.ref f25) = true)
    (a26 : PySem.W.nsIn K mainGlobals "_law_odd" = some (some (.ref f26)))
    (l26 : K.lookup f26 = some ⟨oc26, od26, .func (PySem.W.fnOf "_law_odd" "_law_odd" (defArgs s_law_odd) (defBody s_law_odd) (defScope s_law_odd) .none kV26 dc26 pm26 an26 cd26 ct26), sl26⟩) (c26 : PySem.W.codeIn K cd26 "_law_odd" = true) (k26 : PySem.W.keepIn K (.ref f26) = true)
    (a27 : PySem.W.nsIn K mainGlobals "_law_word" = some (some (.ref f27)))
    (l27 : K.lookup f27 = some ⟨oc27, od27, .func (PySem.W.fnOf "_law_word" "_law_word" (defArgs s_law_word) (defBody s_law_word) (defScope s_law_word) .none kV27 dc27 pm27 an27 cd27 ct27), sl27⟩) (c27 : PySem.W.codeIn K cd27 "_law_word" = true) (k27 : PySem.W.keepIn K (.ref f27) = true)
    (a28 : PySem.W.nsIn K mainGlobals "law" = some (some (.ref f28)))
    (l28 : K.lookup f28 = some ⟨oc28, od28, .func (PySem.W.fnOf "law" "law" (defArgs s_law) (defBody s_law) (defScope s_law) .none kV28 dc28 pm28 an28 (.ref c28A) ct28), sl28⟩) (c28 : PySem.W.codeIn K (.ref c28A) "law" = true) (k28 : PySem.W.keepIn K (.ref f28) = true)
    (q28 : K.lookup c28A = some ⟨qe28, qd28, .fields qv28, qs28⟩) (w28 : qv28[11]? = some (.ref p28A)) (n28 : K.lookup p28A = none)
    (aBadFace : PySem.W.nsIn K mainGlobals "BadFace" = some (some (.ref C_BadFace))) (xBadFace : PySem.W.excIn K C_BadFace [.type "ValueError", .type "Exception", .type "BaseException", .type "object"] "ValueError.__new__" = true) (kBadFace : PySem.W.keepIn K (.ref C_BadFace) = true) (bBadFace : PySem.W.subIn K (.ref C_BadFace) (.type "BaseException") = some true) (tBadFace : PySem.W.typeIn K (.ref C_BadFace) = some (.type "type"))
    (aBadWanted : PySem.W.nsIn K mainGlobals "BadWanted" = some (some (.ref C_BadWanted))) (xBadWanted : PySem.W.excIn K C_BadWanted [.type "ValueError", .type "Exception", .type "BaseException", .type "object"] "ValueError.__new__" = true) (kBadWanted : PySem.W.keepIn K (.ref C_BadWanted) = true) (bBadWanted : PySem.W.subIn K (.ref C_BadWanted) (.type "BaseException") = some true) (tBadWanted : PySem.W.typeIn K (.ref C_BadWanted) = some (.type "type"))
    (aNoCall : PySem.W.nsIn K mainGlobals "NoCall" = some (some (.ref C_NoCall))) (xNoCall : PySem.W.excIn K C_NoCall [.type "ValueError", .type "Exception", .type "BaseException", .type "object"] "ValueError.__new__" = true) (kNoCall : PySem.W.keepIn K (.ref C_NoCall) = true) (bNoCall : PySem.W.subIn K (.ref C_NoCall) (.type "BaseException") = some true) (tNoCall : PySem.W.typeIn K (.ref C_NoCall) = some (.type "type"))
    (aSlotError : PySem.W.nsIn K mainGlobals "SlotError" = some (some (.ref C_SlotError)))
    (aBadCall : PySem.W.nsIn K mainGlobals "BadCall" = some (some (.ref C_BadCall)))
    (z_ValueError : PySem.W.nsIn K mainGlobals "ValueError" = some none)
    (ehn : PySem.W.specialIn K (.builtin "object.__class__") "__get__" = some (some (.builtin "getset_descriptor.__get__"))) (eht : PySem.W.takesIn K (.builtin "object.__class__") = some true)
    (e1BadWanted : PySem.W.findIn K (.ref C_BadWanted) "__getattribute__" = some (some (.builtin "BaseException.__getattribute__"))) (e2BadWanted : PySem.W.findIn K (.ref C_BadWanted) "__getattr__" = some none) (e4BadWanted : PySem.W.hasDictIn K C_BadWanted = true) (e5BadWanted : PySem.W.findIn K (.ref C_BadWanted) "__class__" = some (some (.builtin "object.__class__"))) (e6BadWanted : PySem.W.mroIn K C_BadWanted (.type "object") = some true)
    (sBadWanted_SlotError : PySem.W.subIn K (.ref C_BadWanted) (.ref C_SlotError) = some true)
    (sBadWanted_BadWanted : PySem.W.subIn K (.ref C_BadWanted) (.ref C_BadWanted) = some true)
    (sBadWanted_NoCall : PySem.W.subIn K (.ref C_BadWanted) (.ref C_NoCall) = some false)
    (nBadWanted_NoCall : C_BadWanted ≠ C_NoCall)
    (sBadWanted_BadFace : PySem.W.subIn K (.ref C_BadWanted) (.ref C_BadFace) = some false)
    (nBadWanted_BadFace : C_BadWanted ≠ C_BadFace)
    (sBadWanted_BadCall : PySem.W.subIn K (.ref C_BadWanted) (.ref C_BadCall) = some false)
    (nBadWanted_BadCall : C_BadWanted ≠ C_BadCall)
    (sBadWanted_ValueError : PySem.W.subIn K (.ref C_BadWanted) (.type "ValueError") = some true)
    (e1NoCall : PySem.W.findIn K (.ref C_NoCall) "__getattribute__" = some (some (.builtin "BaseException.__getattribute__"))) (e2NoCall : PySem.W.findIn K (.ref C_NoCall) "__getattr__" = some none) (e4NoCall : PySem.W.hasDictIn K C_NoCall = true) (e5NoCall : PySem.W.findIn K (.ref C_NoCall) "__class__" = some (some (.builtin "object.__class__"))) (e6NoCall : PySem.W.mroIn K C_NoCall (.type "object") = some true)
    (sNoCall_SlotError : PySem.W.subIn K (.ref C_NoCall) (.ref C_SlotError) = some true)
    (sNoCall_BadWanted : PySem.W.subIn K (.ref C_NoCall) (.ref C_BadWanted) = some false)
    (nNoCall_BadWanted : C_NoCall ≠ C_BadWanted)
    (sNoCall_NoCall : PySem.W.subIn K (.ref C_NoCall) (.ref C_NoCall) = some true)
    (sNoCall_BadFace : PySem.W.subIn K (.ref C_NoCall) (.ref C_BadFace) = some false)
    (nNoCall_BadFace : C_NoCall ≠ C_BadFace)
    (sNoCall_BadCall : PySem.W.subIn K (.ref C_NoCall) (.ref C_BadCall) = some false)
    (nNoCall_BadCall : C_NoCall ≠ C_BadCall)
    (sNoCall_ValueError : PySem.W.subIn K (.ref C_NoCall) (.type "ValueError") = some true)
    (hDBadCall : PySem.W.hasDictIn K C_BadCall = true) (hTBadCall : PySem.W.typeIn K (.ref C_BadCall) = some (.type "type")) (hBBadCall : PySem.W.subIn K (.ref C_BadCall) (.type "BaseException") = some true)
    (hDBadFace : PySem.W.hasDictIn K C_BadFace = true) (hTBadFace : PySem.W.typeIn K (.ref C_BadFace) = some (.type "type")) (hBBadFace : PySem.W.subIn K (.ref C_BadFace) (.type "BaseException") = some true)
    (hDBadWanted : PySem.W.hasDictIn K C_BadWanted = true) (hTBadWanted : PySem.W.typeIn K (.ref C_BadWanted) = some (.type "type")) (hBBadWanted : PySem.W.subIn K (.ref C_BadWanted) (.type "BaseException") = some true)
    (hDNoCall : PySem.W.hasDictIn K C_NoCall = true) (hTNoCall : PySem.W.typeIn K (.ref C_NoCall) = some (.type "type")) (hBNoCall : PySem.W.subIn K (.ref C_NoCall) (.type "BaseException") = some true)
    (hDSlotError : PySem.W.hasDictIn K C_SlotError = true) (hTSlotError : PySem.W.typeIn K (.ref C_SlotError) = some (.type "type")) (hBSlotError : PySem.W.subIn K (.ref C_SlotError) (.type "BaseException") = some true)
    (aSORTS : PySem.W.nsIn K mainGlobals "SORTS" = some (some (.ref aS))) (lS : K.lookup aS = some oS) (oS1 : ktObj oS = true)
    (vMOST_WORTH : PySem.W.nsIn K mainGlobals "MOST_WORTH" = some (some (.int 10000 uMOST_WORTH)))
    (vNAMES : PySem.W.nsIn K mainGlobals "NAMES" = some (some (.int 10 uNAMES)))
    (vNUMBERS : PySem.W.nsIn K mainGlobals "NUMBERS" = some (some (.int 100 uNUMBERS)))
    (vMOST_SLOTS : PySem.W.nsIn K mainGlobals "MOST_SLOTS" = some (some (.int 6 uMOST_SLOTS)))
    (vMOST_THINGS : PySem.W.nsIn K mainGlobals "MOST_THINGS" = some (some (.int 10 uMOST_THINGS)))
    (z_len : PySem.W.nsIn K mainGlobals "len" = some none)
    (z_range : PySem.W.nsIn K mainGlobals "range" = some none)
    (z_isinstance : PySem.W.nsIn K mainGlobals "isinstance" = some none)
    (z_int : PySem.W.nsIn K mainGlobals "int" = some none)
    (z_bool : PySem.W.nsIn K mainGlobals "bool" = some none)
    (z_tuple : PySem.W.nsIn K mainGlobals "tuple" = some none)
    (z_list : PySem.W.nsIn K mainGlobals "list" = some none)
    (z_str : PySem.W.nsIn K mainGlobals "str" = some none)
    (z_sorted : PySem.W.nsIn K mainGlobals "sorted" = some none)
    (z_min : PySem.W.nsIn K mainGlobals "min" = some none)
    (z_max : PySem.W.nsIn K mainGlobals "max" = some none)
    (z_zip : PySem.W.nsIn K mainGlobals "zip" = some none)
    (z_set : PySem.W.nsIn K mainGlobals "set" = some none)
    (z_dict : PySem.W.nsIn K mainGlobals "dict" = some none) :
    LamX.LawAtS l w K CX0 11 63 "_law_script" mg fa h := by
  have e := hfa.symm.trans (PySem.W.mg_of X G a28)
  cases e
  have B : Blt mg := ⟨PySem.W.mg_none_of X G z_len, PySem.W.mg_none_of X G z_range, PySem.W.mg_none_of X G z_isinstance, PySem.W.mg_none_of X G z_int, PySem.W.mg_none_of X G z_bool, PySem.W.mg_none_of X G z_tuple, PySem.W.mg_none_of X G z_list, PySem.W.mg_none_of X G z_str, PySem.W.mg_none_of X G z_sorted, PySem.W.mg_none_of X G z_min, PySem.W.mg_none_of X G z_max, PySem.W.mg_none_of X G z_zip, PySem.W.mg_none_of X G z_set, PySem.W.mg_none_of X G z_dict⟩
  have T : Cst mg := ⟨⟨_, PySem.W.mg_of X G vNAMES⟩, ⟨_, PySem.W.mg_of X G vNUMBERS⟩, ⟨_, PySem.W.mg_of X G vMOST_SLOTS⟩, ⟨_, PySem.W.mg_of X G vMOST_THINGS⟩⟩
  have TW : CstW mg := ⟨T, ⟨_, PySem.W.mg_of X G vMOST_WORTH⟩⟩
  have mBadWanted := PySem.W.exm_ref hBSlotError hDSlotError hTSlotError sBadWanted_SlotError
  have kBadWanted_BadWanted := kit_true hDBadWanted hTBadWanted sBadWanted_BadWanted
  have kBadWanted_NoCall := kit_false nBadWanted_NoCall hDNoCall hTNoCall sBadWanted_NoCall
  have kBadWanted_BadFace := kit_false nBadWanted_BadFace hDBadFace hTBadFace sBadWanted_BadFace
  have kBadWanted_BadCall := kit_false nBadWanted_BadCall hDBadCall hTBadCall sBadWanted_BadCall
  have kBadWanted_ValueError := kit_type (T := "ValueError") rfl sBadWanted_ValueError
  have mNoCall := PySem.W.exm_ref hBSlotError hDSlotError hTSlotError sNoCall_SlotError
  have kNoCall_BadWanted := kit_false nNoCall_BadWanted hDBadWanted hTBadWanted sNoCall_BadWanted
  have kNoCall_NoCall := kit_true hDNoCall hTNoCall sNoCall_NoCall
  have kNoCall_BadFace := kit_false nNoCall_BadFace hDBadFace hTBadFace sNoCall_BadFace
  have kNoCall_BadCall := kit_false nNoCall_BadCall hDBadCall hTBadCall sNoCall_BadCall
  have kNoCall_ValueError := kit_type (T := "ValueError") rfl sNoCall_ValueError
  have E_BadWanted : L2.ExcC K C_BadWanted := ⟨e1BadWanted, e2BadWanted, bBadWanted, e4BadWanted, e5BadWanted, ehn, eht, e6BadWanted⟩
  have E_NoCall : L2.ExcC K C_NoCall := ⟨e1NoCall, e2NoCall, bNoCall, e4NoCall, e5NoCall, ehn, eht, e6NoCall⟩
  have hS : KSorts K mg aS := ⟨PySem.W.mg_of X G aSORTS, fun G => kt_of lS oS1 G⟩
  have X_BadFace : ExcC K mg "BadFace" C_BadFace := ⟨xBadFace, PySem.W.mg_of X G aBadFace, kBadFace, bBadFace, tBadFace⟩
  have X_BadWanted : ExcC K mg "BadWanted" C_BadWanted := ⟨xBadWanted, PySem.W.mg_of X G aBadWanted, kBadWanted, bBadWanted, tBadWanted⟩
  have X_NoCall : ExcC K mg "NoCall" C_NoCall := ⟨xNoCall, PySem.W.mg_of X G aNoCall, kNoCall, bNoCall, tNoCall⟩
  have F_is_number := fun_mk (st := s_is_number) l0 c0 k0
  have b_is_number := F_is_number.binds (ps := ["part", "below"]) fun _ _ _ _ _ _ us hl => match us, hl with | [_, _], _ => rfl
  have g_is_number := PySem.W.mg_of X G a0
  have F_is_plain := fun_mk (st := s_is_plain) l1 c1 k1
  have b_is_plain := F_is_plain.binds (ps := ["e"]) fun _ _ _ _ _ _ us hl => match us, hl with | [_], _ => rfl
  have g_is_plain := PySem.W.mg_of X G a1
  have F_is_expression := fun_mk (st := s_is_expression) l2 c2 k2
  have b_is_expression := F_is_expression.binds (ps := ["e", "ahead", "deep"]) fun _ _ _ _ _ _ us hl => match us, hl with | [_, _, _], _ => rfl
  have g_is_expression := PySem.W.mg_of X G a2
  have F_is_slot := fun_mk (st := s_is_slot) l3 c3 k3
  have b_is_slot := F_is_slot.binds (ps := ["slot", "ahead", "sorts"]) fun _ _ _ _ _ _ us hl => match us, hl with | [_, _, _], _ => rfl
  have g_is_slot := PySem.W.mg_of X G a3
  have F_need_face := fun_mk (st := s_need_face) l4 c4 k4
  have b_need_face := F_need_face.binds (ps := ["face"]) fun _ _ _ _ _ _ us hl => match us, hl with | [_], _ => rfl
  have g_need_face := PySem.W.mg_of X G a4
  have F_slot_named := fun_mk (st := s_slot_named) l5 c5 k5
  have b_slot_named := F_slot_named.binds (ps := ["face", "name"]) fun _ _ _ _ _ _ us hl => match us, hl with | [_, _], _ => rfl
  have g_slot_named := PySem.W.mg_of X G a5
  have F_places_of := fun_mk (st := s_places_of) l6 c6 k6
  have b_places_of := F_places_of.binds (ps := ["face"]) fun _ _ _ _ _ _ us hl => match us, hl with | [_], _ => rfl
  have g_places_of := PySem.W.mg_of X G a6
  have F_worked := fun_mk (st := s_worked) l7 c7 k7
  have b_worked := F_worked.binds (ps := ["e", "worths", "said"]) fun _ _ _ _ _ _ us hl => match us, hl with | [_, _, _], _ => rfl
  have g_worked := PySem.W.mg_of X G a7
  have F_need_wanted := fun_mk (st := s_need_wanted) l8 c8 k8
  have b_need_wanted := F_need_wanted.binds (ps := ["face", "wanted"]) fun _ _ _ _ _ _ us hl => match us, hl with | [_, _], _ => rfl
  have g_need_wanted := PySem.W.mg_of X G a8
  have F_must_hand := fun_mk (st := s_must_hand) l9 c9 k9
  have b_must_hand := F_must_hand.binds (ps := ["face", "worths"]) fun _ _ _ _ _ _ us hl => match us, hl with | [_, _], _ => rfl
  have g_must_hand := PySem.W.mg_of X G a9
  have F_needed := fun_mk (st := s_needed) l10 c10 k10
  have b_needed := F_needed.binds (ps := ["face", "wanted"]) fun _ _ _ _ _ _ us hl => match us, hl with | [_, _], _ => rfl
  have g_needed := PySem.W.mg_of X G a10
  have F_need_some := fun_mk (st := s_need_some) l11 c11 k11
  have b_need_some := F_need_some.binds (ps := ["face", "wanted"]) fun _ _ _ _ _ _ us hl => match us, hl with | [_, _], _ => rfl
  have g_need_some := PySem.W.mg_of X G a11
  have F_fewest := fun_mk (st := s_fewest) l12 c12 k12
  have b_fewest := F_fewest.binds (ps := ["face", "wanted"]) fun _ _ _ _ _ _ us hl => match us, hl with | [_, _], _ => rfl
  have g_fewest := PySem.W.mg_of X G a12
  have F_least := fun_mk (st := s_least) l13 c13 k13
  have b_least := F_least.binds (ps := ["face", "wanted"]) fun _ _ _ _ _ _ us hl => match us, hl with | [_, _], _ => rfl
  have g_least := PySem.W.mg_of X G a13
  have F_law_taken := fun_mk (st := s_law_taken) l14 c14 k14
  have b_law_taken := F_law_taken.binds (ps := ["_law_row", "_law_many"]) fun _ _ _ _ _ _ us hl => match us, hl with | [_, _], _ => rfl
  have g_law_taken := PySem.W.mg_of X G a14
  have F_law_plain := fun_mk (st := s_law_plain) l15 c15 k15
  have b_law_plain := F_law_plain.binds (ps := ["_law_row"]) fun _ _ _ _ _ _ us hl => match us, hl with | [_], _ => rfl
  have g_law_plain := PySem.W.mg_of X G a15
  have F_law_default := fun_mk (st := s_law_default) l16 c16 k16
  have b_law_default := F_law_default.binds (ps := ["_law_row", "_law_ahead"]) fun _ _ _ _ _ _ us hl => match us, hl with | [_, _], _ => rfl
  have g_law_default := PySem.W.mg_of X G a16
  have F_law_face := fun_mk (st := s_law_face) l17 c17 k17
  have b_law_face := F_law_face.binds (ps := ["_law_row"]) fun _ _ _ _ _ _ us hl => match us, hl with | [_], _ => rfl
  have g_law_face := PySem.W.mg_of X G a17
  have F_law_call := fun_mk (st := s_law_call) l18 c18 k18
  have b_law_call := F_law_call.binds (ps := ["_law_row", "_law_face_here"]) fun _ _ _ _ _ _ us hl => match us, hl with | [_, _], _ => rfl
  have g_law_call := PySem.W.mg_of X G a18
  have F_law_alike := fun_mk (st := s_law_alike) l19 c19 k19
  have b_law_alike := F_law_alike.binds (ps := ["_law_found", "_law_due"]) fun _ _ _ _ _ _ us hl => match us, hl with | [_, _], _ => rfl
  have g_law_alike := PySem.W.mg_of X G a19
  have F_law_for := fun_mk (st := s_law_for) l20 c20 k20
  have b_law_for := F_law_for.binds (ps := ["_law_face_here", "_law_names", "_law_number"]) fun _ _ _ _ _ _ us hl => match us, hl with | [_, _, _], _ => rfl
  have g_law_for := PySem.W.mg_of X G a20
  have F_law_matched := fun_mk (st := s_law_matched) l21 c21 k21
  have b_law_matched := F_law_matched.binds (ps := ["_law_face_here", "_law_names"]) fun _ _ _ _ _ _ us hl => match us, hl with | [_, _], _ => rfl
  have g_law_matched := PySem.W.mg_of X G a21
  have F_law_worth := fun_mk (st := s_law_worth) l22 c22 k22
  have b_law_worth := F_law_worth.binds (ps := ["_law_e", "_law_worths", "_law_said"]) fun _ _ _ _ _ _ us hl => match us, hl with | [_, _, _], _ => rfl
  have g_law_worth := PySem.W.mg_of X G a22
  have F_law_done := fun_mk (st := s_law_done) l23 c23 k23
  have b_law_done := F_law_done.binds (ps := ["_law_face_here", "_law_call_here"]) fun _ _ _ _ _ _ us hl => match us, hl with | [_, _], _ => rfl
  have g_law_done := PySem.W.mg_of X G a23
  have F_law_wanted := fun_mk (st := s_law_wanted) l24 c24 k24
  have b_law_wanted := F_law_wanted.binds (ps := ["_law_row", "_law_face_here"]) fun _ _ _ _ _ _ us hl => match us, hl with | [_, _], _ => rfl
  have g_law_wanted := PySem.W.mg_of X G a24
  have F_law_least := fun_mk (st := s_law_least) l25 c25 k25
  have b_law_least := F_law_least.binds (ps := ["_law_face_here", "_law_wanted_here"]) fun _ _ _ _ _ _ us hl => match us, hl with | [_, _], _ => rfl
  have g_law_least := PySem.W.mg_of X G a25
  have F_law_odd := fun_mk (st := s_law_odd) l26 c26 k26
  have b_law_odd := F_law_odd.binds (ps := ["_law_row", "_law_wanted_here"]) fun _ _ _ _ _ _ us hl => match us, hl with | [_, _], _ => rfl
  have g_law_odd := PySem.W.mg_of X G a26
  have F_law_word := fun_mk (st := s_law_word) l27 c27 k27
  have b_law_word := F_law_word.binds (ps := ["_law_work"]) fun _ _ _ _ _ _ us hl => match us, hl with | [_], _ => rfl
  have g_law_word := PySem.W.mg_of X G a27
  have F_law := fun_mk (st := s_law) l28 c28 k28
  obtain ⟨hC28, hP28⟩ := TF "law" (by simp) _ _ (show PySem.W.tabIn K "law" = some (c28A, p28A) from by unfold PySem.W.tabIn; rw [a28]; simp only [l28, q28, w28])
  let TT : List (Addr × Str) := [(p28A, ("law" : Str) ++ ".<locals>." ++ "<lambda>")]
  refine ⟨PySem.W.fnOf "law" "law" (defArgs s_law) (defBody s_law) (defScope s_law) .none kV28 dc28 pm28 an28 (.ref c28A) ct28, [(c28A, p28A)], sp_law TT K, fun p hp => (by (rcases List.mem_cons.mp hp with rfl | hp; · exact hP28); cases hp), fun p hp => (by (rcases List.mem_cons.mp hp with rfl | hp; · exact n28); cases hp), fun p hp => (by (rcases List.mem_cons.mp hp with rfl | hp; · exact hC28); cases hp), fun s v => .of_eq rfl, fun H a ns hl _ hH hS => ?_, fun base _ _ TBs => ?_⟩
  · obtain ⟨G1, μ1, r1, S1, T1⟩ := law_start (TT := TT) (fun p hp => (by (rcases List.mem_cons.mp hp with rfl | hp; · exact hH (c28A, p28A) (by simp)); cases hp)) hS
    exact ⟨G1, μ1, ns, .cons r1 .nil, S1, T1, fun v G2 H2 x μ2 _ r _ p => (by have p : x = .b true := p; subst p; exact rp_bl r)⟩
  have hm_law : (c28A, p28A) ∈ ([(c28A, p28A)] : List (Addr × Addr)) := by simp
  have hT_law : (p28A, ("law" : Str) ++ ".<locals>." ++ "<lambda>") ∈ TT := by simp [TT]
  have hu_law : ∀ p ∈ TT, p.1 = p28A → p.2 = ("law" : Str) ++ ".<locals>." ++ "<lambda>" := fun p hp e => (by (rcases List.mem_cons.mp hp with rfl | hp; · first | rfl | exact absurd e.symm (by simp)); cases hp)
  have C_is_number : Cal l.prog w K mg base CX0 1 "is_number" ["part", "below"] (sp_is_number K) := ⟨⟨_, _, g_is_number, k0, b_is_number, ok_is_number F_is_number B⟩⟩
  have C_is_plain : Cal l.prog w K mg base CX0 2 "is_plain" ["e"] (sp_is_plain K) := ⟨⟨_, _, g_is_plain, k1, b_is_plain, ok_is_plain F_is_plain B T C_is_number⟩⟩
  have C_is_expression : Cal l.prog w K mg base CX0 4 "is_expression" ["e", "ahead", "deep"] (sp_is_expression 1 K) := ⟨⟨_, _, g_is_expression, k2, b_is_expression, ok_is_expression F_is_expression B T g_is_expression b_is_expression C_is_number C_is_plain⟩⟩
  have C_is_slot : Cal l.prog w K mg base CX0 5 "is_slot" ["slot", "ahead", "sorts"] (sp_is_slot K) := ⟨⟨_, _, g_is_slot, k3, b_is_slot, ok_is_slot F_is_slot B T hS C_is_number C_is_expression⟩⟩
  have C_need_face : Cal l.prog w K mg base (L2.CX l.prog w) 6 "need_face" ["face"] (sp_need_face K C_BadFace) := ⟨⟨_, _, g_need_face, k4, b_need_face, ok_need_face F_need_face B T X_BadFace C_is_slot⟩⟩
  have C_slot_named : Cal l.prog w K mg base CX0 1 "slot_named" ["face", "name"] (sp_slot_named K) := ⟨⟨_, _, g_slot_named, k5, b_slot_named, ok_slot_named F_slot_named B⟩⟩
  have C_places_of : Cal l.prog w K mg base CX0 1 "places_of" ["face"] (sp_places_of K) := ⟨⟨_, _, g_places_of, k6, b_places_of, ok_places_of F_places_of B⟩⟩
  have C_worked : Cal l.prog w K mg base CX0 2 "worked" ["e", "worths", "said"] (sp_worked 1 K) := ⟨⟨_, _, g_worked, k7, b_worked, ok_worked F_worked g_worked b_worked 1 (by decide)⟩⟩
  have C_need_wanted : Cal l.prog w K mg base (L2.CX l.prog w) 2 "need_wanted" ["face", "wanted"] (sp_need_wanted K C_BadWanted) := ⟨⟨_, _, g_need_wanted, k8, b_need_wanted, ok_need_wanted F_need_wanted B TW X_BadWanted C_is_number⟩⟩
  have C_must_hand : Cal l.prog w K mg base CX0 3 "must_hand" ["face", "worths"] (sp_must_hand K) := ⟨⟨_, _, g_must_hand, k9, b_must_hand, ok_must_hand F_must_hand B C_worked⟩⟩
  have C_needed : Cal l.prog w K mg base CX0 4 "needed" ["face", "wanted"] (sp_needed K) := ⟨⟨_, _, g_needed, k10, b_needed, ok_needed F_needed B C_must_hand C_places_of⟩⟩
  have C_need_some : Cal l.prog w K mg base (L2.CX l.prog w) 5 "need_some" ["face", "wanted"] (sp_need_some K C_NoCall) := ⟨⟨_, _, g_need_some, k11, b_need_some, ok_need_some F_need_some B TW X_NoCall C_needed C_slot_named⟩⟩
  have C_fewest : Cal l.prog w K mg base (L2.CX l.prog w) 7 "fewest" ["face", "wanted"] (sp_fewest K C_BadFace C_BadWanted C_NoCall) := ⟨⟨_, _, g_fewest, k12, b_fewest, ok_fewest F_fewest B C_need_face C_need_wanted C_need_some⟩⟩
  have C_least : Cal l.prog w K mg base (L2.CX l.prog w) 7 "least" ["face", "wanted"] (sp_least K C_BadFace C_BadWanted C_NoCall) := ⟨⟨_, _, g_least, k13, b_least, ok_least F_least B C_need_face C_need_wanted C_need_some⟩⟩
  have C_law_taken : Cal l.prog w K mg base CX0 1 "_law_taken" ["_law_row", "_law_many"] (sp_taken K) := ⟨⟨_, _, g_law_taken, k14, b_law_taken, ok_taken F_law_taken B⟩⟩
  have C_law_plain : Cal l.prog w K mg base CX0 2 "_law_plain" ["_law_row"] (sp_plain K) := ⟨⟨_, _, g_law_plain, k15, b_law_plain, ok_plain F_law_plain C_law_taken⟩⟩
  have C_law_default : Cal l.prog w K mg base CX0 3 "_law_default" ["_law_row", "_law_ahead"] (sp_default K) := ⟨⟨_, _, g_law_default, k16, b_law_default, ok_default F_law_default B C_law_taken C_law_plain⟩⟩
  have C_law_face : Cal l.prog w K mg base CX0 4 "_law_face" ["_law_row"] (sp_face K) := ⟨⟨_, _, g_law_face, k17, b_law_face, ok_face F_law_face B C_law_taken C_law_default⟩⟩
  have C_law_call : Cal l.prog w K mg base CX0 3 "_law_call" ["_law_row", "_law_face_here"] (sp_call K) := ⟨⟨_, _, g_law_call, k18, b_law_call, ok_call F_law_call B C_law_taken C_law_plain⟩⟩
  have C_law_alike : Cal l.prog w K mg base CX0 4 "_law_alike" ["_law_found", "_law_due"] (sp_alikeS 3 K) := ⟨⟨_, _, g_law_alike, k19, b_law_alike, ok_alike F_law_alike B g_law_alike b_law_alike 3 (by decide)⟩⟩
  have C_law_for : Cal l.prog w K mg base CX0 1 "_law_for" ["_law_face_here", "_law_names", "_law_number"] (sp_for K) := ⟨⟨_, _, g_law_for, k20, b_law_for, ok_for F_law_for B⟩⟩
  have C_law_matched : Cal l.prog w K mg base CX0 2 "_law_matched" ["_law_face_here", "_law_names"] (sp_lmatched K) := ⟨⟨_, _, g_law_matched, k21, b_law_matched, ok_lmatched F_law_matched B C_law_for⟩⟩
  have C_law_worth : Cal l.prog w K mg base CX0 2 "_law_worth" ["_law_e", "_law_worths", "_law_said"] (sp_worth 1 K) := ⟨⟨_, _, g_law_worth, k22, b_law_worth, ok_worth F_law_worth g_law_worth b_law_worth 1 (by decide)⟩⟩
  have C_law_done : Cal l.prog w K mg base CX0 3 "_law_done" ["_law_face_here", "_law_call_here"] (sp_ldone K) := ⟨⟨_, _, g_law_done, k23, b_law_done, ok_ldone F_law_done B C_law_worth C_law_matched⟩⟩
  have C_law_wanted : Cal l.prog w K mg base CX0 4 "_law_wanted" ["_law_row", "_law_face_here"] (sp_lwanted K) := ⟨⟨_, _, g_law_wanted, k24, b_law_wanted, ok_lwanted F_law_wanted B C_law_taken C_law_call C_law_done⟩⟩
  have C_law_least : Cal l.prog w K mg base CX0 3 "_law_least" ["_law_face_here", "_law_wanted_here"] (sp_lleast K) := ⟨⟨_, _, g_law_least, k25, b_law_least, ok_lleast F_law_least B C_law_worth⟩⟩
  have C_law_odd : Cal l.prog w K mg base CX0 2 "_law_odd" ["_law_row", "_law_wanted_here"] (sp_odd K) := ⟨⟨_, _, g_law_odd, k26, b_law_odd, ok_odd F_law_odd B C_law_taken⟩⟩
  exact ok_law F_law rfl B (TBs _ hm_law) hT_law hu_law g_law_word k27 l27 c27 b_law_word (PySem.W.mg_of X G aSlotError) (PySem.W.mg_of X G aBadWanted) (PySem.W.mg_of X G aNoCall) (PySem.W.mg_of X G aBadFace) (PySem.W.mg_of X G aBadCall) (PySem.W.mg_none_of X G z_ValueError) mBadWanted mNoCall nNoCall_BadWanted ⟨E_BadWanted, kBadWanted_BadWanted, kBadWanted_NoCall, kBadWanted_BadFace, kBadWanted_BadCall, kBadWanted_ValueError⟩ ⟨E_NoCall, kNoCall_BadWanted, kNoCall_NoCall, kNoCall_BadFace, kNoCall_BadCall, kNoCall_ValueError⟩ C_law_face C_law_wanted C_law_least C_law_odd C_law_alike C_least C_fewest
end Sc
open PySem PySem.W PyProof.Rows
set_option maxRecDepth 100000 in
set_option maxHeartbeats 0 in
theorem PySem.Challenge.cw_slotcall_k08_what_must_be_handed_holds : PySem.Challenge.rw_slotcall_k08_what_must_be_handed.Holds := by
  w_on; o_law; k_head; (case hw => w_witness2)
  k_fill
  refine Dw.walk_tabs (l := PySem.Challenge.rw_slotcall_k08_what_must_be_handed) (n := 63) (k := 11) (x := "_law_script") ["law"] rfl (by decide) rfl ⟨rfl, by decide, by decide⟩ (by decide +kernel) (fun w h Y => (by first | exact PySem.W.km_in_of Y | exact PySem.W.kIn_of Y)) ?F
  case F =>
    intro w mg fa h KX G hmg TF
    refine' Sc.all_mk KX G hmg TF ?a0 ?l0 ?c0 ?k0 ?a1 ?l1 ?c1 ?k1 ?a2 ?l2 ?c2 ?k2 ?a3 ?l3 ?c3 ?k3 ?a4 ?l4 ?c4 ?k4 ?a5 ?l5 ?c5 ?k5 ?a6 ?l6 ?c6 ?k6 ?a7 ?l7 ?c7 ?k7 ?a8 ?l8 ?c8 ?k8 ?a9 ?l9 ?c9 ?k9 ?a10 ?l10 ?c10 ?k10 ?a11 ?l11 ?c11 ?k11 ?a12 ?l12 ?c12 ?k12 ?a13 ?l13 ?c13 ?k13 ?a14 ?l14 ?c14 ?k14 ?a15 ?l15 ?c15 ?k15 ?a16 ?l16 ?c16 ?k16 ?a17 ?l17 ?c17 ?k17 ?a18 ?l18 ?c18 ?k18 ?a19 ?l19 ?c19 ?k19 ?a20 ?l20 ?c20 ?k20 ?a21 ?l21 ?c21 ?k21 ?a22 ?l22 ?c22 ?k22 ?a23 ?l23 ?c23 ?k23 ?a24 ?l24 ?c24 ?k24 ?a25 ?l25 ?c25 ?k25 ?a26 ?l26 ?c26 ?k26 ?a27 ?l27 ?c27 ?k27 ?a28 ?l28 ?c28 ?k28 ?q28 ?w28 ?n28 ?aBadFace ?xBadFace ?kBadFace ?bBadFace ?tBadFace ?aBadWanted ?xBadWanted ?kBadWanted ?bBadWanted ?tBadWanted ?aNoCall ?xNoCall ?kNoCall ?bNoCall ?tNoCall ?aSlotError ?aBadCall ?z_ValueError ?ehn ?eht ?e1BadWanted ?e2BadWanted ?e4BadWanted ?e5BadWanted ?e6BadWanted ?sBadWanted_SlotError ?sBadWanted_BadWanted ?sBadWanted_NoCall ?nBadWanted_NoCall ?sBadWanted_BadFace ?nBadWanted_BadFace ?sBadWanted_BadCall ?nBadWanted_BadCall ?sBadWanted_ValueError ?e1NoCall ?e2NoCall ?e4NoCall ?e5NoCall ?e6NoCall ?sNoCall_SlotError ?sNoCall_BadWanted ?nNoCall_BadWanted ?sNoCall_NoCall ?sNoCall_BadFace ?nNoCall_BadFace ?sNoCall_BadCall ?nNoCall_BadCall ?sNoCall_ValueError ?hDBadCall ?hTBadCall ?hBBadCall ?hDBadFace ?hTBadFace ?hBBadFace ?hDBadWanted ?hTBadWanted ?hBBadWanted ?hDNoCall ?hTNoCall ?hBNoCall ?hDSlotError ?hTSlotError ?hBSlotError ?aSORTS ?lS ?oS1 ?vMOST_WORTH ?vNAMES ?vNUMBERS ?vMOST_SLOTS ?vMOST_THINGS ?z_len ?z_range ?z_isinstance ?z_int ?z_bool ?z_tuple ?z_list ?z_str ?z_sorted ?z_min ?z_max ?z_zip ?z_set ?z_dict
    (case a0 => k_is)
    (case l0 => k_is)
    (case c0 => k_is)
    (case k0 => k_is)
    (case a1 => k_is)
    (case l1 => k_is)
    (case c1 => k_is)
    (case k1 => k_is)
    (case a2 => k_is)
    (case l2 => k_is)
    (case c2 => k_is)
    (case k2 => k_is)
    (case a3 => k_is)
    (case l3 => k_is)
    (case c3 => k_is)
    (case k3 => k_is)
    (case a4 => k_is)
    (case l4 => k_is)
    (case c4 => k_is)
    (case k4 => k_is)
    (case a5 => k_is)
    (case l5 => k_is)
    (case c5 => k_is)
    (case k5 => k_is)
    (case a6 => k_is)
    (case l6 => k_is)
    (case c6 => k_is)
    (case k6 => k_is)
    (case a7 => k_is)
    (case l7 => k_is)
    (case c7 => k_is)
    (case k7 => k_is)
    (case a8 => k_is)
    (case l8 => k_is)
    (case c8 => k_is)
    (case k8 => k_is)
    (case a9 => k_is)
    (case l9 => k_is)
    (case c9 => k_is)
    (case k9 => k_is)
    (case a10 => k_is)
    (case l10 => k_is)
    (case c10 => k_is)
    (case k10 => k_is)
    (case a11 => k_is)
    (case l11 => k_is)
    (case c11 => k_is)
    (case k11 => k_is)
    (case a12 => k_is)
    (case l12 => k_is)
    (case c12 => k_is)
    (case k12 => k_is)
    (case a13 => k_is)
    (case l13 => k_is)
    (case c13 => k_is)
    (case k13 => k_is)
    (case a14 => k_is)
    (case l14 => k_is)
    (case c14 => k_is)
    (case k14 => k_is)
    (case a15 => k_is)
    (case l15 => k_is)
    (case c15 => k_is)
    (case k15 => k_is)
    (case a16 => k_is)
    (case l16 => k_is)
    (case c16 => k_is)
    (case k16 => k_is)
    (case a17 => k_is)
    (case l17 => k_is)
    (case c17 => k_is)
    (case k17 => k_is)
    (case a18 => k_is)
    (case l18 => k_is)
    (case c18 => k_is)
    (case k18 => k_is)
    (case a19 => k_is)
    (case l19 => k_is)
    (case c19 => k_is)
    (case k19 => k_is)
    (case a20 => k_is)
    (case l20 => k_is)
    (case c20 => k_is)
    (case k20 => k_is)
    (case a21 => k_is)
    (case l21 => k_is)
    (case c21 => k_is)
    (case k21 => k_is)
    (case a22 => k_is)
    (case l22 => k_is)
    (case c22 => k_is)
    (case k22 => k_is)
    (case a23 => k_is)
    (case l23 => k_is)
    (case c23 => k_is)
    (case k23 => k_is)
    (case a24 => k_is)
    (case l24 => k_is)
    (case c24 => k_is)
    (case k24 => k_is)
    (case a25 => k_is)
    (case l25 => k_is)
    (case c25 => k_is)
    (case k25 => k_is)
    (case a26 => k_is)
    (case l26 => k_is)
    (case c26 => k_is)
    (case k26 => k_is)
    (case a27 => k_is)
    (case l27 => k_is)
    (case c27 => k_is)
    (case k27 => k_is)
    (case a28 => k_is)
    (case l28 => k_is)
    (case c28 => k_is)
    (case k28 => k_is)
    (case q28 => k_is)
    (case w28 => exact rfl)
    (case n28 => exact rfl)
    (case aBadFace => k_is)
    (case xBadFace => k_exc)
    (case kBadFace => k_is)
    (case bBadFace => k_is)
    (case tBadFace => k_is)
    (case aBadWanted => k_is)
    (case xBadWanted => k_exc)
    (case kBadWanted => k_is)
    (case bBadWanted => k_is)
    (case tBadWanted => k_is)
    (case aNoCall => k_is)
    (case xNoCall => k_exc)
    (case kNoCall => k_is)
    (case bNoCall => k_is)
    (case tNoCall => k_is)
    (case aSlotError => k_is)
    (case aBadCall => k_is)
    (case z_ValueError => k_is)
    (case ehn => k_is)
    (case eht => k_is)
    (case e1BadWanted => k_is)
    (case e2BadWanted => k_is)
    (case e4BadWanted => k_is)
    (case e5BadWanted => k_is)
    (case e6BadWanted => k_is)
    (case sBadWanted_SlotError => k_is)
    (case sBadWanted_BadWanted => k_is)
    (case sBadWanted_NoCall => k_is)
    (case nBadWanted_NoCall => decide)
    (case sBadWanted_BadFace => k_is)
    (case nBadWanted_BadFace => decide)
    (case sBadWanted_BadCall => k_is)
    (case nBadWanted_BadCall => decide)
    (case sBadWanted_ValueError => k_is)
    (case e1NoCall => k_is)
    (case e2NoCall => k_is)
    (case e4NoCall => k_is)
    (case e5NoCall => k_is)
    (case e6NoCall => k_is)
    (case sNoCall_SlotError => k_is)
    (case sNoCall_BadWanted => k_is)
    (case nNoCall_BadWanted => decide)
    (case sNoCall_NoCall => k_is)
    (case sNoCall_BadFace => k_is)
    (case nNoCall_BadFace => decide)
    (case sNoCall_BadCall => k_is)
    (case nNoCall_BadCall => decide)
    (case sNoCall_ValueError => k_is)
    (case hDBadCall => k_is)
    (case hTBadCall => k_is)
    (case hBBadCall => k_is)
    (case hDBadFace => k_is)
    (case hTBadFace => k_is)
    (case hBBadFace => k_is)
    (case hDBadWanted => k_is)
    (case hTBadWanted => k_is)
    (case hBBadWanted => k_is)
    (case hDNoCall => k_is)
    (case hTNoCall => k_is)
    (case hBNoCall => k_is)
    (case hDSlotError => k_is)
    (case hTSlotError => k_is)
    (case hBSlotError => k_is)
    (case aSORTS => k_is)
    (case lS => k_is)
    (case oS1 => decide +kernel)
    (case vMOST_WORTH => k_is)
    (case vNAMES => k_is)
    (case vNUMBERS => k_is)
    (case vMOST_SLOTS => k_is)
    (case vMOST_THINGS => k_is)
    (case z_len => k_is)
    (case z_range => k_is)
    (case z_isinstance => k_is)
    (case z_int => k_is)
    (case z_bool => k_is)
    (case z_tuple => k_is)
    (case z_list => k_is)
    (case z_str => k_is)
    (case z_sorted => k_is)
    (case z_min => k_is)
    (case z_max => k_is)
    (case z_zip => k_is)
    (case z_set => k_is)
    (case z_dict => k_is)
#print axioms PySem.Challenge.cw_slotcall_k08_what_must_be_handed_holds

