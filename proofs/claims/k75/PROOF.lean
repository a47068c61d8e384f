import PyProof.Rows.All
import Wide.All
import OpenK.AllK
import Wide.FinOn
import HandS.ForMost
import HandS.Flow
import HandS.Star
import HandS.TupAny
import HandS.Wide
import HandS.WideBits
import HandS.Style
import HandS.IsInst
import HandS.Deep
import HandS.DictComp
import HandS.RaiseMore
import PyProof.StrBlock2
import HandS.SortInts
import HandS.Small
import HandS.Walk
import HandS.RevRange
import KE.KDictZip
import KE.GoesMore
import KE.GoesZip
import PyProof.Rows.SortShellAny
import PyProof.CollectStr
import HandS.EndBits
import HandS.SetTxt0
import HandS.SetFor
import HandS.TupSets
import PyProof.ReprRoads
import PyProof.CallFns
import PyProof.ListStr
import PyProof.Rows.RegFStrParts
import PyProof.Rows.StrJoinMade
import PyProof.Rows.StrDigitsNeg
import HandS.Replace
import PyProof.InstNe
import KE.KCallOwn
import HandS.TupLe
import HandS.TryOnly
import PySem.Challenge.RW_gapkinds_k75_whole_rules_put_together
set_option Elab.async false
set_option linter.all false
set_option maxRecDepth 100000
set_option maxHeartbeats 4000000
/-! GK1: values as trees, what represents them in an abstract heap, how heaps grow. -/
namespace GK
open PySem L2

def S (l : List Nat) : Str := ⟨l.toArray⟩
/-- a value as a tree; o: owned (may be changed), else frozen -/
inductive T where
  | non | bl (b : Bool) | int (i : Int) | str (s : List Nat)
  | tup (xs : List T)
  | lst (o : Bool) (xs : List T)
  | scr (xs : List T)
  | dic (o : Bool) (kvs : List (Key × T))
  | obj (o : Bool) (c : String) (fs : List (String × T))

abbrev FP := Addr → Prop
abbrev F0 : FP := fun _ => False

mutual
/-- v stands for the frozen tree t in H -/
inductive Fz (K : PySem.W.Frag) (mg : Str → Option Value) (H : Hp) : V → T → Prop
  | non : Fz K mg H .non .non
  | bl (b : Bool) : Fz K mg H (.bl b) (.bl b)
  | int (i : Int) : Fz K mg H (.int i) (.int i)
  | str (s : List Nat) : Fz K mg H (.str (S s)) (.str s)
  | tup {a : Addr} {vs : List V} {ts : List T} : SqT K H a vs → Fzs K mg H vs ts → Fz K mg H (.ref a) (.tup ts)
  | lst {a : Addr} {vs : List V} {ts : List T} : H a = some (.lst vs) → Fzs K mg H vs ts → Fz K mg H (.ref a) (.lst false ts)
  | scr {a : Addr} {vs : List V} {ts : List T} : SqL K H a vs → Fzs K mg H vs ts → Fz K mg H (.ref a) (.scr ts)
  | dic {a : Addr} {vs : List (Key × V)} {ts : List (Key × T)} : H a = some (.dK vs) → (vs.map (·.1)).Nodup → FzA K mg H vs ts → Fz K mg H (.ref a) (.dic false ts)
  | obj {a C dx : Addr} {c : String} {vs : List (Str × V)} {ts : List (String × T)} : H a = some (.ins C dx vs) → mg (Str.ofString c) = some (.ref C) → FzF K mg H vs ts → Fz K mg H (.ref a) (.obj false c ts)
inductive Fzs (K : PySem.W.Frag) (mg : Str → Option Value) (H : Hp) : List V → List T → Prop
  | nil : Fzs K mg H [] []
  | cons {v : V} {t : T} {vs : List V} {ts : List T} : Fz K mg H v t → Fzs K mg H vs ts → Fzs K mg H (v :: vs) (t :: ts)
inductive FzA (K : PySem.W.Frag) (mg : Str → Option Value) (H : Hp) : List (Key × V) → List (Key × T) → Prop
  | nil : FzA K mg H [] []
  | cons {k : Key} {v : V} {t : T} {vs : List (Key × V)} {ts : List (Key × T)} : Fz K mg H v t → FzA K mg H vs ts → FzA K mg H ((k, v) :: vs) ((k, t) :: ts)
inductive FzF (K : PySem.W.Frag) (mg : Str → Option Value) (H : Hp) : List (Str × V) → List (String × T) → Prop
  | nil : FzF K mg H [] []
  | cons {k : String} {v : V} {t : T} {vs : List (Str × V)} {ts : List (String × T)} : Fz K mg H v t → FzF K mg H vs ts → FzF K mg H ((Str.ofString k, v) :: vs) ((k, t) :: ts)
end

theorem Same.seqT {K : PySem.W.Frag} {H H' : Hp} {a : Addr} {xs : List V} (e : Same H H') (h : SqT K H a xs) : SqT K H' a xs := by
  rcases h with (h | ⟨o, h⟩) | h
  · exact .inl (.inl (e _ _ h))
  · exact .inl (.inr ⟨o, e _ _ h⟩)
  · exact .inr h

section
variable {K : PySem.W.Frag} {mg : Str → Option Value} {H H' H1 H1' H2 H2' : Hp}
mutual
theorem Fz.mono (e : Same H H') : ∀ {v : V} {t : T}, Fz K mg H v t → Fz K mg H' v t
  | _, _, .non => .non
  | _, _, .bl b => .bl b
  | _, _, .int i => .int i
  | _, _, .str s => .str s
  | _, _, .tup h r => .tup (Same.seqT e h) (Fzs.mono e r)
  | _, _, .lst h r => .lst (e _ _ h) (Fzs.mono e r)
  | _, _, .scr h r => .scr (e.seq h) (Fzs.mono e r)
  | _, _, .dic h n r => .dic (e _ _ h) n (FzA.mono e r)
  | _, _, .obj h m r => .obj (e _ _ h) m (FzF.mono e r)
theorem Fzs.mono (e : Same H H') : ∀ {v : List V} {t : List T}, Fzs K mg H v t → Fzs K mg H' v t
  | _, _, .nil => .nil
  | _, _, .cons h r => .cons (Fz.mono e h) (Fzs.mono e r)
theorem FzA.mono (e : Same H H') : ∀ {v : List (Key × V)} {t : List (Key × T)}, FzA K mg H v t → FzA K mg H' v t
  | _, _, .nil => .nil
  | _, _, .cons h r => .cons (Fz.mono e h) (FzA.mono e r)
theorem FzF.mono (e : Same H H') : ∀ {v : List (Str × V)} {t : List (String × T)}, FzF K mg H v t → FzF K mg H' v t
  | _, _, .nil => .nil
  | _, _, .cons h r => .cons (Fz.mono e h) (FzF.mono e r)
end
end

mutual
/-- v stands for t in H, its frozen parts in H1 (a part of H), its owned objects being those of F, none of which is in H1 -/
inductive Rep (K : PySem.W.Frag) (mg : Str → Option Value) (H1 H : Hp) : V → T → FP → Prop
  | sh {v : V} {t : T} : Fz K mg H1 v t → Rep K mg H1 H v t F0
  | lst {a : Addr} {vs : List V} {ts : List T} {F : FP} : H a = some (.lst vs) → H1 a = none → Reps K mg H1 H vs ts F → ¬ F a → Rep K mg H1 H (.ref a) (.lst true ts) (fun b => b = a ∨ F b)
  | dic {a : Addr} {vs : List (Key × V)} {ts : List (Key × T)} {F : FP} : H a = some (.dK vs) → H1 a = none → (vs.map (·.1)).Nodup → RepA K mg H1 H vs ts F → ¬ F a → Rep K mg H1 H (.ref a) (.dic true ts) (fun b => b = a ∨ F b)
  | obj {a C dx : Addr} {c : String} {vs : List (Str × V)} {ts : List (String × T)} {F : FP} : H a = some (.ins C dx vs) → H1 a = none → mg (Str.ofString c) = some (.ref C) → RepF K mg H1 H vs ts F → ¬ F a → Rep K mg H1 H (.ref a) (.obj true c ts) (fun b => b = a ∨ F b)
inductive Reps (K : PySem.W.Frag) (mg : Str → Option Value) (H1 H : Hp) : List V → List T → FP → Prop
  | nil : Reps K mg H1 H [] [] F0
  | cons {v : V} {t : T} {vs : List V} {ts : List T} {F G : FP} : Rep K mg H1 H v t F → Reps K mg H1 H vs ts G → (∀ b, F b → ¬ G b) → Reps K mg H1 H (v :: vs) (t :: ts) (fun b => F b ∨ G b)
inductive RepA (K : PySem.W.Frag) (mg : Str → Option Value) (H1 H : Hp) : List (Key × V) → List (Key × T) → FP → Prop
  | nil : RepA K mg H1 H [] [] F0
  | cons {k : Key} {v : V} {t : T} {vs : List (Key × V)} {ts : List (Key × T)} {F G : FP} : Rep K mg H1 H v t F → RepA K mg H1 H vs ts G → (∀ b, F b → ¬ G b) → RepA K mg H1 H ((k, v) :: vs) ((k, t) :: ts) (fun b => F b ∨ G b)
inductive RepF (K : PySem.W.Frag) (mg : Str → Option Value) (H1 H : Hp) : List (Str × V) → List (String × T) → FP → Prop
  | nil : RepF K mg H1 H [] [] F0
  | cons {k : String} {v : V} {t : T} {vs : List (Str × V)} {ts : List (String × T)} {F G : FP} : Rep K mg H1 H v t F → RepF K mg H1 H vs ts G → (∀ b, F b → ¬ G b) → RepF K mg H1 H ((Str.ofString k, v) :: vs) ((k, t) :: ts) (fun b => F b ∨ G b)
end

section
variable {K : PySem.W.Frag} {mg : Str → Option Value} {H H' H1 H1' H2 H2' : Hp}
mutual
/-- what F has is owned -/
theorem Rep.own : ∀ {v : V} {t : T} {F : FP}, Rep K mg H1 H v t F → ∀ b, F b → H1 b = none ∧ ∃ o, H b = some o
  | _, _, _, .sh _, b, h => h.elim
  | _, _, _, .lst h n r _, b, q => q.elim (fun e => by subst e; exact ⟨n, _, h⟩) (fun q => Reps.own r b q)
  | _, _, _, .dic h n _ r _, b, q => q.elim (fun e => by subst e; exact ⟨n, _, h⟩) (fun q => RepA.own r b q)
  | _, _, _, .obj h n _ r _, b, q => q.elim (fun e => by subst e; exact ⟨n, _, h⟩) (fun q => RepF.own r b q)
theorem Reps.own : ∀ {v : List V} {t : List T} {F : FP}, Reps K mg H1 H v t F → ∀ b, F b → H1 b = none ∧ ∃ o, H b = some o
  | _, _, _, .nil, b, h => h.elim
  | _, _, _, .cons r s _, b, q => q.elim (fun q => Rep.own r b q) (fun q => Reps.own s b q)
theorem RepA.own : ∀ {v : List (Key × V)} {t : List (Key × T)} {F : FP}, RepA K mg H1 H v t F → ∀ b, F b → H1 b = none ∧ ∃ o, H b = some o
  | _, _, _, .nil, b, h => h.elim
  | _, _, _, .cons r s _, b, q => q.elim (fun q => Rep.own r b q) (fun q => RepA.own s b q)
theorem RepF.own : ∀ {v : List (Str × V)} {t : List (String × T)} {F : FP}, RepF K mg H1 H v t F → ∀ b, F b → H1 b = none ∧ ∃ o, H b = some o
  | _, _, _, .nil, b, h => h.elim
  | _, _, _, .cons r s _, b, q => q.elim (fun q => Rep.own r b q) (fun q => RepF.own s b q)
end
mutual
/-- the frame -/
theorem Rep.frame (e : Same H1 H1') : ∀ {v : V} {t : T} {F : FP}, Rep K mg H1 H v t F → (∀ b, F b → H' b = H b ∧ H1' b = none) → Rep K mg H1' H' v t F
  | _, _, _, .sh h, _ => .sh (h.mono e)
  | _, _, _, .lst h n r d, k => .lst ((k _ (.inl rfl)).1.trans h) (k _ (.inl rfl)).2 (Reps.frame e r fun b q => k b (.inr q)) d
  | _, _, _, .dic h n m r d, k => .dic ((k _ (.inl rfl)).1.trans h) (k _ (.inl rfl)).2 m (RepA.frame e r fun b q => k b (.inr q)) d
  | _, _, _, .obj h n m r d, k => .obj ((k _ (.inl rfl)).1.trans h) (k _ (.inl rfl)).2 m (RepF.frame e r fun b q => k b (.inr q)) d
theorem Reps.frame (e : Same H1 H1') : ∀ {v : List V} {t : List T} {F : FP}, Reps K mg H1 H v t F → (∀ b, F b → H' b = H b ∧ H1' b = none) → Reps K mg H1' H' v t F
  | _, _, _, .nil, _ => .nil
  | _, _, _, .cons r s d, k => .cons (Rep.frame e r fun b q => k b (.inl q)) (Reps.frame e s fun b q => k b (.inr q)) d
theorem RepA.frame (e : Same H1 H1') : ∀ {v : List (Key × V)} {t : List (Key × T)} {F : FP}, RepA K mg H1 H v t F → (∀ b, F b → H' b = H b ∧ H1' b = none) → RepA K mg H1' H' v t F
  | _, _, _, .nil, _ => .nil
  | _, _, _, .cons r s d, k => .cons (Rep.frame e r fun b q => k b (.inl q)) (RepA.frame e s fun b q => k b (.inr q)) d
theorem RepF.frame (e : Same H1 H1') : ∀ {v : List (Str × V)} {t : List (String × T)} {F : FP}, RepF K mg H1 H v t F → (∀ b, F b → H' b = H b ∧ H1' b = none) → RepF K mg H1' H' v t F
  | _, _, _, .nil, _ => .nil
  | _, _, _, .cons r s d, k => .cons (Rep.frame e r fun b q => k b (.inl q)) (RepF.frame e s fun b q => k b (.inr q)) d
end
end

/-! ### freezing -/
mutual
def T.fz : T → T
  | .tup xs => .tup xs
  | .lst true xs => .lst false (T.fzs xs)
  | .dic true kvs => .dic false (T.fzA kvs)
  | .obj true c fs => .obj false c (T.fzF fs)
  | t => t
def T.fzs : List T → List T
  | [] => []
  | t :: r => t.fz :: T.fzs r
def T.fzA : List (Key × T) → List (Key × T)
  | [] => []
  | (k, t) :: r => (k, t.fz) :: T.fzA r
def T.fzF : List (String × T) → List (String × T)
  | [] => []
  | (k, t) :: r => (k, t.fz) :: T.fzF r
end
/-- frozen (a leaf, or a frozen node) -/
def T.sh : T → Bool
  | .lst o _ => !o
  | .dic o _ => !o
  | .obj o _ _ => !o
  | _ => true
theorem T.fz_sh : ∀ {t : T}, t.sh = true → t.fz = t
  | .non, _ => by simp [T.fz]
  | .bl _, _ => by simp [T.fz]
  | .int _, _ => by simp [T.fz]
  | .str _, _ => by simp [T.fz]
  | .tup _, _ => by simp [T.fz]
  | .scr _, _ => by simp [T.fz]
  | .lst false _, _ => by simp [T.fz]
  | .dic false _, _ => by simp [T.fz]
  | .obj false _ _, _ => by simp [T.fz]
  | .lst true _, h => by simp [T.sh] at h
  | .dic true _, h => by simp [T.sh] at h
  | .obj true _ _, h => by simp [T.sh] at h
section
variable {K : PySem.W.Frag} {mg : Str → Option Value} {H H' H1 H1' H2 H2' : Hp}
theorem Fz.isSh {v : V} {t : T} (h : Fz K mg H v t) : t.sh = true := by cases h <;> rfl
theorem Rep.fzOf {v : V} {t : T} {F : FP} (h : Rep K mg H1 H v t F) (e : t.sh = true) : Fz K mg H1 v t := by
  cases h with
  | sh h => exact h
  | lst => simp [T.sh] at e
  | dic => simp [T.sh] at e
  | obj => simp [T.sh] at e
/-- H1 and what H has at F -/
noncomputable def join (H1 H : Hp) (F : FP) : Hp := fun a => open Classical in if F a then H a else H1 a
theorem join_in {F : FP} {a : Addr} (h : F a) : join H1 H F a = H a := by unfold join; rw [if_pos h]
theorem join_out {F : FP} {a : Addr} (h : ¬ F a) : join H1 H F a = H1 a := by unfold join; rw [if_neg h]
theorem join_same {F : FP} (h : ∀ b, F b → H1 b = none) : Same H1 (join H1 H F) := fun b o e => by
  by_cases q : F b
  · rw [h b q] at e; cases e
  · rw [join_out q]; exact e
theorem join_sub {F : FP} (s : Same H1 H) : Same (join H1 H F) H := fun b o e => by
  by_cases q : F b
  · rw [join_in q] at e; exact e
  · rw [join_out q] at e; exact s b o e
mutual
theorem Rep.freeze (s : Same H1 H2) : ∀ {v : V} {t : T} {F : FP}, Rep K mg H1 H v t F → (∀ b, F b → H2 b = H b) → Fz K mg H2 v t.fz
  | _, _, _, .sh h, _ => by rw [T.fz_sh h.isSh]; exact h.mono s
  | _, _, _, .lst h n r d, k => by
    simp only [T.fz]
    exact .lst ((k _ (.inl rfl)).trans h) (Reps.freeze s r fun b q => k b (.inr q))
  | _, _, _, .dic h n m r d, k => by
    simp only [T.fz]
    exact .dic ((k _ (.inl rfl)).trans h) m (RepA.freeze s r fun b q => k b (.inr q))
  | _, _, _, .obj h n m r d, k => by
    simp only [T.fz]
    exact .obj ((k _ (.inl rfl)).trans h) m (RepF.freeze s r fun b q => k b (.inr q))
theorem Reps.freeze (s : Same H1 H2) : ∀ {v : List V} {t : List T} {F : FP}, Reps K mg H1 H v t F → (∀ b, F b → H2 b = H b) → Fzs K mg H2 v (T.fzs t)
  | _, _, _, .nil, _ => .nil
  | _, _, _, .cons r q d, k => .cons (Rep.freeze s r fun b q => k b (.inl q)) (Reps.freeze s q fun b q => k b (.inr q))
theorem RepA.freeze (s : Same H1 H2) : ∀ {v : List (Key × V)} {t : List (Key × T)} {F : FP}, RepA K mg H1 H v t F → (∀ b, F b → H2 b = H b) → FzA K mg H2 v (T.fzA t)
  | _, _, _, .nil, _ => .nil
  | _, _, _, .cons r q d, k => .cons (Rep.freeze s r fun b q => k b (.inl q)) (RepA.freeze s q fun b q => k b (.inr q))
theorem RepF.freeze (s : Same H1 H2) : ∀ {v : List (Str × V)} {t : List (String × T)} {F : FP}, RepF K mg H1 H v t F → (∀ b, F b → H2 b = H b) → FzF K mg H2 v (T.fzF t)
  | _, _, _, .nil, _ => .nil
  | _, _, _, .cons r q d, k => .cons (Rep.freeze s r fun b q => k b (.inl q)) (RepF.freeze s q fun b q => k b (.inr q))
end
end

/-! ### environments -/
abbrev Env := List (Option T)
inductive RepE (K : PySem.W.Frag) (mg : Str → Option Value) (H1 H : Hp) : L2.St → Env → FP → Prop
  | nil : RepE K mg H1 H [] [] F0
  | no {x : Option V} {σ : L2.St} {env : Env} {F : FP} : RepE K mg H1 H σ env F → RepE K mg H1 H (x :: σ) (none :: env) F
  | cons {v : V} {t : T} {σ : L2.St} {env : Env} {F G : FP} : Rep K mg H1 H v t F → RepE K mg H1 H σ env G → (∀ b, F b → ¬ G b) → RepE K mg H1 H (some v :: σ) (some t :: env) (fun b => F b ∨ G b)
section
variable {K : PySem.W.Frag} {mg : Str → Option Value} {H H' H1 H1' H2 H2' : Hp} {σ : L2.St} {env : Env} {F : FP}
theorem RepE.own : ∀ {σ : L2.St} {env : Env} {F : FP}, RepE K mg H1 H σ env F → ∀ b, F b → H1 b = none ∧ ∃ o, H b = some o
  | _, _, _, .nil, b, h => h.elim
  | _, _, _, .no r, b, h => RepE.own r b h
  | _, _, _, .cons r s _, b, h => h.elim (fun h => r.own b h) fun h => RepE.own s b h
theorem RepE.frame (e : Same H1 H1') : ∀ {σ : L2.St} {env : Env} {F : FP}, RepE K mg H1 H σ env F → (∀ b, F b → H' b = H b ∧ H1' b = none) → RepE K mg H1' H' σ env F
  | _, _, _, .nil, _ => .nil
  | _, _, _, .no r, k => .no (RepE.frame e r k)
  | _, _, _, .cons r s d, k => .cons (r.frame e fun b q => k b (.inl q)) (RepE.frame e s fun b q => k b (.inr q)) d
theorem RepE.len : ∀ {σ : L2.St} {env : Env} {F : FP}, RepE K mg H1 H σ env F → σ.length = env.length
  | _, _, _, .nil => rfl
  | _, _, _, .no r => by rw [List.length_cons, List.length_cons, RepE.len r]
  | _, _, _, .cons _ r _ => by rw [List.length_cons, List.length_cons, RepE.len r]
/-- a slot taken out -/
theorem RepE.take : ∀ {σ : L2.St} {env : Env} {F : FP} {i : Nat} {t : T}, RepE K mg H1 H σ env F → env[i]? = some (some t) →
    ∃ v Fi G, σ[i]? = some (some v) ∧ Rep K mg H1 H v t Fi ∧ RepE K mg H1 H σ (env.set i none) G ∧ (∀ b, Fi b → ¬ G b) ∧ (∀ b, Fi b → F b) ∧ (∀ b, G b → F b)
  | _, _, _, i, t, .nil, h => by simp at h
  | _, _, _, 0, t, .no r, h => by simp at h
  | _, _, _, i + 1, t, .no (x := x) r, h => by
    obtain ⟨v, Fi, G, e, a, b, c, d1, d2⟩ := RepE.take (i := i) (t := t) r (by simpa using h)
    exact ⟨v, Fi, G, by simpa using e, a, by simpa using RepE.no b, c, d1, d2⟩
  | _, _, _, 0, t, .cons (v := v) (F := F) (G := G) r s d, h => by
    simp at h
    subst h
    exact ⟨v, F, G, rfl, r, .no s, d, fun b q => .inl q, fun b q => .inr q⟩
  | _, _, _, i + 1, t, .cons (v := v) (F := F) (G := G) r s d, h => by
    obtain ⟨v', Fi, G', e, a, b, c, d1, d2⟩ := RepE.take (i := i) (t := t) s (by simpa using h)
    exact ⟨v', Fi, _, by simpa using e, a, by simpa using RepE.cons r b (fun x q z => d x q (d2 x z)), fun x q (z : _ ∨ _) => z.elim (fun z => d x z (d1 x q)) (c x q), fun x q => .inr (d1 x q), fun x q => q.elim .inl fun q => .inr (d2 x q)⟩
/-- a slot forgotten -/
theorem RepE.drop : ∀ {σ : L2.St} {env : Env} {F : FP} (i : Nat) (x : Option V), RepE K mg H1 H σ env F → ∃ G, RepE K mg H1 H (σ.set i x) (env.set i none) G ∧ (∀ b, G b → F b)
  | _, _, _, i, x, .nil => ⟨F0, .nil, fun _ h => h⟩
  | _, _, _, 0, x, .no r => ⟨_, .no r, fun _ h => h⟩
  | _, _, _, i + 1, x, .no r => by
    obtain ⟨G, a, b⟩ := RepE.drop i x r
    exact ⟨G, .no a, b⟩
  | _, _, _, 0, x, .cons r s d => ⟨_, .no s, fun b h => .inr h⟩
  | _, _, _, i + 1, x, .cons r s d => by
    obtain ⟨G, a, b⟩ := RepE.drop i x s
    exact ⟨_, .cons r a fun x q z => d x q (b x z), fun x q => q.elim .inl fun q => .inr (b x q)⟩
/-- a slot filled -/
theorem RepE.put : ∀ {σ : L2.St} {env : Env} {G : FP} {i : Nat} {v : V} {t : T} {F : FP}, RepE K mg H1 H σ env G → i < env.length → Rep K mg H1 H v t F → (∀ b, F b → ¬ G b) →
    ∃ F', RepE K mg H1 H (σ.set i (some v)) (env.set i (some t)) F' ∧ (∀ b, F' b → F b ∨ G b)
  | _, _, _, i, v, t, F, .nil, h, _, _ => by simp at h
  | _, _, _, 0, v, t, F, .no r, h, p, d => ⟨_, .cons p r d, fun _ q => q⟩
  | _, _, _, i + 1, v, t, F, .no r, h, p, d => by
    obtain ⟨F', a, b⟩ := RepE.put (i := i) r (by simpa using h) p d
    exact ⟨F', .no a, b⟩
  | _, _, _, 0, v, t, F, .cons r s q, h, p, d => ⟨_, .cons p s fun b x z => d b x (.inr z), fun _ q => q.elim .inl fun q => .inr (.inr q)⟩
  | _, _, _, i + 1, v, t, F, .cons r s q, h, p, d => by
    obtain ⟨F', a, b⟩ := RepE.put (i := i) s (by simpa using h) p fun b x z => d b x (.inr z)
    exact ⟨_, .cons r a fun x y z => (b x z).elim (fun z => d x z (.inl y)) (q x y), fun x y => y.elim (fun y => .inr (.inl y)) fun y => (b x y).elim .inl fun y => .inr (.inr y)⟩
theorem RepE.get {i : Nat} {t : T} (h : RepE K mg H1 H σ env F) (e : env[i]? = some (some t)) : ∃ v Fi, σ[i]? = some (some v) ∧ Rep K mg H1 H v t Fi ∧ (∀ b, Fi b → F b) := by
  obtain ⟨v, Fi, G, a, b, c, d, e1, e2⟩ := h.take e
  exact ⟨v, Fi, a, b, e1⟩
/-- a slot's value changed where it stands -/
theorem RepE.weak : ∀ {σ : L2.St} {env : Env} {F : FP} (i : Nat), RepE K mg H1 H σ env F → ∃ G, RepE K mg H1 H σ (env.set i none) G ∧ (∀ b, G b → F b)
  | _, _, _, i, .nil => ⟨F0, .nil, fun _ h => h⟩
  | _, _, _, 0, .no r => ⟨_, .no r, fun _ h => h⟩
  | _, _, _, i + 1, .no r => by
    obtain ⟨G, a, b⟩ := RepE.weak i r
    exact ⟨G, .no a, b⟩
  | _, _, _, 0, .cons r s d => ⟨_, .no s, fun b h => .inr h⟩
  | _, _, _, i + 1, .cons r s d => by
    obtain ⟨G, a, b⟩ := RepE.weak i s
    exact ⟨_, .cons r a fun x q z => d x q (b x z), fun x q => q.elim .inl fun q => .inr (b x q)⟩
end

/-! ### how the heaps grow -/
/-- from (H1, H) to (H1', H'): what is not owned (F) stands; F' is of F, or new -/
structure Ext (H1 H : Hp) (F : FP) (H1' H' : Hp) (F' : FP) : Prop where
  s1 : Same H1 H1'
  sub : Same H1' H'
  keep : ∀ a o, H a = some o → ¬ F a → H' a = some o
  foot : ∀ a, F' a → F a ∨ H a = none
  new1 : ∀ a o, H1' a = some o → (∃ o', H1 a = some o') ∨ F a ∨ H a = none
section
variable {K : PySem.W.Frag} {mg : Str → Option Value} {H H' H1 H1' H2 H2' : Hp} {σ : L2.St} {env : Env} {F F' F'' G : FP}
theorem none_or (H : Hp) (a : Addr) : H a = none ∨ ∃ o, H a = some o := by
  cases e : H a with
  | none => exact .inl rfl
  | some o => exact .inr ⟨o, rfl⟩
theorem Ext.refl (s : Same H1 H) : Ext H1 H F H1 H F := ⟨Same.refl _, s, fun _ _ h _ => h, fun _ h => .inl h, fun _ o h => .inl ⟨o, h⟩⟩
theorem Ext.trans (a : Ext H1 H F H1' H' F') (b : Ext H1' H' F' H2 H2' F'') : Ext H1 H F H2 H2' F'' := by
  have back : ∀ x, H' x = none → H x = none ∨ F x := fun x e => by
    by_cases q : F x
    · exact .inr q
    · rcases none_or H x with h | ⟨o, h⟩
      · exact .inl h
      · rw [a.keep x o h q] at e; cases e
  refine ⟨a.s1.trans b.s1, b.sub, fun x o h n => b.keep x o (a.keep x o h n) fun q => ?_, fun x q => ?_, fun x o q => ?_⟩
  · rcases a.foot x q with z | z
    · exact n z
    · rw [z] at h; cases h
  · rcases b.foot x q with z | z
    · exact a.foot x z
    · exact (back x z).symm
  · rcases b.new1 x o q with ⟨o', z⟩ | z | z
    · exact a.new1 x o' z
    · exact .inr (a.foot x z)
    · exact .inr (back x z).symm
/-- less is claimed -/
theorem Ext.less (a : Ext H1 H F H1' H' F') (h : ∀ b, F'' b → F' b) : Ext H1 H F H1' H' F'' := ⟨a.s1, a.sub, a.keep, fun b q => a.foot b (h b q), a.new1⟩
theorem Ext.more (a : Ext H1 H F H1' H' F') (h : ∀ b, F b → G b) : Ext H1 H G H1' H' F' :=
  ⟨a.s1, a.sub, fun b o e n => a.keep b o e fun q => n (h b q), fun b q => (a.foot b q).imp (h b) id, fun b o q => (a.new1 b o q).imp id fun z => z.imp (h b) id⟩
theorem Ext.base (a : Ext H1 H F H1' H' F') (h : ∀ b, ¬ F b) : Ext H1 H F0 H1' H' F' := ⟨a.s1, a.sub, fun b o e _ => a.keep b o e (h b), fun b q => (a.foot b q).imp (h b) id, fun b o q => (a.new1 b o q).imp id fun z => z.imp (h b) id⟩
/-- something apart is kept (G: owned, apart from F) -/
theorem Ext.apart (a : Ext H1 H F H1' H' F') (ow : ∀ b, G b → H1 b = none ∧ ∃ o, H b = some o) (d : ∀ b, G b → ¬ F b) : (∀ b, G b → H' b = H b ∧ H1' b = none) ∧ ∀ b, G b → ¬ F' b := by
  refine ⟨fun b g => ?_, fun b g q => ?_⟩
  · obtain ⟨n, o, e⟩ := ow b g
    refine ⟨(a.keep b o e (d b g)).trans e.symm, ?_⟩
    rcases none_or H1' b with h | ⟨o', h⟩
    · exact h
    · rcases a.new1 b o' h with ⟨_, z⟩ | z | z
      · rw [n] at z; cases z
      · exact absurd z (d b g)
      · rw [e] at z; cases z
  · obtain ⟨n, o, e⟩ := ow b g
    rcases a.foot b q with z | z
    · exact d b g z
    · rw [e] at z; cases z
theorem Ext.rep {v : V} {t : T} (a : Ext H1 H F H1' H' F') (r : Rep K mg H1 H v t G) (d : ∀ b, G b → ¬ F b) : Rep K mg H1' H' v t G ∧ ∀ b, G b → ¬ F' b :=
  let ⟨k, n⟩ := a.apart r.own d
  ⟨r.frame a.s1 k, n⟩
theorem Ext.reps {v : List V} {t : List T} (a : Ext H1 H F H1' H' F') (r : Reps K mg H1 H v t G) (d : ∀ b, G b → ¬ F b) : Reps K mg H1' H' v t G ∧ ∀ b, G b → ¬ F' b :=
  let ⟨k, n⟩ := a.apart r.own d
  ⟨r.frame a.s1 k, n⟩
theorem Ext.repE (a : Ext H1 H F H1' H' F') (r : RepE K mg H1 H σ env G) (d : ∀ b, G b → ¬ F b) : RepE K mg H1' H' σ env G ∧ ∀ b, G b → ¬ F' b :=
  let ⟨k, n⟩ := a.apart r.own d
  ⟨r.frame a.s1 k, n⟩
/-- a quiet step: nothing that stood is changed -/
theorem Ext.qRep {v : V} {t : T} (a : Ext H1 H F0 H1' H' F') (r : Rep K mg H1 H v t G) : Rep K mg H1' H' v t G := (a.rep r fun _ _ h => h).1
theorem Ext.qRepE (a : Ext H1 H F0 H1' H' F') (r : RepE K mg H1 H σ env G) : RepE K mg H1' H' σ env G := (a.repE r fun _ _ h => h).1
/-- a new frozen object -/
theorem Ext.newS {p : Addr} {o : HO} (s : Same H1 H) (n : H p = none) : Ext H1 H F (upd H1 p o) (upd H p o) F := by
  have n1 : H1 p = none := s.free n
  refine ⟨fun b u e => by rw [upd_ne (ne_of_none e n1)]; exact e, fun b u e => ?_, fun b u e _ => by rw [upd_ne (ne_of_none e n)]; exact e, fun _ q => .inl q, fun b u e => ?_⟩
  · by_cases h : b = p
    · subst h; rw [upd_same] at e ⊢; exact e
    · rw [upd_ne h] at e ⊢; exact s b u e
  · by_cases h : b = p
    · subst h; exact .inr (.inr n)
    · rw [upd_ne h] at e; exact .inl ⟨u, e⟩
/-- a new owned object -/
theorem Ext.newO {p : Addr} {o : HO} (s : Same H1 H) (n : H p = none) : Ext H1 H F H1 (upd H p o) (fun b => b = p ∨ F b) :=
  ⟨Same.refl _, fun b u e => by rw [upd_ne (ne_of_none (s b u e) n)]; exact s b u e, fun b u e _ => by rw [upd_ne (ne_of_none e n)]; exact e, fun b q => q.elim (fun e => .inr (by rw [e]; exact n)) .inl, fun b u e => .inl ⟨u, e⟩⟩
/-- an owned object is changed -/
theorem Ext.wr {p : Addr} {o : HO} (s : Same H1 H) (n : H1 p = none) (f : F p) : Ext H1 H F H1 (upd H p o) F :=
  ⟨Same.refl _, fun b u e => by rw [upd_ne (ne_of_none e n)]; exact s b u e, fun b u e z => by rw [upd_ne (fun q => z (by rw [q]; exact f))]; exact e, fun b q => .inl q, fun b u e => .inl ⟨u, e⟩⟩
/-- what is owned is frozen -/
theorem Ext.freeze (s : Same H1 H) (ow : ∀ b, G b → H1 b = none) (d : ∀ b, G b → ¬ F' b) (hG : ∀ b, G b → F b) (hF : ∀ b, F' b → F b) : Ext H1 H F (join H1 H G) H F' :=
  ⟨join_same ow, join_sub s, fun _ _ e _ => e, fun b q => .inl (hF b q), fun b o e => by
    by_cases h : G b
    · exact .inr (.inl (hG b h))
    · rw [join_out h] at e; exact .inl ⟨o, e⟩⟩
end
end GK

/-! GK2: judgements; quiet expressions. -/
namespace GK
open PySem L2

section
variable (K : PySem.W.Frag) (mg : Str → Option Value)
/-- an expression that changes nothing that stood: its value is x env, what is new of it is its own -/
def QR (te : TE) (x : Env → Option T) : Prop := ∀ env t, x env = some t → ∀ H1 H σ F, Same H1 H → RepE K mg H1 H σ env F → ∀ Q : VK,
  (∀ v H1' H' Ft, Ext H1 H F0 H1' H' Ft → Rep K mg H1' H' v t Ft → Q v H') → te σ H Q
/-- .. whose value may be a part of the environment: to be used at once -/
def KR (te : TE) (x : Env → Option T) : Prop := ∀ env t, x env = some t → ∀ H1 H σ F, Same H1 H → RepE K mg H1 H σ env F → ∀ Q : VK,
  (∀ v H1' H' G, Ext H1 H F0 H1' H' F0 → Rep K mg H1' H' v t G → Q v H') → te σ H Q
def TR (tt : TT) (c : Env → Option Bool) : Prop := ∀ env b, c env = some b → ∀ H1 H σ F, Same H1 H → RepE K mg H1 H σ env F → ∀ Q : Bool → Hp → Prop,
  (∀ H1' H', Ext H1 H F0 H1' H' F0 → Q b H') → tt σ H Q
def QRA (ta : TA) (x : Env → Option (List T)) : Prop := ∀ env ts, x env = some ts → ∀ H1 H σ F, Same H1 H → RepE K mg H1 H σ env F → ∀ Q : List V → Hp → Prop,
  (∀ vs H1' H' Ft, Ext H1 H F0 H1' H' Ft → Reps K mg H1' H' vs ts Ft → Q vs H') → ta σ H Q
/-- a two-place operation, a one-place one, a call, by values -/
def OpV (r : R2) (f : T → T → Option T) : Prop := ∀ H1 H vx vy tx ty Gx Gy t, Same H1 H → Rep K mg H1 H vx tx Gx → Rep K mg H1 H vy ty Gy → f tx ty = some t → ∀ Q : VK,
  (∀ v H1' H' Ft, Ext H1 H F0 H1' H' Ft → Rep K mg H1' H' v t Ft → Q v H') → r vx vy H Q
def UnV (r : V → Hp → VK → Prop) (f : T → Option T) : Prop := ∀ H1 H vx tx Gx t, Same H1 H → Rep K mg H1 H vx tx Gx → f tx = some t → ∀ Q : VK,
  (∀ v H1' H' Ft, Ext H1 H F0 H1' H' Ft → Rep K mg H1' H' v t Ft → Q v H') → r vx H Q
def CallV (r : List V → Hp → VK → Prop) (f : List T → Option T) : Prop := ∀ H1 H vs ts G t, Same H1 H → Reps K mg H1 H vs ts G → f ts = some t → ∀ Q : VK,
  (∀ v H1' H' Ft, Ext H1 H F0 H1' H' Ft → Rep K mg H1' H' v t Ft → Q v H') → r vs H Q
end
structure QE (X : Cx) (e : Expr) (te : TE) (x : Env → Option T) : Prop where
  pe : PE X e te
  qr : QR X.K X.mg te x
structure KE (X : Cx) (e : Expr) (te : TE) (x : Env → Option T) : Prop where
  pe : PE X e te
  kr : KR X.K X.mg te x
structure CE (X : Cx) (op : CmpOp) (a b : Expr) (te : TE) (x : Env → Option T) : Prop where
  pc : PC X op a b te
  qr : QR X.K X.mg te x
structure TE' (X : Cx) (e : Expr) (tt : TT) (c : Env → Option Bool) : Prop where
  pt : PT X e tt
  tr : TR X.K X.mg tt c
structure QA (X : Cx) (es : List Expr) (ta : TA) (x : Env → Option (List T)) : Prop where
  pa : PA X es ta
  qr : QRA X.K X.mg ta x

section
variable {K : PySem.W.Frag} {mg : Str → Option Value}
theorem QR.k {te : TE} {x : Env → Option T} (h : QR K mg te x) : KR K mg te x := fun env t e H1 H σ F s R Q q =>
  h env t e H1 H σ F s R Q fun v H1' H' Ft x r => q v H1' H' Ft (x.less fun _ z => z.elim) r
/-- a value at hand -/
theorem now {H1 H : Hp} {v : V} {t : T} {Q : VK} (s : Same H1 H) (f : Fz K mg H1 v t) (q : ∀ v H1' H' Ft, Ext H1 H F0 H1' H' Ft → Rep K mg H1' H' v t Ft → Q v H') : Q v H := q v H1 H F0 (Ext.refl s) (.sh f)
/-- a new frozen object, a new owned list -/
theorem newFz {H1 H : Hp} {t : T} {Q : VK} {o : HO} (s : Same H1 H) (f : ∀ p, Same H1 (upd H1 p o) → Fz K mg (upd H1 p o) (.ref p) t) (q : ∀ v H1' H' Ft, Ext H1 H F0 H1' H' Ft → Rep K mg H1' H' v t Ft → Q v H') : ∀ p, H p = none → Q (.ref p) (upd H p o) :=
  fun p n => q _ _ _ F0 (Ext.newS s n) (.sh (f p (Ext.newS (F := F0) s n).s1))
theorem newLst {H1 H : Hp} {vs : List V} {ts : List T} {Q : VK} {F : FP} (s : Same H1 H) (f : Reps K mg H1 H vs ts F) (q : ∀ v H1' H' Ft, Ext H1 H F H1' H' Ft → Rep K mg H1' H' v (.lst true ts) Ft → Q v H') : ∀ p, H p = none → Q (.ref p) (upd H p (.lst vs)) :=
  fun p n => q _ _ _ _ (Ext.newO s n) (.lst upd_same (s.free n) (f.frame (Same.refl _) fun b h => ⟨upd_ne (by rintro rfl; obtain ⟨_, o, e⟩ := f.own _ h; rw [n] at e; cases e), (f.own b h).1⟩) fun h => by obtain ⟨_, o, e⟩ := f.own _ h; rw [n] at e; cases e)
theorem newDic {H1 H : Hp} {Q : VK} (s : Same H1 H) (q : ∀ v H1' H' Ft, Ext H1 H F0 H1' H' Ft → Rep K mg H1' H' v (.dic true []) Ft → Q v H') : ∀ p, H p = none → Q (.ref p) (upd H p (.dK [])) :=
  fun p n => q _ _ _ _ (Ext.newO s n) (.dic upd_same (s.free n) List.nodup_nil .nil fun h => h)
theorem Fzs.len : ∀ {vs : List V} {ts : List T} {H : Hp}, Fzs K mg H vs ts → vs.length = ts.length
  | _, _, _, .nil => rfl
  | _, _, _, .cons _ r => by rw [List.length_cons, List.length_cons, Fzs.len r]
theorem Reps.len : ∀ {vs : List V} {ts : List T} {H1 H : Hp} {F : FP}, Reps K mg H1 H vs ts F → vs.length = ts.length
  | _, _, _, _, _, .nil => rfl
  | _, _, _, _, _, .cons _ r _ => by rw [List.length_cons, List.length_cons, Reps.len r]
theorem Fzs.reps : ∀ {vs : List V} {ts : List T} {H1 H : Hp}, Fzs K mg H1 vs ts → ∃ F, Reps K mg H1 H vs ts F ∧ ∀ b, ¬ F b
  | _, _, _, _, .nil => ⟨F0, .nil, fun _ h => h⟩
  | _, _, _, _, .cons h r => let ⟨F, a, b⟩ := Fzs.reps r; ⟨_, .cons (.sh h) a (fun _ h => h.elim), fun x y => y.elim id (b x)⟩
theorem Fzs.get : ∀ {vs : List V} {ts : List T} {H : Hp} {i : Nat} {t : T}, Fzs K mg H vs ts → ts[i]? = some t → ∃ v, vs[i]? = some v ∧ Fz K mg H v t
  | _, _, _, i, t, .nil, h => by simp at h
  | _, _, _, 0, t, .cons a r, h => by simp at h; subst h; exact ⟨_, rfl, a⟩
  | _, _, _, i + 1, t, .cons a r, h => by
    obtain ⟨v, e, f⟩ := Fzs.get (i := i) (t := t) r (by simpa using h)
    exact ⟨v, by simpa using e, f⟩
theorem Reps.get : ∀ {vs : List V} {ts : List T} {H1 H : Hp} {F : FP} {i : Nat} {t : T}, Reps K mg H1 H vs ts F → ts[i]? = some t → ∃ v G, vs[i]? = some v ∧ Rep K mg H1 H v t G ∧ ∀ b, G b → F b
  | _, _, _, _, _, i, t, .nil, h => by simp at h
  | _, _, _, _, _, 0, t, .cons a r _, h => by simp at h; subst h; exact ⟨_, _, rfl, a, fun _ h => .inl h⟩
  | _, _, _, _, _, i + 1, t, .cons a r _, h => by
    obtain ⟨v, G, e, f, g⟩ := Reps.get (i := i) (t := t) r (by simpa using h)
    exact ⟨v, G, by simpa using e, f, fun b h => .inr (g b h)⟩
/-- what is at hand of a list, whether owned or frozen -/
theorem Rep.lst' {H1 H : Hp} {v : V} {o : Bool} {ts : List T} {F : FP} (s : Same H1 H) (h : Rep K mg H1 H v (.lst o ts) F) : ∃ a vs G, v = .ref a ∧ H a = some (.lst vs) ∧ Reps K mg H1 H vs ts G := by
  cases h with
  | sh h => cases h with | lst a b => obtain ⟨F, r, _⟩ := b.reps (H := H); exact ⟨_, _, F, rfl, s _ _ a, r⟩
  | lst a b c d => exact ⟨_, _, _, rfl, a, c⟩
def T.items : T → Option (List T)
  | .lst _ xs => some xs
  | .scr xs => some xs
  | _ => none
theorem Rep.list {H1 H : Hp} {v : V} {t : T} {ts : List T} {F : FP} (s : Same H1 H) (h : Rep K mg H1 H v t F) (e : t.items = some ts) : ∃ a vs G, v = .ref a ∧ SqL K H a vs ∧ Reps K mg H1 H vs ts G := by
  cases t with
  | lst o xs => cases e; obtain ⟨a, vs, G, x, y, z⟩ := h.lst' s; exact ⟨a, vs, G, x, .inl (.inl y), z⟩
  | scr xs => cases e; cases h with | sh h => cases h with | scr a b => obtain ⟨F, r, _⟩ := b.reps (H := H); exact ⟨_, _, F, rfl, s.seq a, r⟩
  | _ => cases e
theorem Rep.tuple {H1 H : Hp} {v : V} {ts : List T} {F : FP} (s : Same H1 H) (h : Rep K mg H1 H v (.tup ts) F) : ∃ a vs, v = .ref a ∧ SqT K H a vs ∧ Fzs K mg H1 vs ts := by
  cases h with
  | sh h => cases h with | tup a b => exact ⟨_, _, rfl, Same.seqT s a, b⟩
theorem Rep.intE {H1 H : Hp} {v : V} {i : Int} {F : FP} (h : Rep K mg H1 H v (.int i) F) : v = .int i := by cases h with | sh h => cases h; rfl
theorem Rep.strE {H1 H : Hp} {v : V} {i : List Nat} {F : FP} (h : Rep K mg H1 H v (.str i) F) : v = .str (S i) := by cases h with | sh h => cases h; rfl
theorem Rep.blE {H1 H : Hp} {v : V} {i : Bool} {F : FP} (h : Rep K mg H1 H v (.bl i) F) : v = .bl i := by cases h with | sh h => cases h; rfl
theorem Rep.nonE {H1 H : Hp} {v : V} {F : FP} (h : Rep K mg H1 H v .non F) : v = .non := by cases h with | sh h => cases h; rfl

/-! ### union -/
theorem OpV.or {r r' : R2} {f f' : T → T → Option T} (h : OpV K mg r f) (h' : OpV K mg r' f') : OpV K mg (fun x y H Q => r x y H Q ∨ r' x y H Q) (fun x y => match f x y with | some t => some t | none => f' x y) :=
  fun H1 H vx vy tx ty Gx Gy t s a b e Q q => by
    cases e1 : f tx ty with
    | some t' => dsimp only at e; rw [e1] at e; cases e; exact .inl (h _ _ _ _ _ _ _ _ _ s a b e1 Q q)
    | none => dsimp only at e; rw [e1] at e; exact .inr (h' _ _ _ _ _ _ _ _ _ s a b e Q q)
theorem CallV.or {r r' : List V → Hp → VK → Prop} {f f' : List T → Option T} (h : CallV K mg r f) (h' : CallV K mg r' f') : CallV K mg (fun x H Q => r x H Q ∨ r' x H Q) (fun x => match f x with | some t => some t | none => f' x) :=
  fun H1 H vs ts G t s a e Q q => by
    cases e1 : f ts with
    | some t' => dsimp only at e; rw [e1] at e; cases e; exact .inl (h _ _ _ _ _ _ s a e1 Q q)
    | none => dsimp only at e; rw [e1] at e; exact .inr (h' _ _ _ _ _ _ s a e Q q)
def teOr (te te' : TE) : TE := fun σ H Q => te σ H Q ∨ te' σ H Q
def xOr (x x' : Env → Option T) : Env → Option T := fun env => match x env with | some t => some t | none => x' env
theorem QR.or {te te' : TE} {x x' : Env → Option T} (h : QR K mg te x) (h' : QR K mg te' x') : QR K mg (teOr te te') (xOr x x') :=
  fun env t e H1 H σ F s R Q q => by
    unfold xOr at e
    cases e1 : x env with
    | some t' => rw [e1] at e; cases e; exact .inl (h _ _ e1 _ _ _ _ s R Q q)
    | none => rw [e1] at e; exact .inr (h' _ _ e _ _ _ _ s R Q q)
theorem KR.or {te te' : TE} {x x' : Env → Option T} (h : KR K mg te x) (h' : KR K mg te' x') : KR K mg (teOr te te') (xOr x x') :=
  fun env t e H1 H σ F s R Q q => by
    unfold xOr at e
    cases e1 : x env with
    | some t' => rw [e1] at e; cases e; exact .inl (h _ _ e1 _ _ _ _ s R Q q)
    | none => rw [e1] at e; exact .inr (h' _ _ e _ _ _ _ s R Q q)
end
theorem CallR.or {X : Cx} {f : Value} {r r' : List V → Hp → VK → Prop} (h : CallR X f r) (h' : CallR X f r') : CallR X f (fun x H Q => r x H Q ∨ r' x H Q) := by
  intro pins s σ H xs us Q I rx q
  rcases q with q | q
  · exact h pins s σ H xs us Q I rx q
  · exact h' pins s σ H xs us Q I rx q
theorem PE.or {X : Cx} {e : Expr} {te te' : TE} (h : PE X e te) (h' : PE X e te') : PE X e (teOr te te') := ⟨fun pins s σ H Q I q => q.elim (h.run pins s σ H Q I) (h'.run pins s σ H Q I)⟩
theorem PC.or {X : Cx} {op : CmpOp} {a b : Expr} {te te' : TE} (h : PC X op a b te) (h' : PC X op a b te') : PC X op a b (teOr te te') := ⟨fun pins s σ H Q I q => q.elim (h.run pins s σ H Q I) (h'.run pins s σ H Q I)⟩

section
variable {X : Cx} {e a b : Expr} {te ta tb : TE} {x xa xb : Env → Option T} {pos : Pos}
theorem QE.k (h : QE X e te x) : KE X e te x := ⟨h.pe, h.qr.k⟩
theorem QE.or {te' : TE} {x' : Env → Option T} (h : QE X e te x) (h' : QE X e te' x') : QE X e (teOr te te') (xOr x x') := ⟨PE.or h.pe h'.pe, QR.or h.qr h'.qr⟩
theorem KE.or {te' : TE} {x' : Env → Option T} (h : KE X e te x) (h' : KE X e te' x') : KE X e (teOr te te') (xOr x x') := ⟨PE.or h.pe h'.pe, KR.or h.kr h'.kr⟩
theorem CE.or {op : CmpOp} {te' : TE} {x' : Env → Option T} (h : CE X op a b te x) (h' : CE X op a b te' x') : CE X op a b (teOr te te') (xOr x x') := ⟨PC.or h.pc h'.pc, QR.or h.qr h'.qr⟩

/-! ### leaves -/
def qC (t : T) : Env → Option T := fun _ => some t
theorem qe_of {v : V} {t : T} (h : PE X e (tC v)) (f : ∀ H, Fz X.K X.mg H v t) : QE X e (tC v) (qC t) := ⟨h, fun env u hu H1 H σ F s R Q q => by cases hu; exact now s (f H1) q⟩
theorem qe_int {i j pos} : QE X (.Constant (.int i) j pos) (tC (.int i)) (qC (.int i)) := qe_of pe_int fun _ => .int i
theorem qe_bl {i j pos} : QE X (.Constant (.bool i) j pos) (tC (.bl i)) (qC (.bl i)) := qe_of pe_bl fun _ => .bl i
theorem qe_non {j pos} : QE X (.Constant .none j pos) (tC .non) (qC .non) := qe_of pe_non fun _ => .non
theorem qe_str {i : Str} {l : List Nat} {j pos} (h : i = S l) : QE X (.Constant (.str i) j pos) (tC (.str i)) (qC (.str l)) := qe_of pe_str fun _ => by rw [h]; exact .str l
/-- a module's constant: an int, a text -/
theorem qe_gint {y : Str} {i : Int} {t : Tok} (hm : X.mg y = some (.int i t)) (hg : Gl X y := by rfl) (hd : (y == ("__debug__" : Str)) = false := by decide) : QE X (.Name y pos) (tC (.int i)) (qC (.int i)) := qe_of (pe_glob hg hm ⟨_, rfl⟩ hd) fun _ => .int i
theorem qe_gstr {y : Str} {i : Str} {l : List Nat} {t : Tok} (hm : X.mg y = some (.str i t)) (h : i = S l) (hg : Gl X y := by rfl) (hd : (y == ("__debug__" : Str)) = false := by decide) : QE X (.Name y pos) (tC (.str i)) (qC (.str l)) := qe_of (pe_glob hg hm ⟨_, rfl⟩ hd) fun _ => by rw [h]; exact .str l

/-! ### names -/
def kVar (i : Nat) : Env → Option T := fun env => match env[i]? with | some o => o | none => none
def qVar (i : Nat) : Env → Option T := fun env => match env[i]? with | some (some t) => if t.sh then some t else none | _ => none
theorem ke_var (i : Nat) {y : Str} (h : PE X (.Name y pos) (tVar i)) : KE X (.Name y pos) (tVar i) (kVar i) := ⟨h, fun env t e H1 H σ F s R Q q => by
  unfold kVar at e
  cases e1 : env[i]? with
  | none => rw [e1] at e; cases e
  | some o =>
    rw [e1] at e
    simp only at e
    subst e
    obtain ⟨v, G, a, b, _⟩ := R.get e1
    exact ⟨v, a, q v H1 H G (Ext.refl s) b⟩⟩
theorem qe_var (i : Nat) {y : Str} (h : PE X (.Name y pos) (tVar i)) : QE X (.Name y pos) (tVar i) (qVar i) := ⟨h, fun env t e H1 H σ F s R Q q => by
  unfold qVar at e
  cases e1 : env[i]? with
  | none => rw [e1] at e; cases e
  | some o =>
    cases o with
    | none => rw [e1] at e; cases e
    | some u =>
      rw [e1] at e
      simp only at e
      split at e
      · rename_i hs
        cases e
        obtain ⟨v, G, a, b, _⟩ := R.get e1
        exact ⟨v, a, now s (b.fzOf hs) q⟩
      · cases e⟩

/-! ### operators -/
def qOp (f : T → T → Option T) (xa xb : Env → Option T) : Env → Option T := fun env => match xa env with | none => none | some a => match xb env with | none => none | some b => f a b
def qUn (f : T → Option T) (xa : Env → Option T) : Env → Option T := fun env => match xa env with | none => none | some a => f a
theorem qr_op {K : PySem.W.Frag} {mg : Str → Option Value} {r : R2} {f : T → T → Option T} (ha : KR K mg ta xa) (hb : KR K mg tb xb) (hv : OpV K mg r f) : QR K mg (tOp r ta tb) (qOp f xa xb) := fun env t e H1 H σ F s R Q q => by
  unfold qOp at e
  cases e1 : xa env with
  | none => rw [e1] at e; cases e
  | some u =>
    cases e2 : xb env with
    | none => rw [e1, e2] at e; cases e
    | some w =>
      rw [e1, e2] at e
      exact ha _ _ e1 _ _ _ _ s R _ fun v1 Ha Hb G1 x1 r1 => hb _ _ e2 _ _ _ _ x1.sub (x1.qRepE R) _ fun v2 Hc Hd G2 x2 r2 =>
        hv _ _ _ _ _ _ _ _ _ x2.sub (x2.qRep r1) r2 e Q fun v H1' H' Ft x3 r3 => q v H1' H' Ft ((x1.trans x2).trans x3) r3
theorem qr_un {K : PySem.W.Frag} {mg : Str → Option Value} {r : V → Hp → VK → Prop} {f : T → Option T} (ha : KR K mg ta xa) (hv : UnV K mg r f) : QR K mg (tUn r ta) (qUn f xa) := fun env t e H1 H σ F s R Q q => by
  unfold qUn at e
  cases e1 : xa env with
  | none => rw [e1] at e; cases e
  | some u =>
    rw [e1] at e
    exact ha _ _ e1 _ _ _ _ s R _ fun v1 Ha Hb G1 x1 r1 => hv _ _ _ _ _ _ x1.sub r1 e Q fun v H1' H' Ft x3 r3 => q v H1' H' Ft (x1.trans x3) r3
theorem qe_bin {op : Operator} {r : R2} {f : T → T → Option T} (ho : OpR X (binaryOp op) r) (hv : OpV X.K X.mg r f) (ha : KE X a ta xa) (hb : KE X b tb xb) : QE X (.BinOp a op b pos) (tOp r ta tb) (qOp f xa xb) := ⟨pe_op ho ha.pe hb.pe, qr_op ha.kr hb.kr hv⟩
theorem qe_una {op : UnaryOp} {r : V → Hp → VK → Prop} {f : T → Option T} (ho : UnR X (unaryOp op) r) (hv : UnV X.K X.mg r f) (ha : KE X a ta xa) : QE X (.UnaryOp op a pos) (tUn r ta) (qUn f xa) := ⟨pe_un ho ha.pe, qr_un ha.kr hv⟩
theorem pc_op {op : CmpOp} {r : R2} (ho : OpR X (compareOp op) r) (ha : PE X a ta) (hb : PE X b tb) : PC X op a b (tOp r ta tb) := by
  refine ⟨fun pins s σ H Q I h => ?_⟩
  exact bin ha hb I h fun v u s2 x y H2 I2 rx ry q => ho pins s2 σ H2 x y v u Q I2 rx ry q
theorem ce_op {op : CmpOp} {r : R2} {f : T → T → Option T} (ho : OpR X (compareOp op) r) (hv : OpV X.K X.mg r f) (ha : KE X a ta xa) (hb : KE X b tb xb) : CE X op a b (tOp r ta tb) (qOp f xa xb) := ⟨pc_op ho ha.pe hb.pe, qr_op ha.kr hb.kr hv⟩
theorem qe_cmp {op : CmpOp} (h : CE X op a b te x) (h1 : behindInMarks op b = false := by first | exact nobehind _ (by decide) (by decide) | rfl) : QE X (.Compare a [op] [b] pos) te x := ⟨pe_cmp h.pc h1, h.qr⟩
def tOfB (x : Env → Option T) : Env → Option Bool := fun env => match x env with | some (.bl b) => some b | _ => none
theorem tr_B {K : PySem.W.Frag} {mg : Str → Option Value} (h : QR K mg te x) : TR K mg (tB te) (tOfB x) := fun env b e H1 H σ F s R Q q => by
  unfold tOfB at e
  split at e
  · rename_i e1
    cases e
    exact h _ _ e1 _ _ _ _ s R _ fun v H1' H' Ft x r => ⟨_, r.blE, q H1' H' (x.less fun _ z => z.elim)⟩
  · cases e
theorem te_cmp {op : CmpOp} (h : CE X op a b te x) (h1 : behindInMarks op b = false := by first | exact nobehind _ (by decide) (by decide) | rfl) : TE' X (.Compare a [op] [b] pos) (tB te) (tOfB x) := ⟨pt_cmp h.pc h1, tr_B h.qr⟩
/-- an expression as a test, by its truth -/
def T.truth : T → Option Bool
  | .non => some false
  | .bl b => some b
  | .int i => some (i != 0)
  | .str s => if s.length ≤ sizeLine then some (s.length != 0) else none
  | .tup xs => some (!xs.isEmpty)
  | .lst _ xs => some (!xs.isEmpty)
  | .scr xs => some (!xs.isEmpty)
  | .dic _ kvs => some (!kvs.isEmpty)
  | .obj _ _ _ => none
end
end GK

/-! GK3: operations by values. -/
namespace GK
open PySem L2

theorem ofString_inj {a b : String} (h : Str.ofString a = Str.ofString b) : a = b := by
  have h0 : (⟨(a.toList.map Char.toNat).toArray⟩ : Str) = ⟨(b.toList.map Char.toNat).toArray⟩ := (Str.ofString_eq_toList a).symm.trans (h.trans (Str.ofString_eq_toList b))
  have h1 : (a.toList.map Char.toNat).toArray = (b.toList.map Char.toNat).toArray := congrArg Str.cps h0
  have h2 : a.toList.map Char.toNat = b.toList.map Char.toNat := by simpa using h1
  have h3 : a.toList = b.toList := List.map_inj_right (f := Char.toNat) (fun x y e => Char.ext (UInt32.toNat_inj.mp e)) |>.mp h2
  exact String.toList_inj.mp h3
theorem ofString_beq (a b : String) : (Str.ofString a == Str.ofString b) = (a == b) := by
  by_cases h : a = b
  · rw [h, beq_self_eq_true, beq_self_eq_true]
  · rw [beq_eq_false_iff_ne.mpr h, beq_eq_false_iff_ne.mpr fun e => h (ofString_inj e)]
theorem S_inj {a b : List Nat} (h : S a = S b) : a = b := by
  have h1 : a.toArray = b.toArray := congrArg Str.cps h
  simpa using h1
theorem S_length (a : List Nat) : (S a).length = a.length := by simp [S, Str.length]
theorem S_toList (a : List Nat) : (S a).cps.toList = a := by simp [S]
theorem S_append (a b : List Nat) : S a ++ S b = S (a ++ b) := by
  show (⟨a.toArray ++ b.toArray⟩ : Str) = ⟨(a ++ b).toArray⟩
  simp
theorem S_one (c : Nat) : (⟨#[c]⟩ : Str) = S [c] := rfl
theorem S_of (s : Str) : s = S s.cps.toList := by cases s; simp [S]
theorem S_beq (a b : List Nat) : (S a == S b) = (a == b) := by
  by_cases h : a = b
  · rw [h, beq_self_eq_true, beq_self_eq_true]
  · rw [beq_eq_false_iff_ne.mpr h, beq_eq_false_iff_ne.mpr fun e => h (S_inj e)]

section
variable {K : PySem.W.Frag} {mg : Str → Option Value}
theorem Reps.fzs : ∀ {vs : List V} {ts : List T} {H1 H : Hp} {F : FP}, Reps K mg H1 H vs ts F → ts.all T.sh = true → Fzs K mg H1 vs ts
  | _, _, _, _, _, .nil, _ => .nil
  | _, _, _, _, _, .cons r s _, h => by
    rw [List.all_cons, Bool.and_eq_true] at h
    exact .cons (r.fzOf h.1) (Reps.fzs s h.2)
theorem Fzs.append : ∀ {vs ws : List V} {ts us : List T} {H : Hp}, Fzs K mg H vs ts → Fzs K mg H ws us → Fzs K mg H (vs ++ ws) (ts ++ us)
  | _, _, _, _, _, .nil, s => s
  | _, _, _, _, _, .cons a r, s => .cons a (Fzs.append r s)
theorem Fzs.reps0 {vs : List V} {ts : List T} {H1 H : Hp} (h : Fzs K mg H1 vs ts) : ∃ F, Reps K mg H1 H vs ts F ∧ ∀ b, ¬ F b := h.reps

/-! ### ints -/
def fI (C : Int → Int → Bool) (g : Int → Int → Int) : T → T → Option T
  | .int i, .int j => if C i j then some (.int (g i j)) else none
  | _, _ => none
theorem ov_I {C : Int → Int → Prop} {c : Int → Int → Bool} {g : Int → Int → Int} (hc : ∀ i j, c i j = true → C i j) : OpV K mg (rI C fun i j => .int (g i j)) (fI c g) := fun H1 H vx vy tx ty Gx Gy t s a b e Q q => by
  unfold fI at e
  split at e
  · split at e
    · rename_i h; cases e; exact ⟨_, _, a.intE, b.intE, hc _ _ h, now s (.int _) q⟩
    · cases e
  · cases e
def fI0 (g : Int → Int → Int) : T → T → Option T
  | .int i, .int j => some (.int (g i j))
  | _, _ => none
theorem ov_I0 {g : Int → Int → Int} : OpV K mg (rI0 fun i j => .int (g i j)) (fI0 g) := fun H1 H vx vy tx ty Gx Gy t s a b e Q q => by
  unfold fI0 at e
  split at e
  · cases e; exact ⟨_, _, a.intE, b.intE, now s (.int _) q⟩
  · cases e
def fB0 (g : Int → Int → Bool) : T → T → Option T
  | .int i, .int j => some (.bl (g i j))
  | _, _ => none
theorem ov_B0 {g : Int → Int → Bool} : OpV K mg (rI0 fun i j => .bl (g i j)) (fB0 g) := fun H1 H vx vy tx ty Gx Gy t s a b e Q q => by
  unfold fB0 at e
  split at e
  · cases e; exact ⟨_, _, a.intE, b.intE, now s (.bl _) q⟩
  · cases e
def or2 (f g : T → T → Option T) : T → T → Option T := fun x y => match f x y with | some t => some t | none => g x y
theorem OpV.or' {r r' : R2} {f f' : T → T → Option T} (h : OpV K mg r f) (h' : OpV K mg r' f') : OpV K mg (fun x y H Q => r x y H Q ∨ r' x y H Q) (or2 f f') := h.or h'

/-! ### + -/
abbrev maxLen : Nat := 16777216
theorem maxLen_eq : sizeLine = maxLen := sizeLine_eq
def fAddS : T → T → Option T
  | .str a, .str b => if a.length + b.length ≤ maxLen then some (.str (a ++ b)) else none
  | _, _ => none
theorem ov_addS : OpV K mg (fun x y H Q => ∃ i j, x = .str i ∧ y = .str j ∧ i.length + j.length ≤ sizeLine ∧ Q (.str (i ++ j)) H) fAddS := fun H1 H vx vy tx ty Gx Gy t s a b e Q q => by
  unfold fAddS at e
  split at e
  · split at e
    · rename_i h; cases e; refine ⟨_, _, a.strE, b.strE, by rw [S_length, S_length, maxLen_eq]; exact h, ?_⟩; rw [S_append]; exact now s (.str _) q
    · cases e
  · cases e
def fAddL : T → T → Option T
  | .lst _ a, .lst _ b => if a.all T.sh && b.all T.sh && decide (a.length + b.length ≤ maxLen) then some (.lst true (a ++ b)) else none
  | _, _ => none
theorem ov_addL : OpV K mg rCat fAddL := fun H1 H vx vy tx ty Gx Gy t s a b e Q q => by
  unfold fAddL at e
  split at e
  · split at e
    · rename_i h
      simp only [Bool.and_eq_true, decide_eq_true_eq] at h
      cases e
      obtain ⟨p, vs, G, rfl, h1, r1⟩ := a.lst' s
      obtain ⟨p', vs', G', rfl, h2, r2⟩ := b.lst' s
      obtain ⟨F, r, n⟩ := ((r1.fzs h.1.1).append (r2.fzs h.1.2)).reps (H := H)
      exact ⟨p, p', vs, vs', rfl, rfl, h1, h2, by rw [r1.len, r2.len, maxLen_eq]; exact h.2, newLst s r fun v H1' H' Ft x => q v H1' H' Ft (x.base n)⟩
    · cases e
  · cases e
def fAddT : T → T → Option T
  | .tup a, .tup b => if a.length + b.length ≤ maxLen then some (.tup (a ++ b)) else none
  | _, _ => none
theorem ov_addT : OpV K mg (rCatA K) fAddT := fun H1 H vx vy tx ty Gx Gy t s a b e Q q => by
  unfold fAddT at e
  split at e
  · split at e
    · rename_i h
      cases e
      obtain ⟨p, vs, rfl, h1, r1⟩ := a.tuple s
      obtain ⟨p', vs', rfl, h2, r2⟩ := b.tuple s
      have a1 := a.fzOf rfl
      have b1 := b.fzOf rfl
      refine ⟨p, p', vs, vs', rfl, rfl, h1, h2, by rw [r1.len, r2.len, maxLen_eq]; exact h, fun e => ?_, fun _ e => ?_, fun _ _ => ?_⟩
      · subst e
        cases r1
        exact now s b1 q
      · subst e
        cases r2
        rw [List.append_nil] at q
        exact now s a1 q
      · exact newFz s (fun p e => .tup (.inl (.inl upd_same)) ((r1.append r2).mono e)) q
    · cases e
  · cases e

/-! ### * -/
def fMul : T → T → Option T
  | .int i, .int j => if decide ((-(2 ^ 64) < i ∧ i < 2 ^ 64) ∨ (-(2 ^ 64) < j ∧ j < 2 ^ 64)) || decide ((Builtin.Int.intBits i : Int) + (Builtin.Int.intBits j : Int) ≤ 134217728) then some (.int (i * j)) else none
  | .str a, .int n => if decide (-(2 ^ 63) ≤ n) && decide (n < 2 ^ 63) && decide (a.length * n.toNat ≤ maxLen) then some (.str (List.replicate n.toNat a).flatten) else none
  | .lst _ xs, .int n => if xs.all T.sh && decide (-(2 ^ 63) ≤ n) && decide (n < 2 ^ 63) && decide (xs.length * n.toNat ≤ maxLen) then some (.lst true (List.replicate n.toNat xs).flatten) else none
  | _, _ => none
theorem Fzs.rep {vs : List V} {ts : List T} {H : Hp} (h : Fzs K mg H vs ts) : ∀ n : Nat, Fzs K mg H (List.replicate n vs).flatten (List.replicate n ts).flatten
  | 0 => .nil
  | n + 1 => by rw [List.replicate_succ, List.replicate_succ, List.flatten_cons, List.flatten_cons]; exact h.append (Fzs.rep h n)
/-- str * int -/
def rMulS : R2 := fun x y H Q => ∃ (a : List Nat) (n : Int), x = .str (S a) ∧ y = .int n ∧ -(2 ^ 63) ≤ n ∧ n < 2 ^ 63 ∧ a.length * n.toNat ≤ maxLen ∧ Q (.str (S (List.replicate n.toNat a).flatten)) H
theorem mul_fold (x : Array Nat) : ∀ (n : Nat) (acc : Array Nat), (List.replicate n x).foldl (· ++ ·) acc = acc ++ (List.replicate n x.toList).flatten.toArray
  | 0, acc => by simp
  | n + 1, acc => by
    rw [List.replicate_succ, List.foldl_cons, mul_fold x n, List.replicate_succ, List.flatten_cons]
    apply Array.ext'
    simp
theorem txt_mul (a : List Nat) (n : Int) : Txt.mul (S a) n = S (List.replicate n.toNat a).flatten := by
  unfold Txt.mul
  split
  · rename_i h
    have : n.toNat = 0 := by omega
    rw [this]; rfl
  · split
    · rename_i h1 h2
      simp only [Bool.or_eq_true, beq_iff_eq] at h2
      rcases h2 with h2 | h2
      · subst h2
        show S a = S (List.replicate 1 a).flatten
        simp
      · rw [S_length] at h2
        have : a = [] := List.eq_nil_of_length_eq_zero h2
        subst this
        simp
    · show (⟨_⟩ : Str) = ⟨_⟩
      rw [mul_fold]
      simp [S]
theorem op_mulS {X : Cx} : OpR X (binaryOp .Mult) rMulS := by
  intro pins s σ H x y v u Q I rx ry h
  obtain ⟨a, n, rfl, rfl, h1, h2, hz, q⟩ := h
  obtain ⟨t, rfl⟩ := rx
  obtain ⟨t', rfl⟩ := ry
  refine PySem.SB.mul ⟨?_, fun hn hx hc => ?_, fun _ _ => ?_⟩ fun t' k => ?_
  · rw [decide_eq_false (by omega), decide_eq_false (by omega)]; rfl
  · rw [S_length] at hc hx
    have hn1 : 1 ≤ n := by omega
    have h3 : (a.length : Int) * n ≤ 2 ^ 63 - 1 := by
      have : ((a.length * n.toNat : Nat) : Int) ≤ ((maxLen : Nat) : Int) := Int.ofNat_le.mpr hz
      rw [Int.natCast_mul, Int.toNat_of_nonneg (by omega)] at this
      have e : ((maxLen : Nat) : Int) ≤ 2 ^ 63 - 1 := by decide
      omega
    have h4 : (a.length : Int) ≤ (2 ^ 63 - 1) / n := Int.le_ediv_of_mul_le (by omega) h3
    omega
  · rw [S_length]
    unfold PySem.Builtin.Str.tooLong
    rw [maxLen_eq]
    exact decide_eq_false (by omega)
  · rw [txt_mul]
    exact ⟨.str _, H, I.tok _, ⟨_, rfl⟩, q⟩
def rMulU : R2 := fun x y H Q => rI CMul (fun i j => .int (i * j)) x y H Q ∨ (rI CMulX (fun i j => .int (i * j)) x y H Q ∨ (rMulS x y H Q ∨ rRep x y H Q))
theorem op_mulU {X : Cx} : OpR X (binaryOp .Mult) rMulU := op_mul.or (op_mulX.or (op_mulS.or op_rep))
theorem ov_mulU : OpV K mg rMulU fMul := fun H1 H vx vy tx ty Gx Gy t s a b e Q q => by
  unfold fMul at e
  split at e
  · split at e
    · rename_i i j h
      cases e
      rw [Bool.or_eq_true, decide_eq_true_eq, decide_eq_true_eq] at h
      rcases h with h | h
      · exact .inl ⟨_, _, a.intE, b.intE, h, now s (.int _) q⟩
      · exact .inr (.inl ⟨_, _, a.intE, b.intE, h, now s (.int _) q⟩)
    · cases e
  · split at e
    · rename_i i j h
      cases e
      simp only [Bool.and_eq_true, decide_eq_true_eq] at h
      exact .inr (.inr (.inl ⟨_, _, a.strE, b.intE, h.1.1, h.1.2, h.2, now s (.str _) q⟩))
    · cases e
  · split at e
    · rename_i xs n h
      simp only [Bool.and_eq_true, decide_eq_true_eq] at h
      cases e
      obtain ⟨p, vs, G, rfl, h1, r1⟩ := a.lst' s
      obtain ⟨F, r, n⟩ := ((r1.fzs h.1.1.1).rep _).reps (H := H)
      exact .inr (.inr (.inr ⟨p, _, vs, rfl, b.intE, h1, h.1.1.2, h.1.2, by rw [r1.len, maxLen_eq]; exact h.2, newLst s r fun v H1' H' Ft x => q v H1' H' Ft (x.base n)⟩))
    · cases e
  · cases e
def fAdd : T → T → Option T := or2 (fI0 (· + ·)) (or2 fAddS (or2 fAddL fAddT))
def rAddU (K : PySem.W.Frag) : R2 := fun x y H Q => rI0 (fun i j => .int (i + j)) x y H Q ∨ ((∃ i j, x = .str i ∧ y = .str j ∧ i.length + j.length ≤ sizeLine ∧ Q (.str (i ++ j)) H) ∨ (rCat x y H Q ∨ rCatA K x y H Q))
theorem op_addU {X : Cx} : OpR X (binaryOp .Add) (rAddU X.K) := op_add.or (op_add_str.or (op_cat.or op_catA))
theorem ov_addU : OpV K mg (rAddU K) fAdd := OpV.or' ov_I0 (OpV.or' ov_addS (OpV.or' ov_addL ov_addT))
def fSub : T → T → Option T := fI0 (· - ·)
theorem ov_sub : OpV K mg (rI0 fun i j => .int (i - j)) fSub := ov_I0
def fMod : T → T → Option T := fI (fun _ j => decide (0 < j)) (· % ·)
theorem ov_mod : OpV K mg (rI (fun _ j => 0 < j) fun i j => .int (i % j)) fMod := ov_I fun _ _ h => of_decide_eq_true h
def fDiv : T → T → Option T := fI (fun _ j => decide (0 < j) && decide (j < 1073741824)) (· / ·)
theorem ov_div : OpV K mg (rI CDiv fun i j => .int (i / j)) fDiv := ov_I fun _ _ h => by simpa [CDiv] using h
def fPow : T → T → Option T := fI (fun i j => decide (0 ≤ j) && decide (j ≤ 1000000) && decide (i.natAbs < 2 ^ 64)) (fun i j => i ^ j.toNat)
theorem ov_pow : OpV K mg (rI CPow fun i j => .int (i ^ j.toNat)) fPow := ov_I fun _ _ h => by
  simp only [Bool.and_eq_true, decide_eq_true_eq] at h
  exact ⟨h.1.1, h.1.2, h.2⟩
def fNeg : T → Option T
  | .int i => some (.int (-i))
  | _ => none
theorem uv_neg : UnV K mg (rU fun i => .int (-i)) fNeg := fun H1 H vx tx Gx t s a e Q q => by
  unfold fNeg at e
  split at e
  · cases e; exact ⟨_, a.intE, now s (.int _) q⟩
  · cases e
/-! ### comparisons of ints and texts -/
def cLt : T → T → Option T
  | .int i, .int j => some (.bl (decide (i < j)))
  | .str a, .str b => some (.bl (decide (a < b)))
  | _, _ => none
def rLtU : R2 := fun x y H Q => rI0 (fun i j => .bl (decide (i < j))) x y H Q ∨ ∃ i j, x = .str i ∧ y = .str j ∧ Q (.bl (decide (i.cps.toList < j.cps.toList))) H
theorem op_ltU {X : Cx} : OpR X (compareOp .Lt) rLtU := op_lt.or op_lt_str
theorem ov_ltU : OpV K mg rLtU cLt := fun H1 H vx vy tx ty Gx Gy t s a b e Q q => by
  unfold cLt at e
  split at e
  · cases e; exact .inl ⟨_, _, a.intE, b.intE, now s (.bl _) q⟩
  · cases e
    refine .inr ⟨_, _, a.strE, b.strE, ?_⟩
    rw [S_toList, S_toList]
    exact now s (.bl _) q
  · cases e
def cLe : T → T → Option T := fB0 fun i j => decide (i ≤ j)
def cGt : T → T → Option T := fB0 fun i j => decide (j < i)
def cGe : T → T → Option T := fB0 fun i j => decide (j ≤ i)
theorem ov_le : OpV K mg (rI0 fun i j => .bl (decide (i ≤ j))) cLe := ov_B0
theorem ov_gt : OpV K mg (rI0 fun i j => .bl (decide (j < i))) cGt := ov_B0
theorem ov_ge : OpV K mg (rI0 fun i j => .bl (decide (j ≤ i))) cGe := ov_B0
end
end GK

/-! GK4: ==, in, is, len, items, slices, displays, conditions. -/
namespace GK
open PySem L2

/-! ### data -/
mutual
def T.data : T → Option PyData
  | .non => some .none
  | .bl b => some (.bool b)
  | .int i => some (.int i)
  | .str s => some (.str (S s))
  | .tup xs => (T.datas xs).map .tuple
  | .lst _ xs => (T.datas xs).map .list
  | .scr xs => (T.datas xs).map .list
  | _ => none
def T.datas : List T → Option (List PyData)
  | [] => some []
  | t :: r => match t.data, T.datas r with | some d, some ds => some (d :: ds) | _, _ => none
end
mutual
/-- equality of data as trees -/
def T.eqv : T → T → Bool
  | .non, .non => true
  | .bl a, .bl b => a == b
  | .bl a, .int j => (if a then 1 else 0) == j
  | .int i, .bl b => i == (if b then 1 else 0)
  | .int i, .int j => i == j
  | .str a, .str b => a == b
  | .tup a, .tup b => T.eqvs a b
  | .lst _ a, .lst _ b => T.eqvs a b
  | .lst _ a, .scr b => T.eqvs a b
  | .scr a, .lst _ b => T.eqvs a b
  | .scr a, .scr b => T.eqvs a b
  | _, _ => false
def T.eqvs : List T → List T → Bool
  | [], [] => true
  | x :: xs, y :: ys => T.eqv x y && T.eqvs xs ys
  | _, _ => false
end
theorem datas_some {t : T} {r : List T} {ds : List PyData} (h : T.datas (t :: r) = some ds) : ∃ d es, t.data = some d ∧ T.datas r = some es ∧ ds = d :: es := by
  simp only [T.datas] at h
  split at h
  · rename_i d es e1 e2; cases h; exact ⟨d, es, e1, e2, rfl⟩
  · cases h
mutual
theorem T.eqv_data (x y : T) {d e : PyData} (hx : x.data = some d) (hy : y.data = some e) : PyData.eqv d e = T.eqv x y := by
  cases x <;> cases y <;> simp only [T.data, Option.some.injEq, Option.map_eq_some_iff, reduceCtorEq] at hx hy <;> (try subst hx) <;> (try subst hy) <;>
    (try (obtain ⟨a, ha, rfl⟩ := hx)) <;> (try (obtain ⟨b, hb, rfl⟩ := hy)) <;> simp only [T.eqv, PyData.eqv, S_beq] <;> (try exact T.eqvs_data _ _ ha hb)
termination_by sizeOf x
theorem T.eqvs_data (x y : List T) {d e : List PyData} (hx : T.datas x = some d) (hy : T.datas y = some e) : PyData.eqvAll d e = T.eqvs x y := by
  match x, y, d, e, hx, hy with
  | [], [], d, e, hx, hy => (simp only [T.datas, Option.some.injEq] at hx hy; subst hx hy; simp [T.eqvs, PyData.eqvAll])
  | [], y :: ys, d, e, hx, hy =>
    obtain ⟨d1, es, _, _, rfl⟩ := datas_some hy
    simp only [T.datas, Option.some.injEq] at hx; subst hx; simp [T.eqvs, PyData.eqvAll]
  | x :: xs, [], d, e, hx, hy =>
    obtain ⟨d1, es, _, _, rfl⟩ := datas_some hx
    simp only [T.datas, Option.some.injEq] at hy; subst hy; simp [T.eqvs, PyData.eqvAll]
  | x :: xs, y :: ys, d, e, hx, hy =>
    obtain ⟨d1, ds, h1, h2, rfl⟩ := datas_some hx
    obtain ⟨e1, es, h3, h4, rfl⟩ := datas_some hy
    simp only [T.eqvs, PyData.eqvAll]
    rw [T.eqv_data _ _ h1 h3, T.eqvs_data _ _ h2 h4]
termination_by sizeOf x
end
section
variable {K : PySem.W.Frag} {mg : Str → Option Value}
mutual
theorem Fz.dp : ∀ {v : V} {t : T} {H : Hp} {d : PyData}, Fz K mg H v t → t.data = some d → Dp K H v d
  | _, _, H, d, .non, h => by simp only [T.data, Option.some.injEq] at h; subst h; exact .non
  | _, _, H, d, .bl b, h => by simp only [T.data, Option.some.injEq] at h; subst h; exact .bl b
  | _, _, H, d, .int b, h => by simp only [T.data, Option.some.injEq] at h; subst h; exact .int b
  | _, _, H, d, .str b, h => by simp only [T.data, Option.some.injEq] at h; subst h; exact .str _
  | _, _, H, d, .tup a r, h => by
    simp only [T.data, Option.map_eq_some_iff] at h
    obtain ⟨ds, e, rfl⟩ := h
    exact .tup a (Fzs.dp r e)
  | _, _, H, d, .lst a r, h => by
    simp only [T.data, Option.map_eq_some_iff] at h
    obtain ⟨ds, e, rfl⟩ := h
    exact .lst (.inl (.inl a)) (Fzs.dp r e)
  | _, _, H, d, .scr a r, h => by
    simp only [T.data, Option.map_eq_some_iff] at h
    obtain ⟨ds, e, rfl⟩ := h
    exact .lst a (Fzs.dp r e)
  | _, _, H, d, .dic a _ r, h => by simp [T.data] at h
  | _, _, H, d, .obj a m r, h => by simp [T.data] at h
theorem Fzs.dp : ∀ {vs : List V} {ts : List T} {H : Hp} {ds : List PyData}, Fzs K mg H vs ts → T.datas ts = some ds → DpAll K H vs ds
  | _, _, H, d, .nil, h => by simp only [T.datas, Option.some.injEq] at h; subst h; exact .nil
  | _, _, H, d, .cons a r, h => by
    obtain ⟨d1, es, h1, h2, rfl⟩ := datas_some h
    exact .cons (Fz.dp a h1) (Fzs.dp r h2)
end
mutual
theorem Rep.dp : ∀ {v : V} {t : T} {H1 H : Hp} {F : FP} {d : PyData}, Same H1 H → Rep K mg H1 H v t F → t.data = some d → Dp K H v d
  | _, _, H1, H, _, d, s, .sh a, h => (a.mono s).dp h
  | _, _, H1, H, _, d, s, .lst a _ r _, h => by
    simp only [T.data, Option.map_eq_some_iff] at h
    obtain ⟨ds, e, rfl⟩ := h
    exact .lst (.inl (.inl a)) (Reps.dp s r e)
  | _, _, H1, H, _, d, s, .dic _ _ _ _ _, h => by simp [T.data] at h
  | _, _, H1, H, _, d, s, .obj _ _ _ _ _, h => by simp [T.data] at h
theorem Reps.dp : ∀ {vs : List V} {ts : List T} {H1 H : Hp} {F : FP} {ds : List PyData}, Same H1 H → Reps K mg H1 H vs ts F → T.datas ts = some ds → DpAll K H vs ds
  | _, _, H1, H, _, d, s, .nil, h => by simp only [T.datas, Option.some.injEq] at h; subst h; exact .nil
  | _, _, H1, H, _, d, s, .cons a r _, h => by
    obtain ⟨d1, es, h1, h2, rfl⟩ := datas_some h
    exact .cons (Rep.dp s a h1) (Reps.dp s r h2)
end
/-- deep ==; flat where both are -/
def T.shaped (t : T) : Bool := match t.data with | some d => SeqAt.shaped d | none => false
def fEq : T → T → Option Bool
  | .int i, .int j => some (i == j)
  | .str a, .str b => some (a == b)
  | .bl a, .bl b => some (a == b)
  | .non, .non => some true
  | .non, .int _ => some false
  | .non, .str _ => some false
  | .non, .bl _ => some false
  | .int _, .non => some false
  | .str _, .non => some false
  | .bl _, .non => some false
  | .int _, .str _ => some false
  | .str _, .int _ => some false
  | a, b => if a.shaped && b.shaped then some (T.eqv a b) else none
def cEq (a b : T) : Option T := (fEq a b).map .bl
def cNe (a b : T) : Option T := (fEq a b).map fun b => .bl (!b)
def rEqU (K : PySem.W.Frag) : R2 := fun x y H Q => rEq x y H Q ∨ rEqD K x y H Q
def rNeU (K : PySem.W.Frag) : R2 := fun x y H Q => rNe x y H Q ∨ rNeD K x y H Q
theorem op_eqU {X : Cx} (hu : X.A.units + 64 < cLine) : OpR X (compareOp .Eq) (rEqU X.K) := op_eq.or (op_eqD hu)
theorem op_neU {X : Cx} (hu : X.A.units + 64 < cLine) : OpR X (compareOp .NotEq) (rNeU X.K) := op_ne.or (op_neD hu)
theorem dec_S {a b : List Nat} : decide (V.str (S a) = V.str (S b)) = (a == b) := by rw [dec_str, S_beq]
/-- the two roads of == -/
theorem eq_road {H1 H : Hp} {vx vy : V} {tx ty : T} {Gx Gy : FP} {k : Bool} (s : Same H1 H) (a : Rep K mg H1 H vx tx Gx) (b : Rep K mg H1 H vy ty Gy) (e : fEq tx ty = some k) :
    (scal vx vy = true ∧ decide (vx = vy) = k) ∨ ∃ d e, Dp K H vx d ∧ Dp K H vy e ∧ SeqAt.shaped d = true ∧ SeqAt.shaped e = true ∧ PyData.eqv d e = k := by
  have deep : (if tx.shaped && ty.shaped then some (T.eqv tx ty) else none) = some k → ∃ d e, Dp K H vx d ∧ Dp K H vy e ∧ SeqAt.shaped d = true ∧ SeqAt.shaped e = true ∧ PyData.eqv d e = k := fun e => by
    split at e
    · rename_i h
      cases e
      rw [Bool.and_eq_true] at h
      unfold T.shaped at h
      cases e1 : tx.data with
      | none => rw [e1] at h; exact absurd h.1 (by simp)
      | some d =>
        cases e2 : ty.data with
        | none => rw [e2] at h; exact absurd h.2 (by simp)
        | some d' =>
          rw [e1, e2] at h
          exact ⟨d, d', a.dp s e1, b.dp s e2, h.1, h.2, T.eqv_data _ _ e1 e2⟩
    · cases e
  unfold fEq at e
  split at e <;> first
    | (cases e; rw [a.intE, b.intE]; exact .inl ⟨rfl, dec_int⟩)
    | (cases e; rw [a.strE, b.strE]; exact .inl ⟨rfl, dec_S⟩)
    | (cases e; rw [a.blE, b.blE]; exact .inl ⟨rfl, dec_bl⟩)
    | (cases e; rw [a.nonE, b.nonE]; exact .inl ⟨rfl, rfl⟩)
    | (cases e; rw [a.nonE, b.intE]; exact .inl ⟨rfl, rfl⟩)
    | (cases e; rw [a.nonE, b.strE]; exact .inl ⟨rfl, rfl⟩)
    | (cases e; rw [a.nonE, b.blE]; exact .inl ⟨rfl, rfl⟩)
    | (cases e; rw [a.intE, b.nonE]; exact .inl ⟨rfl, rfl⟩)
    | (cases e; rw [a.strE, b.nonE]; exact .inl ⟨rfl, rfl⟩)
    | (cases e; rw [a.blE, b.nonE]; exact .inl ⟨rfl, rfl⟩)
    | (cases e; rw [a.intE, b.strE]; exact .inl ⟨rfl, rfl⟩)
    | (cases e; rw [a.strE, b.intE]; exact .inl ⟨rfl, rfl⟩)
    | exact .inr (deep e)
theorem ov_eqU : OpV K mg (rEqU K) cEq := fun H1 H vx vy tx ty Gx Gy t s a b e Q q => by
  unfold cEq at e
  rw [Option.map_eq_some_iff] at e
  obtain ⟨k, e, rfl⟩ := e
  rcases eq_road s a b e with ⟨h, rfl⟩ | ⟨d, d', h1, h2, h3, h4, rfl⟩
  · exact .inl ⟨h, now s (.bl _) q⟩
  · exact .inr ⟨d, d', h1, h2, h3, h4, now s (.bl _) q⟩
theorem ov_neU : OpV K mg (rNeU K) cNe := fun H1 H vx vy tx ty Gx Gy t s a b e Q q => by
  unfold cNe at e
  rw [Option.map_eq_some_iff] at e
  obtain ⟨k, e, rfl⟩ := e
  rcases eq_road s a b e with ⟨h, rfl⟩ | ⟨d, d', h1, h2, h3, h4, rfl⟩
  · exact .inl ⟨h, now s (.bl _) q⟩
  · exact .inr ⟨d, d', h1, h2, h3, h4, now s (.bl _) q⟩

/-! ### is None -/
def cIs : T → T → Option T
  | .non, .non => some (.bl true)
  | .non, _ => none
  | _, .non => some (.bl false)
  | _, _ => none
def cIsN : T → T → Option T
  | .non, .non => some (.bl false)
  | .non, _ => none
  | _, .non => some (.bl true)
  | _, _ => none
theorem not_non {H1 H : Hp} {v : V} {t : T} {F : FP} (h : Rep K mg H1 H v t F) (n : t ≠ .non) : v ≠ .non := by
  cases h with
  | sh h => cases h with
    | non => exact absurd rfl n
    | _ => intro e; cases e
  | _ => intro e; cases e
theorem ov_is : OpV K mg (fun x y H Q => y = .non ∧ Q (.bl (decide (x = .non))) H) cIs := fun H1 H vx vy tx ty Gx Gy t s a b e Q q => by
  unfold cIs at e
  split at e
  · cases e; refine ⟨b.nonE, ?_⟩; rw [a.nonE]; exact now s (.bl _) q
  · cases e
  · rename_i h; cases e
    refine ⟨b.nonE, ?_⟩
    rw [decide_eq_false (not_non a fun z => h z)]
    exact now s (.bl _) q
  · cases e
theorem ov_isN : OpV K mg (fun x y H Q => y = .non ∧ Q (.bl (!decide (x = .non))) H) cIsN := fun H1 H vx vy tx ty Gx Gy t s a b e Q q => by
  unfold cIsN at e
  split at e
  · cases e; refine ⟨b.nonE, ?_⟩; rw [a.nonE]; exact now s (.bl _) q
  · cases e
  · rename_i h; cases e
    refine ⟨b.nonE, ?_⟩
    rw [decide_eq_false (not_non a fun z => h z)]
    exact now s (.bl _) q
  · cases e
end
end GK

/-! GK5: in, truth, len, items, slices, displays, conditions, and | or | not. -/
namespace GK
open PySem L2
section
variable {K : PySem.W.Frag} {mg : Str → Option Value}

/-! ### flat values -/
def T.flat : T → Option V
  | .non => some .non
  | .bl b => some (.bl b)
  | .int i => some (.int i)
  | .str s => some (.str (S s))
  | _ => none
def T.flats : List T → Option (List V)
  | [] => some []
  | t :: r => match t.flat, T.flats r with | some v, some vs => some (v :: vs) | _, _ => none
theorem Fz.flatE {H : Hp} {v w : V} {t : T} (h : Fz K mg H v t) (e : t.flat = some w) : v = w ∧ flatV v = true := by
  cases h <;> simp only [T.flat, Option.some.injEq, reduceCtorEq] at e <;> subst e <;> exact ⟨rfl, rfl⟩
theorem Rep.flatE {H1 H : Hp} {v w : V} {t : T} {F : FP} (h : Rep K mg H1 H v t F) (e : t.flat = some w) : v = w ∧ flatV v = true := by
  cases h with
  | sh h => exact h.flatE e
  | _ => simp [T.flat] at e
theorem flats_cons {t : T} {r : List T} {ws : List V} (h : T.flats (t :: r) = some ws) : ∃ v vs, t.flat = some v ∧ T.flats r = some vs ∧ ws = v :: vs := by
  simp only [T.flats] at h
  split at h
  · rename_i v vs e1 e2; cases h; exact ⟨v, vs, e1, e2, rfl⟩
  · cases h
theorem Reps.flatE : ∀ {vs ws : List V} {ts : List T} {H1 H : Hp} {F : FP}, Reps K mg H1 H vs ts F → T.flats ts = some ws → vs = ws ∧ vs.all flatV = true
  | _, _, _, _, _, _, .nil, h => by simp only [T.flats, Option.some.injEq] at h; subst h; exact ⟨rfl, rfl⟩
  | _, _, _, _, _, _, .cons a r _, h => by
    obtain ⟨v, vs, h1, h2, rfl⟩ := flats_cons h
    obtain ⟨e1, f1⟩ := a.flatE h1
    obtain ⟨e2, f2⟩ := Reps.flatE r h2
    exact ⟨by rw [e1, e2], by rw [List.all_cons, f1, f2]; rfl⟩
/-- == of flat trees as eqV says -/
def T.eqf (x y : T) : Bool := T.eqv x y
theorem eqf_V {x y : T} {v w : V} (hx : x.flat = some v) (hy : y.flat = some w) : eqV v w = T.eqv x y := by
  cases x <;> cases y <;> simp only [T.flat, Option.some.injEq, reduceCtorEq] at hx hy <;> subst hx <;> subst hy <;> simp only [eqV, T.eqv, S_beq]
theorem inV_T {x : T} {v : V} (hx : x.flat = some v) : ∀ {ys : List T} {ws : List V}, T.flats ys = some ws → inV v ws = ys.any fun y => T.eqv y x
  | [], ws, h => by simp only [T.flats, Option.some.injEq] at h; subst h; rfl
  | y :: ys, ws, h => by
    obtain ⟨w, ws', h1, h2, rfl⟩ := flats_cons h
    have ih := inV_T hx h2
    unfold inV at ih ⊢
    rw [List.any_cons, List.any_cons, ih, eqf_V h1 hx]

/-! ### dicts by key -/
def T.key : T → Option Key
  | .int i => some (.inl i)
  | .str s => some (.inr (S s))
  | _ => none
theorem Rep.keyE {H1 H : Hp} {v : V} {t : T} {k : Key} {F : FP} (h : Rep K mg H1 H v t F) (e : t.key = some k) : v = kV k := by
  cases t <;> simp only [T.key, Option.some.injEq, reduceCtorEq] at e <;> subst e
  · exact h.intE
  · exact h.strE
def tget (kvs : List (Key × T)) (k : Key) : Option T := match kvs with
  | [] => none
  | (k', t) :: r => if k' = k then some t else tget r k
def tput (kvs : List (Key × T)) (k : Key) (t : T) : List (Key × T) := match kvs with
  | [] => [(k, t)]
  | (k', u) :: r => if k' = k then (k', t) :: r else (k', u) :: tput r k t
theorem RepA.get : ∀ {vs : List (Key × V)} {ts : List (Key × T)} {H1 H : Hp} {F : FP} {k : Key}, RepA K mg H1 H vs ts F →
    (tget ts k = none ∧ valV vs k = none) ∨ ∃ t v G, tget ts k = some t ∧ valV vs k = some v ∧ Rep K mg H1 H v t G ∧ ∀ b, G b → F b
  | _, _, _, _, _, k, .nil => .inl ⟨rfl, rfl⟩
  | _, _, _, _, _, k, .cons (k := k') (v := v) (t := t) (vs := vs) a r _ => by
    by_cases h : k' = k
    · exact .inr ⟨t, v, _, by simp only [tget]; rw [if_pos h], by rw [valV_pos (p := (k', v)) h], a, fun _ z => .inl z⟩
    · have e1 : valV ((k', v) :: vs) k = valV vs k := by simp [valV, List.find?_cons, h]
      rcases RepA.get (k := k) r with ⟨x, y⟩ | ⟨t', v', G, x, y, z, w⟩
      · exact .inl ⟨by simp only [tget]; rw [if_neg h]; exact x, e1.trans y⟩
      · exact .inr ⟨t', v', G, by simp only [tget]; rw [if_neg h]; exact x, e1.trans y, z, fun b q => .inr (w b q)⟩
theorem FzA.rep : ∀ {vs : List (Key × V)} {ts : List (Key × T)} {H1 H : Hp}, FzA K mg H1 vs ts → ∃ F, RepA K mg H1 H vs ts F ∧ ∀ b, ¬ F b
  | _, _, _, _, .nil => ⟨F0, .nil, fun _ h => h⟩
  | _, _, _, _, .cons h r => let ⟨F, a, b⟩ := FzA.rep r; ⟨_, .cons (.sh h) a (fun _ h => h.elim), fun x y => y.elim id (b x)⟩
theorem Rep.dict {H1 H : Hp} {v : V} {o : Bool} {ts : List (Key × T)} {F : FP} (s : Same H1 H) (h : Rep K mg H1 H v (.dic o ts) F) : ∃ a vs G, v = .ref a ∧ H a = some (.dK vs) ∧ RepA K mg H1 H vs ts G := by
  cases h with
  | sh h => cases h with | dic a n b => obtain ⟨F, r, _⟩ := b.rep (H := H); exact ⟨_, _, F, rfl, s _ _ a, r⟩
  | dic a b n c d => exact ⟨_, _, _, rfl, a, c⟩
theorem FzF.rep : ∀ {vs : List (Str × V)} {ts : List (String × T)} {H1 H : Hp}, FzF K mg H1 vs ts → ∃ F, RepF K mg H1 H vs ts F ∧ ∀ b, ¬ F b
  | _, _, _, _, .nil => ⟨F0, .nil, fun _ h => h⟩
  | _, _, _, _, .cons h r => let ⟨F, a, b⟩ := FzF.rep r; ⟨_, .cons (.sh h) a (fun _ h => h.elim), fun x y => y.elim id (b x)⟩
theorem Rep.ins {H1 H : Hp} {v : V} {o : Bool} {c : String} {ts : List (String × T)} {F : FP} (s : Same H1 H) (h : Rep K mg H1 H v (.obj o c ts) F) : ∃ a C dx vs G, v = .ref a ∧ H a = some (.ins C dx vs) ∧ mg (Str.ofString c) = some (.ref C) ∧ RepF K mg H1 H vs ts G := by
  cases h with
  | sh h => cases h with | obj a b c => obtain ⟨F, r, _⟩ := c.rep (H := H); exact ⟨_, _, _, _, F, rfl, s _ _ a, b, r⟩
  | obj a b c d e => exact ⟨_, _, _, _, _, rfl, a, c, d⟩
theorem RepF.get : ∀ {vs : List (Str × V)} {ts : List (String × T)} {H1 H : Hp} {F : FP} {f : String} {t : T}, RepF K mg H1 H vs ts F → ts.lookup f = some t → ∃ v G, vs.lookup (Str.ofString f) = some v ∧ Rep K mg H1 H v t G ∧ ∀ b, G b → F b
  | _, _, _, _, _, f, t, .nil, h => by simp at h
  | _, _, _, _, _, f, t, .cons (k := k') (v := v) (t := t') (vs := vs) a r _, h => by
    by_cases e : f = k'
    · subst e
      rw [List.lookup_cons, beq_self_eq_true] at h
      cases h
      exact ⟨v, _, by rw [List.lookup_cons, beq_self_eq_true], a, fun _ z => .inl z⟩
    · have e1 : (f == k') = false := beq_eq_false_iff_ne.mpr e
      rw [List.lookup_cons, e1] at h
      obtain ⟨v', G, x, y, z⟩ := RepF.get r h
      exact ⟨v', G, by rw [List.lookup_cons, ofString_beq, e1]; exact x, y, fun b q => .inr (z b q)⟩

/-! ### in -/
def fIn1 : T → T → Option Bool
  | .str [c], .str z => some (decide (c ∈ z))
  | x, .tup ys => match x.flat, T.flats ys with | some _, some _ => some (ys.any fun y => T.eqv y x) | _, _ => none
  | x, .lst _ ys => match x.flat, T.flats ys with
    | some _, some _ => some (ys.any fun y => T.eqv y x)
    | _, _ => match x.data, T.datas ys with
      | some d, some ds => if SeqAt.shaped d && SeqAt.shaped (.list ds) then some (ys.any fun y => T.eqv y x) else none
      | _, _ => none
  | _, _ => none
def fIn (x y : T) : Option Bool := match y with
  | .dic _ kvs => match x.key with | some k => some (tget kvs k).isSome | none => none
  | y => fIn1 x y
def cIn1 (neg : Bool) (x y : T) : Option T := (fIn1 x y).map fun k => .bl (if neg then !k else k)
def cIn (neg : Bool) (x y : T) : Option T := (fIn x y).map fun k => .bl (if neg then !k else k)
def rInU (K : PySem.W.Frag) (neg : Bool) : R2 := fun x y H Q => (∃ (c : Nat) (z : Str), x = .str ⟨#[c]⟩ ∧ y = .str z ∧ Q (.bl (if neg then !decide (c ∈ z.cps.toList) else decide (c ∈ z.cps.toList))) H) ∨
  (rIn K neg x y H Q ∨ ∃ d ds, Dp K H x d ∧ Dp K H y (.list ds) ∧ SeqAt.shaped d = true ∧ SeqAt.shaped (.list ds) = true ∧ Q (.bl (if neg then !ds.any fun z => PyData.eqv z d else ds.any fun z => PyData.eqv z d)) H)
theorem op_inU {X : Cx} (hu : X.A.units + 65 < cLine) : OpR X (compareOp .In) (rInU X.K false) := op_in_sign.or (op_in_seq.or (op_inD hu))
theorem op_ninU {X : Cx} (hu : X.A.units + 65 < cLine) : OpR X (compareOp .NotIn) (rInU X.K true) := op_notIn_sign.or (op_notIn_seq.or (op_notInD hu))
theorem any_data {x : T} {d : PyData} (hx : x.data = some d) : ∀ {ys : List T} {ds : List PyData}, T.datas ys = some ds → (ds.any fun z => PyData.eqv z d) = ys.any fun y => T.eqv y x
  | [], ds, h => by simp only [T.datas, Option.some.injEq] at h; subst h; rfl
  | y :: ys, ds, h => by
    obtain ⟨e, es, h1, h2, rfl⟩ := datas_some h
    rw [List.any_cons, List.any_cons, any_data hx h2, T.eqv_data _ _ h1 hx]
theorem ov_in {neg : Bool} : OpV K mg (rInU K neg) (cIn1 neg) := fun H1 H vx vy tx ty Gx Gy t s a b e Q q => by
  unfold cIn1 at e
  rw [Option.map_eq_some_iff] at e
  obtain ⟨k, e, rfl⟩ := e
  have q := now (K := K) (mg := mg) s (.bl (if neg then !k else k)) q
  have fl : ∀ {p : Addr} {vs : List V} {ys : List T} {G : FP} {v : V} {ws : List V}, vy = .ref p → (SqL K H p vs ∨ SqT K H p vs) → Reps K mg H1 H vs ys G → tx.flat = some v → T.flats ys = some ws → (ys.any fun y => T.eqv y tx) = k → rInU K neg vx vy H Q :=
    fun {p vs ys G v ws} e1 h r e2 e3 e4 => by
      obtain ⟨e5, f5⟩ := a.flatE e2
      obtain ⟨e6, f6⟩ := r.flatE e3
      refine .inr (.inl ⟨p, vs, e1, h, f5, f6, ?_⟩)
      rw [e5, e6, inV_T e2 e3, e4]
      exact q
  unfold fIn1 at e
  split at e
  · cases e
    refine .inl ⟨_, _, a.strE, b.strE, ?_⟩
    rw [S_toList]
    exact q
  · split at e
    · rename_i e1 e2
      obtain ⟨p, vs, h1, h2, h3⟩ := b.tuple s
      obtain ⟨F, r, _⟩ := h3.reps (H := H)
      exact fl h1 (.inr h2) r e1 e2 (Option.some.inj e)
    · cases e
  · split at e
    · rename_i e1 e2
      obtain ⟨p, vs, G, h1, h2, h3⟩ := b.lst' s
      exact fl h1 (.inl (.inl (.inl h2))) h3 e1 e2 (Option.some.inj e)
    · split at e
      · rename_i e1 e2
        split at e
        · rename_i h
          rw [Bool.and_eq_true] at h
          cases e
          refine .inr (.inr ⟨_, _, a.dp s e1, b.dp s (by simp only [T.data]; rw [e2]; rfl), h.1, h.2, ?_⟩)
          rw [any_data e1 e2]
          exact q
        · cases e
      · cases e
  · cases e
end
section
variable {X : Cx} {a b : Expr} {te ta tb : TE} {x xa xb : Env → Option T} {pos : Pos}
/-- two operands, then r of them -/
theorem two {K : PySem.W.Frag} {mg : Str → Option Value} {env : Env} {u w : T} {H1 H : Hp} {σ : L2.St} {F : FP} (ha : KR K mg ta xa) (hb : KR K mg tb xb) (e1 : xa env = some u) (e2 : xb env = some w) (s : Same H1 H) (R : RepE K mg H1 H σ env F) (R' : V → V → Hp → Prop)
    (h : ∀ v1 v2 Hc Hd G1 G2, Same Hc Hd → Ext H1 H F0 Hc Hd F0 → Rep K mg Hc Hd v1 u G1 → Rep K mg Hc Hd v2 w G2 → R' v1 v2 Hd) : ta σ H fun v1 Hb => tb σ Hb fun v2 Hd => R' v1 v2 Hd :=
  ha _ _ e1 _ _ _ _ s R _ fun v1 Ha Hb G1 x1 r1 => hb _ _ e2 _ _ _ _ x1.sub (x1.qRepE R) _ fun v2 Hc Hd G2 x2 r2 => h v1 v2 Hc Hd G1 G2 x2.sub (x1.trans x2) (x2.qRep r1) r2
theorem qop_some {f : T → T → Option T} {env : Env} {t : T} (e : qOp f xa xb env = some t) : ∃ u w, xa env = some u ∧ xb env = some w ∧ f u w = some t := by
  unfold qOp at e
  cases e1 : xa env with
  | none => rw [e1] at e; cases e
  | some u =>
    cases e2 : xb env with
    | none => rw [e1, e2] at e; cases e
    | some w => rw [e1, e2] at e; exact ⟨u, w, rfl, rfl, e⟩
theorem qr_in {K : PySem.W.Frag} {mg : Str → Option Value} {neg : Bool} {r : TE} (ha : KR K mg ta xa) (hb : KR K mg tb xb)
    (hr : ∀ σ H Q, (ta σ H fun y H1 => tb σ H1 fun x H2 => ∃ a o, x = .ref a ∧ DGet H2 a y o ∧ Q (.bl (if neg then !o.isSome else o.isSome)) H2) → r σ H Q) :
    QR K mg (teOr (tOp (rInU K neg) ta tb) r) (qOp (cIn neg) xa xb) := fun env t e H1 H σ F s R Q q => by
  obtain ⟨u, w, e1, e2, e3⟩ := qop_some e
  clear e
  simp only [cIn, Option.map_eq_some_iff] at e3
  obtain ⟨k, e, rfl⟩ := e3
  unfold fIn at e
  split at e
  · rename_i o kvs
    split at e
    · rename_i kk ek
      cases e
      refine .inr (hr _ _ _ (two ha hb e1 e2 s R _ fun v1 v2 Hc Hd G1 G2 s' x' r1 r2 => ?_))
      obtain ⟨p, vs, G, h1, h2, h3⟩ := r2.dict s'
      refine ⟨p, valV vs kk, h1, by rw [r1.keyE ek]; exact DGet.k h2, ?_⟩
      have : (valV vs kk).isSome = (tget kvs kk).isSome := by
        rcases h3.get (k := kk) with ⟨x, y⟩ | ⟨t, v, G, x, y, _⟩
        · rw [x, y]; rfl
        · rw [x, y]; rfl
      rw [this]
      exact q _ Hc _ F0 x' (.sh (.bl _))
    · cases e
  · exact .inl (qr_op ha hb ov_in env _ (by unfold qOp; rw [e1, e2]; show Option.map _ (fIn1 u w) = _; rw [e]; rfl) H1 H σ F s R Q q)
theorem ce_in (hu : X.A.units + 65 < cLine) (ha : KE X a ta xa) (hb : KE X b tb xb) : CE X .In a b (teOr (tOp (rInU X.K false) ta tb) (tDIn ta tb)) (qOp (cIn false) xa xb) :=
  ⟨PC.or (pc_op (op_inU hu) ha.pe hb.pe) (pc_din (by omega) ha.pe hb.pe), qr_in ha.kr hb.kr fun _ _ _ h => h⟩
theorem ce_notIn (hu : X.A.units + 65 < cLine) (ha : KE X a ta xa) (hb : KE X b tb xb) : CE X .NotIn a b (teOr (tOp (rInU X.K true) ta tb) (tDNotIn ta tb)) (qOp (cIn true) xa xb) :=
  ⟨PC.or (pc_op (op_ninU hu) ha.pe hb.pe) (pc_dnotin (by omega) ha.pe hb.pe), qr_in ha.kr hb.kr fun _ _ _ h => h⟩

/-! ### truth, tests -/
theorem emp_of {α β : Type} {l : List α} {m : List β} (h : l.length = m.length) : (!m.isEmpty) = !l.isEmpty := by
  cases l <;> cases m <;> simp_all
theorem tru_of {K : PySem.W.Frag} {mg : Str → Option Value} {H1 H : Hp} {v : V} {t : T} {F : FP} {k : Bool} (s : Same H1 H) (h : Rep K mg H1 H v t F) (e : t.truth = some k) : TruV K v H k := by
  unfold T.truth at e
  split at e
  · cases e; rw [h.nonE]; exact rfl
  · cases e; rw [h.blE]; exact rfl
  · cases e; rw [h.intE]; exact rfl
  · rename_i l
    split at e
    · rename_i hz
      cases e
      rw [h.strE]
      refine ⟨by rw [S_length]; exact hz, ?_⟩
      rw [S_length]
      cases l <;> simp
      omega
    · cases e
  · cases e
    obtain ⟨p, vs, h1, h2, h3⟩ := h.tuple s
    rw [h1]
    exact .inr (.inl ⟨vs, h2, emp_of h3.len⟩)
  · cases e
    obtain ⟨p, vs, G, h1, h2, h3⟩ := h.lst' s
    rw [h1]
    exact .inl ⟨vs, .inl (.inl h2), emp_of h3.len⟩
  · rename_i xs
    cases e
    obtain ⟨p, vs, G, h1, h2, h3⟩ := h.list s (ts := xs) rfl
    rw [h1]
    exact .inl ⟨vs, h2, emp_of h3.len⟩
  · rename_i o kvs
    cases e
    obtain ⟨p, vs, G, h1, h2, h3⟩ := h.dict s
    rw [h1]
    refine .inr (.inr ⟨vs, h2, ?_⟩)
    cases h3 <;> rfl
  · cases e
def tTruth (xa : Env → Option T) : Env → Option Bool := fun env => match xa env with | none => none | some a => a.truth
theorem te_truth (ha : KE X a ta xa) (he : ∀ whole, isTrue a X.env whole = (do let v ← whole; standAt a.pos; holding [v] (truthy v)) := by intro _; rfl) : TE' X a (fun σ H Q => ta σ H fun x H' => ∃ k, TruV X.K x H' k ∧ Q k H') (tTruth xa) :=
  ⟨pt_truth ha.pe he, fun env b e H1 H σ F s R Q q => by
    unfold tTruth at e
    cases e1 : xa env with
    | none => rw [e1] at e; cases e
    | some u =>
      rw [e1] at e
      exact ha.kr _ _ e1 _ _ _ _ s R _ fun v Ha Hb G x r => ⟨b, tru_of x.sub r e, q Ha Hb x⟩⟩
def tNotC (c : Env → Option Bool) : Env → Option Bool := fun env => match c env with | none => none | some b => some (!b)
def tAndC (c d : Env → Option Bool) : Env → Option Bool := fun env => match c env with | none => none | some true => d env | some false => some false
def tOrC (c d : Env → Option Bool) : Env → Option Bool := fun env => match c env with | none => none | some true => some true | some false => d env
variable {tA tB' : TT} {c d : Env → Option Bool} {rest : List Expr}
theorem te_not (h : TE' X a tA c) : TE' X (.UnaryOp .Not a pos) (tNot tA) (tNotC c) := ⟨pt_not h.pt, fun env b e H1 H σ F s R Q q => by
  unfold tNotC at e
  cases e1 : c env with
  | none => rw [e1] at e; cases e
  | some k => rw [e1] at e; cases e; exact h.tr _ _ e1 _ _ _ _ s R _ fun Ha Hb x => q Ha Hb x⟩
structure WE (X : Cx) (e : Expr) (tt : TT) (c : Env → Option Bool) : Prop where
  pw : PW X e tt
  tr : TR X.K X.mg tt c
theorem WE.asT {e : Expr} (h : WE X e tA c) : TE' X e tA c := ⟨h.pw.pt, h.tr⟩
theorem we_and1 (h : TE' X a tA c) : WE X (.BoolOp .And [a] pos) tA c := ⟨pw_and1 h.pt, h.tr⟩
theorem we_or1 (h : TE' X a tA c) : WE X (.BoolOp .Or [a] pos) tA c := ⟨pw_or1 h.pt, h.tr⟩
theorem we_and (h : TE' X a tA c) (h' : WE X (.BoolOp .And (b :: rest) pos) tB' d) : WE X (.BoolOp .And (a :: b :: rest) pos) (tAnd tA tB') (tAndC c d) := ⟨pw_and h.pt h'.pw, fun env k e H1 H σ F s R Q q => by
  unfold tAndC at e
  refine (?_ : ∃ k1, c env = some k1 ∧ _) |>.elim fun k1 hk => h.tr _ _ hk.1 _ _ _ _ s R _ hk.2
  cases e1 : c env with
  | none => rw [e1] at e; cases e
  | some k1 =>
    refine ⟨k1, rfl, fun Ha Hb x => ?_⟩
    rw [e1] at e
    cases k1 with
    | true => exact iteT (h'.tr _ _ e _ _ _ _ x.sub (x.qRepE R) _ fun Hc Hd y => q Hc Hd (x.trans y))
    | false => cases e; exact iteF (q Ha Hb x)⟩
theorem we_or (h : TE' X a tA c) (h' : WE X (.BoolOp .Or (b :: rest) pos) tB' d) : WE X (.BoolOp .Or (a :: b :: rest) pos) (tOr tA tB') (tOrC c d) := ⟨pw_or h.pt h'.pw, fun env k e H1 H σ F s R Q q => by
  unfold tOrC at e
  refine (?_ : ∃ k1, c env = some k1 ∧ _) |>.elim fun k1 hk => h.tr _ _ hk.1 _ _ _ _ s R _ hk.2
  cases e1 : c env with
  | none => rw [e1] at e; cases e
  | some k1 =>
    refine ⟨k1, rfl, fun Ha Hb x => ?_⟩
    rw [e1] at e
    cases k1 with
    | true => cases e; exact iteT (q Ha Hb x)
    | false => exact iteF (h'.tr _ _ e _ _ _ _ x.sub (x.qRepE R) _ fun Hc Hd y => q Hc Hd (x.trans y))⟩
/-! ### as values -/
def qIf (c : Env → Option Bool) (xa xb : Env → Option T) : Env → Option T := fun env => match c env with | none => none | some true => xa env | some false => xb env
theorem qe_if {e : Expr} (h : TE' X e tA c) (ha : QE X a ta xa) (hb : QE X b tb xb) : QE X (.IfExp e a b pos) (tIf tA ta tb) (qIf c xa xb) := ⟨pe_ifExp h.pt ha.pe hb.pe, fun env t e H1 H σ F s R Q q => by
  unfold qIf at e
  refine (?_ : ∃ k1, c env = some k1 ∧ _) |>.elim fun k1 hk => h.tr _ _ hk.1 _ _ _ _ s R _ hk.2
  cases e1 : c env with
  | none => rw [e1] at e; cases e
  | some k1 =>
    refine ⟨k1, rfl, fun Ha Hb x => ?_⟩
    rw [e1] at e
    cases k1 with
    | true => exact iteT (ha.qr _ _ e _ _ _ _ x.sub (x.qRepE R) _ fun v Hc Hd Ft y r => q v Hc Hd Ft (x.trans y) r)
    | false => exact iteF (hb.qr _ _ e _ _ _ _ x.sub (x.qRepE R) _ fun v Hc Hd Ft y r => q v Hc Hd Ft (x.trans y) r)⟩
def qAnd (xa xb : Env → Option T) : Env → Option T := fun env => match xa env with | none => none | some t => match t.truth with | none => none | some true => xb env | some false => some t
def qOr (xa xb : Env → Option T) : Env → Option T := fun env => match xa env with | none => none | some t => match t.truth with | none => none | some true => some t | some false => xb env
def qNot (xa : Env → Option T) : Env → Option T := fun env => match xa env with | none => none | some t => match t.truth with | none => none | some k => some (.bl (!k))
theorem qe_one {op} (h : QE X a ta xa) : QE X (.BoolOp op [a] pos) ta xa := ⟨pe_one h.pe, h.qr⟩
theorem qe_and (ha : QE X a ta xa) (hb : QE X (.BoolOp .And (b :: rest) pos) tb xb) : QE X (.BoolOp .And (a :: b :: rest) pos) (tAndT X.K ta tb) (qAnd xa xb) := ⟨pe_andT ha.pe hb.pe, fun env t e H1 H σ F s R Q q => by
  unfold qAnd at e
  cases e1 : xa env with
  | none => rw [e1] at e; cases e
  | some u =>
    rw [e1] at e
    refine ha.qr _ _ e1 _ _ _ _ s R _ fun v Ha Hb Ft x r => ?_
    simp only at e
    split at e
    · cases e
    · rename_i ht
      exact ⟨true, tru_of x.sub r ht, iteT (hb.qr _ _ e _ _ _ _ x.sub ((x.less (F'' := F0) fun _ z => z.elim).qRepE R) _ fun w Hc Hd Fu y r2 => q w Hc Hd Fu ((x.less (F'' := F0) fun _ z => z.elim).trans y) r2)⟩
    · rename_i ht
      cases e
      exact ⟨false, tru_of x.sub r ht, iteF (q v Ha Hb Ft x r)⟩⟩
theorem qe_or (ha : QE X a ta xa) (hb : QE X (.BoolOp .Or (b :: rest) pos) tb xb) : QE X (.BoolOp .Or (a :: b :: rest) pos) (tOrT X.K ta tb) (qOr xa xb) := ⟨pe_orT ha.pe hb.pe, fun env t e H1 H σ F s R Q q => by
  unfold qOr at e
  cases e1 : xa env with
  | none => rw [e1] at e; cases e
  | some u =>
    rw [e1] at e
    refine ha.qr _ _ e1 _ _ _ _ s R _ fun v Ha Hb Ft x r => ?_
    simp only at e
    split at e
    · cases e
    · rename_i ht
      cases e
      exact ⟨true, tru_of x.sub r ht, iteT (q v Ha Hb Ft x r)⟩
    · rename_i ht
      exact ⟨false, tru_of x.sub r ht, iteF (hb.qr _ _ e _ _ _ _ x.sub ((x.less (F'' := F0) fun _ z => z.elim).qRepE R) _ fun w Hc Hd Fu y r2 => q w Hc Hd Fu ((x.less (F'' := F0) fun _ z => z.elim).trans y) r2)⟩⟩
theorem qe_not (ha : KE X a ta xa) : QE X (.UnaryOp .Not a pos) (tNotT X.K ta) (qNot xa) := ⟨pe_notT ha.pe, fun env t e H1 H σ F s R Q q => by
  unfold qNot at e
  cases e1 : xa env with
  | none => rw [e1] at e; cases e
  | some u =>
    rw [e1] at e
    refine ha.kr _ _ e1 _ _ _ _ s R _ fun v Ha Hb Ft x r => ?_
    simp only at e
    split at e
    · cases e
    · rename_i k ht
      cases e
      exact ⟨k, tru_of x.sub r ht, q _ Ha Hb F0 x (.sh (.bl _))⟩⟩
end
end GK

/-! GK6: argument lists, displays, items, slices, attributes, built-in calls, methods of texts. -/
namespace GK
open PySem L2
section
variable {X : Cx} {a b e : Expr} {es : List Expr} {te ta tb : TE} {tl : TA} {x xa xb : Env → Option T} {xs : Env → Option (List T)} {pos : Pos}

/-! ### argument lists -/
theorem Ext.both {H1 H Ha Hb Hc Hd : Hp} {F G : FP} (x : Ext H1 H F0 Ha Hb F) (y : Ext Ha Hb F0 Hc Hd G) : Ext H1 H F0 Hc Hd (fun b => F b ∨ G b) := by
  have back : ∀ b, Hb b = none → H b = none := fun b e => by
    rcases none_or H b with h | ⟨o, h⟩
    · exact h
    · rw [x.keep b o h fun z => z] at e; cases e
  refine ⟨x.s1.trans y.s1, y.sub, fun b o z _ => y.keep b o (x.keep b o z fun z => z) fun z => z, fun b (z : _ ∨ _) => ?_, fun b o z => ?_⟩
  · rcases z with z | z
    · exact x.foot b z
    · rcases y.foot b z with z | z
      · exact z.elim
      · exact .inr (back b z)
  · rcases y.new1 b o z with ⟨o', z⟩ | z | z
    · exact x.new1 b o' z
    · exact z.elim
    · exact .inr (.inr (back b z))
def aNil : Env → Option (List T) := fun _ => some []
def aCons (x : Env → Option T) (xs : Env → Option (List T)) : Env → Option (List T) := fun env => match x env with | none => none | some t => match xs env with | none => none | some ts => some (t :: ts)
def aStar (x : Env → Option T) (xs : Env → Option (List T)) : Env → Option (List T) := fun env => match x env with
  | none => none
  | some t => match (match t with | .tup ys => some ys | .lst _ ys => if ys.all T.sh then some ys else none | _ => none), xs env with | some ys, some ts => some (ys ++ ts) | _, _ => none
theorem qa_nil : QA X [] tNil aNil := ⟨pa_nil, fun env ts e H1 H σ F s R Q q => by cases e; exact q [] H1 H F0 (Ext.refl s) .nil⟩
theorem qa_cons (h : QE X e te x) (hr : QA X es tl xs) (hs : starEach (e :: es) X.env = (false, eval e X.env) :: starEach es X.env := by rfl) : QA X (e :: es) (tCons te tl) (aCons x xs) := ⟨pa_cons h.pe hr.pa hs, fun env ts e H1 H σ F s R Q q => by
  unfold aCons at e
  cases e1 : x env with
  | none => rw [e1] at e; cases e
  | some u =>
    cases e2 : xs env with
    | none => rw [e1, e2] at e; cases e
    | some us =>
      rw [e1, e2] at e
      cases e
      refine h.qr _ _ e1 _ _ _ _ s R _ fun v Ha Hb Ft x1 r1 => hr.qr _ _ e2 _ _ _ _ x1.sub ((x1.less (F'' := F0) fun _ z => z.elim).qRepE R) _ fun vs Hc Hd Fu x2 r2 => ?_
      obtain ⟨r3, d⟩ := x2.rep r1 fun _ _ z => z
      exact q (v :: vs) Hc Hd (fun b => Ft b ∨ Fu b) (x1.both x2) (.cons r3 r2 d)⟩

/-! ### displays -/
theorem T.fzs_sh : ∀ {ts : List T}, ts.all T.sh = true → T.fzs ts = ts
  | [], _ => by simp [T.fzs]
  | t :: r, h => by
    rw [List.all_cons, Bool.and_eq_true] at h
    simp only [T.fzs]
    rw [T.fz_sh h.1, T.fzs_sh h.2]
def qLst (xs : Env → Option (List T)) : Env → Option T := fun env => match xs env with | none => none | some ts => if ts.length ≤ maxLen then some (.lst true ts) else none
def qTup (xs : Env → Option (List T)) : Env → Option T := fun env => match xs env with | none => none | some ts => if ts.length ≤ maxLen then some (.tup (T.fzs ts)) else none
theorem qe_lst (h : QA X es tl xs) : QE X (.List es pos) (tLst tl) (qLst xs) := ⟨pe_lst h.pa, fun env t e H1 H σ F s R Q q => by
  unfold qLst at e
  cases e1 : xs env with
  | none => rw [e1] at e; cases e
  | some us =>
    rw [e1] at e
    simp only at e
    split at e
    · rename_i hz
      cases e
      exact h.qr _ _ e1 _ _ _ _ s R _ fun vs Ha Hb Ft x1 r1 => ⟨by rw [r1.len, maxLen_eq]; exact hz, newLst x1.sub r1 fun v Hc Hd Fu x2 r2 => q v Hc Hd Fu (x1.trans x2) r2⟩
    · cases e⟩
theorem qe_tup {k} (h : QA X es tl xs) : QE X (.Tuple es k pos) (tTup tl) (qTup xs) := ⟨pe_tup h.pa, fun env t e H1 H σ F s R Q q => by
  unfold qTup at e
  cases e1 : xs env with
  | none => rw [e1] at e; cases e
  | some us =>
    rw [e1] at e
    simp only at e
    split at e
    · rename_i hz
      cases e
      refine h.qr _ _ e1 _ _ _ _ s R _ fun vs Ha Hb Ft x1 r1 => ⟨by rw [r1.len, maxLen_eq]; exact hz, ?_⟩
      have x2 : Ext Ha Hb Ft (join Ha Hb Ft) Hb F0 := Ext.freeze x1.sub (fun b z => (r1.own b z).1) (fun _ _ z => z) (fun _ z => z) fun _ z => z.elim
      have f2 : Fzs X.K X.mg (join Ha Hb Ft) vs (T.fzs us) := Reps.freeze x2.s1 r1 fun b z => join_in z
      exact newFz x2.sub (fun p e => .tup (.inl (.inl upd_same)) (f2.mono e)) fun v Hc Hd Fu x3 r3 => q v Hc Hd Fu ((x1.trans x2).trans x3) r3
    · cases e⟩
def qDic0 : Env → Option T := fun _ => some (.dic true [])
theorem qe_dic0 : QE X (.Dict [] [] pos) tDNewK qDic0 := ⟨pe_dnewK, fun env t e H1 H σ F s R Q q => by cases e; exact newDic s q⟩

/-! ### items -/
def ixT (xs : List T) (i : Int) : Option T := match atI xs i with | some t => if t.sh then some t else none | none => none
theorem atI_len {α β : Type} {xs : List α} {ys : List β} (h : xs.length = ys.length) {i : Int} {y : β} (e : atI ys i = some y) : ∃ (j : Nat) (x : α), xs[j]? = some x ∧ ys[j]? = some y ∧ atI xs i = some x := by
  obtain ⟨j, h1, h2, h3, _⟩ := atI_get e
  have hj : j < xs.length := by rw [h]; exact h3
  refine ⟨j, xs[j], List.getElem?_eq_getElem hj, h2, ?_⟩
  unfold atI at e ⊢
  rw [h]
  cases hk : ixN ys.length i with
  | none => rw [hk] at e; cases e
  | some k =>
    rw [hk] at e
    obtain ⟨h5, _⟩ := ixN_seq hk
    rw [h1] at h5
    cases h5
    exact List.getElem?_eq_getElem hj
def fIx : T → T → Option T
  | .tup xs, .int i => ixT xs i
  | .lst _ xs, .int i => ixT xs i
  | .scr xs, .int i => ixT xs i
  | .str s, .int i => if s.length ≤ maxLen then (atI s i).map fun c => .str [c] else none
  | _, _ => none
def fItem (x y : T) : Option T := match x with
  | .dic _ kvs => match y.key with | none => none | some k => match tget kvs k with | some t => if t.sh then some t else none | none => none
  | x => fIx x y
section
variable {K : PySem.W.Frag} {mg : Str → Option Value}
theorem ov_ix : OpV K mg (rIx K) fIx := fun H1 H vx vy tx ty Gx Gy t s a b e Q q => by
  have seq : ∀ {xs : List T} {vs : List V} {G : FP} {i : Int}, Reps K mg H1 H vs xs G → ixT xs i = some t → ∃ v, atI vs i = some v ∧ Q v H := fun {xs vs G i} r e => by
    unfold ixT at e
    split at e
    · rename_i u hu
      split at e
      · rename_i hs
        cases e
        obtain ⟨j, v, h1, h2, h3⟩ := atI_len r.len hu
        obtain ⟨v', G', h4, h5, _⟩ := r.get h2
        rw [h1] at h4; cases h4
        exact ⟨v, h3, now s (h5.fzOf hs) q⟩
      · cases e
    · cases e
  unfold fIx at e
  split at e
  · obtain ⟨p, vs, h1, h2, h3⟩ := a.tuple s
    obtain ⟨F, r, _⟩ := h3.reps (H := H)
    obtain ⟨v, h4, h5⟩ := seq r e
    exact .inr (.inl ⟨p, vs, _, v, h1, b.intE, h2, h4, h5⟩)
  · obtain ⟨p, vs, G, h1, h2, h3⟩ := a.lst' s
    obtain ⟨v, h4, h5⟩ := seq h3 e
    exact .inl ⟨p, vs, _, v, h1, b.intE, .inl (.inl h2), h4, h5⟩
  · obtain ⟨p, vs, G, h1, h2, h3⟩ := a.list s rfl
    obtain ⟨v, h4, h5⟩ := seq h3 e
    exact .inl ⟨p, vs, _, v, h1, b.intE, h2, h4, h5⟩
  · split at e
    · rename_i hz
      rw [Option.map_eq_some_iff] at e
      obtain ⟨c, e, rfl⟩ := e
      refine .inr (.inr ⟨_, _, c, a.strE, b.intE, by rw [S_length, maxLen_eq]; exact hz, by rw [S_toList]; exact e, ?_⟩)
      exact now s (.str [c]) q
    · cases e
  · cases e
theorem qr_item {K : PySem.W.Frag} {mg : Str → Option Value} (ha : KR K mg ta xa) (hb : KR K mg tb xb) : QR K mg (teOr (tOp (rIx K) ta tb) (tDGet ta tb)) (qOp fItem xa xb) := fun env t e H1 H σ F s R Q q => by
  obtain ⟨u, w, e1, e2, e3⟩ := qop_some e
  clear e
  unfold fItem at e3
  split at e3
  · rename_i o kvs
    split at e3
    · cases e3
    · rename_i kk ek
      split at e3
      · rename_i t' ht
        split at e3
        · rename_i hs
          cases e3
          refine .inr (two ha hb e1 e2 s R _ fun v1 v2 Hc Hd G1 G2 s' x' r1 r2 => ?_)
          obtain ⟨p, vs, G, h1, h2, h3⟩ := r1.dict s'
          rcases h3.get (k := kk) with ⟨x, y⟩ | ⟨t2, v, G, x, y, z, _⟩
          · rw [ht] at x; cases x
          · rw [ht] at x; cases x
            exact ⟨p, v, h1, by rw [r2.keyE ek, ← y]; exact DGet.k h2, q v Hc Hd F0 x' (.sh (z.fzOf hs))⟩
        · cases e3
      · cases e3
  · exact .inl (qr_op ha hb ov_ix env _ (by unfold qOp; rw [e1, e2]; exact e3) H1 H σ F s R Q q)
end
theorem qe_item (hu : X.A.units + 1 < cLine) (ha : KE X a ta xa) (hb : KE X b tb xb) (hs : PlainIx b := by exact fun _ _ => rfl) : QE X (.Subscript a b pos) (teOr (tOp (rIx X.K) ta tb) (tDGet ta tb)) (qOp fItem xa xb) :=
  ⟨PE.or (pe_ix ix_seq ha.pe hb.pe hs) (pe_dget hu ha.pe hb.pe hs), qr_item ha.kr hb.kr⟩
/-- an item to be used at once (it may be owned) -/
def fPeek : T → T → Option T
  | .lst _ xs, .int i => atI xs i
  | .dic _ kvs, y => match y.key with | none => none | some k => tget kvs k
  | _, _ => none
theorem kr_item {K : PySem.W.Frag} {mg : Str → Option Value} (ha : KR K mg ta xa) (hb : KR K mg tb xb) : KR K mg (teOr (tOp (rIx K) ta tb) (tDGet ta tb)) (qOp fPeek xa xb) := fun env t e H1 H σ F s R Q q => by
  obtain ⟨u, w, e1, e2, e3⟩ := qop_some e
  clear e
  unfold fPeek at e3
  split at e3
  · refine .inl (two ha hb e1 e2 s R _ fun v1 v2 Hc Hd G1 G2 s' x' r1 r2 => ?_)
    obtain ⟨p, vs, G, h1, h2, h3⟩ := r1.lst' s'
    obtain ⟨j, v, h4, h5, h6⟩ := atI_len h3.len e3
    obtain ⟨v', G', h7, h8, _⟩ := h3.get h5
    rw [h4] at h7; cases h7
    exact .inl ⟨p, vs, _, v, h1, r2.intE, .inl (.inl h2), h6, q v Hc Hd G' x' h8⟩
  · split at e3
    · cases e3
    · rename_i kk ek
      refine .inr (two ha hb e1 e2 s R _ fun v1 v2 Hc Hd G1 G2 s' x' r1 r2 => ?_)
      obtain ⟨p, vs, G, h1, h2, h3⟩ := r1.dict s'
      rcases h3.get (k := kk) with ⟨x, y⟩ | ⟨t2, v, G, x, y, z, _⟩
      · rw [e3] at x; cases x
      · rw [e3] at x; cases x
        exact ⟨p, v, h1, by rw [r2.keyE ek, ← y]; exact DGet.k h2, q v Hc Hd G x' z⟩
  · cases e3
def fPeekU (x y : T) : Option T := match fPeek x y with | some t => some t | none => fItem x y
theorem kr_itemU {K : PySem.W.Frag} {mg : Str → Option Value} (ha : KR K mg ta xa) (hb : KR K mg tb xb) : KR K mg (teOr (tOp (rIx K) ta tb) (tDGet ta tb)) (qOp fPeekU xa xb) := fun env t e => by
  obtain ⟨u, w, e1, e2, e3⟩ := qop_some e
  unfold fPeekU at e3
  split at e3
  · rename_i e4
    cases e3
    exact kr_item ha hb env t (by unfold qOp; rw [e1, e2]; exact e4)
  · exact (qr_item ha hb).k env t (by unfold qOp; rw [e1, e2]; exact e3)
theorem ke_item (hu : X.A.units + 1 < cLine) (ha : KE X a ta xa) (hb : KE X b tb xb) (hs : PlainIx b := by exact fun _ _ => rfl) : KE X (.Subscript a b pos) (teOr (tOp (rIx X.K) ta tb) (tDGet ta tb)) (qOp fPeekU xa xb) :=
  ⟨PE.or (pe_ix ix_seq ha.pe hb.pe hs) (pe_dget hu ha.pe hb.pe hs), kr_itemU ha.kr hb.kr⟩

/-! ### slices -/
def cutL {α : Type} (xs : List α) (lo hi : Option Int) : List α := (xs.drop (HT.sIx xs.length 0 lo)).take (HT.sIx xs.length xs.length hi - HT.sIx xs.length 0 lo)
structure PartE (X : Cx) (e : Option Expr) (t : TO) (x : Env → Option (Option Int)) : Prop where
  po : PO X e t
  tr : ∀ env o, x env = some o → ∀ H1 H σ F, Same H1 H → RepE X.K X.mg H1 H σ env F → ∀ Q : Option Int → Hp → Prop, (∀ H1' H', Ext H1 H F0 H1' H' F0 → Q o H') → t σ H Q
def pNo : Env → Option (Option Int) := fun _ => some none
def pSome (x : Env → Option T) : Env → Option (Option Int) := fun env => match x env with | some (.int i) => some (some i) | _ => none
theorem part_no : PartE X none tNoPart pNo := ⟨po_none, fun env o e H1 H σ F s R Q q => by cases e; exact q H1 H (Ext.refl s)⟩
theorem part_some (h : KE X e te x) : PartE X (some e) (tPart te) (pSome x) := ⟨po_some h.pe, fun env o e H1 H σ F s R Q q => by
  unfold pSome at e
  split at e
  · rename_i i e1
    cases e
    exact h.kr _ _ e1 _ _ _ _ s R _ fun v Ha Hb G x1 r1 => ⟨i, r1.intE, q Ha Hb x1⟩
  · cases e⟩
def fSl (t : T) (lo hi : Option Int) : Option T := match t with
  | .str s => if s.length ≤ maxLen then some (.str (cutL s lo hi)) else none
  | .tup xs => some (.tup (cutL xs lo hi))
  | .lst _ xs => if xs.all T.sh then some (.lst true (cutL xs lo hi)) else none
  | .scr xs => if xs.all T.sh then some (.lst true (cutL xs lo hi)) else none
  | _ => none
def qSl (xa : Env → Option T) (l h : Env → Option (Option Int)) : Env → Option T := fun env => match xa env with | none => none | some t => match l env with | none => none | some lo => match h env with | none => none | some hi => fSl t lo hi
def rSlU (K : PySem.W.Frag) : V → Option Int → Option Int → Hp → VK → Prop := fun x lo hi H Q => rSlS x lo hi H Q ∨ (rSlA K x lo hi H Q ∨ rSlL K x lo hi H Q)
theorem cutL_sub {α : Type} {xs : List α} {lo hi : Option Int} {p : α → Bool} (h : xs.all p = true) : (cutL xs lo hi).all p = true := by
  rw [List.all_eq_true] at h ⊢
  intro y hy
  exact h y (List.mem_of_mem_drop (List.mem_of_mem_take hy))
section
variable {K : PySem.W.Frag} {mg : Str → Option Value}
theorem Fzs.drop : ∀ {vs : List V} {ts : List T} {H : Hp} (n : Nat), Fzs K mg H vs ts → Fzs K mg H (vs.drop n) (ts.drop n)
  | _, _, _, 0, h => h
  | _, _, _, _ + 1, .nil => .nil
  | _, _, _, n + 1, .cons _ r => Fzs.drop n r
theorem Fzs.take : ∀ {vs : List V} {ts : List T} {H : Hp} (n : Nat), Fzs K mg H vs ts → Fzs K mg H (vs.take n) (ts.take n)
  | _, _, _, 0, _ => .nil
  | _, _, _, _ + 1, .nil => .nil
  | _, _, _, n + 1, .cons a r => .cons a (Fzs.take n r)
theorem Fzs.cut {vs : List V} {ts : List T} {H : Hp} {lo hi : Option Int} (h : Fzs K mg H vs ts) : Fzs K mg H (cutV vs lo hi) (cutL ts lo hi) := by
  unfold cutV cutL
  rw [h.len]
  exact (h.drop _).take _
theorem cut_whole {α : Type} {xs : List α} {lo hi : Option Int} (h : HT.sIx xs.length 0 lo = 0 ∧ HT.sIx xs.length xs.length hi = xs.length) : cutL xs lo hi = xs := by
  unfold cutL
  rw [h.1, h.2]
  simp
theorem sl_road {H1 H : Hp} {v : V} {t u : T} {G : FP} {lo hi : Option Int} (s : Same H1 H) (a : Rep K mg H1 H v t G) (e : fSl t lo hi = some u) {Q : VK}
    (q : ∀ v H1' H' Ft, Ext H1 H F0 H1' H' Ft → Rep K mg H1' H' v u Ft → Q v H') : rSlU K v lo hi H Q := by
  have lst : ∀ {p : Addr} {vs : List V} {ts : List T} {G : FP}, v = .ref p → SqL K H p vs → Reps K mg H1 H vs ts G → (if ts.all T.sh then some (T.lst true (cutL ts lo hi)) else none) = some u → rSlU K v lo hi H Q := fun {p vs ts G} h1 h2 h3 e => by
    split at e
    · rename_i hs
      cases e
      obtain ⟨F, r, n⟩ := (Fzs.cut (lo := lo) (hi := hi) (h3.fzs hs)).reps (H := H)
      exact .inr (.inr ⟨p, vs, h1, h2, newLst s r fun v H1' H' Ft x => q v H1' H' Ft (x.base n)⟩)
    · cases e
  unfold fSl at e
  split at e
  · split at e
    · rename_i hz
      cases e
      refine .inl ⟨_, a.strE, by rw [S_length, maxLen_eq]; exact hz, ?_⟩
      unfold cutS
      rw [S_length, S_toList]
      exact now s (.str _) q
    · cases e
  · cases e
    obtain ⟨p, vs, h1, h2, h3⟩ := a.tuple s
    have f := a.fzOf rfl
    refine .inr (.inl ⟨p, vs, h1, h2, fun h => ?_, fun _ => ?_⟩)
    · rw [h3.len] at h
      have e := cut_whole h
      rw [e] at q
      rw [← h1]
      exact now s f q
    · exact newFz s (fun p e => .tup (.inl (.inl upd_same)) (h3.cut.mono e)) q
  · obtain ⟨p, vs, G, h1, h2, h3⟩ := a.lst' s
    exact lst h1 (.inl (.inl h2)) h3 e
  · obtain ⟨p, vs, G, h1, h2, h3⟩ := a.list s rfl
    exact lst h1 h2 h3 e
  · cases e
end
theorem qe_slice {lo hi : Option Expr} {tlo thi : TO} {l h : Env → Option (Option Int)} {p2} (ha : KE X a ta xa) (hl : PartE X lo tlo l) (hh : PartE X hi thi h) : QE X (.Subscript a (.Slice lo hi none p2) pos) (L2.tSl (rSlU X.K) ta tlo thi) (qSl xa l h) :=
  ⟨pe_slice (sl_str.or (sl_tupA.or sl_list)) ha.pe hl.po hh.po, fun env t e H1 H σ F s R Q q => by
    unfold qSl at e
    cases e1 : xa env with
    | none => rw [e1] at e; cases e
    | some u =>
      cases e2 : l env with
      | none => rw [e1, e2] at e; cases e
      | some lo' =>
        cases e3 : h env with
        | none => rw [e1, e2, e3] at e; cases e
        | some hi' =>
          rw [e1, e2, e3] at e
          exact ha.kr _ _ e1 _ _ _ _ s R _ fun v Ha Hb G x1 r1 => hl.tr _ _ e2 _ _ _ _ x1.sub (x1.qRepE R) _ fun Hc Hd x2 => hh.tr _ _ e3 _ _ _ _ x2.sub (x2.qRepE (x1.qRepE R)) _ fun He Hf x3 =>
            sl_road x3.sub (x3.qRep (x2.qRep r1)) e fun v H1' H' Ft x4 r4 => q v H1' H' Ft (((x1.trans x2).trans x3).trans x4) r4⟩
end
end GK

/-! GK7: built-in functions, methods of texts. -/
namespace GK
open PySem L2

/-! ### sorting -/
def ins {α : Type} (le : α → α → Bool) (x : α) : List α → List α
  | [] => [x]
  | y :: r => if le x y then x :: y :: r else y :: ins le x r
def isort {α : Type} (le : α → α → Bool) : List α → List α
  | [] => []
  | x :: r => ins le x (isort le r)
theorem ins_perm {α : Type} {le : α → α → Bool} (x : α) : ∀ l : List α, (ins le x l).Perm (x :: l)
  | [] => List.Perm.refl _
  | y :: r => by
    unfold ins
    split
    · exact List.Perm.refl _
    · exact ((ins_perm x r).cons y).trans (List.Perm.swap x y r)
theorem isort_perm {α : Type} {le : α → α → Bool} : ∀ l : List α, (isort le l).Perm l
  | [] => List.Perm.refl _
  | x :: r => (ins_perm x _).trans ((isort_perm r).cons x)
theorem ins_sorted {α : Type} {le : α → α → Bool} (ht : ∀ a b c, le a b = true → le b c = true → le a c = true) (hc : ∀ a b, le a b = true ∨ le b a = true) (x : α) : ∀ l : List α, l.Pairwise (fun a b => le a b = true) → (ins le x l).Pairwise (fun a b => le a b = true)
  | [], _ => by simp [ins]
  | y :: r, h => by
    rw [List.pairwise_cons] at h
    unfold ins
    split
    · rename_i hxy
      rw [List.pairwise_cons, List.pairwise_cons]
      refine ⟨fun z hz => ?_, h⟩
      rcases List.mem_cons.mp hz with rfl | hz
      · exact hxy
      · exact ht _ _ _ hxy (h.1 z hz)
    · rename_i hxy
      rw [List.pairwise_cons]
      refine ⟨fun z hz => ?_, ins_sorted ht hc x r h.2⟩
      rcases List.mem_cons.mp ((ins_perm x r).mem_iff.mp hz) with rfl | hz
      · exact (hc z y).resolve_left hxy
      · exact h.1 z hz
theorem isort_sorted {α : Type} {le : α → α → Bool} (ht : ∀ a b c, le a b = true → le b c = true → le a c = true) (hc : ∀ a b, le a b = true ∨ le b a = true) : ∀ l : List α, (isort le l).Pairwise (fun a b => le a b = true)
  | [] => List.Pairwise.nil
  | x :: r => ins_sorted ht hc x _ (isort_sorted ht hc r)
def leI (a b : Int) : Bool := decide (a ≤ b)
def leS (a b : List Nat) : Bool := !decide (b < a)
theorem isortI_eq {ns ms : List Int} (p : ms.Perm ns) (h : ms.Pairwise (· ≤ ·)) : ms = isort leI ns :=
  List.Perm.eq_of_pairwise (le := fun a b : Int => a ≤ b) (fun a b _ _ h1 h2 => Int.le_antisymm h1 h2) h
    ((isort_sorted (le := leI) (fun a b c h1 h2 => decide_eq_true (Int.le_trans (of_decide_eq_true h1) (of_decide_eq_true h2))) (fun a b => (Int.le_total a b).imp (fun h => decide_eq_true h) fun h => decide_eq_true h) ns).imp fun h => of_decide_eq_true h) (p.trans (isort_perm ns).symm)
theorem leS_iff {a b : List Nat} : leS a b = true ↔ a ≤ b := by
  unfold leS
  rw [Bool.not_eq_true', decide_eq_false_iff_not]
  exact List.not_lt
def imax : Int → List Int → Int
  | m, [] => m
  | m, x :: r => imax (if m < x then x else m) r
def imin : Int → List Int → Int
  | m, [] => m
  | m, x :: r => imin (if x < m then x else m) r
theorem imax_ge : ∀ (r : List Int) (m : Int), m ≤ imax m r ∧ ∀ y ∈ r, y ≤ imax m r
  | [], m => ⟨Int.le_refl _, fun _ h => nomatch h⟩
  | x :: r, m => by
    obtain ⟨h1, h2⟩ := imax_ge r (if m < x then x else m)
    unfold imax
    have : m ≤ (if m < x then x else m) ∧ x ≤ (if m < x then x else m) := by split <;> omega
    refine ⟨Int.le_trans this.1 h1, fun y hy => ?_⟩
    rcases List.mem_cons.mp hy with rfl | hy
    · exact Int.le_trans this.2 h1
    · exact h2 y hy
theorem imax_mem : ∀ (r : List Int) (m : Int), imax m r ∈ m :: r
  | [], m => by simp [imax]
  | x :: r, m => by
    have := imax_mem r (if m < x then x else m)
    unfold imax
    rcases List.mem_cons.mp this with h | h
    · rw [h]; split <;> simp
    · exact List.mem_cons_of_mem _ (List.mem_cons_of_mem _ h)
theorem imin_le : ∀ (r : List Int) (m : Int), imin m r ≤ m ∧ ∀ y ∈ r, imin m r ≤ y
  | [], m => ⟨Int.le_refl _, fun _ h => nomatch h⟩
  | x :: r, m => by
    obtain ⟨h1, h2⟩ := imin_le r (if x < m then x else m)
    unfold imin
    have : (if x < m then x else m) ≤ m ∧ (if x < m then x else m) ≤ x := by split <;> omega
    refine ⟨Int.le_trans h1 this.1, fun y hy => ?_⟩
    rcases List.mem_cons.mp hy with rfl | hy
    · exact Int.le_trans h1 this.2
    · exact h2 y hy
theorem imin_mem : ∀ (r : List Int) (m : Int), imin m r ∈ m :: r
  | [], m => by simp [imin]
  | x :: r, m => by
    have := imin_mem r (if x < m then x else m)
    unfold imin
    rcases List.mem_cons.mp this with h | h
    · rw [h]; split <;> simp
    · exact List.mem_cons_of_mem _ (List.mem_cons_of_mem _ h)

/-! ### arguments to be used at once -/
section
variable (K : PySem.W.Frag) (mg : Str → Option Value)
inductive RepL (H1 H : Hp) : List V → List T → Prop
  | nil : RepL H1 H [] []
  | cons {v : V} {t : T} {vs : List V} {ts : List T} {G : FP} : Rep K mg H1 H v t G → RepL H1 H vs ts → RepL H1 H (v :: vs) (t :: ts)
def KRA (ta : TA) (x : Env → Option (List T)) : Prop := ∀ env ts, x env = some ts → ∀ H1 H σ F, Same H1 H → RepE K mg H1 H σ env F → ∀ Q : List V → Hp → Prop,
  (∀ vs H1' H', Ext H1 H F0 H1' H' F0 → RepL K mg H1' H' vs ts → Q vs H') → ta σ H Q
def CallP (r : List V → Hp → VK → Prop) (f : List T → Option T) : Prop := ∀ H1 H vs ts t, Same H1 H → RepL K mg H1 H vs ts → f ts = some t → ∀ Q : VK,
  (∀ v H1' H' Ft, Ext H1 H F0 H1' H' Ft → Rep K mg H1' H' v t Ft → Q v H') → r vs H Q
end
structure KA (X : Cx) (es : List Expr) (ta : TA) (x : Env → Option (List T)) : Prop where
  pa : PA X es ta
  kr : KRA X.K X.mg ta x
section
variable {X : Cx} {a b e : Expr} {es : List Expr} {te ta tb : TE} {tl : TA} {x xa xb : Env → Option T} {xs : Env → Option (List T)} {pos p : Pos}
theorem ka_nil : KA X [] tNil aNil := ⟨pa_nil, fun env ts e H1 H σ F s R Q q => by cases e; exact q [] H1 H (Ext.refl s) .nil⟩
theorem ka_cons (h : KE X e te x) (hr : KA X es tl xs) (hs : starEach (e :: es) X.env = (false, eval e X.env) :: starEach es X.env := by rfl) : KA X (e :: es) (tCons te tl) (aCons x xs) := ⟨pa_cons h.pe hr.pa hs, fun env ts e H1 H σ F s R Q q => by
  unfold aCons at e
  cases e1 : x env with
  | none => rw [e1] at e; cases e
  | some u =>
    cases e2 : xs env with
    | none => rw [e1, e2] at e; cases e
    | some us =>
      rw [e1, e2] at e
      cases e
      exact h.kr _ _ e1 _ _ _ _ s R _ fun v Ha Hb G x1 r1 => hr.kr _ _ e2 _ _ _ _ x1.sub (x1.qRepE R) _ fun vs Hc Hd x2 r2 => q (v :: vs) Hc Hd (x1.trans x2) (.cons (x2.qRep r1) r2)⟩
def qCallB (f : List T → Option T) (xs : Env → Option (List T)) : Env → Option T := fun env => match xs env with | none => none | some ts => f ts
theorem qr_callB {K : PySem.W.Frag} {mg : Str → Option Value} {r : List V → Hp → VK → Prop} {f : List T → Option T} (ha : KRA K mg tl xs) (hv : CallP K mg r f) : QR K mg (tCB r tl) (qCallB f xs) := fun env t e H1 H σ F s R Q q => by
  unfold qCallB at e
  cases e1 : xs env with
  | none => rw [e1] at e; cases e
  | some u =>
    rw [e1] at e
    exact ha _ _ e1 _ _ _ _ s R _ fun vs Ha Hb x1 r1 => hv _ _ _ _ _ x1.sub r1 e Q fun v H1' H' Ft x2 r2 => q v H1' H' Ft (x1.trans x2) r2
theorem qe_blt {y : Str} {id : String} {r : List V → Hp → VK → Prop} {f : List T → Option T} (hc : CallR X (.builtin id) r) (hv : CallP X.K X.mg r f) (hm : X.mg y = none) (hb : bootBuiltins y = some (.builtin id)) (ha : KA X (e :: es) tl xs)
    (hg : Gl X y := by rfl) (hn : y ≠ "__name__" := by decide) (hd : (y == ("__debug__" : Str)) = false := by decide) (hs : starEach (e :: es) X.env = (false, eval e X.env) :: starEach es X.env := by rfl) (hp : (backTo pos (starEach es X.env)).any (·.1) = false := by rfl) :
    QE X (.Call (.Name y p) (e :: es) [] pos) (tCB r tl) (qCallB f xs) := ⟨pe_callB hc hg hm hb ha.pa hn hd hs hp, qr_callB ha.kr hv⟩
theorem qe_bty {y : Str} {id : String} {r : List V → Hp → VK → Prop} {f : List T → Option T} (hc : CallR X (.type id) r) (hv : CallP X.K X.mg r f) (hm : X.mg y = none) (hb : bootBuiltins y = some (.type id)) (ha : KA X (e :: es) tl xs)
    (hg : Gl X y := by rfl) (hn : y ≠ "__name__" := by decide) (hd : (y == ("__debug__" : Str)) = false := by decide) (hs : starEach (e :: es) X.env = (false, eval e X.env) :: starEach es X.env := by rfl) (hp : (backTo pos (starEach es X.env)).any (·.1) = false := by rfl) :
    QE X (.Call (.Name y p) (e :: es) [] pos) (tCB r tl) (qCallB f xs) := ⟨pe_callTy hc hg hm hb ha.pa hn hd hs hp, qr_callB ha.kr hv⟩
end

section
variable {K : PySem.W.Frag} {mg : Str → Option Value} {H1 H : Hp}
theorem RepL.one {vs : List V} {t : T} (h : RepL K mg H1 H vs [t]) : ∃ v G, vs = [v] ∧ Rep K mg H1 H v t G := by
  cases h with | cons a b => cases b; exact ⟨_, _, rfl, a⟩
theorem RepL.two {vs : List V} {t u : T} (h : RepL K mg H1 H vs [t, u]) : ∃ v w G G', vs = [v, w] ∧ Rep K mg H1 H v t G ∧ Rep K mg H1 H w u G' := by
  cases h with | cons a b => cases b with | cons b c => cases c; exact ⟨_, _, _, _, rfl, a, b⟩
/-- lists of ints, of bools, of texts -/
def T.ints : List T → Option (List Int)
  | [] => some []
  | .int i :: r => (T.ints r).map (i :: ·)
  | _ :: _ => none
def T.bls : List T → Option (List Bool)
  | [] => some []
  | .bl i :: r => (T.bls r).map (i :: ·)
  | _ :: _ => none
def T.strs : List T → Option (List (List Nat))
  | [] => some []
  | .str i :: r => (T.strs r).map (i :: ·)
  | _ :: _ => none
theorem Reps.ints : ∀ {vs : List V} {ts : List T} {F : FP} {ns : List Int}, Reps K mg H1 H vs ts F → T.ints ts = some ns → vs = ns.map V.int
  | _, _, _, _, .nil, h => by cases h; rfl
  | _, _, _, _, .cons (t := t) a r _, h => by
    cases t <;> simp only [T.ints, Option.map_eq_some_iff, reduceCtorEq] at h
    obtain ⟨ns, e, rfl⟩ := h
    rw [a.intE, Reps.ints r e]; rfl
theorem Reps.bls : ∀ {vs : List V} {ts : List T} {F : FP} {ns : List Bool}, Reps K mg H1 H vs ts F → T.bls ts = some ns → vs = ns.map V.bl
  | _, _, _, _, .nil, h => by cases h; rfl
  | _, _, _, _, .cons (t := t) a r _, h => by
    cases t <;> simp only [T.bls, Option.map_eq_some_iff, reduceCtorEq] at h
    obtain ⟨ns, e, rfl⟩ := h
    rw [a.blE, Reps.bls r e]; rfl
theorem Reps.strs : ∀ {vs : List V} {ts : List T} {F : FP} {ns : List (List Nat)}, Reps K mg H1 H vs ts F → T.strs ts = some ns → vs = ns.map fun s => V.str (S s)
  | _, _, _, _, .nil, h => by cases h; rfl
  | _, _, _, _, .cons (t := t) a r _, h => by
    cases t <;> simp only [T.strs, Option.map_eq_some_iff, reduceCtorEq] at h
    obtain ⟨ns, e, rfl⟩ := h
    rw [a.strE, Reps.strs r e]; rfl
theorem intsT {xs : List T} {vs : List V} {F : FP} {ns : List Int} (h : Reps K mg H1 H vs xs F) (e : T.ints xs = some ns) : vs = ns.map V.int := h.ints e
theorem fz_ints : ∀ (ns : List Int) (H : Hp), Fzs K mg H (ns.map V.int) (ns.map T.int)
  | [], _ => .nil
  | n :: r, H => .cons (.int n) (fz_ints r H)
theorem fz_strs : ∀ (ns : List (List Nat)) (H : Hp), Fzs K mg H (ns.map fun s => V.str (S s)) (ns.map T.str)
  | [], _ => .nil
  | n :: r, H => .cons (.str n) (fz_strs r H)
/-- a new list of frozen items -/
theorem newL {vs : List V} {ts : List T} {Q : VK} (s : Same H1 H) (f : Fzs K mg H1 vs ts) (q : ∀ v H1' H' Ft, Ext H1 H F0 H1' H' Ft → Rep K mg H1' H' v (.lst true ts) Ft → Q v H') : ∀ p, H p = none → Q (.ref p) (upd H p (.lst vs)) := by
  obtain ⟨F, r, n⟩ := f.reps (H := H)
  exact newLst s r fun v H1' H' Ft x => q v H1' H' Ft (x.base n)

/-! ### the functions -/
def fLen : List T → Option T
  | [.str s] => if s.length ≤ maxLen then some (.int s.length) else none
  | [.tup xs] => some (.int xs.length)
  | [.lst _ xs] => some (.int xs.length)
  | [.scr xs] => some (.int xs.length)
  | [.dic _ kvs] => some (.int kvs.length)
  | _ => none
def rLenU (K : PySem.W.Frag) : List V → Hp → VK → Prop := fun xs H Q => (∃ x n, xs = [x] ∧ LenV K x H n ∧ Q (.int n) H) ∨ ∃ a kvs, xs = [V.ref a] ∧ H a = some (.dK kvs) ∧ Q (.int kvs.length) H
theorem RepA.len : ∀ {vs : List (Key × V)} {ts : List (Key × T)} {F : FP}, RepA K mg H1 H vs ts F → vs.length = ts.length
  | _, _, _, .nil => rfl
  | _, _, _, .cons _ r _ => by rw [List.length_cons, List.length_cons, RepA.len r]
theorem cp_len : CallP K mg (rLenU K) fLen := fun H1 H vs ts t s a e Q q => by
  unfold fLen at e
  split at e
  · obtain ⟨v, G, rfl, r⟩ := a.one
    split at e
    · rename_i hz; cases e
      refine .inl ⟨v, _, rfl, ?_, now s (.int _) q⟩
      rw [r.strE]; exact ⟨by rw [S_length, maxLen_eq]; exact hz, (S_length _).symm⟩
    · cases e
  · cases e
    obtain ⟨v, G, rfl, r⟩ := a.one
    obtain ⟨p, vs, rfl, h2, h3⟩ := r.tuple s
    exact .inl ⟨_, _, rfl, .inr ⟨vs, h2, h3.len.symm⟩, now s (.int _) q⟩
  · cases e
    obtain ⟨v, G, rfl, r⟩ := a.one
    obtain ⟨p, vs, G, rfl, h2, h3⟩ := r.lst' s
    exact .inl ⟨_, _, rfl, .inl ⟨vs, .inl (.inl h2), h3.len.symm⟩, now s (.int _) q⟩
  · cases e
    obtain ⟨v, G, rfl, r⟩ := a.one
    obtain ⟨p, vs, G, rfl, h2, h3⟩ := r.list s rfl
    exact .inl ⟨_, _, rfl, .inl ⟨vs, h2, h3.len.symm⟩, now s (.int _) q⟩
  · cases e
    obtain ⟨v, G, rfl, r⟩ := a.one
    obtain ⟨p, vs, G, rfl, h2, h3⟩ := r.dict s
    refine .inr ⟨p, vs, rfl, h2, ?_⟩
    rw [h3.len]
    exact now s (.int _) q
  · cases e
def fAbs : List T → Option T
  | [.int i] => some (.int (if i < 0 then -i else i))
  | _ => none
theorem cp_abs : CallP K mg (fun xs H Q => ∃ i, xs = [.int i] ∧ Q (.int (if i < 0 then -i else i)) H) fAbs := fun H1 H vs ts t s a e Q q => by
  unfold fAbs at e
  split at e
  · cases e; obtain ⟨v, G, rfl, r⟩ := a.one; exact ⟨_, by rw [r.intE], now s (.int _) q⟩
  · cases e
def fMax : List T → Option T
  | [.int i, .int j] => some (.int (if j > i then j else i))
  | [.lst _ xs] => match T.ints xs with | some (n :: r) => some (.int (imax n r)) | _ => none
  | _ => none
def fMin : List T → Option T
  | [.int i, .int j] => some (.int (if j < i then j else i))
  | [.lst _ xs] => match T.ints xs with | some (n :: r) => some (.int (imin n r)) | _ => none
  | _ => none
def rMaxU (K : PySem.W.Frag) : List V → Hp → VK → Prop := fun xs H Q => (∃ i j, xs = [.int i, .int j] ∧ Q (.int (if j > i then j else i)) H) ∨ rMax K xs H Q
def rMinU (K : PySem.W.Frag) : List V → Hp → VK → Prop := fun xs H Q => (∃ i j, xs = [.int i, .int j] ∧ Q (.int (if j < i then j else i)) H) ∨ rMin K xs H Q
theorem cp_max : CallP K mg (rMaxU K) fMax := fun H1 H vs ts t s a e Q q => by
  unfold fMax at e
  split at e
  · cases e; obtain ⟨v, w, G, G', rfl, r, r'⟩ := a.two; exact .inl ⟨_, _, by rw [r.intE, r'.intE], now s (.int _) q⟩
  · split at e
    · rename_i n r hn
      cases e
      obtain ⟨v, G, rfl, rr⟩ := a.one
      obtain ⟨p, vs, G, rfl, h2, h3⟩ := rr.lst' s
      rw [h3.ints hn] at h2
      refine .inr ⟨p, _, rfl, .inl (.inl h2), by simp, fun m hm hle => ?_⟩
      obtain ⟨g1, g2⟩ := imax_ge r n
      have : m = imax n r := Int.le_antisymm ((List.mem_cons.mp hm).elim (fun e => by rw [e]; exact g1) (g2 m)) (hle _ (imax_mem r n))
      rw [this]
      exact now s (.int _) q
    · cases e
  · cases e
theorem cp_min : CallP K mg (rMinU K) fMin := fun H1 H vs ts t s a e Q q => by
  unfold fMin at e
  split at e
  · cases e; obtain ⟨v, w, G, G', rfl, r, r'⟩ := a.two; exact .inl ⟨_, _, by rw [r.intE, r'.intE], now s (.int _) q⟩
  · split at e
    · rename_i n r hn
      cases e
      obtain ⟨v, G, rfl, rr⟩ := a.one
      obtain ⟨p, vs, G, rfl, h2, h3⟩ := rr.lst' s
      rw [h3.ints hn] at h2
      refine .inr ⟨p, _, rfl, .inl (.inl h2), by simp, fun m hm hle => ?_⟩
      obtain ⟨g1, g2⟩ := imin_le r n
      have : m = imin n r := Int.le_antisymm (hle _ (imin_mem r n)) ((List.mem_cons.mp hm).elim (fun e => by rw [e]; exact g1) (g2 m))
      rw [this]
      exact now s (.int _) q
    · cases e
  · cases e
def fSum : List T → Option T
  | [.lst _ xs] => (T.ints xs).map fun ns => .int ns.sum
  | _ => none
theorem cp_sum : CallP K mg (rSum K) fSum := fun H1 H vs ts t s a e Q q => by
  unfold fSum at e
  split at e
  · rw [Option.map_eq_some_iff] at e
    obtain ⟨ns, hn, rfl⟩ := e
    obtain ⟨v, G, rfl, r⟩ := a.one
    obtain ⟨p, vs, G, rfl, h2, h3⟩ := r.lst' s
    rw [h3.ints hn] at h2
    exact ⟨p, ns, rfl, .inl (.inl h2), now s (.int _) q⟩
  · cases e
def fAll : List T → Option T
  | [.lst _ xs] => (T.bls xs).map fun ns => .bl (ns.all id)
  | _ => none
def fAny : List T → Option T
  | [.lst _ xs] => (T.bls xs).map fun ns => .bl (ns.any id)
  | _ => none
theorem cp_all : CallP K mg (rAll K) fAll := fun H1 H vs ts t s a e Q q => by
  unfold fAll at e
  split at e
  · rw [Option.map_eq_some_iff] at e
    obtain ⟨ns, hn, rfl⟩ := e
    obtain ⟨v, G, rfl, r⟩ := a.one
    obtain ⟨p, vs, G, rfl, h2, h3⟩ := r.lst' s
    rw [h3.bls hn] at h2
    exact ⟨p, ns, rfl, .inl (.inl h2), now s (.bl _) q⟩
  · cases e
theorem cp_any : CallP K mg (rAny K) fAny := fun H1 H vs ts t s a e Q q => by
  unfold fAny at e
  split at e
  · rw [Option.map_eq_some_iff] at e
    obtain ⟨ns, hn, rfl⟩ := e
    obtain ⟨v, G, rfl, r⟩ := a.one
    obtain ⟨p, vs, G, rfl, h2, h3⟩ := r.lst' s
    rw [h3.bls hn] at h2
    exact ⟨p, ns, rfl, .inl (.inl h2), now s (.bl _) q⟩
  · cases e
def fTuple : List T → Option T
  | [.lst _ xs] => if xs.all T.sh then some (.tup xs) else none
  | [.tup xs] => some (.tup xs)
  | _ => none
theorem cp_tuple : CallP K mg (fun xs H Q => ∃ p ys, xs = [.ref p] ∧ ((SqL K H p ys ∧ ∀ l, H l = none → Q (.ref l) (upd H l (.tup ys))) ∨ (SqT K H p ys ∧ Q (.ref p) H))) fTuple := fun H1 H vs ts t s a e Q q => by
  unfold fTuple at e
  split at e
  · split at e
    · rename_i hs
      cases e
      obtain ⟨v, G, rfl, r⟩ := a.one
      obtain ⟨p, vs, G, rfl, h2, h3⟩ := r.lst' s
      exact ⟨p, vs, rfl, .inl ⟨.inl (.inl h2), newFz s (fun p e => .tup (.inl (.inl upd_same)) ((h3.fzs hs).mono e)) q⟩⟩
    · cases e
  · cases e
    obtain ⟨v, G, rfl, r⟩ := a.one
    have f := r.fzOf rfl
    obtain ⟨p, vs, rfl, h2, h3⟩ := r.tuple s
    exact ⟨p, vs, rfl, .inr ⟨h2, now s f q⟩⟩
  · cases e
def fList : List T → Option T
  | [.lst _ xs] => if xs.all T.sh then some (.lst true xs) else none
  | [.scr xs] => if xs.all T.sh then some (.lst true xs) else none
  | [.tup xs] => some (.lst true xs)
  | _ => none
theorem cp_list : CallP K mg (fun xs H Q => ∃ p ys, xs = [.ref p] ∧ (SqL K H p ys ∨ SqT K H p ys) ∧ ∀ l, H l = none → Q (.ref l) (upd H l (.lst ys))) fList := fun H1 H vs ts t s a e Q q => by
  unfold fList at e
  split at e
  · split at e
    · rename_i hs
      cases e
      obtain ⟨v, G, rfl, r⟩ := a.one
      obtain ⟨p, vs, G, rfl, h2, h3⟩ := r.lst' s
      exact ⟨p, vs, rfl, .inl (.inl (.inl h2)), newL s (h3.fzs hs) q⟩
    · cases e
  · split at e
    · rename_i hs
      cases e
      obtain ⟨v, G, rfl, r⟩ := a.one
      obtain ⟨p, vs, G, rfl, h2, h3⟩ := r.list s rfl
      exact ⟨p, vs, rfl, .inl h2, newL s (h3.fzs hs) q⟩
    · cases e
  · cases e
    obtain ⟨v, G, rfl, r⟩ := a.one
    obtain ⟨p, vs, rfl, h2, h3⟩ := r.tuple s
    exact ⟨p, vs, rfl, .inr h2, newL s h3 q⟩
  · cases e
def fDivmod : List T → Option T
  | [.int i, .int j] => if decide (0 < j) && decide (j < 1073741824) then some (.tup [.int (i / j), .int (i % j)]) else none
  | _ => none
theorem cp_divmod : CallP K mg (fun xs H Q => ∃ i j, xs = [.int i, .int j] ∧ CDiv i j ∧ ∀ p, H p = none → Q (.ref p) (upd H p (.tup [.int (i / j), .int (i % j)]))) fDivmod := fun H1 H vs ts t s a e Q q => by
  unfold fDivmod at e
  split at e
  · split at e
    · rename_i hz
      rw [Bool.and_eq_true, decide_eq_true_eq, decide_eq_true_eq] at hz
      cases e
      obtain ⟨v, w, G, G', rfl, r, r'⟩ := a.two
      exact ⟨_, _, by rw [r.intE, r'.intE], hz, newFz s (fun p e => .tup (.inl (.inl upd_same)) (.cons (.int _) (.cons (.int _) .nil))) q⟩
    · cases e
  · cases e
/-- int: of an int, a bool, a text of figures -/
def digits (n : Int) : List Nat → Option Int
  | [] => some n
  | c :: r => if 48 ≤ c && c ≤ 57 then digits (n * 10 + ((c : Int) - 48)) r else none
def fInt : List T → Option T
  | [.int i] => some (.int i)
  | [.bl b] => some (.int (if b then 1 else 0))
  | [.str [c]] => if decide (48 ≤ c) && decide (c ≤ 57) then some (.int ((c : Int) - 48)) else none
  | _ => none
def rIntU : List V → Hp → VK → Prop := fun xs H Q => ((∃ i, xs = [.int i] ∧ Q (.int i) H) ∨ ∃ k, xs = [.bl k] ∧ Q (.int (if k then 1 else 0)) H) ∨ ∃ a n, xs = [.str a] ∧ PySem.intText? a = some n ∧ a.length ≤ 640 ∧ Q (.int n) H
theorem int_sign : ∀ c : Nat, 48 ≤ c → c ≤ 57 → PySem.intText? (S [c]) = some ((c : Int) - 48) := by
  intro c h1 h2
  have : c = 48 ∨ c = 49 ∨ c = 50 ∨ c = 51 ∨ c = 52 ∨ c = 53 ∨ c = 54 ∨ c = 55 ∨ c = 56 ∨ c = 57 := by omega
  rcases this with rfl | rfl | rfl | rfl | rfl | rfl | rfl | rfl | rfl | rfl <;> decide +kernel
theorem cp_int : CallP K mg rIntU fInt := fun H1 H vs ts t s a e Q q => by
  unfold fInt at e
  split at e
  · cases e; obtain ⟨v, G, rfl, r⟩ := a.one; exact .inl (.inl ⟨_, by rw [r.intE], now s (.int _) q⟩)
  · cases e; obtain ⟨v, G, rfl, r⟩ := a.one; exact .inl (.inr ⟨_, by rw [r.blE], now s (.int _) q⟩)
  · split at e
    · rename_i c hz
      rw [Bool.and_eq_true, decide_eq_true_eq, decide_eq_true_eq] at hz
      cases e
      obtain ⟨v, G, rfl, r⟩ := a.one
      exact .inr ⟨_, _, by rw [r.strE], int_sign c hz.1 hz.2, by rw [S_length]; show 1 ≤ 640; decide, now s (.int _) q⟩
    · cases e
  · cases e
/-- str of an int, of a text -/
def fStr : List T → Option T
  | [.int i] => if i.natAbs.log2 < 1920 then some (.str (toString i : Str).cps.toList) else none
  | [.str s] => some (.str s)
  | _ => none
def rStrU : List V → Hp → VK → Prop := fun xs H Q => (∃ i, xs = [.int i] ∧ i.natAbs.log2 < 1920 ∧ Q (.str (toString i)) H) ∨ ∃ a, xs = [.str a] ∧ Q (.str a) H
theorem cp_str : CallP K mg rStrU fStr := fun H1 H vs ts t s a e Q q => by
  unfold fStr at e
  split at e
  · split at e
    · rename_i hz; cases e; obtain ⟨v, G, rfl, r⟩ := a.one
      refine .inl ⟨_, by rw [r.intE], hz, ?_⟩
      have := now (K := K) (mg := mg) s (.str _) q
      rw [← S_of] at this
      exact this
    · cases e
  · cases e; obtain ⟨v, G, rfl, r⟩ := a.one; exact .inr ⟨_, by rw [r.strE], now s (.str _) q⟩
  · cases e
def fSorted : List T → Option T
  | [.lst _ xs] => match T.ints xs with | some ns => some (.lst true ((isort leI ns).map .int)) | none => none
  | _ => none
theorem cp_sorted : CallP K mg (rSortedI K) fSorted := fun H1 H vs ts t s a e Q q => by
  unfold fSorted at e
  split at e
  · split at e
    · rename_i ns hn
      cases e
      obtain ⟨v, G, rfl, r⟩ := a.one
      obtain ⟨p, vs, G, rfl, h2, h3⟩ := r.lst' s
      rw [h3.ints hn] at h2
      refine ⟨p, ns, rfl, .inl (.inl h2), fun ms p' pm pw => ?_⟩
      rw [isortI_eq pm pw]
      exact newL s (fz_ints _ _) q p'
    · cases e
  · cases e
end
end GK

/-! GK8: attributes, effects, places, targets, statements. -/
namespace GK
open PySem L2

/-- what is known of the classes: AF c f: instances of the class named c have plain attributes named f -/
structure Cls' (K : PySem.W.Frag) (mg : Str → Option Value) (AF : List (String × List String)) : Prop where
  ok : ∀ c fs C, (c, fs) ∈ AF → mg (Str.ofString c) = some (.ref C) → Cls K C ∧ ∀ f ∈ fs, NoAttr K C (Str.ofString f)
def afHas (AF : List (String × List String)) (c f : String) : Bool := AF.any fun p => p.1 == c && p.2.contains f
theorem Cls'.get {K : PySem.W.Frag} {mg : Str → Option Value} {AF : List (String × List String)} (h : Cls' K mg AF) {c f : String} {C : Addr} (e : afHas AF c f = true) (m : mg (Str.ofString c) = some (.ref C)) : Cls K C ∧ NoAttr K C (Str.ofString f) := by
  unfold afHas at e
  rw [List.any_eq_true] at e
  obtain ⟨⟨c', fs⟩, hm, h2⟩ := e
  rw [Bool.and_eq_true, beq_iff_eq, List.contains_iff_mem] at h2
  obtain ⟨rfl, h3⟩ := h2
  exact ⟨(h.ok _ _ _ hm m).1, (h.ok _ _ _ hm m).2 _ h3⟩

section
variable {X : Cx} {a b e : Expr} {te ta tb : TE} {x xa xb : Env → Option T} {pos : Pos} {AF : List (String × List String)}
def fFld (AF : List (String × List String)) (f : String) (t : T) : Option T := match t with
  | .obj _ c fs => if afHas AF c f then fs.lookup f else none
  | _ => none
def kFld (AF : List (String × List String)) (f : String) (xa : Env → Option T) : Env → Option T := fun env => match xa env with | none => none | some t => fFld AF f t
def qFld (AF : List (String × List String)) (f : String) (xa : Env → Option T) : Env → Option T := fun env => match xa env with | none => none | some t => match fFld AF f t with | some u => if u.sh then some u else none | none => none
theorem fld_road {K : PySem.W.Frag} {mg : Str → Option Value} (hc : Cls' K mg AF) {f : String} {H1 H : Hp} {v : V} {t u : T} {G : FP} (s : Same H1 H) (r : Rep K mg H1 H v t G) (e : fFld AF f t = some u) :
    ∃ a C dx fs w G', v = .ref a ∧ H a = some (.ins C dx fs) ∧ Cls K C ∧ NoAttr K C (Str.ofString f) ∧ fs.lookup (Str.ofString f) = some w ∧ Rep K mg H1 H w u G' := by
  unfold fFld at e
  split at e
  · split at e
    · rename_i ha
      obtain ⟨p, C, dx, vs, G, rfl, h2, h3, h4⟩ := r.ins s
      obtain ⟨w, G', h5, h6, _⟩ := h4.get e
      obtain ⟨c1, c2⟩ := hc.get ha h3
      exact ⟨p, C, dx, vs, w, G', rfl, h2, c1, c2, h5, h6⟩
    · cases e
  · cases e
theorem ke_fld {f : String} (hc : Cls' X.K X.mg AF) (ha : KE X a ta xa) (hb : attributeBase a (Str.ofString f) X.env (eval a X.env) = eval a X.env := by rfl) : KE X (.Attribute a (Str.ofString f) pos) (tFld X.K ta (Str.ofString f)) (kFld AF f xa) :=
  ⟨pe_fld ha.pe hb, fun env t e H1 H σ F s R Q q => by
    unfold kFld at e
    cases e1 : xa env with
    | none => rw [e1] at e; cases e
    | some u =>
      rw [e1] at e
      refine ha.kr _ _ e1 _ _ _ _ s R _ fun v Ha Hb G x1 r1 => ?_
      obtain ⟨p, C, dx, fs, w, G', h1, h2, h3, h4, h5, h6⟩ := fld_road hc x1.sub r1 e
      exact ⟨p, C, dx, fs, w, h1, h2, h3, h4, h5, q w Ha Hb G' x1 h6⟩⟩
theorem qe_fld {f : String} (hc : Cls' X.K X.mg AF) (ha : KE X a ta xa) (hb : attributeBase a (Str.ofString f) X.env (eval a X.env) = eval a X.env := by rfl) : QE X (.Attribute a (Str.ofString f) pos) (tFld X.K ta (Str.ofString f)) (qFld AF f xa) :=
  ⟨pe_fld ha.pe hb, fun env t e H1 H σ F s R Q q => by
    unfold qFld at e
    cases e1 : xa env with
    | none => rw [e1] at e; cases e
    | some u =>
      rw [e1] at e
      simp only at e
      split at e
      · rename_i u' hu
        split at e
        · rename_i hs
          cases e
          refine ha.kr _ _ e1 _ _ _ _ s R _ fun v Ha Hb G x1 r1 => ?_
          obtain ⟨p, C, dx, fs, w, G', h1, h2, h3, h4, h5, h6⟩ := fld_road hc x1.sub r1 hu
          exact ⟨p, C, dx, fs, w, h1, h2, h3, h4, h5, q w Ha Hb F0 x1 (.sh (h6.fzOf hs))⟩
        · cases e
      · cases e⟩
/-- what is made is frozen -/
def qFz (x : Env → Option T) : Env → Option T := fun env => match x env with | none => none | some t => some t.fz
theorem qe_fz (h : QE X e te x) : QE X e te (qFz x) := ⟨h.pe, fun env t e H1 H σ F s R Q q => by
  unfold qFz at e
  cases e1 : x env with
  | none => rw [e1] at e; cases e
  | some u =>
    rw [e1] at e
    cases e
    refine h.qr _ _ e1 _ _ _ _ s R _ fun v Ha Hb Ft x1 r1 => ?_
    have x2 : Ext Ha Hb Ft (join Ha Hb Ft) Hb F0 := Ext.freeze x1.sub (fun b z => (r1.own b z).1) (fun _ _ z => z) (fun _ z => z) fun _ z => z.elim
    exact q v _ Hb F0 (x1.trans x2) (.sh (r1.freeze x2.s1 fun b z => join_in z))⟩
end

/-! ### effects -/
section
variable (K : PySem.W.Frag) (mg : Str → Option Value)
def ER (te : TE) (x : Env → Option (T × Env)) : Prop := ∀ env t env', x env = some (t, env') → ∀ H1 H σ F, Same H1 H → RepE K mg H1 H σ env F → ∀ Q : VK,
  (∀ v H1' H' F' Ft, Ext H1 H F H1' H' (fun b => F' b ∨ Ft b) → RepE K mg H1' H' σ env' F' → Rep K mg H1' H' v t Ft → (∀ b, F' b → ¬ Ft b) → Q v H') → te σ H Q
/-- a place: what stands there, how it is changed -/
def PR (te : TE) (get : Env → Option T) (put : T → Env → Option Env) : Prop := ∀ env t, get env = some t → ∀ H1 H σ F, Same H1 H → RepE K mg H1 H σ env F → ∀ Q : VK,
  (∀ v H1' H' G, Ext H1 H F0 H1' H' F0 → RepE K mg H1' H' σ env F → Rep K mg H1' H' v t G → (∀ b, G b → F b) →
    (∀ t' env', put t' env = some env' → ∀ H2 H2' G', Same H1' H2 → (∀ b, F b → ¬ G b → H2' b = H' b ∧ H2 b = none) → Rep K mg H2 H2' v t' G' → (∀ b, G' b → F b → G b) →
      ∃ F', RepE K mg H2 H2' σ env' F' ∧ ∀ b, F' b → (F b ∧ ¬ G b) ∨ G' b) → Q v H') → te σ H Q
/-- a target: how a value is stored; P: slots that are not stored to -/
def GR (P : Nat → Bool) (g : TG) (f : T → Env → Option Env) : Prop := ∀ t env env', f t env = some env' → ∀ H1 H σ F v Fv, Same H1 H → RepE K mg H1 H σ env F → Rep K mg H1 H v t Fv → (∀ b, F b → ¬ Fv b) → ∀ Q : L2.St → Hp → Prop,
  (∀ σ' H1' H' F', Ext H1 H (fun b => F b ∨ Fv b) H1' H' F' → RepE K mg H1' H' σ' env' F' → (∀ i, P i = true → σ'[i]? = σ[i]?) → Q σ' H') → g v σ H Q
inductive Out where
  | nx (env : Env) | rt (t : T) (env : Env) | bk (env : Env) | ct (env : Env)
def SPost (P : Nat → Bool) (H1 H : Hp) (σ : L2.St) (F : FP) (D : Ends) : Out → Prop
  | .nx env' => ∀ σ' H1' H' F', Ext H1 H F H1' H' F' → RepE K mg H1' H' σ' env' F' → (∀ i, P i = true → σ'[i]? = σ[i]?) → D.nx σ' H'
  | .bk env' => ∀ σ' H1' H' F', Ext H1 H F H1' H' F' → RepE K mg H1' H' σ' env' F' → (∀ i, P i = true → σ'[i]? = σ[i]?) → D.bk σ' H'
  | .ct env' => ∀ σ' H1' H' F', Ext H1 H F H1' H' F' → RepE K mg H1' H' σ' env' F' → (∀ i, P i = true → σ'[i]? = σ[i]?) → D.ct σ' H'
  | .rt t env' => ∀ v σ' H1' H' F' Ft, Ext H1 H F H1' H' (fun b => F' b ∨ Ft b) → RepE K mg H1' H' σ' env' F' → Rep K mg H1' H' v t Ft → (∀ b, F' b → ¬ Ft b) → (∀ i, P i = true → σ'[i]? = σ[i]?) → D.rt v H'
def SR (P : Nat → Bool) (ts : TS) (b : Env → Option Out) : Prop := ∀ env o, b env = some o → ∀ H1 H σ F, Same H1 H → RepE K mg H1 H σ env F → ∀ D : Ends, SPost K mg P H1 H σ F D o → ts D σ H
end
structure EE (X : Cx) (e : Expr) (te : TE) (x : Env → Option (T × Env)) : Prop where
  pe : PE X e te
  er : ER X.K X.mg te x
structure PL (X : Cx) (e : Expr) (te : TE) (get : Env → Option T) (put : T → Env → Option Env) : Prop where
  pe : PE X e te
  pr : PR X.K X.mg te get put
structure GE (X : Cx) (P : Nat → Bool) (e : Expr) (g : TG) (f : T → Env → Option Env) : Prop where
  pg : PG X e g
  gr : GR X.K X.mg P g f
structure SE (X : Cx) (P : Nat → Bool) (st : Stmt) (ts : TS) (b : Env → Option Out) : Prop where
  ps : PS X st ts
  sr : SR X.K X.mg P ts b
structure SEs (X : Cx) (P : Nat → Bool) (st : List Stmt) (ts : TS) (b : Env → Option Out) : Prop where
  ps : PSs X st ts
  sr : SR X.K X.mg P ts b

section
variable {K : PySem.W.Frag} {mg : Str → Option Value} {P : Nat → Bool}
theorem ext_or {H1 H H1' H' : Hp} {F Ft : FP} (x : Ext H1 H F0 H1' H' Ft) : Ext H1 H F H1' H' (fun b => F b ∨ Ft b) :=
  ⟨x.s1, x.sub, fun b o e _ => x.keep b o e fun z => z, fun b (z : _ ∨ _) => z.elim .inl fun z => (x.foot b z).elim (fun z => z.elim) .inr, fun b o e => (x.new1 b o e).imp id fun z => z.elim (fun z => z.elim) .inr⟩
theorem QR.e {te : TE} {x : Env → Option T} (h : QR K mg te x) : ER K mg te (fun env => match x env with | none => none | some t => some (t, env)) := fun env t env' e H1 H σ F s R Q q => by
  dsimp only at e
  cases e1 : x env with
  | none => rw [e1] at e; cases e
  | some u =>
    rw [e1] at e
    cases e
    exact h _ _ e1 _ _ _ _ s R _ fun v H1' H' Ft x1 r1 => q v H1' H' F Ft (ext_or x1) (x1.qRepE R) r1 (fun b z => (x1.repE R fun _ _ z => z).2 b z)
end
section
variable {X : Cx} {P : Nat → Bool} {a b e : Expr} {te ta tb tv ti : TE} {x xa xb xi xv : Env → Option T} {y : Env → Option (T × Env)} {get : Env → Option T} {put : T → Env → Option Env} {pos : Pos} {AF : List (String × List String)}
def eQ (x : Env → Option T) : Env → Option (T × Env) := fun env => match x env with | none => none | some t => some (t, env)
theorem QE.eff (h : QE X e te x) : EE X e te (eQ x) := ⟨h.pe, h.qr.e⟩
/-- a name, what it holds being frozen -/
def eVar (i : Nat) : Env → Option (T × Env) := fun env => match env[i]? with | some (some t) => some (t.fz, if t.sh then env else env.set i (some t.fz)) | _ => none
theorem ee_var (i : Nat) {y : Str} (h : PE X (.Name y pos) (tVar i)) : EE X (.Name y pos) (tVar i) (eVar i) := ⟨h, fun env t env' e H1 H σ F s R Q q => by
  unfold eVar at e
  split at e
  · rename_i t' e1
    cases e
    obtain ⟨v, Fi, G, h1, h2, h3, h4, h5, h6⟩ := R.take e1
    refine ⟨v, h1, ?_⟩
    by_cases hs : t'.sh = true
    · rw [if_pos hs, T.fz_sh hs] at q
      exact q v H1 H F F0 (ext_or (Ext.refl s)) R (.sh (h2.fzOf hs)) fun _ _ z => z
    · rw [if_neg hs] at q
      have x1 : Ext H1 H F (join H1 H Fi) H G := Ext.freeze s (fun b z => (h2.own b z).1) (fun b z1 z2 => h4 b z1 z2) h5 h6
      have f1 := h2.freeze (H2 := join H1 H Fi) x1.s1 fun b z => join_in z
      have R1 : RepE X.K X.mg (join H1 H Fi) H σ (env.set i none) G := h3.frame x1.s1 fun b z => ⟨rfl, by rw [join_out fun w => h4 b w z]; exact (h3.own b z).1⟩
      have hi : i < env.length := (List.getElem?_eq_some_iff.mp e1).1
      obtain ⟨F', R2, hF⟩ := R1.put (i := i) (v := v) (t := t'.fz) (by rw [List.length_set]; exact hi) (.sh f1) fun _ z => z.elim
      rw [List.set_set] at R2
      have e2 : σ.set i (some v) = σ := by
        apply List.ext_getElem?
        intro j
        by_cases hj : j = i
        · subst hj; rw [List.getElem?_set_self (by exact (List.getElem?_eq_some_iff.mp h1).1), h1]
        · rw [List.getElem?_set_ne (fun z => hj z.symm)]
      rw [e2] at R2
      exact q v _ H F' F0 (x1.less fun b z => z.elim (fun z => (hF b z).elim (fun z => z.elim) id) fun z => z.elim) R2 (.sh f1) fun _ _ z => z
  · cases e⟩

/-! ### places -/
def pVar (i : Nat) : Env → Option T := fun env => match env[i]? with | some o => o | none => none
def pVarPut (i : Nat) : T → Env → Option Env := fun t env => some (env.set i (some t))
theorem set_id {σ : L2.St} {i : Nat} {v : V} (h1 : σ[i]? = some (some v)) : σ.set i (some v) = σ := by
  apply List.ext_getElem?
  intro j
  by_cases hj : j = i
  · subst hj; rw [List.getElem?_set_self (by exact (List.getElem?_eq_some_iff.mp h1).1), h1]
  · rw [List.getElem?_set_ne (fun z => hj z.symm)]
theorem pl_var (i : Nat) {y : Str} (h : PE X (.Name y pos) (tVar i)) : PL X (.Name y pos) (tVar i) (pVar i) (pVarPut i) := ⟨h, fun env t e H1 H σ F s R Q q => by
  unfold pVar at e
  cases e1 : env[i]? with
  | none => rw [e1] at e; cases e
  | some o =>
    rw [e1] at e
    simp only at e
    subst e
    obtain ⟨v, Fi, G, h1, h2, h3, h4, h5, h6⟩ := R.take e1
    refine ⟨v, h1, q v H1 H Fi (Ext.refl s) R h2 h5 fun t' env' ep H2 H2' G' s2 k r hg => ?_⟩
    cases ep
    have hi : i < env.length := (List.getElem?_eq_some_iff.mp e1).1
    have R1 : RepE X.K X.mg H2 H2' σ (env.set i none) G := h3.frame s2 fun b z => k b (h6 b z) fun w => h4 b w z
    obtain ⟨F', R2, hF⟩ := R1.put (i := i) (v := v) (t := t') (by rw [List.length_set]; exact hi) r fun b z w => h4 b (hg b z (h6 b w)) w
    rw [List.set_set, set_id h1] at R2
    exact ⟨F', R2, fun b z => (hF b z).elim .inr fun z => .inl ⟨h6 b z, fun w => h4 b w z⟩⟩⟩
/-- an attribute of an owned object -/
def pFld (AF : List (String × List String)) (f : String) (get : Env → Option T) : Env → Option T := fun env => match get env with
  | some (.obj true c fs) => if afHas AF c f then fs.lookup f else none
  | _ => none
def fput {α : Type} (fs : List (String × α)) (f : String) (t : α) : List (String × α) := match fs with
  | [] => [(f, t)]
  | (g, u) :: r => if g = f then (g, t) :: r else (g, u) :: fput r f t
def pFldPut (f : String) (get : Env → Option T) (put : T → Env → Option Env) : T → Env → Option Env := fun t env => match get env with
  | some (.obj true c fs) => put (.obj true c (fput fs f t)) env
  | _ => none
theorem RepF.focus {K : PySem.W.Frag} {mg : Str → Option Value} : ∀ {vs : List (Str × V)} {ts : List (String × T)} {H1 H : Hp} {F : FP} {f : String} {t : T}, RepF K mg H1 H vs ts F → ts.lookup f = some t →
    ∃ v G, vs.lookup (Str.ofString f) = some v ∧ Rep K mg H1 H v t G ∧ (∀ b, G b → F b) ∧ ∀ H2 H2' t' G', Same H1 H2 → (∀ b, F b → ¬ G b → H2' b = H b ∧ H2 b = none) → Rep K mg H2 H2' v t' G' → (∀ b, G' b → F b → G b) →
      ∃ F', RepF K mg H2 H2' vs (fput ts f t') F' ∧ ∀ b, F' b → (F b ∧ ¬ G b) ∨ G' b
  | _, _, _, _, _, f, t, .nil, h => by simp at h
  | _, _, H1, H, _, f, t, .cons (k := k') (v := v) (t := t') (vs := vs) (ts := ts) (F := F1) (G := F2) a r d, h => by
    by_cases e : f = k'
    · subst e
      rw [List.lookup_cons, beq_self_eq_true] at h
      cases h
      refine ⟨v, F1, by rw [List.lookup_cons, beq_self_eq_true], a, fun _ z => .inl z, fun H2 H2' t' G' s2 k r' hg => ?_⟩
      refine ⟨fun b => G' b ∨ F2 b, ?_, fun b z => z.elim .inr fun z => .inl ⟨.inr z, fun w => d b w z⟩⟩
      unfold fput
      rw [if_pos rfl]
      exact .cons r' (r.frame s2 fun b z => k b (.inr z) fun w => d b w z) fun b z w => d b (hg b z (.inr w)) w
    · have e1 : (f == k') = false := beq_eq_false_iff_ne.mpr e
      rw [List.lookup_cons, e1] at h
      obtain ⟨w, G, h1, h2, h3, h4⟩ := RepF.focus r h
      refine ⟨w, G, by rw [List.lookup_cons, ofString_beq, e1]; exact h1, h2, fun b z => .inr (h3 b z), fun H2 H2' t2 G' s2 k r' hg => ?_⟩
      obtain ⟨F', R, hF⟩ := h4 H2 H2' t2 G' s2 (fun b z1 z2 => k b (.inr z1) z2) r' fun b z w => hg b z (.inr w)
      refine ⟨fun b => F1 b ∨ F' b, ?_, fun b z => z.elim (fun z => .inl ⟨.inl z, fun w => d b z (h3 b w)⟩) fun z => (hF b z).imp (fun z => ⟨.inr z.1, z.2⟩) id⟩
      unfold fput
      rw [if_neg fun q => e q.symm]
      exact .cons (a.frame s2 fun b z => k b (.inl z) fun w => d b z (h3 b w)) R fun b z w => (hF b w).elim (fun w => d b z w.1) fun w => d b z (h3 b (hg b w (.inl z)))
theorem pl_fld {f : String} (hc : Cls' X.K X.mg AF) (h : PL X a ta get put) (hb : attributeBase a (Str.ofString f) X.env (eval a X.env) = eval a X.env := by rfl) :
    PL X (.Attribute a (Str.ofString f) pos) (tFld X.K ta (Str.ofString f)) (pFld AF f get) (pFldPut f get put) := ⟨pe_fld h.pe hb, fun env t e H1 H σ F s R Q q => by
  unfold pFld at e
  split at e
  · rename_i c fs e1
    split at e
    · rename_i ha
      refine h.pr _ _ e1 _ _ _ _ s R _ fun v Ha Hb G x1 R1 r1 hG foc => ?_
      cases r1 with
      | sh r => cases r
      | obj h1 h2 h3 h4 h5 =>
        rename_i p C dx vs F1
        obtain ⟨c1, c2⟩ := hc.get ha h3
        obtain ⟨w, G2, g1, g2, g3, g4⟩ := h4.focus e
        refine ⟨p, C, dx, vs, w, rfl, h1, c1, c2, g1, q w Ha Hb G2 x1 R1 g2 (fun b z => hG b (.inr (g3 b z))) fun t' env' ep H2 H2' G' s2 k r hg => ?_⟩
        unfold pFldPut at ep
        rw [e1] at ep
        have kp : H2' p = Hb p ∧ H2 p = none := k p (hG p (.inl rfl)) fun z => h5 (g3 p z)
        obtain ⟨F', R3, hF⟩ := g4 H2 H2' t' G' s2 (fun b z1 z2 => k b (hG b (.inr z1)) z2) r fun b z w => hg b z (hG b (.inr w))
        have np : ¬ F' p := fun z => (hF p z).elim (fun z => h5 z.1) fun z => h5 (g3 p (hg p z (hG p (.inl rfl))))
        have r2 : Rep X.K X.mg H2 H2' (.ref p) (.obj true c (fput fs f t')) (fun b => b = p ∨ F' b) := .obj (kp.1.trans h1) kp.2 h3 R3 np
        obtain ⟨F'', R4, hF2⟩ := foc _ _ ep H2 H2' _ s2 (fun b z1 z2 => k b z1 fun w => z2 (.inr (g3 b w))) r2 fun b z w => z.elim (fun z => .inl z) fun z => (hF b z).elim (fun z => .inr z.1) fun z => .inr (g3 b (hg b z w))
        refine ⟨F'', R4, fun b z => (hF2 b z).elim (fun z => .inl ⟨z.1, fun w => z.2 (.inr (g3 b w))⟩) fun z => z.elim (fun z => .inl (by rw [z]; exact ⟨hG p (.inl rfl), fun w => h5 (g3 p w)⟩)) fun z => (hF b z).elim (fun z => .inl ⟨hG b (.inr z.1), z.2⟩) .inr⟩
    · cases e
  · cases e⟩
end
end GK

/-! GK9: items as places, methods of lists, stores, targets. -/
namespace GK
open PySem L2

section
variable {K : PySem.W.Frag} {mg : Str → Option Value}
theorem Reps.focus : ∀ {vs : List V} {ts : List T} {H1 H : Hp} {F : FP} {j : Nat} {t : T}, Reps K mg H1 H vs ts F → ts[j]? = some t →
    ∃ v G, vs[j]? = some v ∧ Rep K mg H1 H v t G ∧ (∀ b, G b → F b) ∧ ∀ H2 H2' v' t' G', Same H1 H2 → (∀ b, F b → ¬ G b → H2' b = H b ∧ H2 b = none) → Rep K mg H2 H2' v' t' G' → (∀ b, G' b → F b → G b) →
      ∃ F', Reps K mg H2 H2' (vs.set j v') (ts.set j t') F' ∧ ∀ b, F' b → (F b ∧ ¬ G b) ∨ G' b
  | _, _, _, _, _, j, t, .nil, h => by simp at h
  | _, _, H1, H, _, 0, t, .cons (v := v) (t := t') (vs := vs) (ts := ts) (F := F1) (G := F2) a r d, h => by
    simp at h
    subst h
    refine ⟨v, F1, rfl, a, fun _ z => .inl z, fun H2 H2' v' t' G' s2 k r' hg => ?_⟩
    exact ⟨fun b => G' b ∨ F2 b, .cons r' (r.frame s2 fun b z => k b (.inr z) fun w => d b w z) (fun b z w => d b (hg b z (.inr w)) w), fun b z => z.elim .inr fun z => .inl ⟨.inr z, fun w => d b w z⟩⟩
  | _, _, H1, H, _, j + 1, t, .cons (v := v) (t := t') (vs := vs) (ts := ts) (F := F1) (G := F2) a r d, h => by
    obtain ⟨w, G, h1, h2, h3, h4⟩ := Reps.focus (j := j) r (by simpa using h)
    refine ⟨w, G, by simpa using h1, h2, fun b z => .inr (h3 b z), fun H2 H2' v2 t2 G' s2 k r' hg => ?_⟩
    obtain ⟨F', R, hF⟩ := h4 H2 H2' v2 t2 G' s2 (fun b z1 z2 => k b (.inr z1) z2) r' fun b z w => hg b z (.inr w)
    exact ⟨fun b => F1 b ∨ F' b, .cons (a.frame s2 fun b z => k b (.inl z) fun w => d b z (h3 b w)) R (fun b z w => (hF b w).elim (fun w => d b z w.1) fun w => d b z (h3 b (hg b w (.inl z)))),
      fun b z => z.elim (fun z => .inl ⟨.inl z, fun w => d b z (h3 b w)⟩) fun z => (hF b z).imp (fun z => ⟨.inr z.1, z.2⟩) id⟩
theorem Reps.erase : ∀ {vs : List V} {ts : List T} {H1 H : Hp} {F : FP} {j : Nat} {t : T}, Reps K mg H1 H vs ts F → ts[j]? = some t →
    ∃ v G R, vs[j]? = some v ∧ Rep K mg H1 H v t G ∧ Reps K mg H1 H (vs.eraseIdx j) (ts.eraseIdx j) R ∧ (∀ b, G b → ¬ R b) ∧ (∀ b, G b → F b) ∧ ∀ b, R b → F b
  | _, _, _, _, _, j, t, .nil, h => by simp at h
  | _, _, H1, H, _, 0, t, .cons (F := F1) (G := F2) a r d, h => by
    simp at h
    subst h
    exact ⟨_, F1, F2, rfl, a, r, d, fun _ z => .inl z, fun _ z => .inr z⟩
  | _, _, H1, H, _, j + 1, t, .cons (F := F1) (G := F2) a r d, h => by
    obtain ⟨v, G, R, h1, h2, h3, h4, h5, h6⟩ := Reps.erase (j := j) r (by simpa using h)
    exact ⟨v, G, fun b => F1 b ∨ R b, by simpa using h1, h2, .cons a h3 fun b z w => d b z (h6 b w), fun b z w => w.elim (fun w => d b w (h5 b z)) (h4 b z), fun b z => .inr (h5 b z), fun b z => z.imp id (h6 b)⟩
theorem Reps.snoc : ∀ {vs : List V} {ts : List T} {H1 H : Hp} {F G : FP} {v : V} {t : T}, Reps K mg H1 H vs ts F → Rep K mg H1 H v t G → (∀ b, F b → ¬ G b) → ∃ F', Reps K mg H1 H (vs ++ [v]) (ts ++ [t]) F' ∧ ∀ b, F' b ↔ F b ∨ G b
  | _, _, _, _, _, G, v, t, .nil, r, d => ⟨_, .cons r .nil fun _ _ z => z, fun b => ⟨fun z => z.elim .inr fun z => z.elim, fun z => z.elim (fun z => z.elim) .inl⟩⟩
  | _, _, _, _, _, G, v, t, .cons (F := F1) (G := F2) a s e, r, d => by
    obtain ⟨F', h1, h2⟩ := Reps.snoc s r fun b z => d b (.inr z)
    exact ⟨_, .cons a h1 fun b z w => ((h2 b).mp w).elim (e b z) (d b (.inl z)), fun b => ⟨fun z => z.elim (fun z => .inl (.inl z)) fun z => ((h2 b).mp z).imp .inr id, fun z => z.elim (fun z => z.imp id fun z => (h2 b).mpr (.inl z)) fun z => .inr ((h2 b).mpr (.inr z))⟩⟩
/-- dicts: a value in the focus; a key put -/
theorem RepA.focus : ∀ {vs : List (Key × V)} {ts : List (Key × T)} {H1 H : Hp} {F : FP} {k : Key} {t : T}, RepA K mg H1 H vs ts F → tget ts k = some t →
    ∃ v G, valV vs k = some v ∧ Rep K mg H1 H v t G ∧ (∀ b, G b → F b) ∧ ∀ H2 H2' t' G', Same H1 H2 → (∀ b, F b → ¬ G b → H2' b = H b ∧ H2 b = none) → Rep K mg H2 H2' v t' G' → (∀ b, G' b → F b → G b) →
      ∃ F', RepA K mg H2 H2' vs (tput ts k t') F' ∧ ∀ b, F' b → (F b ∧ ¬ G b) ∨ G' b
  | _, _, _, _, _, k, t, .nil, h => by simp [tget] at h
  | _, _, H1, H, _, k, t, .cons (k := k') (v := v) (t := t') (vs := vs) (ts := ts) (F := F1) (G := F2) a r d, h => by
    by_cases e : k' = k
    · subst e
      simp only [tget, if_true] at h
      cases h
      refine ⟨v, F1, valV_pos (p := (k', v)) rfl, a, fun _ z => .inl z, fun H2 H2' t' G' s2 kk r' hg => ?_⟩
      refine ⟨fun b => G' b ∨ F2 b, ?_, fun b z => z.elim .inr fun z => .inl ⟨.inr z, fun w => d b w z⟩⟩
      simp only [tput, if_true]
      exact .cons r' (r.frame s2 fun b z => kk b (.inr z) fun w => d b w z) fun b z w => d b (hg b z (.inr w)) w
    · simp only [tget, if_neg e] at h
      obtain ⟨w, G, h1, h2, h3, h4⟩ := RepA.focus r h
      have e1 : valV ((k', v) :: vs) k = valV vs k := by simp [valV, List.find?_cons, e]
      refine ⟨w, G, e1.trans h1, h2, fun b z => .inr (h3 b z), fun H2 H2' t2 G' s2 kk r' hg => ?_⟩
      obtain ⟨F', R, hF⟩ := h4 H2 H2' t2 G' s2 (fun b z1 z2 => kk b (.inr z1) z2) r' fun b z w => hg b z (.inr w)
      refine ⟨fun b => F1 b ∨ F' b, ?_, fun b z => z.elim (fun z => .inl ⟨.inl z, fun w => d b z (h3 b w)⟩) fun z => (hF b z).imp (fun z => ⟨.inr z.1, z.2⟩) id⟩
      simp only [tput, if_neg e]
      exact .cons (a.frame s2 fun b z => kk b (.inl z) fun w => d b z (h3 b w)) R fun b z w => (hF b w).elim (fun w => d b z w.1) fun w => d b z (h3 b (hg b w (.inl z)))
/-- HandS' putK, by recursion -/
def vput (kvs : List (Key × V)) (k : Key) (v : V) : List (Key × V) := match kvs with
  | [] => [(k, v)]
  | (k', u) :: r => if k' = k then (k', v) :: r else (k', u) :: vput r k v
theorem RepA.put : ∀ {vs : List (Key × V)} {ts : List (Key × T)} {H1 H : Hp} {F G : FP} {k : Key} {v : V} {t : T}, RepA K mg H1 H vs ts F → Rep K mg H1 H v t G → (∀ b, F b → ¬ G b) → ∃ F', RepA K mg H1 H (vput vs k v) (tput ts k t) F' ∧ ∀ b, F' b → F b ∨ G b
  | _, _, _, _, _, G, k, v, t, .nil, r, d => ⟨_, .cons r .nil fun _ _ z => z, fun b z => z.elim .inr fun z => z.elim⟩
  | _, _, _, _, _, G, k, v, t, .cons (k := k') (F := F1) (G := F2) a s e, r, d => by
    by_cases h : k' = k
    · simp only [vput, tput, if_pos h]
      exact ⟨_, .cons r s fun b z w => d b (.inr w) z, fun b z => z.elim .inr fun z => .inl (.inr z)⟩
    · simp only [vput, tput, if_neg h]
      obtain ⟨F', h1, h2⟩ := RepA.put s r fun b z => d b (.inr z)
      exact ⟨_, .cons a h1 fun b z w => (h2 b w).elim (e b z) (d b (.inl z)), fun b z => z.elim (fun z => .inl (.inl z)) fun z => (h2 b z).imp .inr id⟩
theorem vput_eq : ∀ {kvs : List (Key × V)} {k : Key} {v : V}, (kvs.map (·.1)).Nodup → putK kvs k v = vput kvs k v
  | [], k, v, _ => rfl
  | (k', u) :: r, k, v, h => by
    rw [List.map_cons, List.nodup_cons] at h
    have ih := vput_eq (kvs := r) (k := k) (v := v) h.2
    unfold putK at ih ⊢
    by_cases e : k' = k
    · subst e
      have hn : ∀ p ∈ r, p.1 ≠ k' := fun p hp q => h.1 (List.mem_map.mpr ⟨p, hp, q⟩)
      have hm : r.map (fun kv => if kv.1 = k' then (kv.1, v) else kv) = r := by
        have : ∀ l : List (Key × V), (∀ p ∈ l, p.1 ≠ k') → l.map (fun kv => if kv.1 = k' then (kv.1, v) else kv) = l := by
          intro l
          induction l with
          | nil => intro _; rfl
          | cons p q ih => intro hl; rw [List.map_cons, if_neg (hl p List.mem_cons_self), ih fun x hx => hl x (List.mem_cons_of_mem _ hx)]
        exact this r hn
      simp only [vput, if_true, List.any_cons, decide_true, Bool.true_or, List.map_cons, hm]
    · simp only [vput, if_neg e, List.any_cons, decide_eq_false e, Bool.false_or, List.map_cons, List.cons_append]
      split at ih
      · rename_i ha
        rw [if_pos ha, ih]
      · rename_i ha
        rw [if_neg ha, ih]
theorem vput_nodup : ∀ {kvs : List (Key × V)} {k : Key} {v : V}, (kvs.map (·.1)).Nodup → ((vput kvs k v).map (·.1)).Nodup ∧ ∀ x, x ∈ (vput kvs k v).map (·.1) → x = k ∨ x ∈ kvs.map (·.1)
  | [], k, v, _ => ⟨by simp [vput], fun x h => by simp [vput] at h; exact .inl h⟩
  | (k', u) :: r, k, v, h => by
    rw [List.map_cons, List.nodup_cons] at h
    by_cases e : k' = k
    · simp only [vput, if_pos e, List.map_cons, List.nodup_cons]
      exact ⟨h, fun x hx => .inr hx⟩
    · obtain ⟨h1, h2⟩ := vput_nodup (kvs := r) (k := k) (v := v) h.2
      simp only [vput, if_neg e, List.map_cons, List.nodup_cons]
      refine ⟨⟨fun hm => (h2 _ hm).elim e h.1, h1⟩, fun x hx => ?_⟩
      rcases List.mem_cons.mp hx with rfl | hx
      · exact .inr List.mem_cons_self
      · exact (h2 x hx).imp id fun z => List.mem_cons_of_mem _ z
end
end GK

/-! GK10: items as places, methods of lists, stores, targets, statements. -/
namespace GK
open PySem L2

section
variable {K : PySem.W.Frag} {mg : Str → Option Value}
/-- an owned list, changed -/
theorem rep_relist {H1 H : Hp} {p : Addr} {vs' : List V} {ts' : List T} {F : FP} (n : H1 p = none) (r : Reps K mg H1 H vs' ts' F) (nf : ¬ F p) : Rep K mg H1 (upd H p (.lst vs')) (.ref p) (.lst true ts') (fun b => b = p ∨ F b) :=
  .lst upd_same n (r.frame (Same.refl _) fun b z => ⟨upd_ne (fun w => nf (w ▸ z)), (r.own b z).1⟩) nf
theorem rep_redict {H1 H : Hp} {p : Addr} {vs' : List (Key × V)} {ts' : List (Key × T)} {F : FP} (n : H1 p = none) (nd : (vs'.map (·.1)).Nodup) (r : RepA K mg H1 H vs' ts' F) (nf : ¬ F p) : Rep K mg H1 (upd H p (.dK vs')) (.ref p) (.dic true ts') (fun b => b = p ∨ F b) :=
  .dic upd_same n nd (r.frame (Same.refl _) fun b z => ⟨upd_ne (fun w => nf (w ▸ z)), (r.own b z).1⟩) nf
end

section
variable {X : Cx} {P : Nat → Bool} {a b e i : Expr} {te ta tb tv ti : TE} {x xa xb xi xv : Env → Option T} {y : Env → Option (T × Env)} {get : Env → Option T} {put : T → Env → Option Env} {pos apos : Pos} {AF : List (String × List String)}
theorem atI_ix {α β : Type} {xs : List α} {ys : List β} (h : xs.length = ys.length) {i : Int} {y : β} (e : atI ys i = some y) : ∃ (j : Nat) (x : α), ixN ys.length i = some j ∧ xs[j]? = some x ∧ ys[j]? = some y ∧ atI xs i = some x := by
  unfold atI at e
  cases hk : ixN ys.length i with
  | none => rw [hk] at e; cases e
  | some j =>
    rw [hk] at e
    have hy : ys[j]? = some y := e
    have hj : j < xs.length := by rw [h]; exact (List.getElem?_eq_some_iff.mp hy).1
    refine ⟨j, xs[j], rfl, List.getElem?_eq_getElem hj, hy, ?_⟩
    unfold atI
    rw [h, hk]
    exact List.getElem?_eq_getElem hj
/-- an item of an owned list, a value of an owned dict -/
def ixGet (t : T) (k : Option T) : Option T := match t, k with
  | .lst true xs, some (.int i) => atI xs i
  | .dic true kvs, some k => (match k.key with | some k => tget kvs k | none => none)
  | _, _ => none
def ixPut (t : T) (k : Option T) (u : T) : Option T := match t, k with
  | .lst true xs, some (.int i) => (match ixN xs.length i with | some j => some (.lst true (xs.set j u)) | none => none)
  | .dic true kvs, some k => (match k.key with | some k => some (.dic true (tput kvs k u)) | none => none)
  | _, _ => none
def pIx (get xi : Env → Option T) : Env → Option T := fun env => match get env with | some t => ixGet t (xi env) | none => none
def pIxPut (get xi : Env → Option T) (put : T → Env → Option Env) : T → Env → Option Env := fun u env => match get env with | some t => (match ixPut t (xi env) u with | some t' => put t' env | none => none) | none => none
theorem pl_ix (hu : X.A.units + 1 < cLine) (h : PL X a ta get put) (hi : KE X i ti xi) (hs : PlainIx i := by exact fun _ _ => rfl) : PL X (.Subscript a i pos) (teOr (tOp (rIx X.K) ta ti) (tDGet ta ti)) (pIx get xi) (pIxPut get xi put) :=
  ⟨PE.or (pe_ix ix_seq h.pe hi.pe hs) (pe_dget hu h.pe hi.pe hs), fun env t e H1 H σ F s R Q q => by
    unfold pIx at e
    cases e1 : get env with
    | none => rw [e1] at e; cases e
    | some tb =>
      rw [e1] at e
      simp only at e
      unfold ixGet at e
      split at e
      · rename_i xs k e2
        refine .inl (h.pr _ _ e1 _ _ _ _ s R _ fun v Ha Hb G x1 R1 r1 hG foc => hi.kr _ _ e2 _ _ _ _ x1.sub R1 _ fun w Hc Hd G' x2 r2 => ?_)
        have kb : ∀ b, F b → Hd b = Hb b ∧ Hc b = none := fun b z => (x2.apart R1.own fun _ _ z => z).1 b z
        cases r1 with
        | sh r => cases r
        | lst h1 h2 h3 h4 =>
          rename_i p vs F1
          have h5 := (x2.reps h3 fun _ _ z => z).1
          obtain ⟨j, w0, hk, g1, g2, g3⟩ := atI_ix h5.len e
          obtain ⟨w1, G1, f1, f2, f3, f4⟩ := h5.focus g2
          rw [g1] at f1; cases f1
          refine .inl ⟨p, vs, k, w0, rfl, r2.intE, .inl (.inl ((kb p (hG p (.inl rfl))).1.trans h1)), g3, q w0 Hc Hd G1 (x1.trans x2) (x2.qRepE R1) f2 (fun b z => hG b (.inr (f3 b z))) fun t' env' ep H2 H2' G2 s2 kk r hg => ?_⟩
          unfold pIxPut ixPut at ep
          simp only [e1, e2, hk] at ep
          have kp := kk p (hG p (.inl rfl)) fun z => h4 (f3 p z)
          obtain ⟨F', R3, hF⟩ := f4 H2 H2' w0 t' G2 s2 (fun b z1 z2 => kk b (hG b (.inr z1)) z2) r fun b z w => hg b z (hG b (.inr w))
          have ev : vs.set j w0 = vs := by
            apply List.ext_getElem?
            intro m
            by_cases hm : m = j
            · subst hm; rw [List.getElem?_set_self ((List.getElem?_eq_some_iff.mp g1).1), g1]
            · rw [List.getElem?_set_ne (fun z => hm z.symm)]
          rw [ev] at R3
          have np : ¬ F' p := fun z => (hF p z).elim (fun z => h4 z.1) fun z => h4 (f3 p (hg p z (hG p (.inl rfl))))
          have r3 : Rep X.K X.mg H2 H2' (.ref p) (.lst true (xs.set j t')) (fun b => b = p ∨ F' b) := .lst (kp.1.trans ((kb p (hG p (.inl rfl))).1.trans h1)) kp.2 R3 np
          obtain ⟨F'', R4, hF2⟩ := foc _ _ ep H2 H2' _ (x2.s1.trans s2) (fun b z1 z2 => let ⟨u1, u2⟩ := kk b z1 fun w => z2 (.inr (f3 b w)); ⟨u1.trans (kb b z1).1, u2⟩) r3 fun b z w => z.elim (fun z => .inl z) fun z => (hF b z).elim (fun z => .inr z.1) fun z => .inr (f3 b (hg b z w))
          exact ⟨F'', R4, fun b z => (hF2 b z).elim (fun z => .inl ⟨z.1, fun w => z.2 (.inr (f3 b w))⟩) fun z => z.elim (fun z => .inl (by rw [z]; exact ⟨hG p (.inl rfl), fun w => h4 (f3 p w)⟩)) fun z => (hF b z).elim (fun z => .inl ⟨hG b (.inr z.1), z.2⟩) .inr⟩
      · rename_i kvs kt e2
        split at e
        · rename_i k ek
          refine .inr (h.pr _ _ e1 _ _ _ _ s R _ fun v Ha Hb G x1 R1 r1 hG foc => hi.kr _ _ e2 _ _ _ _ x1.sub R1 _ fun w Hc Hd G' x2 r2 => ?_)
          have kb : ∀ b, F b → Hd b = Hb b ∧ Hc b = none := fun b z => (x2.apart R1.own fun _ _ z => z).1 b z
          cases r1 with
          | sh r => cases r
          | dic h1 h2 hn h3 h4 =>
            rename_i p vs F1
            have h5 : RepA X.K X.mg Hc Hd vs kvs F1 := h3.frame x2.s1 fun b z => kb b (hG b (.inr z))
            obtain ⟨w1, G1, f1, f2, f3, f4⟩ := h5.focus e
            have hp : Hd p = some (.dK vs) := (kb p (hG p (.inl rfl))).1.trans h1
            refine ⟨p, w1, rfl, by rw [r2.keyE ek, ← f1]; exact DGet.k hp, q w1 Hc Hd G1 (x1.trans x2) (x2.qRepE R1) f2 (fun b z => hG b (.inr (f3 b z))) fun t' env' ep H2 H2' G2 s2 kk r hg => ?_⟩
            unfold pIxPut ixPut at ep
            simp only [e1, e2, ek] at ep
            have kp := kk p (hG p (.inl rfl)) fun z => h4 (f3 p z)
            obtain ⟨F', R3, hF⟩ := f4 H2 H2' t' G2 s2 (fun b z1 z2 => kk b (hG b (.inr z1)) z2) r fun b z w => hg b z (hG b (.inr w))
            have np : ¬ F' p := fun z => (hF p z).elim (fun z => h4 z.1) fun z => h4 (f3 p (hg p z (hG p (.inl rfl))))
            have r3 : Rep X.K X.mg H2 H2' (.ref p) (.dic true (tput kvs k t')) (fun b => b = p ∨ F' b) := .dic (kp.1.trans hp) kp.2 hn R3 np
            obtain ⟨F'', R4, hF2⟩ := foc _ _ ep H2 H2' _ (x2.s1.trans s2) (fun b z1 z2 => let ⟨u1, u2⟩ := kk b z1 fun w => z2 (.inr (f3 b w)); ⟨u1.trans (kb b z1).1, u2⟩) r3 fun b z w => z.elim (fun z => .inl z) fun z => (hF b z).elim (fun z => .inr z.1) fun z => .inr (f3 b (hg b z w))
            exact ⟨F'', R4, fun b z => (hF2 b z).elim (fun z => .inl ⟨z.1, fun w => z.2 (.inr (f3 b w))⟩) fun z => z.elim (fun z => .inl (by rw [z]; exact ⟨hG p (.inl rfl), fun w => h4 (f3 p w)⟩)) fun z => (hF b z).elim (fun z => .inl ⟨hG b (.inr z.1), z.2⟩) .inr⟩
        · cases e
      · cases e⟩

/-- what a method's call o.name(e) needs of its text -/
structure BM1 (X : Cx) (o : Expr) (name : Str) (e : Expr) (apos cpos : Pos) : Prop where
  base : attributeBase o name X.env (eval o X.env) = eval o X.env
  few : ((backTo cpos (starEach [e] X.env)).all (fun x => !x.1) && (backToKw cpos (keywordEach [] X.env)).all (fun x => x.1.isSome) && decide ([e].length + ([] : List Keyword).length + (if ([] : List Keyword).isEmpty then 0 else 1) < 30)) = true
  line : (apos.endLine == cpos.line) = true
  star : starEach [e] X.env = (false, eval e X.env) :: starEach [] X.env
  plain : (backTo cpos (starEach [] X.env)).any (·.1) = false
structure BM0 (X : Cx) (o : Expr) (name : Str) (apos cpos : Pos) : Prop where
  base : attributeBase o name X.env (eval o X.env) = eval o X.env
  line : (apos.endLine == cpos.line) = true
/-! ### append -/
def eAppend (get : Env → Option T) (put : T → Env → Option Env) (x : Env → Option T) : Env → Option (T × Env) := fun env => match get env with
  | some (.lst true xs) => (match x env with
    | some t => if xs.length < maxLen then (match put (.lst true (xs ++ [t])) env with | some env' => some (.non, env') | none => none) else none
    | none => none)
  | _ => none
theorem ee_append (h : PL X a ta get put) (ha : QE X b tb xb) (m : BM1 X a "append" b apos pos := by exact ⟨rfl, rfl, rfl, rfl, rfl⟩) :
    EE X (.Call (.Attribute a "append" apos) [b] [] pos) (tBM X.K "list" rAppend ta (tCons tb tNil)) (eAppend get put xb) :=
  ⟨pe_bm PySem.F.plainAttrs_list PySem.F.slot_list_append PySem.F.type_list_append mt_append h.pe (pa_cons ha.pe pa_nil m.star) m.base m.few m.line m.star m.plain, fun env t env' e H1 H σ F s R Q q => by
    unfold eAppend at e
    split at e
    · rename_i xs e1
      split at e
      · rename_i u e2
        split at e
        · rename_i hz
          split at e
          · rename_i env2 ep
            cases e
            refine h.pr _ _ e1 _ _ _ _ s R _ fun v Ha Hb G x1 R1 r1 hG foc => ?_
            cases r1 with
            | sh r => cases r
            | lst h1 h2 h3 h4 =>
              rename_i p vs F1
              refine ⟨.inl ⟨rfl, vs, .inl (.inl h1)⟩, ha.qr _ _ e2 _ _ _ _ x1.sub R1 _ fun w Hc Hd Ft x2 r2 => ?_⟩
              have kb : ∀ b, F b → Hd b = Hb b ∧ Hc b = none := fun b z => (x2.apart R1.own fun _ _ z => z).1 b z
              have dj : ∀ b, F b → ¬ Ft b := fun b z => (x2.apart R1.own fun _ _ z => z).2 b z
              have hp := kb p (hG p (.inl rfl))
              have h5 := (x2.reps h3 fun _ _ z => z).1
              obtain ⟨F2, h6, h7⟩ := h5.snoc r2 fun b z => dj b (hG b (.inr z))
              have np : ¬ F2 p := fun z => ((h7 p).mp z).elim h4 (dj p (hG p (.inl rfl)))
              have r3 := rep_relist (H := Hd) hp.2 h6 np
              obtain ⟨F', R4, hF⟩ := foc _ _ ep Hc (upd Hd p (.lst (vs ++ [w]))) _ x2.s1 (fun b z1 z2 => ⟨(upd_ne fun z => z2 (.inl z)).trans (kb b z1).1, (kb b z1).2⟩) r3 fun b z w => z.elim .inl fun z => ((h7 b).mp z).elim .inr fun z => absurd z (dj b w)
              refine ⟨p, vs, w, rfl, rfl, hp.1.trans h1, by rw [h5.len, maxLen_eq]; exact hz, q .non Hc _ F' F0 ⟨x1.s1.trans x2.s1, ?_, ?_, ?_, ?_⟩ R4 (.sh .non) fun _ _ z => z⟩
              · exact (Ext.wr x2.sub hp.2 (F := F) (hG p (.inl rfl))).sub
              · intro b o z n
                rw [upd_ne fun w => n (by rw [w]; exact hG p (.inl rfl))]
                exact x2.keep b o (x1.keep b o z fun z => z) fun z => z
              · intro b z
                rcases z with z | z
                · rcases hF b z with z | z
                  · exact .inl z.1
                  · rcases z with z | z
                    · rw [z]; exact .inl (hG p (.inl rfl))
                    · rcases (h7 b).mp z with z | z
                      · exact .inl (hG b (.inr z))
                      · rcases x2.foot b z with z | z
                        · exact z.elim
                        · refine .inr ?_
                          rcases none_or H b with z' | ⟨o, z'⟩
                          · exact z'
                          · rw [x1.keep b o z' fun z => z] at z; cases z
                · exact z.elim
              · intro b o z
                rcases (x1.trans x2).new1 b o z with z | z | z
                · exact .inl z
                · exact z.elim
                · exact .inr (.inr z)
          · cases e
        · cases e
      · cases e
    · cases e⟩
end
end GK

/-! GK11: targets, statements. -/
namespace GK
open PySem L2

section
variable {K : PySem.W.Frag} {mg : Str → Option Value} {P : Nat → Bool}
theorem back_none {H1 H H1' H' : Hp} {F F' : FP} (x : Ext H1 H F H1' H' F') {b : Addr} (e : H' b = none) : H b = none ∨ F b := by
  by_cases q : F b
  · exact .inr q
  · rcases none_or H b with h | ⟨o, h⟩
    · exact .inl h
    · rw [x.keep b o h q] at e; cases e
theorem Ext.more0 {H1 H H1' H' : Hp} {F F' G : FP} (x : Ext H1 H F H1' H' F') (h : ∀ b, F b → G b) : Ext H1 H G H1' H' F' := x.more h
/-- a slot is stored to -/
def gSet (i : Nat) : T → Env → Option Env := fun t env => if i < env.length then some (env.set i (some t)) else none
theorem gr_name {i : Nat} (hp : P i = false) : GR K mg P (gName i) (gSet i) := fun t env env' e H1 H σ F v Fv s R r d Q q => by
  unfold gSet at e
  split at e
  · rename_i hi
    cases e
    obtain ⟨G, R1, hG⟩ := R.weak i
    obtain ⟨F', R2, hF⟩ := R1.put (i := i) (v := v) (t := t) (by rw [List.length_set]; exact hi) r fun b z w => d b (hG b w) z
    rw [List.set_set] at R2
    refine q _ H1 H F' ((Ext.refl s).less fun b z => (hF b z).elim .inr fun z => .inl (hG b z)) R2 fun j hj => ?_
    rw [List.getElem?_set_ne]
    rintro rfl
    rw [hp] at hj; cases hj
  · cases e
/-- a tuple is unpacked -/
def gUn (f : List T → Env → Option Env) : T → Env → Option Env := fun t env => match t with | .tup xs => f xs env | _ => none
def GsR (P : Nat → Bool) (K : PySem.W.Frag) (mg : Str → Option Value) (n : Nat) (g : TGs) (f : List T → Env → Option Env) : Prop := ∀ ts env env', f ts env = some env' → ts.length = n ∧ ∀ H1 H σ F vs, Same H1 H → RepE K mg H1 H σ env F → Fzs K mg H1 vs ts → ∀ Q : L2.St → Hp → Prop,
  (∀ σ' H1' H' F', Ext H1 H F H1' H' F' → RepE K mg H1' H' σ' env' F' → (∀ i, P i = true → σ'[i]? = σ[i]?) → Q σ' H') → g vs σ H Q
def gNilC : List T → Env → Option Env := fun ts env => match ts with | [] => some env | _ => none
def gConsC (f : T → Env → Option Env) (g : List T → Env → Option Env) : List T → Env → Option Env := fun ts env => match ts with | t :: r => (match f t env with | some env1 => g r env1 | none => none) | [] => none
theorem gs_nil : GsR P K mg 0 gNil gNilC := fun ts env env' e => by
  unfold gNilC at e
  split at e
  · cases e
    refine ⟨rfl, fun H1 H σ F vs s R f Q q => ?_⟩
    cases f
    exact ⟨rfl, q σ H1 H F (Ext.refl s) R fun _ _ => rfl⟩
  · cases e
theorem gs_cons {t : TG} {u : TGs} {f : T → Env → Option Env} {g : List T → Env → Option Env} {n : Nat} (h : GR K mg P t f) (h' : GsR P K mg n u g) : GsR P K mg (n + 1) (gCons t u) (gConsC f g) := fun ts env env' e => by
  unfold gConsC at e
  split at e
  · rename_i t0 r
    split at e
    · rename_i env1 e1
      obtain ⟨hl, hg⟩ := h' _ _ _ e
      refine ⟨by rw [List.length_cons, hl], fun H1 H σ F vs s R f Q q => ?_⟩
      cases f with
      | cons f1 f2 =>
        refine ⟨_, _, rfl, h _ _ _ e1 _ _ _ _ _ _ s R (.sh f1) (fun _ _ z => z) _ fun σ' H1' H' F' x R' pn => ?_⟩
        refine hg _ _ _ _ _ x.sub R' (f2.mono x.s1) _ fun σ'' H1'' H'' F'' x' R'' pn' => ?_
        exact q σ'' H1'' H'' F'' ((x.trans x').more0 fun b (z : _ ∨ _) => z.elim id fun z => z.elim) R'' fun i hi => (pn' i hi).trans (pn i hi)
    · cases e
  · cases e
theorem gr_tup {n : Nat} {t : TGs} {f : List T → Env → Option Env} (h : GsR P K mg n t f) : GR K mg P (gTup K n t) (gUn f) := fun u env env' e H1 H σ F v Fv s R r d Q q => by
  unfold gUn at e
  split at e
  · rename_i xs
    obtain ⟨hl, hg⟩ := h _ _ _ e
    obtain ⟨a, vs, rfl, h2, h3⟩ := r.tuple s
    exact ⟨a, vs, rfl, h2, by rw [h3.len, hl], hg _ _ _ _ _ s R h3 Q fun σ' H1' H' F' x R' pn => q σ' H1' H' F' (x.more fun b z => .inl z) R' pn⟩
  · cases e
theorem RepF.put : ∀ {vs : List (Str × V)} {ts : List (String × T)} {H1 H : Hp} {F G : FP} {k : String} {v : V} {t : T}, RepF K mg H1 H vs ts F → Rep K mg H1 H v t G → (∀ b, F b → ¬ G b) → ∃ F', RepF K mg H1 H (putF (Str.ofString k) v vs) (fput ts k t) F' ∧ ∀ b, F' b → F b ∨ G b
  | _, _, _, _, _, G, k, v, t, .nil, r, d => ⟨_, .cons r .nil fun _ _ z => z, fun b z => z.elim .inr fun z => z.elim⟩
  | _, _, _, _, _, G, k, v, t, .cons (k := k') (F := F1) (G := F2) a s e, r, d => by
    by_cases h : k' = k
    · subst h
      have e1 : putF (Str.ofString k') v ((Str.ofString k', ‹V›) :: ‹List (Str × V)›) = (Str.ofString k', v) :: ‹List (Str × V)› := by unfold putF; rw [if_pos rfl]
      rw [e1]
      simp only [fput, if_true]
      exact ⟨_, .cons r s fun b z w => d b (.inr w) z, fun b z => z.elim .inr fun z => .inl (.inr z)⟩
    · have h2 : ¬ Str.ofString k' = Str.ofString k := fun q => h (ofString_inj q)
      have e1 : ∀ (u : V) (l : List (Str × V)), putF (Str.ofString k) v ((Str.ofString k', u) :: l) = (Str.ofString k', u) :: putF (Str.ofString k) v l := fun u l => by
        show (if Str.ofString k' = Str.ofString k then _ else _) = _
        rw [if_neg h2]
      rw [e1]
      simp only [fput, if_neg h]
      obtain ⟨F', h3, h4⟩ := RepF.put s r fun b z => d b (.inr z)
      exact ⟨_, .cons a h3 fun b z w => (h4 b w).elim (e b z) (d b (.inl z)), fun b z => z.elim (fun z => .inl (.inl z)) fun z => (h4 b z).imp .inr id⟩
theorem RepF.len : ∀ {vs : List (Str × V)} {ts : List (String × T)} {H1 H : Hp} {F : FP}, RepF K mg H1 H vs ts F → vs.length = ts.length
  | _, _, _, _, _, .nil => rfl
  | _, _, _, _, _, .cons _ r _ => by rw [List.length_cons, List.length_cons, RepF.len r]
end
section
variable {X : Cx} {P : Nat → Bool} {a b e i : Expr} {te ta tb tv ti : TE} {x xa xb xi xv : Env → Option T} {y : Env → Option (T × Env)} {get : Env → Option T} {put : T → Env → Option Env} {pos apos : Pos} {AF : List (String × List String)}
/-- o.f = v, as a target -/
def gFld (K : PySem.W.Frag) (ta : TE) (f : Str) : TG := fun v σ H Q => ta σ H fun x H1 => ∃ a C dx fs, x = .ref a ∧ H1 a = some (.ins C dx fs) ∧ Cls K C ∧ NoAttr K C f ∧ fs.length < 1000 ∧ Q σ (upd H1 a (.ins C dx (putF f v fs)))
theorem pg_attr {f : Str} (ha : PE X a ta) (hs : ∀ v, assign (.Attribute a f pos) X.env v = (do
    let ov ← holding [v] (eval a X.env)
    standAt pos.atName
    holding [v, ov] (setAttr ov f v)
    release [v, ov] []) := by intro _; rfl) : PG X (.Attribute a f pos) (gFld X.K ta f) := by
  refine ⟨fun pins s σ H v u Q I r h => ?_⟩
  rw [hs]
  refine wpAny_bind (wpAny_holding (thn (ha.run pins s σ H _ I h) fun ov s1 ⟨x, H1, I1, r1, o, C, dx, fs, e1, e2, e3, e4, e5, q1⟩ => wpAny_bind (wpAny_standAt ?_)))
  subst e1
  obtain rfl : ov = Value.ref o := r1
  exact wpAny_bind (wpAny_holding (setattr_ok I1 e2 e3 e4 e5 r fun s3 I3 => wpAny_release ⟨σ, _, I3, q1⟩))
def gAttr (AF : List (String × List String)) (f : String) (get : Env → Option T) (put : T → Env → Option Env) : T → Env → Option Env := fun t env => match get env with
  | some (.obj true c fs) => if afHas AF c f && decide (fs.length < 1000) then put (.obj true c (fput fs f t)) env else none
  | _ => none
theorem ge_attr {f : String} (hc : Cls' X.K X.mg AF) (h : PL X a ta get put) (hs : ∀ v, assign (.Attribute a (Str.ofString f) pos) X.env v = (do
    let ov ← holding [v] (eval a X.env)
    standAt pos.atName
    holding [v, ov] (setAttr ov (Str.ofString f) v)
    release [v, ov] []) := by intro _; rfl) : GE X P (.Attribute a (Str.ofString f) pos) (gFld X.K ta (Str.ofString f)) (gAttr AF f get put) := ⟨pg_attr h.pe hs, fun t env env' e H1 H σ F v Fv s R r d Q q => by
  unfold gAttr at e
  split at e
  · rename_i c fs e1
    split at e
    · rename_i hk
      rw [Bool.and_eq_true, decide_eq_true_eq] at hk
      refine h.pr _ _ e1 _ _ _ _ s R _ fun w Ha Hb G x1 R1 r1 hG foc => ?_
      cases r1 with
      | sh r => cases r
      | obj h1 h2 h3 h4 h5 =>
        rename_i p C dx vs F1
        obtain ⟨c1, c2⟩ := hc.get hk.1 h3
        have r' := (x1.rep r fun _ _ z => z).1
        obtain ⟨F2, h6, h7⟩ := h4.put (k := f) r' fun b z => d b (hG b (.inr z))
        have np : ¬ F2 p := fun z => (h7 p z).elim h5 (d p (hG p (.inl rfl)))
        have r3 : Rep X.K X.mg Ha (upd Hb p (.ins C dx (putF (Str.ofString f) v vs))) (.ref p) (.obj true c (fput fs f t)) (fun b => b = p ∨ F2 b) :=
          .obj upd_same h2 h3 (h6.frame (Same.refl _) fun b z => ⟨upd_ne fun w => np (w ▸ z), (h6.own b z).1⟩) np
        obtain ⟨F', R4, hF⟩ := foc _ _ e Ha _ _ (Same.refl _) (fun b z1 z2 => ⟨upd_ne fun z => z2 (.inl z), (R1.own b z1).1⟩) r3 fun b z w => z.elim .inl fun z => (h7 b z).elim .inr fun z => absurd z (d b w)
        refine ⟨p, C, dx, vs, rfl, h1, c1, c2, by rw [h4.len]; exact hk.2, q σ Ha _ F' ⟨x1.s1, ?_, ?_, ?_, ?_⟩ R4 fun _ _ => rfl⟩
        · exact (Ext.wr x1.sub h2 (F := F) (hG p (.inl rfl))).sub
        · intro b o z n
          rw [upd_ne fun w => n (by rw [w]; exact .inl (hG p (.inl rfl)))]
          exact x1.keep b o z fun z => z
        · intro b z
          rcases hF b z with z | z
          · exact .inl (.inl z.1)
          · rcases z with z | z
            · rw [z]; exact .inl (.inl (hG p (.inl rfl)))
            · exact .inl ((h7 b z).imp (fun z => hG b (.inr z)) id)
        · intro b o z
          rcases x1.new1 b o z with z | z | z
          · exact .inl z
          · exact z.elim
          · exact .inr (.inr z)
    · cases e
  · cases e⟩
theorem ge_name {i : Nat} {y : Str} (h : PG X (.Name y pos) (gName i)) (hp : P i = false) : GE X P (.Name y pos) (gName i) (gSet i) := ⟨h, gr_name hp⟩
structure GsE (X : Cx) (P : Nat → Bool) (n : Nat) (es : List Expr) (g : TGs) (f : List T → Env → Option Env) : Prop where
  pg : PGs X es g
  gr : GsR P X.K X.mg n g f
theorem gse_nil : GsE X P 0 [] gNil gNilC := ⟨pgs_nil, gs_nil⟩
theorem gse_cons {es : List Expr} {t : TG} {u : TGs} {f : T → Env → Option Env} {g : List T → Env → Option Env} {n : Nat} (h : GE X P e t f) (h' : GsE X P n es u g) (ha : (assignEach (e :: es) X.env).map (·.2) = assign e X.env :: (assignEach es X.env).map (·.2) := by rfl) :
    GsE X P (n + 1) (e :: es) (gCons t u) (gConsC f g) := ⟨pgs_cons h.pg h'.pg ha, gs_cons h.gr h'.gr⟩
theorem ge_tup {es : List Expr} {u : TGs} {g : List T → Env → Option Env} {n k : Nat} (hc : X.calm = true) (h : GsE X P n es u g) (h1 : (assignEach es X.env).length = n := by rfl) (h2 : (assignEach es X.env).findIdx? (·.1) = none := by rfl) :
    GE X P (.Tuple es k pos) (gTup X.K n u) (gUn g) := ⟨pg_tup hc h.pg h1 h2, gr_tup h.gr⟩
end
end GK

/-! GK12: stores to items; pop; statements. -/
namespace GK
open PySem L2
section
variable {X : Cx} {P : Nat → Bool} {a b e i : Expr} {te ta tb tv ti : TE} {x xa xb xi xv : Env → Option T} {y : Env → Option (T × Env)} {get : Env → Option T} {put : T → Env → Option Env} {pos apos : Pos} {AF : List (String × List String)}
def ixStore (t : T) (k : Option T) (u : T) : Option T := match t, k with
  | .lst true xs, some (.int i) => (match ixN xs.length i with | some j => some (.lst true (xs.set j u)) | none => none)
  | .dic true kvs, some k => (match k.key with | some k => if kvs.length < maxLen then some (.dic true (tput kvs k u)) else none | none => none)
  | _, _ => none
def gIx (get xi : Env → Option T) (put : T → Env → Option Env) : T → Env → Option Env := fun u env => match get env with | some t => (match ixStore t (xi env) u with | some t' => put t' env | none => none) | none => none
def rSetU : TSet := fun o i v H Q => rSetL o i v H Q ∨ rSetD o i v H Q
theorem set_U (hu : X.A.units + 1 < cLine) : PSet X rSetU := fun pins s σ H o i v ov iv u Q I ro ri rv h => h.elim (set_list pins s σ H o i v ov iv u Q I ro ri rv) (set_dict hu pins s σ H o i v ov iv u Q I ro ri rv)
theorem ge_ix (hu : X.A.units + 1 < cLine) (h : PL X a ta get put) (hi : KE X i ti xi) (hs : ∀ v, assign (.Subscript a i pos) X.env v = (do
    let ov ← holding [v] (eval a X.env)
    let iv ← holding [v, ov] (eval i X.env)
    standAt pos
    holding [v, ov, iv] (setItem ov iv v)
    release [v, ov, iv] []) := by intro _; rfl) : GE X P (.Subscript a i pos) (gSub ta ti rSetU) (gIx get xi put) := ⟨pg_sub h.pe hi.pe (set_U hu) hs, fun t env env' e H1 H σ F v Fv s R r d Q q => by
  unfold gIx at e
  cases e1 : get env with
  | none => rw [e1] at e; cases e
  | some t0 =>
    rw [e1] at e
    simp only at e
    cases e3 : ixStore t0 (xi env) t with
    | none => rw [e3] at e; cases e
    | some t1 =>
      rw [e3] at e
      simp only at e
      unfold ixStore at e3
      split at e3
      · rename_i xs k e2
        split at e3
        · rename_i j hk
          cases e3
          refine h.pr _ _ e1 _ _ _ _ s R _ fun w Ha Hb G x1 R1 r1 hG foc => hi.kr _ _ e2 _ _ _ _ x1.sub R1 _ fun w2 Hc Hd G2 x2 r2 => ?_
          have kb : ∀ b, F b → Hd b = Hb b ∧ Hc b = none := fun b z => (x2.apart R1.own fun _ _ z => z).1 b z
          have r' := (x2.rep (x1.rep r fun _ _ z => z).1 fun _ _ z => z).1
          cases r1 with
          | sh r => cases r
          | lst h1 h2 h3 h4 =>
            rename_i p vs F1
            have hp := kb p (hG p (.inl rfl))
            have h5 := (x2.reps h3 fun _ _ z => z).1
            have hj : j < xs.length := (ixN_seq hk).2.1
            obtain ⟨w0, G0, f1, f2, f3, f4⟩ := h5.focus (List.getElem?_eq_getElem hj)
            obtain ⟨F2, h6, h7⟩ := f4 Hc Hd v t Fv (Same.refl _) (fun b z _ => ⟨rfl, (h5.own b z).1⟩) r' fun b z w => absurd z (d b (hG b (.inr w)))
            have np : ¬ F2 p := fun z => (h7 p z).elim (fun z => h4 z.1) (d p (hG p (.inl rfl)))
            have r3 := rep_relist (H := Hd) hp.2 h6 np
            obtain ⟨F', R4, hF⟩ := foc _ _ e Hc (upd Hd p (.lst (vs.set j v))) _ x2.s1 (fun b z1 z2 => ⟨(upd_ne fun z => z2 (.inl z)).trans (kb b z1).1, (kb b z1).2⟩) r3 fun b z w => z.elim .inl fun z => (h7 b z).elim (fun z => .inr z.1) fun z => absurd z (d b w)
            refine .inl ⟨p, vs, k, j, rfl, r2.intE, hp.1.trans h1, by rw [h5.len]; exact hk, q σ Hc _ F' ⟨x1.s1.trans x2.s1, (Ext.wr x2.sub hp.2 (F := F) (hG p (.inl rfl))).sub, fun b o z n => ?_, fun b z => ?_, fun b o z => ?_⟩ R4 fun _ _ => rfl⟩
            · rw [upd_ne fun w => n (by rw [w]; exact .inl (hG p (.inl rfl)))]
              exact (x1.trans x2).keep b o z fun z => z
            · rcases hF b z with z | z
              · exact .inl (.inl z.1)
              · rcases z with z | z
                · rw [z]; exact .inl (.inl (hG p (.inl rfl)))
                · exact .inl ((h7 b z).imp (fun z => hG b (.inr z.1)) id)
            · rcases (x1.trans x2).new1 b o z with z | z | z
              · exact .inl z
              · exact z.elim
              · exact .inr (.inr z)
        · cases e3
      · rename_i kvs kt e2
        split at e3
        · rename_i k ek
          split at e3
          · rename_i hz
            cases e3
            refine h.pr _ _ e1 _ _ _ _ s R _ fun w Ha Hb G x1 R1 r1 hG foc => hi.kr _ _ e2 _ _ _ _ x1.sub R1 _ fun w2 Hc Hd G2 x2 r2 => ?_
            have kb : ∀ b, F b → Hd b = Hb b ∧ Hc b = none := fun b z => (x2.apart R1.own fun _ _ z => z).1 b z
            have r' := (x2.rep (x1.rep r fun _ _ z => z).1 fun _ _ z => z).1
            cases r1 with
            | sh r => cases r
            | dic h1 h2 hn h3 h4 =>
              rename_i p vs F1
              have hp := kb p (hG p (.inl rfl))
              have h5 : RepA X.K X.mg Hc Hd vs kvs F1 := h3.frame x2.s1 fun b z => kb b (hG b (.inr z))
              obtain ⟨F2, h6, h7⟩ := h5.put (k := k) r' fun b z => d b (hG b (.inr z))
              have np : ¬ F2 p := fun z => (h7 p z).elim h4 (d p (hG p (.inl rfl)))
              have r3 := rep_redict (H := Hd) hp.2 (vput_nodup hn).1 h6 np
              obtain ⟨F', R4, hF⟩ := foc _ _ e Hc (upd Hd p (.dK (vput vs k v))) _ x2.s1 (fun b z1 z2 => ⟨(upd_ne fun z => z2 (.inl z)).trans (kb b z1).1, (kb b z1).2⟩) r3 fun b z w => z.elim .inl fun z => (h7 b z).elim .inr fun z => absurd z (d b w)
              refine .inr ⟨p, _, rfl, by rw [r2.keyE ek]; exact DPut.k (hp.1.trans h1) (by rw [RepA.len h5, maxLen_eq]; exact hz), ?_⟩
              rw [vput_eq hn]
              refine q σ Hc _ F' ⟨x1.s1.trans x2.s1, (Ext.wr x2.sub hp.2 (F := F) (hG p (.inl rfl))).sub, fun b o z n => ?_, fun b z => ?_, fun b o z => ?_⟩ R4 fun _ _ => rfl
              · rw [upd_ne fun w => n (by rw [w]; exact .inl (hG p (.inl rfl)))]
                exact (x1.trans x2).keep b o z fun z => z
              · rcases hF b z with z | z
                · exact .inl (.inl z.1)
                · rcases z with z | z
                  · rw [z]; exact .inl (.inl (hG p (.inl rfl)))
                  · exact .inl ((h7 b z).imp (fun z => hG b (.inr z)) id)
              · rcases (x1.trans x2).new1 b o z with z | z | z
                · exact .inl z
                · exact z.elim
                · exact .inr (.inr z)
          · cases e3
        · cases e3
      · cases e3⟩

/-! ### pop -/
def popAt (xs : List T) (k : Nat) (put : T → Env → Option Env) (env : Env) : Option (T × Env) := match xs[k]? with
  | some t => (match put (.lst true (xs.eraseIdx k)) env with | some env' => some (t, env') | none => none)
  | none => none
def ePop (get : Env → Option T) (put : T → Env → Option Env) : Env → Option (T × Env) := fun env => match get env with
  | some (.lst true xs) => popAt xs (xs.length - 1) put env
  | _ => none
def ePopAt (get : Env → Option T) (put : T → Env → Option Env) (x : Env → Option T) : Env → Option (T × Env) := fun env => match get env with
  | some (.lst true xs) => (match x env with
    | some (.int i) => if decide (-(2 ^ 63) ≤ i) && decide (i < 2 ^ 63) then (match seqIndex? i xs.length with | some k => popAt xs k put env | none => none) else none
    | _ => none)
  | _ => none
theorem pop_core {K : PySem.W.Frag} {mg : Str → Option Value} {env env2 : Env} {xs : List T} {u : T} {k : Nat} {σ : L2.St} {H1 H Hc Hd : Hp} {F F1 : FP} {p : Addr} {vs : List V} {Q : VK} {put : T → Env → Option Env}
    (x : Ext H1 H F0 Hc Hd F0) (R1 : RepE K mg Hc Hd σ env F) (hG : ∀ b, (b = p ∨ F1 b) → F b) (h1 : Hd p = some (.lst vs)) (h2 : Hc p = none) (h3 : Reps K mg Hc Hd vs xs F1) (h4 : ¬ F1 p)
    (foc : ∀ (t' : T) (env' : Env), put t' env = some env' → ∀ (H2 H2' : Hp) (G' : FP), Same Hc H2 → (∀ b, F b → ¬ (b = p ∨ F1 b) → H2' b = Hd b ∧ H2 b = none) → Rep K mg H2 H2' (.ref p) t' G' → (∀ b, G' b → F b → (b = p ∨ F1 b)) →
      ∃ F', RepE K mg H2 H2' σ env' F' ∧ ∀ b, F' b → (F b ∧ ¬ (b = p ∨ F1 b)) ∨ G' b)
    (e : popAt xs k put env = some (u, env2)) (q : ∀ v H1' H' F' Ft, Ext H1 H F H1' H' (fun b => F' b ∨ Ft b) → RepE K mg H1' H' σ env2 F' → Rep K mg H1' H' v u Ft → (∀ b, F' b → ¬ Ft b) → Q v H') :
    ∃ w, vs[k]? = some w ∧ Q w (upd Hd p (.lst (vs.eraseIdx k))) := by
  unfold popAt at e
  split at e
  · rename_i t hk
    split at e
    · rename_i env3 ep
      cases e
      obtain ⟨w, G, R, g1, g2, g3, g4, g5, g6⟩ := h3.erase hk
      have np : ¬ R p := fun z => h4 (g6 p z)
      have r3 := rep_relist (H := Hd) h2 g3 np
      obtain ⟨F', R4, hF⟩ := foc _ _ ep Hc (upd Hd p (.lst (vs.eraseIdx k))) _ (Same.refl _) (fun b z1 z2 => ⟨upd_ne fun z => z2 (.inl z), (R1.own b z1).1⟩) r3 fun b z w => z.imp id (g6 b)
      refine ⟨w, g1, q w Hc _ F' G ⟨x.s1, (Ext.wr x.sub h2 (F := F) (hG p (.inl rfl))).sub, fun b o z n => ?_, fun b z => ?_, fun b o z => ?_⟩ R4 (g2.frame (Same.refl _) fun b z => ⟨upd_ne fun w => h4 (by rw [← w]; exact g5 b z), (g2.own b z).1⟩) fun b z w => ?_⟩
      · rw [upd_ne fun w => n (by rw [w]; exact hG p (.inl rfl))]
        exact x.keep b o z fun z => z
      · rcases z with z | z
        · rcases hF b z with z | z
          · exact .inl z.1
          · exact .inl (hG b (z.imp id (g6 b)))
        · exact .inl (hG b (.inr (g5 b z)))
      · rcases x.new1 b o z with z | z | z
        · exact .inl z
        · exact z.elim
        · exact .inr (.inr z)
      · rcases hF b z with z | z
        · exact z.2 (.inr (g5 b w))
        · rcases z with z | z
          · exact h4 (by rw [← z]; exact g5 b w)
          · exact g4 b w z
    · cases e
  · cases e
theorem dropLast_erase {α : Type} (l : List α) : l.dropLast = l.eraseIdx (l.length - 1) := by
  rw [List.dropLast_eq_take]
  by_cases h : l = []
  · subst h; rfl
  · rw [List.eraseIdx_eq_take_drop_succ]
    have : 0 < l.length := List.length_pos_iff.mpr h
    rw [show l.length - 1 + 1 = l.length by omega, List.drop_length, List.append_nil]
theorem ee_pop (h : PL X a ta get put) (m : BM0 X a "pop" apos pos := by exact ⟨rfl, rfl⟩) : EE X (.Call (.Attribute a "pop" apos) [] [] pos) (tBM0 X.K "list" rPop ta) (ePop get put) :=
  ⟨pe_bm0 PySem.F.plainAttrs_list PySem.F.slot_list_pop PySem.F.type_list_pop mt_pop h.pe m.base m.line, fun env t env' e H1 H σ F s R Q q => by
    unfold ePop at e
    split at e
    · rename_i xs e1
      refine h.pr _ _ e1 _ _ _ _ s R _ fun v Ha Hb G x1 R1 r1 hG foc => ?_
      cases r1 with
      | sh r => cases r
      | lst h1 h2 h3 h4 =>
        rename_i p vs F1
        obtain ⟨w, g1, g2⟩ := pop_core x1 R1 hG h1 h2 h3 h4 foc e q
        exact ⟨.inl ⟨rfl, vs, .inl (.inl h1)⟩, p, vs, w, rfl, rfl, h1, by rw [h3.len]; exact g1, by rw [dropLast_erase, h3.len]; exact g2⟩
    · cases e⟩
theorem ee_popAt (h : PL X a ta get put) (hb : KE X b tb xb) (m : BM1 X a "pop" b apos pos := by exact ⟨rfl, rfl, rfl, rfl, rfl⟩) : EE X (.Call (.Attribute a "pop" apos) [b] [] pos) (tBM X.K "list" rPopAt ta (tCons tb tNil)) (ePopAt get put xb) :=
  ⟨pe_bm PySem.F.plainAttrs_list PySem.F.slot_list_pop PySem.F.type_list_pop mt_popAt h.pe (pa_cons hb.pe pa_nil m.star) m.base m.few m.line m.star m.plain, fun env t env' e H1 H σ F s R Q q => by
    unfold ePopAt at e
    split at e
    · rename_i xs e1
      split at e
      · rename_i i e2
        split at e
        · rename_i hz
          rw [Bool.and_eq_true, decide_eq_true_eq, decide_eq_true_eq] at hz
          split at e
          · rename_i k hk
            refine h.pr _ _ e1 _ _ _ _ s R _ fun v Ha Hb G x1 R1 r1 hG foc => ?_
            cases r1 with
            | sh r => cases r
            | lst h1 h2 h3 h4 =>
              rename_i p vs F1
              refine ⟨.inl ⟨rfl, vs, .inl (.inl h1)⟩, hb.kr _ _ e2 _ _ _ _ x1.sub R1 _ fun w2 Hc Hd G2 x2 r2 => ?_⟩
              have kb : ∀ b, F b → Hd b = Hb b ∧ Hc b = none := fun b z => (x2.apart R1.own fun _ _ z => z).1 b z
              have hp := kb p (hG p (.inl rfl))
              have h5 := (x2.reps h3 fun _ _ z => z).1
              obtain ⟨w, g1, g2⟩ := pop_core (x1.trans x2) (x2.qRepE R1) hG (hp.1.trans h1) hp.2 h5 h4 (fun t' env' ep H2 H2' G' s2 kk r hg => foc t' env' ep H2 H2' G' (x2.s1.trans s2) (fun b z1 z2 => ⟨(kk b z1 z2).1.trans (kb b z1).1, (kk b z1 z2).2⟩) r hg) e q
              exact ⟨p, vs, i, k, w, rfl, by rw [r2.intE], hp.1.trans h1, hz.1, hz.2, by rw [h5.len]; exact hk, g1, g2⟩
          · cases e
        · cases e
      · cases e
    · cases e⟩
end
end GK

/-! GK13: expressions with effects, statements. -/
namespace GK
open PySem L2
section
variable (K : PySem.W.Frag) (mg : Str → Option Value)
def EAR (ta : TA) (x : Env → Option (List T × Env)) : Prop := ∀ env ts env', x env = some (ts, env') → ∀ H1 H σ F, Same H1 H → RepE K mg H1 H σ env F → ∀ Q : List V → Hp → Prop,
  (∀ vs H1' H' F' Ft, Ext H1 H F H1' H' (fun b => F' b ∨ Ft b) → RepE K mg H1' H' σ env' F' → Reps K mg H1' H' vs ts Ft → (∀ b, F' b → ¬ Ft b) → Q vs H') → ta σ H Q
def ETR (tt : TT) (c : Env → Option (Bool × Env)) : Prop := ∀ env b env', c env = some (b, env') → ∀ H1 H σ F, Same H1 H → RepE K mg H1 H σ env F → ∀ Q : Bool → Hp → Prop,
  (∀ H1' H' F', Ext H1 H F H1' H' F' → RepE K mg H1' H' σ env' F' → Q b H') → tt σ H Q
end
structure EA (X : Cx) (es : List Expr) (ta : TA) (x : Env → Option (List T × Env)) : Prop where
  pa : PA X es ta
  er : EAR X.K X.mg ta x
structure ET (X : Cx) (e : Expr) (tt : TT) (c : Env → Option (Bool × Env)) : Prop where
  pt : PT X e tt
  tr : ETR X.K X.mg tt c
structure EW (X : Cx) (e : Expr) (tt : TT) (c : Env → Option (Bool × Env)) : Prop where
  pw : PW X e tt
  tr : ETR X.K X.mg tt c

section
variable {X : Cx} {P : Nat → Bool} {a b e i : Expr} {es rest : List Expr} {te ta tb tv ti : TE} {tl : TA} {tA tB' : TT} {c d : Env → Option Bool} {x xa xb xi xv : Env → Option T} {xs : Env → Option (List T)} {y ya yb : Env → Option (T × Env)} {ys : Env → Option (List T × Env)} {ec ed : Env → Option (Bool × Env)} {get : Env → Option T} {put : T → Env → Option Env} {pos apos p : Pos} {AF : List (String × List String)}
/-- a temporary behind more effects -/
theorem eff2 {H1 H Ha Hb Hc Hd : Hp} {F F1 G1 F2 G2 : FP} (x : Ext H1 H F Ha Hb (fun b => F1 b ∨ G1 b)) (y : Ext Ha Hb F1 Hc Hd (fun b => F2 b ∨ G2 b)) (ow : ∀ b, G1 b → Ha b = none ∧ ∃ o, Hb b = some o) (d : ∀ b, F1 b → ¬ G1 b) :
    Ext H1 H F Hc Hd (fun b => F2 b ∨ (G1 b ∨ G2 b)) ∧ (∀ b, G1 b → Hd b = Hb b ∧ Hc b = none) ∧ (∀ b, G1 b → ¬ (F2 b ∨ G2 b)) := by
  have ap := y.apart ow fun b z w => d b w z
  refine ⟨⟨x.s1.trans y.s1, y.sub, fun b o z n => y.keep b o (x.keep b o z n) fun w => ?_, fun b z => ?_, fun b o z => ?_⟩, ap.1, ap.2⟩
  · rcases x.foot b (.inl w) with q | q
    · exact n q
    · rw [q] at z; cases z
  · rcases z with z | z | z
    · rcases y.foot b (.inl z) with q | q
      · exact x.foot b (.inl q)
      · exact (back_none x q).symm
    · exact x.foot b (.inr z)
    · rcases y.foot b (.inr z) with q | q
      · exact x.foot b (.inl q)
      · exact (back_none x q).symm
  · rcases y.new1 b o z with q | q | q
    · obtain ⟨o', q⟩ := q; exact x.new1 b o' q
    · exact .inr (x.foot b (.inl q))
    · exact .inr (back_none x q).symm
def eaQ (xs : Env → Option (List T)) : Env → Option (List T × Env) := fun env => match xs env with | none => none | some ts => some (ts, env)
theorem QA.eff (h : QA X es tl xs) : EA X es tl (eaQ xs) := ⟨h.pa, fun env ts env' e H1 H σ F s R Q q => by
  unfold eaQ at e
  cases e1 : xs env with
  | none => rw [e1] at e; cases e
  | some u =>
    rw [e1] at e
    cases e
    exact h.qr _ _ e1 _ _ _ _ s R _ fun v H1' H' Ft x1 r1 => q v H1' H' F Ft (ext_or x1) (x1.qRepE R) r1 (fun b z => (x1.repE R fun _ _ z => z).2 b z)⟩
def eaCons (y : Env → Option (T × Env)) (ys : Env → Option (List T × Env)) : Env → Option (List T × Env) := fun env => match y env with | none => none | some (t, env1) => (match ys env1 with | none => none | some (ts, env2) => some (t :: ts, env2))
theorem ea_cons (h : EE X e te y) (hr : EA X es tl ys) (hs : starEach (e :: es) X.env = (false, eval e X.env) :: starEach es X.env := by rfl) : EA X (e :: es) (tCons te tl) (eaCons y ys) := ⟨pa_cons h.pe hr.pa hs, fun env ts env' e H1 H σ F s R Q q => by
  unfold eaCons at e
  split at e
  · cases e
  · rename_i t env1 e1
    split at e
    · cases e
    · rename_i us env2 e2
      cases e
      refine h.er _ _ _ e1 _ _ _ _ s R _ fun v Ha Hb F1 G1 x1 R1 r1 d1 => hr.er _ _ _ e2 _ _ _ _ x1.sub R1 _ fun vs Hc Hd F2 G2 x2 R2 r2 d2 => ?_
      obtain ⟨x3, k, n⟩ := eff2 x1 x2 r1.own d1
      exact q (v :: vs) Hc Hd F2 _ x3 R2 (.cons (r1.frame x2.s1 k) r2 fun b z w => n b z (.inr w)) fun b z w => w.elim (fun w => n b w (.inl z)) (d2 b z)⟩
/-- displays -/
def eLst (ys : Env → Option (List T × Env)) : Env → Option (T × Env) := fun env => match ys env with | none => none | some (ts, env') => if ts.length ≤ maxLen then some (.lst true ts, env') else none
def eTup (ys : Env → Option (List T × Env)) : Env → Option (T × Env) := fun env => match ys env with | none => none | some (ts, env') => if ts.length ≤ maxLen then some (.tup (T.fzs ts), env') else none
theorem ee_tup {k} (h : EA X es tl ys) : EE X (.Tuple es k pos) (tTup tl) (eTup ys) := ⟨pe_tup h.pa, fun env t env' e H1 H σ F s R Q q => by
  unfold eTup at e
  split at e
  · cases e
  · rename_i us env1 e1
    split at e
    · rename_i hz
      cases e
      refine h.er _ _ _ e1 _ _ _ _ s R _ fun vs Ha Hb F1 G1 x1 R1 r1 d1 => ⟨by rw [r1.len, maxLen_eq]; exact hz, fun p n => ?_⟩
      have x2 : Ext Ha Hb (fun b => F1 b ∨ G1 b) (join Ha Hb G1) Hb F1 := Ext.freeze x1.sub (fun b z => (r1.own b z).1) (fun b z w => d1 b w z) (fun _ z => .inr z) fun _ z => .inl z
      have f2 : Fzs X.K X.mg (join Ha Hb G1) vs (T.fzs us) := Reps.freeze x2.s1 r1 fun b z => join_in z
      have R2 := (R1.frame (H' := Hb) x2.s1 fun b z => ⟨rfl, by rw [join_out (d1 b z)]; exact (R1.own b z).1⟩)
      have x3 : Ext (join Ha Hb G1) Hb F1 (upd (join Ha Hb G1) p (.tup vs)) (upd Hb p (.tup vs)) F1 := Ext.newS x2.sub n
      have pn : ∀ b, F1 b → b ≠ p := fun b z w => by
        obtain ⟨_, o, h⟩ := R2.own b z
        rw [w, n] at h
        cases h
      have R3 := R2.frame (H' := upd Hb p (.tup vs)) x3.s1 fun b z => ⟨upd_ne (pn b z), (upd_ne (pn b z)).trans (R2.own b z).1⟩
      refine q _ _ _ F1 F0 (((x1.trans x2).trans x3).less fun b z => z.elim id fun z => z.elim) R3 (.sh (.tup (.inl (.inl upd_same)) (f2.mono x3.s1))) fun _ _ z => z
    · cases e⟩
theorem ee_lst (h : EA X es tl ys) : EE X (.List es pos) (tLst tl) (eLst ys) := ⟨pe_lst h.pa, fun env t env' e H1 H σ F s R Q q => by
  unfold eLst at e
  split at e
  · cases e
  · rename_i us env1 e1
    split at e
    · rename_i hz
      cases e
      refine h.er _ _ _ e1 _ _ _ _ s R _ fun vs Ha Hb F1 G1 x1 R1 r1 d1 => ⟨by rw [r1.len, maxLen_eq]; exact hz, ?_⟩
      refine newLst x1.sub r1 fun v Hc Hd Fu x2 r2 => ?_
      have ap := x2.apart R1.own fun b z w => d1 b z w
      refine q v Hc Hd F1 Fu ⟨x1.s1.trans x2.s1, x2.sub, fun b o z n => ?_, fun b z => ?_, fun b o z => ?_⟩ (R1.frame x2.s1 ap.1) r2 ap.2
      · refine x2.keep b o (x1.keep b o z n) fun w => ?_
        rcases x1.foot b (.inr w) with q | q
        · exact n q
        · rw [q] at z; cases z
      · rcases z with z | z
        · exact x1.foot b (.inl z)
        · rcases x2.foot b z with q | q
          · exact x1.foot b (.inr q)
          · exact (back_none x1 q).symm
      · rcases x2.new1 b o z with q | q | q
        · obtain ⟨o', q⟩ := q; exact x1.new1 b o' q
        · exact .inr (x1.foot b (.inr q))
        · exact .inr (back_none x1 q).symm
    · cases e⟩
/-- operators -/
def eOp (f : T → T → Option T) (ya yb : Env → Option (T × Env)) : Env → Option (T × Env) := fun env => match ya env with | none => none | some (a, env1) => (match yb env1 with | none => none | some (b, env2) => (match f a b with | some t => some (t, env2) | none => none))
theorem er_op {K : PySem.W.Frag} {mg : Str → Option Value} {r : R2} {f : T → T → Option T} (ha : ER K mg ta ya) (hb : ER K mg tb yb) (hv : OpV K mg r f) : ER K mg (tOp r ta tb) (eOp f ya yb) := fun env t env' e H1 H σ F s R Q q => by
  unfold eOp at e
  split at e
  · cases e
  · rename_i u env1 e1
    split at e
    · cases e
    · rename_i w env2 e2
      split at e
      · rename_i t' e3
        cases e
        refine ha _ _ _ e1 _ _ _ _ s R _ fun v1 Ha Hb F1 G1 x1 R1 r1 d1 => hb _ _ _ e2 _ _ _ _ x1.sub R1 _ fun v2 Hc Hd F2 G2 x2 R2 r2 d2 => ?_
        obtain ⟨x3, k, n⟩ := eff2 x1 x2 r1.own d1
        refine hv _ _ _ _ _ _ _ _ _ x2.sub (r1.frame x2.s1 k) r2 e3 Q fun v H1' H' Ft x4 r4 => ?_
        have ap := x4.apart R2.own fun _ _ z => z
        refine q v H1' H' F2 Ft ⟨x3.s1.trans x4.s1, x4.sub, fun b o z n => x4.keep b o (x3.keep b o z n) fun z => z, fun b z => ?_, fun b o z => ?_⟩ (R2.frame x4.s1 ap.1) r4 ap.2
        · rcases z with z | z
          · exact x3.foot b (.inl z)
          · rcases x4.foot b z with q | q
            · exact q.elim
            · exact (back_none x3 q).symm
        · rcases x4.new1 b o z with q | q | q
          · obtain ⟨o', q⟩ := q; exact x3.new1 b o' q
          · exact q.elim
          · exact .inr (back_none x3 q).symm
      · cases e
theorem ee_bin {op : Operator} {r : R2} {f : T → T → Option T} (ho : OpR X (binaryOp op) r) (hv : OpV X.K X.mg r f) (ha : EE X a ta ya) (hb : EE X b tb yb) : EE X (.BinOp a op b pos) (tOp r ta tb) (eOp f ya yb) := ⟨pe_op ho ha.pe hb.pe, er_op ha.er hb.er hv⟩
theorem ee_cmp {op : CmpOp} {r : R2} {f : T → T → Option T} (ho : OpR X (compareOp op) r) (hv : OpV X.K X.mg r f) (ha : EE X a ta ya) (hb : EE X b tb yb) (hm : behindInMarks op b = false := by first | exact nomark _ | rfl) : EE X (.Compare a [op] [b] pos) (tOp r ta tb) (eOp f ya yb) := ⟨pe_cmpR ho ha.pe hb.pe hm, er_op ha.er hb.er hv⟩
theorem ee_item (ha : EE X a ta ya) (hb : EE X b tb yb) (hs : PlainIx b := by exact fun _ _ => rfl) : EE X (.Subscript a b pos) (tOp (rIx X.K) ta tb) (eOp fIx ya yb) := ⟨pe_ix ix_seq ha.pe hb.pe hs, er_op ha.er hb.er ov_ix⟩
/-- built-in calls with effects in the arguments -/
def eCallB (f : List T → Option T) (ys : Env → Option (List T × Env)) : Env → Option (T × Env) := fun env => match ys env with | none => none | some (ts, env1) => (match f ts with | some t => some (t, env1) | none => none)
theorem Reps.repL {K : PySem.W.Frag} {mg : Str → Option Value} {H1 H : Hp} : ∀ {vs : List V} {ts : List T} {F : FP}, Reps K mg H1 H vs ts F → RepL K mg H1 H vs ts
  | _, _, _, .nil => .nil
  | _, _, _, .cons a r _ => .cons a (Reps.repL r)
theorem er_callB {K : PySem.W.Frag} {mg : Str → Option Value} {r : List V → Hp → VK → Prop} {f : List T → Option T} (ha : EAR K mg tl ys) (hv : CallP K mg r f) : ER K mg (tCB r tl) (eCallB f ys) := fun env t env' e H1 H σ F s R Q q => by
  unfold eCallB at e
  split at e
  · cases e
  · rename_i u env1 e1
    split at e
    · rename_i t' e3
      cases e
      refine ha _ _ _ e1 _ _ _ _ s R _ fun vs Ha Hb F1 G1 x1 R1 r1 d1 => hv _ _ _ _ _ x1.sub r1.repL e3 Q fun v H1' H' Ft x4 r4 => ?_
      have ap := x4.apart R1.own fun _ _ z => z
      refine q v H1' H' F1 Ft ⟨x1.s1.trans x4.s1, x4.sub, fun b o z n => x4.keep b o (x1.keep b o z n) fun z => z, fun b z => ?_, fun b o z => ?_⟩ (R1.frame x4.s1 ap.1) r4 ap.2
      · rcases z with z | z
        · exact x1.foot b (.inl z)
        · rcases x4.foot b z with q | q
          · exact q.elim
          · exact (back_none x1 q).symm
      · rcases x4.new1 b o z with q | q | q
        · obtain ⟨o', q⟩ := q; exact x1.new1 b o' q
        · exact q.elim
        · exact .inr (back_none x1 q).symm
    · cases e
theorem ee_blt {y' : Str} {id : String} {r : List V → Hp → VK → Prop} {f : List T → Option T} (hc : CallR X (.builtin id) r) (hv : CallP X.K X.mg r f) (hm : X.mg y' = none) (hb : bootBuiltins y' = some (.builtin id)) (ha : EA X (e :: es) tl ys)
    (hg : Gl X y' := by rfl) (hn : y' ≠ "__name__" := by decide) (hd : (y' == ("__debug__" : Str)) = false := by decide) (hs : starEach (e :: es) X.env = (false, eval e X.env) :: starEach es X.env := by rfl) (hp : (backTo pos (starEach es X.env)).any (·.1) = false := by rfl) :
    EE X (.Call (.Name y' p) (e :: es) [] pos) (tCB r tl) (eCallB f ys) := ⟨pe_callB hc hg hm hb ha.pa hn hd hs hp, er_callB ha.er hv⟩
theorem ee_bty {y' : Str} {id : String} {r : List V → Hp → VK → Prop} {f : List T → Option T} (hc : CallR X (.type id) r) (hv : CallP X.K X.mg r f) (hm : X.mg y' = none) (hb : bootBuiltins y' = some (.type id)) (ha : EA X (e :: es) tl ys)
    (hg : Gl X y' := by rfl) (hn : y' ≠ "__name__" := by decide) (hd : (y' == ("__debug__" : Str)) = false := by decide) (hs : starEach (e :: es) X.env = (false, eval e X.env) :: starEach es X.env := by rfl) (hp : (backTo pos (starEach es X.env)).any (·.1) = false := by rfl) :
    EE X (.Call (.Name y' p) (e :: es) [] pos) (tCB r tl) (eCallB f ys) := ⟨pe_callTy hc hg hm hb ha.pa hn hd hs hp, er_callB ha.er hv⟩
/-- tests -/
def etQ (c : Env → Option Bool) : Env → Option (Bool × Env) := fun env => match c env with | none => none | some b => some (b, env)
theorem TE'.eff (h : TE' X e tA c) : ET X e tA (etQ c) := ⟨h.pt, fun env b env' e H1 H σ F s R Q q => by
  unfold etQ at e
  split at e
  · cases e
  · rename_i b' e1
    cases e
    exact h.tr _ _ e1 _ _ _ _ s R _ fun H1' H' x => q H1' H' F ((ext_or (F := F) x).less fun _ z => .inl z) (x.qRepE R)⟩
def etTruth (y : Env → Option (T × Env)) : Env → Option (Bool × Env) := fun env => match y env with | none => none | some (t, env1) => (match t.truth with | some b => some (b, env1) | none => none)
theorem et_truth (h : EE X a ta y) (he : ∀ whole, isTrue a X.env whole = (do let v ← whole; standAt a.pos; holding [v] (truthy v)) := by intro _; rfl) : ET X a (fun σ H Q => ta σ H fun x H' => ∃ k, TruV X.K x H' k ∧ Q k H') (etTruth y) :=
  ⟨pt_truth h.pe he, fun env b env' e H1 H σ F s R Q q => by
    unfold etTruth at e
    split at e
    · cases e
    · rename_i u env1 e1
      split at e
      · rename_i b' e2
        cases e
        exact h.er _ _ _ e1 _ _ _ _ s R _ fun v Ha Hb F1 G1 x1 R1 r1 d1 => ⟨_, tru_of x1.sub r1 e2, q Ha Hb F1 (x1.less fun _ z => .inl z) R1⟩
      · cases e⟩
def etB (y : Env → Option (T × Env)) : Env → Option (Bool × Env) := fun env => match y env with | some (.bl b, env1) => some (b, env1) | _ => none
theorem et_cmp {op : CmpOp} {r : R2} {f : T → T → Option T} (ho : OpR X (compareOp op) r) (hv : OpV X.K X.mg r f) (ha : EE X a ta ya) (hb : EE X b tb yb) (hm : behindInMarks op b = false := by first | exact nomark _ | rfl) : ET X (.Compare a [op] [b] pos) (tTest (tOp r ta tb)) (etB (eOp f ya yb)) :=
  ⟨pt_cmpR ho ha.pe hb.pe hm, fun env b env' e H1 H σ F s R Q q => by
    unfold etB at e
    split at e
    · rename_i b' env1 e1
      cases e
      exact er_op ha.er hb.er hv _ _ _ e1 _ _ _ _ s R _ fun v Ha Hb F1 G1 x1 R1 r1 d1 => ⟨_, r1.blE, q Ha Hb F1 (x1.less fun _ z => .inl z) R1⟩
    · cases e⟩
def etNot (c : Env → Option (Bool × Env)) : Env → Option (Bool × Env) := fun env => match c env with | none => none | some (b, env1) => some (!b, env1)
theorem et_not (h : ET X a tA ec) : ET X (.UnaryOp .Not a pos) (tNot tA) (etNot ec) := ⟨pt_not h.pt, fun env b env' e H1 H σ F s R Q q => by
  unfold etNot at e
  split at e
  · cases e
  · rename_i b' env1 e1
    cases e
    exact h.tr _ _ _ e1 _ _ _ _ s R _ fun Ha Hb F1 x1 R1 => q Ha Hb F1 x1 R1⟩
theorem EW.asT (h : EW X e tA ec) : ET X e tA ec := ⟨h.pw.pt, h.tr⟩
theorem ew_and1 (h : ET X a tA ec) : EW X (.BoolOp .And [a] pos) tA ec := ⟨pw_and1 h.pt, h.tr⟩
theorem ew_or1 (h : ET X a tA ec) : EW X (.BoolOp .Or [a] pos) tA ec := ⟨pw_or1 h.pt, h.tr⟩
def etAnd (c d : Env → Option (Bool × Env)) : Env → Option (Bool × Env) := fun env => match c env with | none => none | some (true, env1) => d env1 | some (false, env1) => some (false, env1)
def etOr (c d : Env → Option (Bool × Env)) : Env → Option (Bool × Env) := fun env => match c env with | none => none | some (true, env1) => some (true, env1) | some (false, env1) => d env1
theorem ew_and (h : ET X a tA ec) (h' : EW X (.BoolOp .And (b :: rest) pos) tB' ed) : EW X (.BoolOp .And (a :: b :: rest) pos) (tAnd tA tB') (etAnd ec ed) := ⟨pw_and h.pt h'.pw, fun env k env' e H1 H σ F s R Q q => by
  unfold etAnd at e
  split at e
  · cases e
  · rename_i env1 e1
    exact h.tr _ _ _ e1 _ _ _ _ s R _ fun Ha Hb F1 x1 R1 => iteT (h'.tr _ _ _ e _ _ _ _ x1.sub R1 _ fun Hc Hd F2 x2 R2 => q Hc Hd F2 (x1.trans x2) R2)
  · rename_i env1 e1
    cases e
    exact h.tr _ _ _ e1 _ _ _ _ s R _ fun Ha Hb F1 x1 R1 => iteF (q Ha Hb F1 x1 R1)⟩
theorem ew_or (h : ET X a tA ec) (h' : EW X (.BoolOp .Or (b :: rest) pos) tB' ed) : EW X (.BoolOp .Or (a :: b :: rest) pos) (tOr tA tB') (etOr ec ed) := ⟨pw_or h.pt h'.pw, fun env k env' e H1 H σ F s R Q q => by
  unfold etOr at e
  split at e
  · cases e
  · rename_i env1 e1
    cases e
    exact h.tr _ _ _ e1 _ _ _ _ s R _ fun Ha Hb F1 x1 R1 => iteT (q Ha Hb F1 x1 R1)
  · rename_i env1 e1
    exact h.tr _ _ _ e1 _ _ _ _ s R _ fun Ha Hb F1 x1 R1 => iteF (h'.tr _ _ _ e _ _ _ _ x1.sub R1 _ fun Hc Hd F2 x2 R2 => q Hc Hd F2 (x1.trans x2) R2)⟩
def eIf (c : Env → Option (Bool × Env)) (ya yb : Env → Option (T × Env)) : Env → Option (T × Env) := fun env => match c env with | none => none | some (true, env1) => ya env1 | some (false, env1) => yb env1
theorem ee_if {e : Expr} (h : ET X e tA ec) (ha : EE X a ta ya) (hb : EE X b tb yb) : EE X (.IfExp e a b pos) (tIf tA ta tb) (eIf ec ya yb) := ⟨pe_ifExp h.pt ha.pe hb.pe, fun env t env' e H1 H σ F s R Q q => by
  unfold eIf at e
  split at e
  · cases e
  · rename_i env1 e1
    exact h.tr _ _ _ e1 _ _ _ _ s R _ fun Ha Hb F1 x1 R1 => iteT (ha.er _ _ _ e _ _ _ _ x1.sub R1 _ fun v Hc Hd F2 G2 x2 R2 r2 d2 => q v Hc Hd F2 G2 (x1.trans x2) R2 r2 d2)
  · rename_i env1 e1
    exact h.tr _ _ _ e1 _ _ _ _ s R _ fun Ha Hb F1 x1 R1 => iteF (hb.er _ _ _ e _ _ _ _ x1.sub R1 _ fun v Hc Hd F2 G2 x2 R2 r2 d2 => q v Hc Hd F2 G2 (x1.trans x2) R2 r2 d2)⟩
end
end GK

/-! GK14: statements; what is walked; for, while. -/
namespace GK
open PySem L2

section
variable {K : PySem.W.Frag} {mg : Str → Option Value} {P : Nat → Bool}
theorem SPost.step {H1 H H1' H' : Hp} {σ σ' : L2.St} {F F' : FP} {D : Ends} {o : Out} (h : SPost K mg P H1 H σ F D o) (x : Ext H1 H F H1' H' F') (pn : ∀ i, P i = true → σ'[i]? = σ[i]?) : SPost K mg P H1' H' σ' F' D o := by
  cases o with
  | nx env => exact fun σ2 H2 H2' F2 x2 R2 pn2 => h σ2 H2 H2' F2 (x.trans x2) R2 fun i hi => (pn2 i hi).trans (pn i hi)
  | bk env => exact fun σ2 H2 H2' F2 x2 R2 pn2 => h σ2 H2 H2' F2 (x.trans x2) R2 fun i hi => (pn2 i hi).trans (pn i hi)
  | ct env => exact fun σ2 H2 H2' F2 x2 R2 pn2 => h σ2 H2 H2' F2 (x.trans x2) R2 fun i hi => (pn2 i hi).trans (pn i hi)
  | rt t env => exact fun v σ2 H2 H2' F2 Ft x2 R2 r2 d2 pn2 => h v σ2 H2 H2' F2 Ft (x.trans x2) R2 r2 d2 fun i hi => (pn2 i hi).trans (pn i hi)
def sSeq (b c : Env → Option Out) : Env → Option Out := fun env => match b env with | some (.nx env1) => c env1 | o => o
theorem sr_seq {t u : TS} {b c : Env → Option Out} (h : SR K mg P t b) (h' : SR K mg P u c) : SR K mg P (tSeq t u) (sSeq b c) := fun env o e H1 H σ F s R D q => by
  unfold sSeq at e
  split at e
  · rename_i env1 e1
    exact h _ _ e1 _ _ _ _ s R _ fun σ1 H1' H' F1 x R1 pn => h' _ _ e _ _ _ _ x.sub R1 D (q.step x pn)
  · rename_i o' hn
    refine h _ _ e _ _ _ _ s R _ ?_
    cases o with
    | nx env1 => exact absurd e (hn env1)
    | bk env1 => exact q
    | ct env1 => exact q
    | rt t env1 => exact q
end
section
variable {X : Cx} {P : Nat → Bool} {a b e i : Expr} {st : Stmt} {sts sts2 : List Stmt} {es rest : List Expr} {te ta tb tv ti : TE} {tl : TA} {tA tB' : TT} {ts ts' : TS} {sb sc : Env → Option Out} {x xa xb xi xv : Env → Option T} {xs : Env → Option (List T)} {y ya yb : Env → Option (T × Env)} {ys : Env → Option (List T × Env)} {ec ed : Env → Option (Bool × Env)} {g : TG} {f : T → Env → Option Env} {get : Env → Option T} {put : T → Env → Option Env} {pos apos p : Pos}
theorem ses_cons (h : SE X P st ts sb) (h' : SEs X P sts ts' sc) : SEs X P (st :: sts) (tSeq ts ts') (sSeq sb sc) := ⟨pss_cons h.ps h'.ps, sr_seq h.sr h'.sr⟩
theorem ses_one (h : SE X P st ts sb) : SEs X P [st] ts sb := ⟨pss_one h.ps, h.sr⟩
def sNext : Env → Option Out := fun env => some (.nx env)
theorem sr_next {K : PySem.W.Frag} {mg : Str → Option Value} : SR K mg P tNext sNext := fun env o e H1 H σ F s R D q => by
  cases e; exact q σ H1 H F (Ext.refl s) R fun _ _ => rfl
theorem ses_nil : SEs X P [] tNext sNext := ⟨pss_nil, sr_next⟩
theorem se_pass : SE X P (.Pass pos) tNext sNext := ⟨ps_pass, sr_next⟩
theorem se_doc {z : Str} {j : Nat} {pos'} : SE X P (.Expr (.Constant (.str z) j pos) pos') tNext sNext := ⟨ps_doc, sr_next⟩
def sBreak : Env → Option Out := fun env => some (.bk env)
def sCont : Env → Option Out := fun env => some (.ct env)
def sNever : Env → Option Out := fun _ => none
theorem se_break : SE X P (.Break pos) tBreak sBreak := ⟨ps_break, fun env o e H1 H σ F s R D q => by cases e; exact q σ H1 H F (Ext.refl s) R fun _ _ => rfl⟩
theorem se_cont : SE X P (.Continue pos) tCont sCont := ⟨ps_continue, fun env o e H1 H σ F s R D q => by cases e; exact q σ H1 H F (Ext.refl s) R fun _ _ => rfl⟩
theorem se_never : SE X P st tNever sNever := ⟨ps_never, fun env o e => nomatch e⟩
/-- target = value -/
def sAsg (y : Env → Option (T × Env)) (f : T → Env → Option Env) : Env → Option Out := fun env => match y env with | none => none | some (t, env1) => (match f t env1 with | some env2 => some (.nx env2) | none => none)
theorem sr_asg {K : PySem.W.Frag} {mg : Str → Option Value} (h : ER K mg te y) (hg : GR K mg P g f) : SR K mg P (tAsg te g) (sAsg y f) := fun env o e H1 H σ F s R D q => by
  unfold sAsg at e
  split at e
  · cases e
  · rename_i t env1 e1
    split at e
    · rename_i env2 e2
      cases e
      exact h _ _ _ e1 _ _ _ _ s R _ fun v Ha Hb F1 G1 x1 R1 r1 d1 => hg _ _ _ e2 _ _ _ _ _ _ x1.sub R1 r1 d1 _ fun σ' H1' H' F' x2 R2 pn => q σ' H1' H' F' (x1.trans x2) R2 pn
    · cases e
theorem se_asg (h : EE X e te y) (hg : GE X P a g f) (h1 : swapsWithSole [a] e pos.line X.env = pure false := by rfl) (h2 : swappedStores [a] e X.env = pure none := by rfl) (h3 : (assignEach [a] X.env).map (·.2) = [assign a X.env] := by rfl) :
    SE X P (.Assign [a] e pos) (tAsg te g) (sAsg y f) := ⟨ps_asg h.pe hg.pg h1 h2 h3, sr_asg h.er hg.gr⟩
/-- an expression alone -/
def sExpr (y : Env → Option (T × Env)) : Env → Option Out := fun env => match y env with | none => none | some (t, env1) => some (.nx env1)
theorem se_expr (h : EE X e te y) (h1 : swapsWith e none pos.line X.env = pure false := by rfl) : SE X P (.Expr e pos) (tDrop te) (sExpr y) := ⟨ps_expr h.pe h1, fun env o e H1 H σ F s R D q => by
  unfold sExpr at e
  split at e
  · cases e
  · rename_i t env1 e1
    cases e
    exact h.er _ _ _ e1 _ _ _ _ s R _ fun v Ha Hb F1 G1 x1 R1 r1 d1 => q σ Ha Hb F1 (x1.less fun _ z => .inl z) R1 fun _ _ => rfl⟩
def sRet (y : Env → Option (T × Env)) : Env → Option Out := fun env => match y env with | none => none | some (t, env1) => some (.rt t env1)
theorem se_ret (h : EE X e te y) : SE X P (.Return (some e) pos) (tRet te) (sRet y) := ⟨ps_ret h.pe, fun env o e H1 H σ F s R D q => by
  unfold sRet at e
  split at e
  · cases e
  · rename_i t env1 e1
    cases e
    exact h.er _ _ _ e1 _ _ _ _ s R _ fun v Ha Hb F1 G1 x1 R1 r1 d1 => q v σ Ha Hb F1 G1 x1 R1 r1 d1 fun _ _ => rfl⟩
def sRetN : Env → Option Out := fun env => some (.rt .non env)
theorem se_retN : SE X P (.Return none pos) tRetN sRetN := ⟨ps_retN, fun env o e H1 H σ F s R D q => by
  cases e
  exact q .non σ H1 H F F0 ((Ext.refl s).less fun b z => z.elim id fun z => z.elim) R (.sh .non) (fun _ _ z => z) fun _ _ => rfl⟩
def sIf (c : Env → Option (Bool × Env)) (b d : Env → Option Out) : Env → Option Out := fun env => match c env with | none => none | some (true, env1) => b env1 | some (false, env1) => d env1
theorem se_if {sts2 : List Stmt} (h : ET X e tA ec) (ha : SEs X P sts ts sb) (hb : SEs X P sts2 ts' sc) : SE X P (.If e sts sts2 pos) (tIfS tA ts ts') (sIf ec sb sc) := ⟨ps_if h.pt ha.ps hb.ps, fun env o e H1 H σ F s R D q => by
  unfold sIf at e
  split at e
  · cases e
  · rename_i env1 e1
    exact h.tr _ _ _ e1 _ _ _ _ s R _ fun Ha Hb F1 x1 R1 => iteT (ha.sr _ _ e _ _ _ _ x1.sub R1 D (q.step x1 fun _ _ => rfl))
  · rename_i env1 e1
    exact h.tr _ _ _ e1 _ _ _ _ s R _ fun Ha Hb F1 x1 R1 => iteF (hb.sr _ _ e _ _ _ _ x1.sub R1 D (q.step x1 fun _ _ => rfl))⟩
/-- a, b = e1, e2 -/
def sPar (is : List Nat) (ys : Env → Option (List T × Env)) : Env → Option Out := fun env => match ys env with | none => none | some (ts, env1) => if ts.length = is.length ∧ is.all (fun i => decide (i < env1.length)) then some (.nx ((is.zip ts).foldl (fun env p => env.set p.1 (some p.2)) env1)) else none
theorem put1 {K : PySem.W.Frag} {mg : Str → Option Value} {H1 H : Hp} {σ : L2.St} {env : Env} {F G : FP} {i : Nat} {v : V} {t : T} (R : RepE K mg H1 H σ env F) (hi : i < env.length) (r : Rep K mg H1 H v t G) (d : ∀ b, F b → ¬ G b) :
    ∃ F', RepE K mg H1 H (σ.set i (some v)) (env.set i (some t)) F' ∧ ∀ b, F' b → F b ∨ G b := by
  obtain ⟨G0, R1, hG⟩ := R.weak i
  obtain ⟨F', R2, hF⟩ := R1.put (i := i) (v := v) (t := t) (by rw [List.length_set]; exact hi) r fun b z w => d b (hG b w) z
  rw [List.set_set] at R2
  exact ⟨F', R2, fun b z => (hF b z).elim .inr fun z => .inl (hG b z)⟩
theorem set_pin {σ : L2.St} {i : Nat} {o : Option V} (hp : P i = false) : ∀ j, P j = true → (σ.set i o)[j]? = σ[j]? := fun j hj => by
  rw [List.getElem?_set_ne]
  rintro rfl
  rw [hp] at hj; cases hj
theorem se_par {i j : Nat} {z w : Str} {px py pt : Pos} {kt k2 : Nat} {pt2 : Pos} (hc : X.calm = true) (hN : X.N.Nodup) (hi : X.N[i]? = some z) (hj : X.N[j]? = some w) (hij : i ≠ j) (hlx : X.env.scope.names.lookup z = some .local) (hly : X.env.scope.names.lookup w = some .local)
    (ha : EA X [a, b] tl ys) (hs : swappedStores [.Tuple [.Name z px, .Name w py] kt pt] (.Tuple [a, b] k2 pt2) X.env = pure (some [z, w])) (hpi : P i = false) (hpj : P j = false)
    (hw : swapsWithSole [.Tuple [.Name z px, .Name w py] kt pt] (.Tuple [a, b] k2 pt2) pos.line X.env = pure false := by rfl) :
    SE X P (.Assign [.Tuple [.Name z px, .Name w py] kt pt] (.Tuple [a, b] k2 pt2) pos) (tPar i j tl) (sPar [i, j] ys) := ⟨ps_par hc hN hi hj hij hlx hly ha.pa hs hw, fun env o e H1 H σ F s R D q => by
  unfold sPar at e
  split at e
  · cases e
  · rename_i us env1 e1
    split at e
    · rename_i hh
      obtain ⟨hl, hb⟩ := hh
      obtain ⟨t1, t2, rfl⟩ : ∃ t1 t2, us = [t1, t2] := by
        match us, hl with
        | [t1, t2], _ => exact ⟨t1, t2, rfl⟩
      simp only [List.all_cons, List.all_nil, Bool.and_true, Bool.and_eq_true, decide_eq_true_eq] at hb
      cases e
      refine ha.er _ _ _ e1 _ _ _ _ s R _ fun vs Ha Hb F1 G1 x1 R1 r1 d1 => ?_
      cases r1 with
      | cons a1 r2 b1 =>
        cases r2 with
        | cons a2 r3 b2 =>
          cases r3
          rename_i v1 A1 v2 A2
          obtain ⟨F2, R2, hF2⟩ := put1 R1 hb.1 a1 fun b z w => d1 b z (.inl w)
          obtain ⟨F3, R3, hF3⟩ := put1 R2 (by rw [List.length_set]; exact hb.2) a2 fun b z w => (hF2 b z).elim (fun z => d1 b z (.inr (.inl w))) fun z => b1 b z (.inl w)
          exact ⟨v1, v2, rfl, q _ Ha Hb F3 (x1.less fun b z => (hF3 b z).elim (fun z => (hF2 b z).imp id .inl) fun z => .inr (.inr (.inl z))) R3 fun i hi => (set_pin hpj i hi).trans (set_pin hpi i hi)⟩
    · cases e⟩
theorem se_par3 {i j l : Nat} {z w u : Str} {c : Expr} {px py pz pt : Pos} {kt k2 : Nat} {pt2 : Pos} (hc : X.calm = true) (hN : X.N.Nodup) (hi : X.N[i]? = some z) (hj : X.N[j]? = some w) (hl : X.N[l]? = some u) (hij : i ≠ j) (hil : i ≠ l) (hjl : j ≠ l)
    (hlx : X.env.scope.names.lookup z = some .local) (hly : X.env.scope.names.lookup w = some .local) (hlz : X.env.scope.names.lookup u = some .local)
    (ha : EA X [a, b, c] tl ys) (hs : swappedStores [.Tuple [.Name z px, .Name w py, .Name u pz] kt pt] (.Tuple [a, b, c] k2 pt2) X.env = pure (some [z, w, u])) (hpi : P i = false) (hpj : P j = false) (hpl : P l = false)
    (hw : swapsWithSole [.Tuple [.Name z px, .Name w py, .Name u pz] kt pt] (.Tuple [a, b, c] k2 pt2) pos.line X.env = pure false := by rfl) :
    SE X P (.Assign [.Tuple [.Name z px, .Name w py, .Name u pz] kt pt] (.Tuple [a, b, c] k2 pt2) pos) (tPar3 i j l tl) (sPar [i, j, l] ys) := ⟨ps_par3 hc hN hi hj hl hij hil hjl hlx hly hlz ha.pa hs hw, fun env o e H1 H σ F s R D q => by
  unfold sPar at e
  split at e
  · cases e
  · rename_i us env1 e1
    split at e
    · rename_i hh
      obtain ⟨hl, hb⟩ := hh
      obtain ⟨t1, t2, t3, rfl⟩ : ∃ t1 t2 t3, us = [t1, t2, t3] := by
        match us, hl with
        | [t1, t2, t3], _ => exact ⟨t1, t2, t3, rfl⟩
      simp only [List.all_cons, List.all_nil, Bool.and_true, Bool.and_eq_true, decide_eq_true_eq] at hb
      cases e
      refine ha.er _ _ _ e1 _ _ _ _ s R _ fun vs Ha Hb F1 G1 x1 R1 r1 d1 => ?_
      cases r1 with
      | cons a1 r2 b1 =>
        cases r2 with
        | cons a2 r3 b2 =>
          cases r3 with
          | cons a3 r4 b3 =>
            cases r4
            rename_i v1 A1 v2 A2 v3 A3
            obtain ⟨F2, R2, hF2⟩ := put1 R1 hb.1 a1 fun b z w => d1 b z (.inl w)
            obtain ⟨F3, R3, hF3⟩ := put1 R2 (by rw [List.length_set]; exact hb.2.1) a2 fun b z w => (hF2 b z).elim (fun z => d1 b z (.inr (.inl w))) fun z => b1 b z (.inl w)
            obtain ⟨F4, R4, hF4⟩ := put1 R3 (by rw [List.length_set, List.length_set]; exact hb.2.2) a3 fun b z w => (hF3 b z).elim (fun z => (hF2 b z).elim (fun z => d1 b z (.inr (.inr (.inl w)))) fun z => b1 b z (.inr (.inl w))) fun z => b2 b z (.inl w)
            exact ⟨v1, v2, v3, rfl, q _ Ha Hb F4 (x1.less fun b z => (hF4 b z).elim (fun z => (hF3 b z).elim (fun z => (hF2 b z).imp id .inl) fun z => .inr (.inr (.inl z))) fun z => .inr (.inr (.inr (.inl z)))) R4 fun i hi => ((set_pin hpl i hi).trans (set_pin hpj i hi)).trans (set_pin hpi i hi)⟩
    · cases e⟩

/-! ### what is walked -/
/-- from (Ha, Hb), where F may change: J gives the items ts, frozen ones -/
structure WalkT (K : PySem.W.Frag) (mg : Str → Option Value) (J : It) (Ha Hb : Hp) (F : FP) (ts : List T) : Prop where
  ex : ∃ (G : Hp → Prop) (Y : Nat → Hp → V → Hp → Prop), Walk J ts.length G Y ∧ (∀ H1' H' F', Ext Ha Hb F H1' H' F' → G H') ∧
    ∀ i H1' H' F' v H'', i < ts.length → Ext Ha Hb F H1' H' F' → Y i H' v H'' → ∃ t H1'', ts[i]? = some t ∧ Ext H1' H' F0 H1'' H'' F0 ∧ Fz K mg H1'' v t
def IR (K : PySem.W.Frag) (mg : Str → Option Value) (wi : TI) (src : Env → Option (List T × Env)) : Prop := ∀ env ts env', src env = some (ts, env') → ∀ H1 H σ F, Same H1 H → RepE K mg H1 H σ env F → ∀ R : It → Hp → Prop,
  (∀ J H1' H' F', Ext H1 H F H1' H' F' → RepE K mg H1' H' σ env' F' → WalkT K mg J H1' H' F' ts → R J H') → wi σ H R
structure IE (X : Cx) (tg iter : Expr) (wi : TI) (src : Env → Option (List T × Env)) : Prop where
  pi : PI X tg iter wi
  ir : IR X.K X.mg wi src
def loop (f : T → Env → Option Env) (b : Env → Option Out) : List T → Env → Option Out
  | [], env => some (.nx env)
  | t :: r, env => match f t env with
    | none => none
    | some env1 => match b env1 with
      | some (.nx env2) => loop f b r env2
      | some (.ct env2) => loop f b r env2
      | some (.bk env2) => some (.nx env2)
      | some (.rt u env2) => some (.rt u env2)
      | none => none
def sFor (src : Env → Option (List T × Env)) (f : T → Env → Option Env) (b : Env → Option Out) : Env → Option Out := fun env => match src env with | none => none | some (ts, env1) => loop f b ts env1
theorem sr_for {K : PySem.W.Frag} {mg : Str → Option Value} {wi : TI} {src : Env → Option (List T × Env)} (hi : IR K mg wi src) (hg : GR K mg P g f) (hb : SR K mg P ts sb) : SR K mg P (tFor wi g ts) (sFor src f sb) := fun env o e H1 H σ F s R D q => by
  unfold sFor at e
  split at e
  · cases e
  · rename_i us env1 e1
    refine hi _ _ _ e1 _ _ _ _ s R _ fun J Ha Hb Fa xa Ra w => ?_
    obtain ⟨G, Y, wk, hG, hY⟩ := w.ex
    have q1 : SPost K mg P Ha Hb σ Fa D o := q.step xa fun _ _ => rfl
    refine for_it wk (D := D) (tb := ts) (g := g) (fun i σ' H' => ∃ envi H1' F', Ext Ha Hb Fa H1' H' F' ∧ RepE K mg H1' H' σ' envi F' ∧ (∀ j, P j = true → σ'[j]? = σ[j]?) ∧ loop f sb (us.drop i) envi = some o)
      ⟨env1, Ha, Fa, Ext.refl xa.sub, Ra, fun _ _ => rfl, by rw [List.drop_zero]; exact e⟩ (fun i σ' H' _ ⟨_, H1', F', x, _⟩ => hG H1' H' F' x) ?_ ?_
    · rintro i v σ' H' H'' hlt ⟨envi, H1', F', x, Ri, pn, el⟩ hy
      obtain ⟨t, H1'', ht, x2, fz⟩ := hY i H1' H' F' v H'' hlt x hy
      have ed : us.drop i = t :: us.drop (i + 1) := by
        rw [List.drop_eq_getElem_cons hlt]
        rw [List.getElem?_eq_getElem hlt] at ht
        rw [Option.some.inj ht]
      rw [ed] at el
      unfold loop at el
      split at el
      · cases el
      · rename_i env2 e2
        have R2 := x2.qRepE Ri
        have x3 : Ext Ha Hb Fa H1'' H'' F' := x.trans ((ext_or x2).less fun b z => .inl z)
        refine hg _ _ _ e2 _ _ _ _ _ _ x2.sub R2 (.sh fz) (fun _ _ z => z) _ fun σ2 H3 H3' F3 x4 R3 pn3 => ?_
        have x5 : Ext Ha Hb Fa H3 H3' F3 := x3.trans (x4.more fun b z => z.elim id fun z => z.elim)
        have pn5 : ∀ j, P j = true → σ2[j]? = σ[j]? := fun j hj => (pn3 j hj).trans (pn j hj)
        split at el
        · rename_i env3 e3
          exact hb _ _ e3 _ _ _ _ x5.sub R3 _ fun σ4 H4 H4' F4 x6 R4 pn4 => ⟨env3, H4, F4, x5.trans x6, R4, fun j hj => (pn4 j hj).trans (pn5 j hj), el⟩
        · rename_i env3 e3
          exact hb _ _ e3 _ _ _ _ x5.sub R3 _ fun σ4 H4 H4' F4 x6 R4 pn4 => ⟨env3, H4, F4, x5.trans x6, R4, fun j hj => (pn4 j hj).trans (pn5 j hj), el⟩
        · rename_i env3 e3
          cases el
          exact hb _ _ e3 _ _ _ _ x5.sub R3 _ fun σ4 H4 H4' F4 x6 R4 pn4 => q1 σ4 H4 H4' F4 (x5.trans x6) R4 fun j hj => (pn4 j hj).trans (pn5 j hj)
        · rename_i u env3 e3
          cases el
          exact hb _ _ e3 _ _ _ _ x5.sub R3 _ fun v σ4 H4 H4' F4 Ft x6 R4 r4 d4 pn4 => q1 v σ4 H4 H4' F4 Ft (x5.trans x6) R4 r4 d4 fun j hj => (pn4 j hj).trans (pn5 j hj)
        · cases el
    · rintro σ' H' ⟨envi, H1', F', x, Ri, pn, el⟩
      rw [List.drop_length] at el
      cases el
      exact q1 σ' H1' H' F' x Ri pn
theorem se_for {tg iter : Expr} {body : List Stmt} {wi : TI} {src : Env → Option (List T × Env)} (hp : PassesOwn (model X.prog X.w) X.A X.env X.xe) (hc : X.calm = true) (hi : IE X tg iter wi src) (hg : GE X P tg g f) (hb : SEs X P body ts sb)
    (hs : ∀ x, foldedSetIterable iter X.env x = pure x := by intro _; rfl) : SE X P (.For tg iter body [] pos) (tFor wi g ts) (sFor src f sb) := ⟨ps_for hp hc hi.pi hg.pg hb.ps hs, sr_for hi.ir hg.gr hb.sr⟩
/-- while, by fuel -/
def wloop (c : Env → Option (Bool × Env)) (b : Env → Option Out) : Nat → Env → Option Out
  | 0, _ => none
  | n + 1, env => match c env with
    | none => none
    | some (false, env1) => some (.nx env1)
    | some (true, env1) => match b env1 with
      | some (.nx env2) => wloop c b n env2
      | some (.ct env2) => wloop c b n env2
      | some (.bk env2) => some (.nx env2)
      | some (.rt u env2) => some (.rt u env2)
      | none => none
theorem sr_while {K : PySem.W.Frag} {mg : Str → Option Value} {n : Nat} (hc : ETR K mg tA ec) (hb : SR K mg P ts sb) : SR K mg P (tWhile tA ts) (wloop ec sb n) := fun env o e H1 H σ F s R D q => by
  refine ⟨fun m σ' H' => ∃ envi H1' F', Ext H1 H F H1' H' F' ∧ RepE K mg H1' H' σ' envi F' ∧ (∀ j, P j = true → σ'[j]? = σ[j]?) ∧ wloop ec sb m envi = some o, ⟨n, env, H1, F, Ext.refl s, R, fun _ _ => rfl, e⟩, ?_⟩
  rintro m σ' H' ⟨envi, H1', F', x, Ri, pn, el⟩
  cases m with
  | zero => cases el
  | succ m =>
    unfold wloop at el
    split at el
    · cases el
    · rename_i env1 e1
      cases el
      exact hc _ _ _ e1 _ _ _ _ x.sub Ri _ fun Ha Hb F1 x1 R1 => iteF (q σ' Ha Hb F1 (x.trans x1) R1 pn)
    · rename_i env1 e1
      refine hc _ _ _ e1 _ _ _ _ x.sub Ri _ fun Ha Hb F1 x1 R1 => iteT ⟨fun σ2 H2 => ∃ envi H1' F', Ext H1 H F H1' H2 F' ∧ RepE K mg H1' H2 σ2 envi F' ∧ (∀ j, P j = true → σ2[j]? = σ[j]?) ∧ wloop ec sb m envi = some o, fun σ2 H2 h => ⟨m, Nat.lt_succ_self m, h⟩, ?_⟩
      have x2 := x.trans x1
      split at el
      · rename_i env3 e3
        exact hb _ _ e3 _ _ _ _ x2.sub R1 _ fun σ4 H4 H4' F4 x6 R4 pn4 => ⟨env3, H4, F4, x2.trans x6, R4, fun j hj => (pn4 j hj).trans (pn j hj), el⟩
      · rename_i env3 e3
        exact hb _ _ e3 _ _ _ _ x2.sub R1 _ fun σ4 H4 H4' F4 x6 R4 pn4 => ⟨env3, H4, F4, x2.trans x6, R4, fun j hj => (pn4 j hj).trans (pn j hj), el⟩
      · rename_i env3 e3
        cases el
        exact hb _ _ e3 _ _ _ _ x2.sub R1 _ fun σ4 H4 H4' F4 x6 R4 pn4 => q σ4 H4 H4' F4 (x2.trans x6) R4 fun j hj => (pn4 j hj).trans (pn j hj)
      · rename_i u env3 e3
        cases el
        exact hb _ _ e3 _ _ _ _ x2.sub R1 _ fun v σ4 H4 H4' F4 Ft x6 R4 r4 d4 pn4 => q v σ4 H4 H4' F4 Ft (x2.trans x6) R4 r4 d4 fun j hj => (pn4 j hj).trans (pn j hj)
      · cases el
theorem se_while {body : List Stmt} (n : Nat) (hp : PassesOwn (model X.prog X.w) X.A X.env X.xe) (hc : ET X e tA ec) (hb : SEs X P body ts sb) : SE X P (.While e body [] pos) (tWhile tA ts) (wloop ec sb n) := ⟨ps_while hp hc.pt hb.ps, sr_while hc.tr hb.sr⟩
end
end GK

/-! GK15: walks, quiet targets, list comprehensions. -/
namespace GK
open PySem L2

theorem PI.or {X : Cx} {tg e : Expr} {wi wi' : TI} (h : PI X tg e wi) (h' : PI X tg e wi') : PI X tg e (fun σ H R => wi σ H R ∨ wi' σ H R) :=
  ⟨fun pins s σ H R I q => q.elim (h.run pins s σ H R I) (h'.run pins s σ H R I)⟩

/-! ### walks that change nothing -/
section
variable (K : PySem.W.Frag) (mg : Str → Option Value)
def IQR (wi : TI) (src : Env → Option (List T)) : Prop := ∀ env ts, src env = some ts → ∀ H1 H σ F, Same H1 H → RepE K mg H1 H σ env F → ∀ R : It → Hp → Prop,
  (∀ J H1' H', Ext H1 H F0 H1' H' F0 → (∀ G, WalkT K mg J H1' H' G ts) → R J H') → wi σ H R
end
structure IQ (X : Cx) (tg iter : Expr) (wi : TI) (src : Env → Option (List T)) : Prop where
  pi : PI X tg iter wi
  ir : IQR X.K X.mg wi src
def iQ (src : Env → Option (List T)) : Env → Option (List T × Env) := fun env => match src env with | none => none | some ts => some (ts, env)
section
variable {X : Cx} {tg e a b : Expr} {te ta tb : TE} {tl : TA} {x xa xb : Env → Option T} {xs : Env → Option (List T)} {y : Env → Option (T × Env)} {ys : Env → Option (List T × Env)} {wi : TI} {src : Env → Option (List T)} {pos p : Pos}
theorem Ext.wk {H1 H H1' H' : Hp} {F : FP} (x : Ext H1 H F0 H1' H' F0) : Ext H1 H F H1' H' F := (ext_or x).less fun _ z => .inl z
theorem IQ.toE (h : IQ X tg e wi src) : IE X tg e wi (iQ src) := ⟨h.pi, fun env ts env' e H1 H σ F s R Q q => by
  unfold iQ at e
  split at e
  · cases e
  · rename_i us e1
    cases e
    exact h.ir _ _ e1 _ _ _ _ s R _ fun J H1' H' x w => q J H1' H' F x.wk (x.qRepE R) (w F)⟩
/-- what a frozen value gives, walked -/
def T.walk : T → Option (List T)
  | .lst _ xs => some xs
  | .scr xs => some xs
  | .tup xs => some xs
  | .str s => some (s.map fun c => .str [c])
  | _ => none
def iAny (K : PySem.W.Frag) (te : TE) : TI := fun σ H R => iList K te σ H R ∨ (iTup K te σ H R ∨ iStr te σ H R)
theorem pi_any (h : PE X e te) : PI X tg e (iAny X.K te) := PI.or (pi_list h) (PI.or (pi_tup h) (pi_str h))
theorem walkL {K : PySem.W.Frag} {mg : Str → Option Value} {H1 H : Hp} {a : Addr} {vs : List V} {ts : List T} (h : SqL K H1 a vs) (f : Fzs K mg H1 vs ts) : ∀ G, WalkT K mg (Itl K a) H1 H G ts := fun G =>
  ⟨⟨fun H => SqL K H a vs, YAt vs, (by rw [← f.len]; exact walk_list (K := K) (a := a) (xs := vs)), fun H1' H' F' x => x.sub.seq (x.s1.seq h), fun i H1' H' F' v H'' hi x ⟨h1, h2⟩ => by
    subst h1
    rw [List.getElem?_eq_some_iff] at h2
    obtain ⟨h2, h3⟩ := h2
    obtain ⟨v', e1, f1⟩ := f.get (List.getElem?_eq_getElem hi)
    rw [List.getElem?_eq_getElem h2, h3] at e1
    cases e1
    exact ⟨_, H1', List.getElem?_eq_getElem hi, Ext.refl x.sub, f1.mono x.s1⟩⟩⟩
theorem walkTu {K : PySem.W.Frag} {mg : Str → Option Value} {H1 H : Hp} {a : Addr} {vs : List V} {ts : List T} (h : SqT K H1 a vs) (f : Fzs K mg H1 vs ts) : ∀ G, WalkT K mg (Itt K a) H1 H G ts := fun G =>
  ⟨⟨fun H => SqT K H a vs, YAt vs, (by rw [← f.len]; exact walk_tup (K := K) (a := a) (xs := vs)), fun H1' H' F' x => Same.seqT x.sub (Same.seqT x.s1 h), fun i H1' H' F' v H'' hi x ⟨h1, h2⟩ => by
    subst h1
    rw [List.getElem?_eq_some_iff] at h2
    obtain ⟨h2, h3⟩ := h2
    obtain ⟨v', e1, f1⟩ := f.get (List.getElem?_eq_getElem hi)
    rw [List.getElem?_eq_getElem h2, h3] at e1
    cases e1
    exact ⟨_, H1', List.getElem?_eq_getElem hi, Ext.refl x.sub, f1.mono x.s1⟩⟩⟩
theorem walkS {K : PySem.W.Frag} {mg : Str → Option Value} {H1 H : Hp} {z : List Nat} : ∀ G, WalkT K mg (Its (S z)) H1 H G (z.map fun c => .str [c]) := fun G => by
  have hl : (S z).cps.size = (z.map fun c => T.str [c]).length := by simp [S]
  refine ⟨⟨fun _ => True, fun i H v H' => H' = H ∧ ∃ c, (S z).cps[i]? = some c ∧ v = .str ⟨#[c]⟩, (by rw [← hl]; exact walk_str (z := S z)), fun _ _ _ _ => trivial, fun i H1' H' F' v H'' hi x ⟨h1, c, h2, h3⟩ => ?_⟩⟩
  subst h1
  have hi' : i < z.length := by simpa using hi
  refine ⟨.str [c], H1', ?_, Ext.refl x.sub, by rw [h3]; exact .str [c]⟩
  have h2' : z[i]? = some c := by simpa [S] using h2
  rw [List.getElem?_map, h2']
  rfl
/-- the road: a frozen value at hand -/
theorem any_core {K : PySem.W.Frag} {mg : Str → Option Value} {H1 H : Hp} {v : V} {t : T} {ts : List T} {R : It → Hp → Prop} (s : Same H1 H) (f : Fz K mg H1 v t) (e : t.walk = some ts) (q : ∀ J, (∀ G, WalkT K mg J H1 H G ts) → R J H) :
    (match t with
      | .tup _ => ∃ a, v = .ref a ∧ (∃ xs, SqT K H a xs) ∧ R (Itt K a) H
      | .str _ => ∃ x, v = .str x ∧ R (Its x) H
      | _ => ∃ a, v = .ref a ∧ (∃ xs, SqL K H a xs) ∧ R (Itl K a) H) := by
  cases f with
  | str z => cases e; exact ⟨_, rfl, q _ walkS⟩
  | tup h r => cases e; exact ⟨_, rfl, ⟨_, Same.seqT s h⟩, q _ (walkTu h r)⟩
  | lst h r => cases e; exact ⟨_, rfl, ⟨_, .inl (.inl (s _ _ h))⟩, q _ (walkL (.inl (.inl h)) r)⟩
  | scr h r => cases e; exact ⟨_, rfl, ⟨_, s.seq h⟩, q _ (walkL h r)⟩
  | _ => cases e
def qWalk (x : Env → Option T) : Env → Option (List T) := fun env => match x env with | none => none | some t => t.fz.walk
theorem iq_any (h : QE X e te x) : IQ X tg e (iAny X.K te) (qWalk x) := ⟨pi_any h.pe, fun env ts e H1 H σ F s R Q q => by
  unfold qWalk at e
  cases e1 : x env with
  | none => rw [e1] at e; cases e
  | some t =>
    rw [e1] at e
    simp only at e
    have road : ∀ (A : V → Hp → Prop), (∀ v H1' H', Ext H1 H F0 H1' H' F0 → Fz X.K X.mg H1' v t.fz → A v H') → te σ H A := fun A hA =>
      h.qr _ _ e1 _ _ _ _ s R _ fun v Ha Hb Ft x1 r1 => by
        have x2 : Ext Ha Hb Ft (join Ha Hb Ft) Hb F0 := Ext.freeze x1.sub (fun b z => (r1.own b z).1) (fun _ _ z => z) (fun _ z => z) fun _ z => z.elim
        exact hA v _ Hb (x1.trans x2) (r1.freeze x2.s1 fun b z => join_in z)
    cases ht : t.fz with
    | tup us =>
      refine .inr (.inl (road _ fun v H1' H' x1 f => ?_))
      rw [ht] at f e
      exact any_core x1.sub f e fun J w => q J H1' H' x1 w
    | str us =>
      refine .inr (.inr (road _ fun v H1' H' x1 f => ?_))
      rw [ht] at f e
      exact any_core x1.sub f e fun J w => q J H1' H' x1 w
    | lst o us =>
      refine .inl (road _ fun v H1' H' x1 f => ?_)
      rw [ht] at f e
      exact any_core x1.sub f e fun J w => q J H1' H' x1 w
    | scr us =>
      refine .inl (road _ fun v H1' H' x1 f => ?_)
      rw [ht] at f e
      exact any_core x1.sub f e fun J w => q J H1' H' x1 w
    | _ => rw [ht] at e; cases e⟩
/-- .. of an expression with effects -/
def eWalk (y : Env → Option (T × Env)) : Env → Option (List T × Env) := fun env => match y env with | none => none | some (t, env1) => match t.fz.walk with | none => none | some ts => some (ts, env1)
theorem ie_any (h : EE X e te y) : IE X tg e (iAny X.K te) (eWalk y) := ⟨pi_any h.pe, fun env ts env' e H1 H σ F s R Q q => by
  unfold eWalk at e
  split at e
  · cases e
  · rename_i t env1 e1
    split at e
    · cases e
    · rename_i us e2
      cases e
      have e := e2
      have road : ∀ (A : V → Hp → Prop), (∀ v H1' H' F', Ext H1 H F H1' H' F' → RepE X.K X.mg H1' H' σ env' F' → Fz X.K X.mg H1' v t.fz → A v H') → te σ H A := fun A hA =>
        h.er _ _ _ e1 _ _ _ _ s R _ fun v Ha Hb F1 Ft x1 R1 r1 d1 => by
          have x2 : Ext Ha Hb (fun b => F1 b ∨ Ft b) (join Ha Hb Ft) Hb F1 := Ext.freeze x1.sub (fun b z => (r1.own b z).1) (fun b z w => d1 b w z) (fun _ z => .inr z) fun _ z => .inl z
          have R2 := R1.frame (H' := Hb) x2.s1 fun b z => ⟨rfl, by rw [join_out (d1 b z)]; exact (R1.own b z).1⟩
          exact hA v _ Hb F1 (x1.trans x2) R2 (r1.freeze x2.s1 fun b z => join_in z)
      cases ht : t.fz with
      | tup us =>
        refine .inr (.inl (road _ fun v H1' H' F' x1 R1 f => ?_))
        rw [ht] at f e
        exact any_core x1.sub f e fun J w => q J H1' H' F' x1 R1 (w F')
      | str us =>
        refine .inr (.inr (road _ fun v H1' H' F' x1 R1 f => ?_))
        rw [ht] at f e
        exact any_core x1.sub f e fun J w => q J H1' H' F' x1 R1 (w F')
      | lst o us =>
        refine .inl (road _ fun v H1' H' F' x1 R1 f => ?_)
        rw [ht] at f e
        exact any_core x1.sub f e fun J w => q J H1' H' F' x1 R1 (w F')
      | scr us =>
        refine .inl (road _ fun v H1' H' F' x1 R1 f => ?_)
        rw [ht] at f e
        exact any_core x1.sub f e fun J w => q J H1' H' F' x1 R1 (w F')
      | _ => rw [ht] at e; cases e⟩
/-- .. where nothing that stood may change -/
def IKR (K : PySem.W.Frag) (mg : Str → Option Value) (wi : TI) (src : Env → Option (List T)) : Prop := ∀ env ts, src env = some ts → ∀ H1 H σ F, Same H1 H → RepE K mg H1 H σ env F → ∀ R : It → Hp → Prop,
  (∀ J H1' H', Ext H1 H F0 H1' H' F0 → WalkT K mg J H1' H' F0 ts → R J H') → wi σ H R
structure IK (X : Cx) (tg iter : Expr) (wi : TI) (src : Env → Option (List T)) : Prop where
  pi : PI X tg iter wi
  ir : IKR X.K X.mg wi src
theorem IQ.toK (h : IQ X tg e wi src) : IK X tg e wi src := ⟨h.pi, fun env ts e H1 H σ F s R Q q => h.ir env ts e H1 H σ F s R Q fun J H1' H' x w => q J H1' H' x (w F0)⟩
/-- a list that is looked at where it stands -/
def kWalk (x : Env → Option T) : Env → Option (List T) := fun env => match x env with
  | some (.lst _ xs) => if xs.all T.sh then some xs else none
  | _ => none
theorem ik_lst (h : KE X e te x) : IK X tg e (iList X.K te) (kWalk x) := ⟨pi_list h.pe, fun env ts e H1 H σ F s R Q q => by
  unfold kWalk at e
  split at e
  · rename_i o xs e1
    split at e
    · rename_i hs
      cases e
      refine h.kr _ _ e1 _ _ _ _ s R _ fun v Ha Hb G x1 r1 => ?_
      obtain ⟨a, vs, G', rfl, h2, h3⟩ := r1.lst' x1.sub
      have f := h3.fzs hs
      refine ⟨a, rfl, ⟨vs, .inl (.inl h2)⟩, q _ Ha Hb x1 ⟨⟨fun H => SqL X.K H a vs, YAt vs, (by rw [← f.len]; exact walk_list (K := X.K) (a := a) (xs := vs)), fun H1' H' F' x => .inl (.inl (x.keep _ _ h2 fun z => z)), fun i H1' H' F' v H'' hi x ⟨k1, k2⟩ => ?_⟩⟩⟩
      subst k1
      rw [List.getElem?_eq_some_iff] at k2
      obtain ⟨k2, k3⟩ := k2
      obtain ⟨v', e1, f1⟩ := f.get (List.getElem?_eq_getElem hi)
      rw [List.getElem?_eq_getElem k2, k3] at e1
      cases e1
      exact ⟨_, H1', List.getElem?_eq_getElem hi, Ext.refl x.sub, f1.mono x.s1⟩
    · cases e
  · cases e⟩
/-! ranges -/
def rangeT (lo : Int) (n : Nat) : List T := (List.range n).map fun (i : Nat) => .int (lo + i)
def two62 : Int := 4611686018427387904
theorem two62_eq : (2 : Int) ^ 62 = two62 := by decide
def rng : List T → Option (List T)
  | [.int j] => if -two62 ≤ j ∧ j < two62 then some (rangeT 0 j.toNat) else none
  | [.int i, .int j] => if (-two62 ≤ i ∧ i < two62) ∧ -two62 ≤ j ∧ j < two62 then some (rangeT i (j - i).toNat) else none
  | _ => none
theorem walkR {K : PySem.W.Frag} {mg : Str → Option Value} {H1 H : Hp} {lo : Int} {n : Nat} : ∀ G, WalkT K mg (Itr lo n) H1 H G (rangeT lo n) := fun G => by
  have hl : (rangeT lo n).length = n := by simp [rangeT]
  refine ⟨⟨fun _ => True, YFn fun i => .int (lo + i), (by rw [hl]; exact walk_range (lo := lo) (n := n)), fun _ _ _ _ => trivial, fun i H1' H' F' v H'' hi x ⟨h1, h2⟩ => ?_⟩⟩
  subst h1 h2
  rw [hl] at hi
  refine ⟨.int (lo + i), H1', ?_, Ext.refl x.sub, .int _⟩
  unfold rangeT
  rw [List.getElem?_map, List.getElem?_range hi]
  rfl
def qRng (xs : Env → Option (List T)) : Env → Option (List T) := fun env => match xs env with | none => none | some ts => rng ts
def eRng (ys : Env → Option (List T × Env)) : Env → Option (List T × Env) := fun env => match ys env with | none => none | some (ts, env1) => match rng ts with | none => none | some us => some (us, env1)
theorem rng_road {K : PySem.W.Frag} {mg : Str → Option Value} {H1 H : Hp} {vs : List V} {ts us : List T} {F : FP} (r : Reps K mg H1 H vs ts F) (e : rng ts = some us) :
    (ts.length = 1 ∧ ∃ j : Int, vs = [.int j] ∧ -(2 ^ 62) ≤ j ∧ j < 2 ^ 62 ∧ us = rangeT 0 j.toNat) ∨ (ts.length = 2 ∧ ∃ i j : Int, vs = [.int i, .int j] ∧ (-(2 ^ 62) ≤ i ∧ i < 2 ^ 62 ∧ -(2 ^ 62) ≤ j ∧ j < 2 ^ 62) ∧ us = rangeT i (j - i).toNat) := by
  rw [two62_eq]
  unfold rng at e
  split at e
  · rename_i j
    split at e
    · rename_i hh
      cases e
      cases r with
      | cons r1 r2 _ => cases r2; rw [r1.intE]; exact .inl ⟨rfl, j, rfl, hh.1, hh.2, rfl⟩
    · cases e
  · rename_i i j
    split at e
    · rename_i hh
      cases e
      cases r with
      | cons r1 r2 _ =>
        cases r2 with
        | cons r3 r4 _ => cases r4; rw [r1.intE, r3.intE]; exact .inr ⟨rfl, i, j, rfl, ⟨hh.1.1, hh.1.2, hh.2.1, hh.2.2⟩, rfl⟩
    · cases e
  · cases e
theorem iq_rng1 (hg : Gl X "range") (hm : X.mg "range" = none) (h : QA X [a] tl xs) (hx : ∀ env ts, xs env = some ts → ts.length = 1) (hs : starEach [a] X.env = [(false, eval a X.env)] := by rfl) : IQ X tg (.Call (.Name "range" p) [a] [] pos) (iRng1 tl) (qRng xs) := ⟨pi_range1 hg hm h.pa hs, fun env ts e H1 H σ F s R Q q => by
  unfold qRng at e
  cases e1 : xs env with
  | none => rw [e1] at e; cases e
  | some us =>
    rw [e1] at e
    refine h.qr _ _ e1 _ _ _ _ s R _ fun vs Ha Hb Ft x1 r1 => ?_
    rcases rng_road r1 e with ⟨_, j, h1, h2, h3, rfl⟩ | ⟨h1, _⟩
    · exact ⟨j, h1, h2, h3, q _ Ha Hb (x1.less fun _ z => z.elim) walkR⟩
    · rw [hx _ _ e1] at h1; cases h1⟩
theorem iq_rng2 (hg : Gl X "range") (hm : X.mg "range" = none) (h : QA X [a, b] tl xs) (hx : ∀ env ts, xs env = some ts → ts.length = 2) (hs : starEach [a, b] X.env = [(false, eval a X.env), (false, eval b X.env)] := by rfl) (hs2 : starEach [b] X.env = [(false, eval b X.env)] := by rfl) : IQ X tg (.Call (.Name "range" p) [a, b] [] pos) (iRng2 tl) (qRng xs) := ⟨pi_range2 hg hm h.pa hs hs2, fun env ts e H1 H σ F s R Q q => by
  unfold qRng at e
  cases e1 : xs env with
  | none => rw [e1] at e; cases e
  | some us =>
    rw [e1] at e
    refine h.qr _ _ e1 _ _ _ _ s R _ fun vs Ha Hb Ft x1 r1 => ?_
    rcases rng_road r1 e with ⟨h1, _⟩ | ⟨_, i, j, h1, h2, rfl⟩
    · rw [hx _ _ e1] at h1; cases h1
    · exact ⟨i, j, h1, h2, q _ Ha Hb (x1.less fun _ z => z.elim) walkR⟩⟩
theorem len_nil {env : Env} {ts : List T} (e : aNil env = some ts) : ts.length = 0 := by cases e; rfl
theorem len_cons {n : Nat} {x : Env → Option T} {xs : Env → Option (List T)} (h : ∀ env ts, xs env = some ts → ts.length = n) : ∀ env ts, aCons x xs env = some ts → ts.length = n + 1 := fun env ts e => by
  unfold aCons at e
  split at e
  · cases e
  · split at e
    · cases e
    · rename_i h1; cases e; rw [List.length_cons, h _ _ h1]
theorem elen_cons {n : Nat} {y : Env → Option (T × Env)} {ys : Env → Option (List T × Env)} (h : ∀ env ts env', ys env = some (ts, env') → ts.length = n) : ∀ env ts env', eaCons y ys env = some (ts, env') → ts.length = n + 1 := fun env ts env' e => by
  unfold eaCons at e
  split at e
  · cases e
  · split at e
    · cases e
    · rename_i h1; cases e; rw [List.length_cons, h _ _ _ h1]
theorem elen_q {n : Nat} {xs : Env → Option (List T)} (h : ∀ env ts, xs env = some ts → ts.length = n) : ∀ env ts env', eaQ xs env = some (ts, env') → ts.length = n := fun env ts env' e => by
  unfold eaQ at e
  split at e
  · cases e
  · rename_i h1; cases e; exact h _ _ h1
theorem ie_rng1 (hg : Gl X "range") (hm : X.mg "range" = none) (h : EA X [a] tl ys) (hx : ∀ env ts env', ys env = some (ts, env') → ts.length = 1) (hs : starEach [a] X.env = [(false, eval a X.env)] := by rfl) : IE X tg (.Call (.Name "range" p) [a] [] pos) (iRng1 tl) (eRng ys) := ⟨pi_range1 hg hm h.pa hs, fun env ts env' e H1 H σ F s R Q q => by
  unfold eRng at e
  split at e
  · cases e
  · rename_i us env1 e1
    split at e
    · cases e
    · rename_i e2
      cases e
      refine h.er _ _ _ e1 _ _ _ _ s R _ fun vs Ha Hb F1 Ft x1 R1 r1 d1 => ?_
      rcases rng_road r1 e2 with ⟨_, j, h1, h2, h3, rfl⟩ | ⟨h1, _⟩
      · exact ⟨j, h1, h2, h3, q _ Ha Hb F1 (x1.less fun _ z => .inl z) R1 (walkR F1)⟩
      · rw [hx _ _ _ e1] at h1; cases h1⟩
theorem ie_rng2 (hg : Gl X "range") (hm : X.mg "range" = none) (h : EA X [a, b] tl ys) (hx : ∀ env ts env', ys env = some (ts, env') → ts.length = 2) (hs : starEach [a, b] X.env = [(false, eval a X.env), (false, eval b X.env)] := by rfl) (hs2 : starEach [b] X.env = [(false, eval b X.env)] := by rfl) : IE X tg (.Call (.Name "range" p) [a, b] [] pos) (iRng2 tl) (eRng ys) := ⟨pi_range2 hg hm h.pa hs hs2, fun env ts env' e H1 H σ F s R Q q => by
  unfold eRng at e
  split at e
  · cases e
  · rename_i us env1 e1
    split at e
    · cases e
    · rename_i e2
      cases e
      refine h.er _ _ _ e1 _ _ _ _ s R _ fun vs Ha Hb F1 Ft x1 R1 r1 d1 => ?_
      rcases rng_road r1 e2 with ⟨h1, _⟩ | ⟨_, i, j, h1, h2, rfl⟩
      · rw [hx _ _ _ e1] at h1; cases h1
      · exact ⟨i, j, h1, h2, q _ Ha Hb F1 (x1.less fun _ z => .inl z) R1 (walkR F1)⟩⟩
end

/-! ### targets that change the names alone -/
section
variable (K : PySem.W.Frag) (mg : Str → Option Value)
def GQR (P : Nat → Bool) (g : TG) (f : T → Env → Option Env) : Prop := ∀ t env env', f t env = some env' → ∀ H1 H σ F v, Same H1 H → RepE K mg H1 H σ env F → Fz K mg H1 v t → ∀ Q : L2.St → Hp → Prop,
  (∀ σ' F', RepE K mg H1 H σ' env' F' → (∀ b, F' b → F b) → (∀ i, P i = true → σ'[i]? = σ[i]?) → Q σ' H) → g v σ H Q
def GQsR (P : Nat → Bool) (n : Nat) (g : TGs) (f : List T → Env → Option Env) : Prop := ∀ ts env env', f ts env = some env' → ts.length = n ∧ ∀ H1 H σ F vs, Same H1 H → RepE K mg H1 H σ env F → Fzs K mg H1 vs ts → ∀ Q : L2.St → Hp → Prop,
  (∀ σ' F', RepE K mg H1 H σ' env' F' → (∀ b, F' b → F b) → (∀ i, P i = true → σ'[i]? = σ[i]?) → Q σ' H) → g vs σ H Q
end
structure GQ (X : Cx) (P : Nat → Bool) (e : Expr) (g : TG) (f : T → Env → Option Env) : Prop where
  pg : PG X e g
  gr : GQR X.K X.mg P g f
structure GQs (X : Cx) (P : Nat → Bool) (n : Nat) (es : List Expr) (g : TGs) (f : List T → Env → Option Env) : Prop where
  pg : PGs X es g
  gr : GQsR X.K X.mg P n g f
section
variable {X : Cx} {P : Nat → Bool} {e : Expr} {pos : Pos}
theorem gq_name {i : Nat} {y : Str} (h : PG X (.Name y pos) (gName i)) (hp : P i = false) : GQ X P (.Name y pos) (gName i) (gSet i) := ⟨h, fun t env env' e H1 H σ F v s R r Q q => by
  unfold gSet at e
  split at e
  · rename_i hi
    cases e
    obtain ⟨F', R2, hF⟩ := put1 R hi (.sh r) fun _ _ z => z
    exact q _ F' R2 (fun b z => (hF b z).elim id fun z => z.elim) fun j hj => set_pin hp j hj
  · cases e⟩
theorem gqs_nil : GQs X P 0 [] gNil gNilC := ⟨pgs_nil, fun ts env env' e => by
  unfold gNilC at e
  split at e
  · cases e
    refine ⟨rfl, fun H1 H σ F vs s R f Q q => ?_⟩
    cases f
    exact ⟨rfl, q σ F R (fun _ z => z) fun _ _ => rfl⟩
  · cases e⟩
theorem gqs_cons {es : List Expr} {t : TG} {u : TGs} {f : T → Env → Option Env} {g : List T → Env → Option Env} {n : Nat} (h : GQ X P e t f) (h' : GQs X P n es u g) (ha : (assignEach (e :: es) X.env).map (·.2) = assign e X.env :: (assignEach es X.env).map (·.2) := by rfl) :
    GQs X P (n + 1) (e :: es) (gCons t u) (gConsC f g) := ⟨pgs_cons h.pg h'.pg ha, fun ts env env' e => by
  unfold gConsC at e
  split at e
  · rename_i t0 r
    split at e
    · rename_i env1 e1
      obtain ⟨hl, hg⟩ := h'.gr _ _ _ e
      refine ⟨by rw [List.length_cons, hl], fun H1 H σ F vs s R f Q q => ?_⟩
      cases f with
      | cons f1 f2 =>
        refine ⟨_, _, rfl, h.gr _ _ _ e1 _ _ _ _ _ s R f1 _ fun σ' F' R' hF pn => ?_⟩
        exact hg _ _ _ _ _ s R' f2 _ fun σ'' F'' R'' hF' pn' => q σ'' F'' R'' (fun b z => hF b (hF' b z)) fun i hi => (pn' i hi).trans (pn i hi)
    · cases e
  · cases e⟩
theorem gq_tup {es : List Expr} {u : TGs} {g : List T → Env → Option Env} {n k : Nat} (hc : X.calm = true) (h : GQs X P n es u g) (h1 : (assignEach es X.env).length = n := by rfl) (h2 : (assignEach es X.env).findIdx? (·.1) = none := by rfl) :
    GQ X P (.Tuple es k pos) (gTup X.K n u) (gUn g) := ⟨pg_tup hc h.pg h1 h2, fun t env env' e H1 H σ F v s R r Q q => by
  unfold gUn at e
  split at e
  · rename_i xs
    obtain ⟨hl, hg⟩ := h.gr _ _ _ e
    cases r with
    | tup h2 h3 => exact ⟨_, _, rfl, Same.seqT s h2, by rw [h3.len, hl], hg _ _ _ _ _ s R h3 Q q⟩
  · cases e⟩
end
end GK

/-! GK16: comprehensions. -/
namespace GK
open PySem L2

def wipeE (env : Env) : List Nat → Env
  | [] => env
  | v :: vs => (wipeE env vs).set v none
theorem wipeE_len (env : Env) : ∀ vs, (wipeE env vs).length = env.length
  | [] => rfl
  | v :: vs => by unfold wipeE; rw [List.length_set, wipeE_len env vs]
section
variable {K : PySem.W.Frag} {mg : Str → Option Value} {H H1 : Hp} {σ : L2.St} {env : Env} {F : FP}
theorem RepE.wipe (R : RepE K mg H1 H σ env F) : ∀ vs : List Nat, ∃ G, RepE K mg H1 H (L2.wipe σ vs) (wipeE env vs) G ∧ ∀ b, G b → F b
  | [] => ⟨F, R, fun _ z => z⟩
  | v :: vs => by
    obtain ⟨G, R1, h1⟩ := RepE.wipe R vs
    obtain ⟨G', R2, h2⟩ := R1.drop v none
    exact ⟨G', R2, fun b z => h1 b (h2 b z)⟩
theorem wipe_in {σ : L2.St} {i : Nat} : ∀ {vs : List Nat}, i ∈ vs → i < σ.length → (L2.wipe σ vs)[i]? = some none
  | [], h, _ => by cases h
  | v :: vs, h, hl => by
    unfold L2.wipe
    by_cases e : v = i
    · subst e
      rw [List.getElem?_set_self (by rw [wipe_length]; exact hl)]
    · rw [List.getElem?_set_ne e]
      exact wipe_in ((List.mem_cons.mp h).resolve_left fun q => e q.symm) hl
theorem wipe_pin {σ σ2 : L2.St} {vs : List Nat} (hl : σ2.length = σ.length) (pn : ∀ i, (!vs.contains i) = true → σ2[i]? = (L2.wipe σ vs)[i]?) : L2.wipe σ2 vs = L2.wipe σ vs := by
  apply List.ext_getElem?
  intro i
  by_cases h : i ∈ vs
  · by_cases hi : i < σ.length
    · rw [wipe_in h hi, wipe_in h (hl ▸ hi)]
    · rw [List.getElem?_eq_none (by rw [wipe_length]; omega), List.getElem?_eq_none (by rw [wipe_length]; omega)]
  · rw [wipe_out h, pn i (by simpa using h)]
end
/-- the slots that a comprehension's block leaves -/
abbrev pinC (vs : List Nat) : Nat → Bool := fun i => !vs.contains i

/-! ### quiet ones -/
def lcGo (f : T → Env → Option Env) (c : Env → Option Bool) (x : Env → Option T) (env0 : Env) : List T → Option (List T)
  | [] => some []
  | t :: r => match f t env0 with
    | none => none
    | some env1 => if env1.length = env0.length then (match c env1 with
      | none => none
      | some false => lcGo f c x env0 r
      | some true => match x env1 with
        | none => none
        | some u => match lcGo f c x env0 r with
          | none => none
          | some us => some (u :: us)) else none
def qLc (vs : List Nat) (src : Env → Option (List T)) (f : T → Env → Option Env) (c : Env → Option Bool) (x : Env → Option T) : Env → Option T := fun env => match src env with
  | none => none
  | some ts => match lcGo f c x (wipeE env vs) ts with
    | none => none
    | some us => if us.length ≤ maxLen then some (.lst true us) else none
def cYes : Env → Option Bool := fun _ => some true
theorem tr_yes {K : PySem.W.Frag} {mg : Str → Option Value} : TR K mg tYes cYes := fun env b e H1 H σ F s R Q q => by cases e; exact q H1 H (Ext.refl s)
section
variable {K : PySem.W.Frag} {mg : Str → Option Value} {wi : TI} {src : Env → Option (List T)} {g : TG} {f : T → Env → Option Env} {tt : TT} {c : Env → Option Bool} {te tk : TE} {x xk : Env → Option T} {vs : List Nat}
theorem Reps.out {H1 H : Hp} {vs : List V} {ts : List T} {F : FP} {D : Addr} (r : Reps K mg H1 H vs ts F) (n : H D = none) : ¬ F D := fun z => by
  obtain ⟨_, o, e⟩ := r.own D z
  rw [n] at e; cases e
theorem Reps.append : ∀ {vs ws : List V} {ts us : List T} {H1 H : Hp} {F G : FP}, Reps K mg H1 H vs ts F → Reps K mg H1 H ws us G → (∀ b, F b → ¬ G b) → ∃ F', Reps K mg H1 H (vs ++ ws) (ts ++ us) F' ∧ ∀ b, F' b ↔ F b ∨ G b
  | _, _, _, _, _, _, _, G, .nil, r, _ => ⟨G, r, fun b => ⟨.inr, fun z => z.elim (fun z => z.elim) id⟩⟩
  | _, _, _, _, _, _, _, G, .cons a r d, r', d' => by
    obtain ⟨F', q, hF⟩ := Reps.append r r' fun b z => d' b (.inr z)
    refine ⟨_, .cons a q fun b z w => ((hF b).mp w).elim (d b z) (d' b (.inl z)), fun b => ⟨fun z => z.elim (fun z => .inl (.inl z)) fun z => ((hF b).mp z).elim (fun z => .inl (.inr z)) .inr, fun z => z.elim (fun z => z.elim .inl fun z => .inr ((hF b).mpr (.inl z))) fun z => .inr ((hF b).mpr (.inr z))⟩⟩
/-- what a comprehension has laid: the list at D, its items -/
structure LcInv (K : PySem.W.Frag) (mg : Str → Option Value) (Ha Hb : Hp) (D : Addr) (H1 H : Hp) (ts : List T) : Prop where
  ex : ∃ (acc : List V) (Fa : FP), Ext Ha Hb F0 H1 H (fun b => b = D ∨ Fa b) ∧ H D = some (.lst acc) ∧ H1 D = none ∧ Reps K mg H1 H acc ts Fa ∧ ¬ Fa D
theorem LcInv.start {Ha Hb : Hp} {D : Addr} (s : Same Ha Hb) (n : Hb D = none) : LcInv K mg Ha Hb D Ha (upd Hb D (.lst [])) [] :=
  ⟨⟨[], F0, Ext.newO s n, upd_same, s.free n, .nil, fun z => z⟩⟩
/-- a quiet step beside it -/
theorem LcInv.quiet {Ha Hb H1 H H1' H' : Hp} {D : Addr} {ts : List T} {Ft : FP} (h : LcInv K mg Ha Hb D H1 H ts) (x : Ext H1 H F0 H1' H' Ft) : LcInv K mg Ha Hb D H1' H' ts ∧ ∀ b, Ft b → Hb b = none := by
  obtain ⟨acc, Fa, x1, h1, h2, h3, h4⟩ := h.ex
  have ap := x.apart (G := fun b => b = D ∨ Fa b) (fun b z => z.elim (fun z => by rw [z]; exact ⟨h2, _, h1⟩) fun z => h3.own b z) (fun _ _ z => z)
  refine ⟨⟨acc, Fa, (x1.trans ((ext_or x).less fun b z => .inl z)), (ap.1 D (.inl rfl)).1.trans h1, (ap.1 D (.inl rfl)).2, h3.frame x.s1 fun b z => ap.1 b (.inr z), h4⟩, fun b z => ?_⟩
  rcases x.foot b z with q | q
  · exact q.elim
  · rcases back_none x1 q with e | e
    · exact e
    · exact e.elim
/-- an item added -/
theorem LcInv.add {Ha Hb H1 H H1' H' : Hp} {D : Addr} {ts : List T} {Ft : FP} {y : V} {u : T} (h : LcInv K mg Ha Hb D H1 H ts) (x : Ext H1 H F0 H1' H' Ft) (r : Rep K mg H1' H' y u Ft) (hz : ts.length < maxLen) :
    ∃ acc, H' D = some (.lst acc) ∧ acc.length < sizeLine ∧ LcInv K mg Ha Hb D H1' (upd H' D (.lst (acc ++ [y]))) (ts ++ [u]) := by
  obtain ⟨acc, Fa, x1, h1, h2, h3, h4⟩ := h.ex
  have ap := x.apart (G := fun b => b = D ∨ Fa b) (fun b z => z.elim (fun z => by rw [z]; exact ⟨h2, _, h1⟩) fun z => h3.own b z) (fun _ _ z => z)
  have hD := ap.1 D (.inl rfl)
  refine ⟨acc, hD.1.trans h1, by rw [h3.len, maxLen_eq]; exact hz, ?_⟩
  have r3 : Reps K mg H1' H' acc ts Fa := h3.frame x.s1 fun b z => ap.1 b (.inr z)
  obtain ⟨F', r4, hF⟩ := r3.snoc r fun b z w => ap.2 b (.inr z) w
  have nD : ¬ F' D := fun z => ((hF D).mp z).elim h4 (ap.2 D (.inl rfl))
  have x2 : Ext Ha Hb F0 H1' H' (fun b => (b = D ∨ Fa b) ∨ Ft b) := x1.trans (ext_or x)
  have x3 : Ext H1' H' (fun b => (b = D ∨ Fa b) ∨ Ft b) H1' (upd H' D (.lst (acc ++ [y]))) (fun b => (b = D ∨ Fa b) ∨ Ft b) := Ext.wr x2.sub hD.2 (.inl (.inl rfl))
  refine ⟨⟨acc ++ [y], F', (x2.trans x3).less fun b z => z.elim (fun z => .inl (.inl z)) fun z => ((hF b).mp z).elim (fun z => .inl (.inr z)) .inr, upd_same, hD.2, r4.frame (Same.refl _) fun b z => ⟨upd_ne fun w => nD (by rw [← w]; exact z), (r4.own b z).1⟩, nD⟩⟩
theorem LcInv.done {Ha Hb H1 H : Hp} {D : Addr} {ts : List T} (h : LcInv K mg Ha Hb D H1 H ts) : ∃ F, Ext Ha Hb F0 H1 H F ∧ Rep K mg H1 H (.ref D) (.lst true ts) F := by
  obtain ⟨acc, Fa, x1, h1, h2, h3, h4⟩ := h.ex
  exact ⟨_, x1, .lst h1 h2 h3 h4⟩
theorem qr_lc (hi : IKR K mg wi src) (hg : GQR K mg (pinC vs) g f) (ht : TR K mg tt c) (he : QR K mg te x) : QR K mg (tLc wi g tt te vs) (qLc vs src f c x) := fun env t e H1 H σ F s R Q q => by
  unfold qLc at e
  split at e
  · cases e
  · rename_i ts e1
    split at e
    · cases e
    · rename_i us e2
      split at e
      · rename_i hz
        cases e
        refine hi _ _ e1 _ _ _ _ s R _ fun J Ha Hb xa w D hD => ?_
        obtain ⟨G, Y, wk, hG, hY⟩ := w.ex
        have Ra := xa.qRepE R
        refine lc_it wk (fun i H => ∃ H1 ts' r, LcInv K mg Ha Hb D H1 H ts' ∧ lcGo f c x (wipeE env vs) (ts.drop i) = some r ∧ ts' ++ r = us) ⟨Ha, [], us, LcInv.start xa.sub hD, by rw [List.drop_zero]; exact e2, rfl⟩ ?_ ?_ ?_
        · rintro i H _ ⟨H1, ts', r, h, _, _⟩
          obtain ⟨acc, Fa, x1, _⟩ := h.ex
          exact hG H1 H _ x1
        · rintro i v Hi Hi' hlt ⟨H1i, ts', r, h, el, er⟩ hy
          obtain ⟨acc, Fa, x1, _⟩ := h.ex
          obtain ⟨t, H1'', htt, x2, fz⟩ := hY i H1i Hi _ v Hi' hlt x1 hy
          have ed : ts.drop i = t :: ts.drop (i + 1) := by
            rw [List.drop_eq_getElem_cons hlt]
            rw [List.getElem?_eq_getElem hlt] at htt
            rw [Option.some.inj htt]
          have h2 := (h.quiet x2).1
          obtain ⟨Gw, Rw, _⟩ := ((x1.base fun b z => z).less (F'' := F0) (fun _ z => z.elim) |>.qRepE Ra |> x2.qRepE).wipe vs
          rw [ed] at el
          unfold lcGo at el
          split at el
          · cases el
          · rename_i env1 e3
            split at el
            · rename_i hl
              refine hg _ _ _ e3 _ _ _ _ _ x2.sub Rw fz _ fun σ2 F2 R2 _ pn => ⟨?_, ?_⟩
              · refine wipe_pin ?_ pn
                have l1 := R2.len
                have l2 := Rw.len
                rw [wipe_length] at l2
                rw [l1, hl, ← l2]
              · split at el
                · cases el
                · rename_i e4
                  refine ht _ _ e4 _ _ _ _ x2.sub R2 _ fun H3 H3' x3 => ?_
                  rw [if_neg Bool.false_ne_true]
                  exact ⟨H3, ts', r, (h2.quiet x3).1, el, er⟩
                · rename_i e4
                  refine ht _ _ e4 _ _ _ _ x2.sub R2 _ fun H3 H3' x3 => ?_
                  rw [if_pos rfl]
                  have h3 := (h2.quiet x3).1
                  split at el
                  · cases el
                  · rename_i u e5
                    split at el
                    · cases el
                    · rename_i us' e6
                      cases el
                      refine he _ _ e5 _ _ _ _ x3.sub (x3.qRepE R2) _ fun y H4 H4' Ft x4 r4 => ?_
                      obtain ⟨acc, k1, k2, k3⟩ := h3.add x4 r4 (by rw [← er] at hz; simp at hz; omega)
                      exact ⟨acc, k1, k2, H4, ts' ++ [u], us', k3, e6, by rw [← er]; simp⟩
            · cases el
        · rintro Hc ⟨H1, ts', r, h, el, er⟩
          rw [List.drop_length] at el
          cases el
          rw [List.append_nil] at er
          subst er
          obtain ⟨F', x1, r1⟩ := h.done
          exact q _ H1 Hc F' (xa.trans x1) r1
      · cases e
/-! dict comprehensions -/
def dcGo (f : T → Env → Option Env) (c : Env → Option Bool) (xk x : Env → Option T) (env0 : Env) : List T → List (Key × T) → Option (List (Key × T))
  | [], acc => some acc
  | t :: r, acc => match f t env0 with
    | none => none
    | some env1 => if env1.length = env0.length ∧ acc.length < maxLen then (match c env1 with
      | none => none
      | some false => dcGo f c xk x env0 r acc
      | some true => match xk env1, x env1 with
        | some k, some u => (match k.key with | some k => dcGo f c xk x env0 r (tput acc k u) | none => none)
        | _, _ => none) else none
def qDc (vs : List Nat) (src : Env → Option (List T)) (f : T → Env → Option Env) (c : Env → Option Bool) (xk x : Env → Option T) : Env → Option T := fun env => match src env with
  | none => none
  | some ts => match dcGo f c xk x (wipeE env vs) ts [] with
    | none => none
    | some us => some (.dic true us)
structure DcInv (K : PySem.W.Frag) (mg : Str → Option Value) (Ha Hb : Hp) (D : Addr) (H1 H : Hp) (ts : List (Key × T)) : Prop where
  ex : ∃ (acc : List (Key × V)) (Fa : FP), Ext Ha Hb F0 H1 H (fun b => b = D ∨ Fa b) ∧ H D = some (.dK acc) ∧ H1 D = none ∧ RepA K mg H1 H acc ts Fa ∧ ¬ Fa D ∧ (acc.map (·.1)).Nodup
theorem DcInv.start {Ha Hb : Hp} {D : Addr} (s : Same Ha Hb) (n : Hb D = none) : DcInv K mg Ha Hb D Ha (upd Hb D (.dK [])) [] :=
  ⟨⟨[], F0, Ext.newO s n, upd_same, s.free n, .nil, fun z => z, List.nodup_nil⟩⟩
theorem DcInv.quiet {Ha Hb H1 H H1' H' : Hp} {D : Addr} {ts : List (Key × T)} {Ft : FP} (h : DcInv K mg Ha Hb D H1 H ts) (x : Ext H1 H F0 H1' H' Ft) : DcInv K mg Ha Hb D H1' H' ts := by
  obtain ⟨acc, Fa, x1, h1, h2, h3, h4, h5⟩ := h.ex
  have ap := x.apart (G := fun b => b = D ∨ Fa b) (fun b z => z.elim (fun z => by rw [z]; exact ⟨h2, _, h1⟩) fun z => h3.own b z) (fun _ _ z => z)
  exact ⟨acc, Fa, (x1.trans ((ext_or x).less fun b z => .inl z)), (ap.1 D (.inl rfl)).1.trans h1, (ap.1 D (.inl rfl)).2, h3.frame x.s1 fun b z => ap.1 b (.inr z), h4, h5⟩
theorem DcInv.add {Ha Hb H1 H H1' H' : Hp} {D : Addr} {ts : List (Key × T)} {Ft : FP} {y : V} {u : T} {k : Key} (h : DcInv K mg Ha Hb D H1 H ts) (x : Ext H1 H F0 H1' H' Ft) (r : Rep K mg H1' H' y u Ft) (hz : ts.length < maxLen) :
    ∃ acc, H' D = some (.dK acc) ∧ acc.length < sizeLine ∧ DcInv K mg Ha Hb D H1' (upd H' D (.dK (putK acc k y))) (tput ts k u) := by
  obtain ⟨acc, Fa, x1, h1, h2, h3, h4, h5⟩ := h.ex
  have ap := x.apart (G := fun b => b = D ∨ Fa b) (fun b z => z.elim (fun z => by rw [z]; exact ⟨h2, _, h1⟩) fun z => h3.own b z) (fun _ _ z => z)
  have hD := ap.1 D (.inl rfl)
  refine ⟨acc, hD.1.trans h1, by rw [h3.len, maxLen_eq]; exact hz, ?_⟩
  have r3 : RepA K mg H1' H' acc ts Fa := h3.frame x.s1 fun b z => ap.1 b (.inr z)
  obtain ⟨F', r4, hF⟩ := r3.put (k := k) r fun b z w => ap.2 b (.inr z) w
  have nD : ¬ F' D := fun z => (hF D z).elim h4 (ap.2 D (.inl rfl))
  have x2 : Ext Ha Hb F0 H1' H' (fun b => (b = D ∨ Fa b) ∨ Ft b) := x1.trans (ext_or x)
  rw [vput_eq h5]
  have x3 : Ext H1' H' (fun b => (b = D ∨ Fa b) ∨ Ft b) H1' (upd H' D (.dK (vput acc k y))) (fun b => (b = D ∨ Fa b) ∨ Ft b) := Ext.wr x2.sub hD.2 (.inl (.inl rfl))
  exact ⟨vput acc k y, F', (x2.trans x3).less fun b z => z.elim (fun z => .inl (.inl z)) fun z => (hF b z).elim (fun z => .inl (.inr z)) .inr, upd_same, hD.2, r4.frame (Same.refl _) fun b z => ⟨upd_ne fun w => nD (by rw [← w]; exact z), (r4.own b z).1⟩, nD, (vput_nodup h5).1⟩
theorem qr_dc (hi : IKR K mg wi src) (hg : GQR K mg (pinC vs) g f) (ht : TR K mg tt c) (hk : QR K mg tk xk) (he : QR K mg te x) : QR K mg (tDc wi g tt tk te vs) (qDc vs src f c xk x) := fun env t e H1 H σ F s R Q q => by
  unfold qDc at e
  split at e
  · cases e
  · rename_i ts e1
    split at e
    · cases e
    · rename_i us e2
      cases e
      refine hi _ _ e1 _ _ _ _ s R _ fun J Ha Hb xa w D hD => ?_
      obtain ⟨G, Y, wk, hG, hY⟩ := w.ex
      have Ra := xa.qRepE R
      refine ⟨fun i m H => m = ts.length - i ∧ i ≤ ts.length ∧ ∃ H1 ts', DcInv K mg Ha Hb D H1 H ts' ∧ dcGo f c xk x (wipeE env vs) (ts.drop i) ts' = some us, ⟨ts.length, by simp, Nat.zero_le _, Ha, [], DcInv.start xa.sub hD, by rw [List.drop_zero]; exact e2⟩, ?_⟩
      rintro i m Hi ⟨rfl, hil, H1i, ts', h, el⟩
      obtain ⟨acc, Fa, x1, _⟩ := h.ex
      by_cases hlt : i < ts.length
      · refine .inr ⟨wk.goes i Hi hlt (hG H1i Hi _ x1), fun H' => ∃ H1 ts', DcInv K mg Ha Hb D H1 H' ts' ∧ dcGo f c xk x (wipeE env vs) (ts.drop (i + 1)) ts' = some us, fun H' h' => ⟨ts.length - (i + 1), by omega, rfl, hlt, h'⟩, fun v Hi' hy => ?_⟩
        have hy := wk.yields i Hi v Hi' hlt (hG H1i Hi _ x1) hy
        obtain ⟨t, H1'', htt, x2, fz⟩ := hY i H1i Hi _ v Hi' hlt x1 hy
        have ed : ts.drop i = t :: ts.drop (i + 1) := by
          rw [List.drop_eq_getElem_cons hlt]
          rw [List.getElem?_eq_getElem hlt] at htt
          rw [Option.some.inj htt]
        have h2 := h.quiet x2
        obtain ⟨Gw, Rw, _⟩ := ((x1.base fun b z => z).less (F'' := F0) (fun _ z => z.elim) |>.qRepE Ra |> x2.qRepE).wipe vs
        rw [ed] at el
        unfold dcGo at el
        split at el
        · cases el
        · rename_i env1 e3
          split at el
          · rename_i hl
            refine hg _ _ _ e3 _ _ _ _ _ x2.sub Rw fz _ fun σ2 F2 R2 _ pn => ⟨?_, ?_⟩
            · refine wipe_pin ?_ pn
              have l1 := R2.len
              have l2 := Rw.len
              rw [wipe_length] at l2
              rw [l1, hl.1, ← l2]
            · split at el
              · cases el
              · rename_i e4
                refine ht _ _ e4 _ _ _ _ x2.sub R2 _ fun H3 H3' x3 => ?_
                rw [if_neg Bool.false_ne_true]
                exact ⟨H3, ts', h2.quiet x3, el⟩
              · rename_i e4
                refine ht _ _ e4 _ _ _ _ x2.sub R2 _ fun H3 H3' x3 => ?_
                rw [if_pos rfl]
                have h3 := h2.quiet x3
                split at el
                · rename_i kt u e5 e6
                  split at el
                  · rename_i k ek
                    refine hk _ _ e5 _ _ _ _ x3.sub (x3.qRepE R2) _ fun yk H5 H5' Fk x5 r5 => ?_
                    refine he _ _ e6 _ _ _ _ x5.sub (x5.qRepE (x3.qRepE R2)) _ fun y H4 H4' Ft x4 r4 => ?_
                    obtain ⟨acc, k1, k2, k3⟩ := (h3.quiet (x5.less (F'' := F0) fun _ z => z.elim)).add (k := k) x4 r4 hl.2
                    exact ⟨acc, k, r5.keyE ek, k1, k2, H4, _, k3, el⟩
                  · cases el
                · cases el
          · cases el
      · have e : i = ts.length := by omega
        subst e
        rw [List.drop_length] at el
        cases el
        obtain ⟨acc, Fa, x1, h1, h2, h3, h4, h5⟩ := h.ex
        exact .inl ⟨wk.stops Hi (hG H1i Hi _ x1), q _ H1i Hi _ (xa.trans x1) (.dic h1 h2 h5 h3 h4)⟩
end
section
variable {X : Cx} {P : Nat → Bool}
/-- what a block's parts must be, at each of its contexts -/
abbrev AtBlk (X : Cx) (scope : Scope) (Φ : Cx → Prop) : Prop := ∀ (s : Shared) (H : Hp) (C : Addr) (cl : List (Str × Addr)) (fp : List Addr), Φ (X.blk s H scope (compEnvC scope cl C X.env) fp)
structure TS' (X : Cx) (ifs : List Expr) (tt : TT) (c : Env → Option Bool) : Prop where
  pt : PTs X ifs tt
  tr : TR X.K X.mg tt c
theorem ts_nil : TS' X [] tYes cYes := ⟨pts_nil, tr_yes⟩
theorem ts_one {e : Expr} {tt : TT} {c : Env → Option Bool} (h : TE' X e tt c) : TS' X [e] tt c := ⟨pts_one h.pt, h.tr⟩
variable {elt tg iter kx : Expr} {ifs : List Expr} {scope : Scope} {own : List (Str × Nat)} {pos : Pos} {wi : TI} {src : Env → Option (List T)} {f : T → Env → Option Env} {c : Env → Option Bool} {x xk : Env → Option T}
/-- readings that serve at each of a block's contexts -/
def eAll (X : Cx) (scope : Scope) (elt : Expr) (x : Env → Option T) : TE := fun σ H Q => ∀ (s : Shared) (H' : Hp) (C : Addr) (cl : List (Str × Addr)) (fp : List Addr) (te : TE), QE (X.blk s H' scope (compEnvC scope cl C X.env) fp) elt te x → te σ H Q
def tAll (X : Cx) (scope : Scope) (ifs : List Expr) (c : Env → Option Bool) : TT := fun σ H Q => ∀ (s : Shared) (H' : Hp) (C : Addr) (cl : List (Str × Addr)) (fp : List Addr) (tt : TT), TS' (X.blk s H' scope (compEnvC scope cl C X.env) fp) ifs tt c → tt σ H Q
def gAll (X : Cx) (scope : Scope) (P : Nat → Bool) (tg : Expr) (f : T → Env → Option Env) : TG := fun v σ H Q => ∀ (s : Shared) (H' : Hp) (C : Addr) (cl : List (Str × Addr)) (fp : List Addr) (g : TG), GQ (X.blk s H' scope (compEnvC scope cl C X.env) fp) P tg g f → g v σ H Q
section
variable (s : Shared) (H : Hp) (C : Addr) (cl : List (Str × Addr)) (fp : List Addr)
theorem e_all (h : ∃ te, QE (X.blk s H scope (compEnvC scope cl C X.env) fp) elt te x) : PE (X.blk s H scope (compEnvC scope cl C X.env) fp) elt (eAll X scope elt x) := by
  obtain ⟨te, h⟩ := h
  exact ⟨fun pins s' σ H' Q I q => h.pe.run pins s' σ H' Q I (q s H C cl fp te h)⟩
theorem t_all (h : ∃ tt, TS' (X.blk s H scope (compEnvC scope cl C X.env) fp) ifs tt c) : PTs (X.blk s H scope (compEnvC scope cl C X.env) fp) ifs (tAll X scope ifs c) := by
  obtain ⟨tt, h⟩ := h
  exact ⟨fun pins s' σ H' Q I q => h.pt.run pins s' σ H' Q I (q s H C cl fp tt h)⟩
theorem g_all (h : ∃ g, GQ (X.blk s H scope (compEnvC scope cl C X.env) fp) P tg g f) : PG (X.blk s H scope (compEnvC scope cl C X.env) fp) tg (gAll X scope P tg f) := by
  obtain ⟨g, h⟩ := h
  exact ⟨fun pins s' σ H' v u Q I r q => h.pg.run pins s' σ H' v u Q I r (q s H C cl fp g h)⟩
end
theorem e_allR : QR X.K X.mg (eAll X scope elt x) x := fun env t e H1 H σ F s R Q q s' H' C cl fp te h => h.qr env t e H1 H σ F s R Q q
theorem t_allR : TR X.K X.mg (tAll X scope ifs c) c := fun env t e H1 H σ F s R Q q s' H' C cl fp te h => h.tr env t e H1 H σ F s R Q q
theorem g_allR : GQR X.K X.mg P (gAll X scope P tg f) f := fun t env env' e H1 H σ F v s R r Q q s' H' C cl fp g h => h.gr t env env' e H1 H σ F v s R r Q q
theorem qe_lc (hc : X.calm = true) (hN : X.N.Nodup) (hi : IK X tg iter wi src) (ok : BlkOk X.N X.env.scope scope own)
    (hg : ∀ (s : Shared) (H : Hp) (C : Addr) (cl : List (Str × Addr)) (fp : List Addr), ∃ g, GQ (X.blk s H scope (compEnvC scope cl C X.env) fp) (pinC (own.map (·.2))) tg g f)
    (ht : ∀ (s : Shared) (H : Hp) (C : Addr) (cl : List (Str × Addr)) (fp : List Addr), ∃ tt, TS' (X.blk s H scope (compEnvC scope cl C X.env) fp) ifs tt c)
    (he : ∀ (s : Shared) (H : Hp) (C : Addr) (cl : List (Str × Addr)) (fp : List Addr), ∃ te, QE (X.blk s H scope (compEnvC scope cl C X.env) fp) elt te x)
    (hs : ∀ x, foldedSetIterable iter X.env x = pure x := by intro _; rfl) :
    QE X (.ListComp elt [⟨tg, iter, ifs, 0⟩] scope pos) (tLc wi (gAll X scope (pinC (own.map (·.2))) tg f) (tAll X scope ifs c) (eAll X scope elt x) (own.map (·.2))) (qLc (own.map (·.2)) src f c x) :=
  ⟨pe_lc hc hN hi.pi ok (fun s H C cl fp => g_all s H C cl fp (hg s H C cl fp)) (fun s H C cl fp => t_all s H C cl fp (ht s H C cl fp)) (fun s H C cl fp => e_all s H C cl fp (he s H C cl fp)) hs, qr_lc hi.ir g_allR t_allR e_allR⟩
theorem qe_dc (hc : X.calm = true) (hN : X.N.Nodup) (hi : IK X tg iter wi src) (ok : BlkOk X.N X.env.scope scope own)
    (hg : ∀ (s : Shared) (H : Hp) (C : Addr) (cl : List (Str × Addr)) (fp : List Addr), ∃ g, GQ (X.blk s H scope (compEnvC scope cl C X.env) fp) (pinC (own.map (·.2))) tg g f)
    (ht : ∀ (s : Shared) (H : Hp) (C : Addr) (cl : List (Str × Addr)) (fp : List Addr), ∃ tt, TS' (X.blk s H scope (compEnvC scope cl C X.env) fp) ifs tt c)
    (hk : ∀ (s : Shared) (H : Hp) (C : Addr) (cl : List (Str × Addr)) (fp : List Addr), ∃ te, QE (X.blk s H scope (compEnvC scope cl C X.env) fp) kx te xk)
    (he : ∀ (s : Shared) (H : Hp) (C : Addr) (cl : List (Str × Addr)) (fp : List Addr), ∃ te, QE (X.blk s H scope (compEnvC scope cl C X.env) fp) elt te x)
    (hs : ∀ x, foldedSetIterable iter X.env x = pure x := by intro _; rfl) :
    QE X (.DictComp kx elt [⟨tg, iter, ifs, 0⟩] scope pos) (tDc wi (gAll X scope (pinC (own.map (·.2))) tg f) (tAll X scope ifs c) (eAll X scope kx xk) (eAll X scope elt x) (own.map (·.2))) (qDc (own.map (·.2)) src f c xk x) :=
  ⟨pe_dc hc hN hi.pi ok (fun s H C cl fp => g_all s H C cl fp (hg s H C cl fp)) (fun s H C cl fp => t_all s H C cl fp (ht s H C cl fp)) (fun s H C cl fp => e_all s H C cl fp (hk s H C cl fp)) (fun s H C cl fp => e_all s H C cl fp (he s H C cl fp)) hs, qr_dc hi.ir g_allR t_allR e_allR e_allR⟩
/-- name = [..] -/
theorem se_setLc0 {i : Nat} {y : Str} {py spos : Pos} {x' : Env → Option T} (hc : X.calm = true) (hN : X.N.Nodup) (hy : X.N[i]? = some y) (hyl : X.env.scope.names.lookup y = some .local)
    (hsw : swapsWith (.ListComp elt [⟨tg, iter, ifs, 0⟩] scope pos) (some (.Name y py)) spos.line X.env = pure true) (hi : IK X tg iter wi src) (ok : BlkOk X.N X.env.scope scope own)
    (hg : ∀ (s : Shared) (H : Hp) (C : Addr) (cl : List (Str × Addr)) (fp : List Addr), ∃ g, GQ (X.blk s H scope (compEnvC scope cl C X.env) fp) (pinC (own.map (·.2))) tg g f)
    (ht : ∀ (s : Shared) (H : Hp) (C : Addr) (cl : List (Str × Addr)) (fp : List Addr), ∃ tt, TS' (X.blk s H scope (compEnvC scope cl C X.env) fp) ifs tt c)
    (he : ∀ (s : Shared) (H : Hp) (C : Addr) (cl : List (Str × Addr)) (fp : List Addr), ∃ te, QE (X.blk s H scope (compEnvC scope cl C X.env) fp) elt te x) (hp : P i = false)
    (hx : QR X.K X.mg (tLc wi (gAll X scope (pinC (own.map (·.2))) tg f) (tAll X scope ifs c) (eAll X scope elt x) (own.map (·.2))) x')
    (hs : ∀ x, foldedSetIterable iter X.env x = pure x := by intro _; rfl) :
    SE X P (.Assign [.Name y py] (.ListComp elt [⟨tg, iter, ifs, 0⟩] scope pos) spos) (tAsg (tLc wi (gAll X scope (pinC (own.map (·.2))) tg f) (tAll X scope ifs c) (eAll X scope elt x) (own.map (·.2))) (gName i)) (sAsg (eQ x') (gSet i)) :=
  ⟨ps_setLc hc hN hy hyl hsw hi.pi ok (fun s H C cl fp => g_all s H C cl fp (hg s H C cl fp)) (fun s H C cl fp => t_all s H C cl fp (ht s H C cl fp)) (fun s H C cl fp => e_all s H C cl fp (he s H C cl fp)) hs, sr_asg hx.e (gr_name hp)⟩
theorem se_setLc {i : Nat} {y : Str} {py spos : Pos} (hc : X.calm = true) (hN : X.N.Nodup) (hy : X.N[i]? = some y) (hyl : X.env.scope.names.lookup y = some .local)
    (hsw : swapsWith (.ListComp elt [⟨tg, iter, ifs, 0⟩] scope pos) (some (.Name y py)) spos.line X.env = pure true) (hi : IK X tg iter wi src) (ok : BlkOk X.N X.env.scope scope own)
    (hg : ∀ (s : Shared) (H : Hp) (C : Addr) (cl : List (Str × Addr)) (fp : List Addr), ∃ g, GQ (X.blk s H scope (compEnvC scope cl C X.env) fp) (pinC (own.map (·.2))) tg g f)
    (ht : ∀ (s : Shared) (H : Hp) (C : Addr) (cl : List (Str × Addr)) (fp : List Addr), ∃ tt, TS' (X.blk s H scope (compEnvC scope cl C X.env) fp) ifs tt c)
    (he : ∀ (s : Shared) (H : Hp) (C : Addr) (cl : List (Str × Addr)) (fp : List Addr), ∃ te, QE (X.blk s H scope (compEnvC scope cl C X.env) fp) elt te x) (hp : P i = false)
    (hs : ∀ x, foldedSetIterable iter X.env x = pure x := by intro _; rfl) :
    SE X P (.Assign [.Name y py] (.ListComp elt [⟨tg, iter, ifs, 0⟩] scope pos) spos) (tAsg (tLc wi (gAll X scope (pinC (own.map (·.2))) tg f) (tAll X scope ifs c) (eAll X scope elt x) (own.map (·.2))) (gName i)) (sAsg (eQ (qLc (own.map (·.2)) src f c x)) (gSet i)) :=
  se_setLc0 hc hN hy hyl hsw hi ok hg ht he hp (qr_lc hi.ir g_allR t_allR e_allR) hs
end
end GK

/-! GK17: defs and calls. -/
namespace GK
open PySem L2 PySem.Spec PyProof.Rows

/-- a promise by trees: fn gives the value and what became of the arguments -/
def spV (K : PySem.W.Frag) (mg : Str → Option Value) (fn : List T → Option (T × List T)) (vs : List V) (H : Hp) (Q : VK) : Prop := ∃ H1 F ts t ts', Same H1 H ∧ Reps K mg H1 H vs ts F ∧ fn ts = some (t, ts') ∧
  ∀ v H1' H' F' Ft, Ext H1 H F H1' H' (fun b => F' b ∨ Ft b) → Reps K mg H1' H' vs ts' F' → Rep K mg H1' H' v t Ft → (∀ b, F' b → ¬ Ft b) → Q v H'
/-- a def, called where no guard stands -/
structure FnG (P : Program) (w : World) (K : PySem.W.Frag) (mg : Str → Option Value) (base : Heap) (k : Nat) (f : Addr) (fd : FuncData) (ps : List Str) (fn : List T → Option (T × List T)) : Prop where
  arity : ∀ ts r, fn ts = some r → ts.length = ps.length
  meets : ∀ (A : Around) (outer : List PySem.Env) (s : Shared) (H : Hp) (args : Args) (us : List Value) (vs : List V) (Q : VK), Room k A → A.guards = some [] → Env0 P w K mg base A outer s H → BindsTo s fd args (ps.zip us) → Vals vs us → spV K mg fn vs H Q →
    codeAny (model P w) A (.call (.ref f) args) (CR CX0 outer P w H s Q E0) s
/-- what may be called in a body: with us, and ws under the names ks -/
structure Callee (X : Cx) (f : Value) (ks : List Str) (fn : List T → Option (T × List T)) : Prop where
  keep : PySem.W.keepIn X.K f = true
  run : ∀ (pins : List (Addr × Obj)) (σ : L2.St) (H : Hp) (s : Shared) (Q : VK) (us ws : List Value) (vs zs : List V), Inv X pins σ H s → Vals vs us → Vals zs ws → zs.length = ks.length → spV X.K X.mg fn (vs ++ zs) H Q →
    wpAny (model X.prog X.w) X.A (call f us (ks.zip ws)) (EP X pins σ Q) X.xe s
theorem guards_deep {A : Around} {e : PySem.Env} (h : A.guards = some []) : (A.deeper e).guards = some [] := by
  first
    | exact h
    | simpa [Around.deeper] using h
theorem guards_make {A : Around} {C : Addr} {us : List Value} {kw : List (Str × Value)} (h : A.guards = some []) : (A.under (.builtin "type.__call__" ⟨.ref C :: us, kw⟩)).guards = some [] := by
  have e : (Code.builtin "type.__call__" ⟨.ref C :: us, kw⟩).guards = [] := by
    first
      | rfl
      | decide
      | simp [Code.guards, Code.isGuard, guardIds]
  show pushGuards (Code.builtin "type.__call__" ⟨.ref C :: us, kw⟩).guards A.guards = some []
  rw [e, h]
  rfl
section
variable {X : Cx} {k : Nat} {f C : Addr} {fd : FuncData} {ps : List Str} {fn : List T → Option (T × List T)}
theorem Reps.len2 {vs : List V} {ts : List T} {H1 H : Hp} {F : FP} {K : PySem.W.Frag} {mg : Str → Option Value} (r : Reps K mg H1 H vs ts F) : ts.length = vs.length := r.len.symm
/-- a def of the module -/
theorem callee_fn (F : FnG X.prog X.w X.K X.mg X.base k f fd ps fn) (hr : Room k X.A) (hg : X.A.guards = some []) (kp : PySem.W.keepIn X.K (.ref f) = true) (hb : Binds X.K fd ps []) : Callee X (.ref f) [] fn :=
  ⟨kp, fun pins σ H s Q us ws vs zs I r rz hl h => by
    obtain rfl : zs = [] := List.eq_nil_of_length_eq_zero hl
    cases rz
    rw [List.append_nil] at h
    have hn : us.length = ps.length := by
      obtain ⟨H1, G, ts, t, ts', s1, rr, e, q⟩ := h
      rw [← r.length, rr.len, F.arity _ _ e]
    refine wpAny_call (codeAny_mono (F.meets X.A X.stack s H ⟨us, []⟩ us vs Q hr hg I.env0 (by
      have hb' := hb s us I.kIn (by rw [List.append_nil]; exact hn)
      rw [List.append_nil] at hb'
      exact hb') r h) fun o s' ho => ?_)
    cases o with
    | error e => exact False.elim ho
    | ok fl =>
      cases fl with
      | ret u => exact I.after ho
      | next => exact False.elim ho
      | brk => exact False.elim ho
      | cont => exact False.elim ho⟩
/-- a constructor: what __init__ makes of a new object -/
def mkMake (c : String) (fn : List T → Option (T × List T)) (ts : List T) : Option (T × List T) := match fn (.obj true c [] :: ts) with
  | some (.non, o :: ts') => some (o, ts')
  | _ => none
theorem make_road {K : PySem.W.Frag} {mg : Str → Option Value} {c : String} {H : Hp} {vs : List V} {Q : VK} {x dx : Addr} (hc : mg (Str.ofString c) = some (.ref C)) (h : spV K mg (mkMake c fn) vs H Q) (nx : H x = none) (nd : H dx = none) (ne : dx ≠ x) :
    spV K mg fn (.ref x :: vs) (upd (upd H dx (.own x)) x (.ins C dx [])) (fun v H2 => v = .non ∧ Q (.ref x) H2) := by
  obtain ⟨H1, F, ts, t, ts', s, r, e, q⟩ := h
  unfold mkMake at e
  split at e
  · rename_i o tr e1
    cases e
    have x1 : Ext H1 H F H1 (upd H dx (.own x)) (fun b => b = dx ∨ F b) := Ext.newO s nd
    have nx' : upd H dx (.own x) x = none := by rw [upd_ne (fun z => ne z.symm)]; exact nx
    have x2 : Ext H1 (upd H dx (.own x)) (fun b => b = dx ∨ F b) H1 (upd (upd H dx (.own x)) x (.ins C dx [])) (fun b => b = x ∨ (b = dx ∨ F b)) := Ext.newO x1.sub nx'
    have out : ∀ {a : Addr}, H a = none → ¬ F a := fun {a} n z => by
      obtain ⟨_, o, e⟩ := r.own a z
      rw [n] at e; cases e
    have r1 : Reps K mg H1 (upd (upd H dx (.own x)) x (.ins C dx [])) vs ts F := r.frame (Same.refl _) fun b z => ⟨by rw [upd_ne (by rintro rfl; exact out nx z), upd_ne (by rintro rfl; exact out nd z)], (r.own b z).1⟩
    refine ⟨H1, fun b => (b = x ∨ F0 b) ∨ F b, .obj true c [] :: ts, .non, _, x2.sub, .cons (.obj upd_same (s.free nx) hc .nil fun z => z) r1 (fun b z w => z.elim (fun z => out nx (z ▸ w)) id), e1, fun v H1' H' F' Ft x3 r3 rv d => ?_⟩
    cases rv with
    | sh rv =>
      cases rv
      refine ⟨rfl, ?_⟩
      cases r3 with
      | cons a1 a2 a3 =>
        rename_i Fo Fr
        refine q (.ref x) H1' H' Fr Fo ?_ a2 a1 fun b z w => a3 b w z
        have x4 := (x1.trans x2).trans (x3.more (G := fun b => b = x ∨ (b = dx ∨ F b)) fun b z => z.elim (fun z => z.elim .inl fun z => z.elim) fun z => .inr (.inr z))
        exact x4.less fun b z => .inl (z.symm)
  · cases e
theorem callee_make {c : String} (M : Mk X.K C f) (F : FnG X.prog X.w X.K X.mg X.base k f fd ps fn) (hr : Room (k + 1) X.A) (hg : X.A.guards = some []) (hc : X.mg (Str.ofString c) = some (.ref C)) (hb : Binds X.K fd ps []) : Callee X (.ref C) [] (mkMake c fn) :=
  ⟨M.kp, fun pins σ H s Q us ws vs zs I r rz hl h => by
    obtain rfl : zs = [] := List.eq_nil_of_length_eq_zero hl
    cases rz
    rw [List.append_nil] at h
    have hq := make_road (x := s.heap.objs.size + 1) (dx := s.heap.objs.size) hc h (I.hok.fresh (Nat.le_succ _)) (I.hok.fresh (Nat.le_refl _)) (Nat.ne_of_lt (Nat.lt_succ_self _))
    have J := Inv.made (C := C) I
    have r2 : Vals (V.ref (s.heap.objs.size + 1) :: vs) (Value.ref (s.heap.objs.size + 1) :: us) := .cons rfl r
    have hn : (Value.ref (s.heap.objs.size + 1) :: us).length = ps.length := by
      obtain ⟨H1, G, ts, t, ts', s1, rr, e, q⟩ := hq
      rw [← r2.length, rr.len, F.arity _ _ e]
    have hb' := hb _ (Value.ref (s.heap.objs.size + 1) :: us) J.kIn (by rw [List.append_nil]; exact hn)
    rw [List.append_nil] at hb'
    refine wpAny_call (make_map (f := f) I.kIn M.makes M.init (beq_iff_eq.mp M.fn) (codeAny_mono (F.meets _ X.stack _ _ ⟨Value.ref (s.heap.objs.size + 1) :: us, []⟩ _ _ _ (hr.make C us []) (guards_make hg) (J.env0.make C us []) hb' r2 hq) fun o s' ho => ?_))
    cases o with
    | error e => exact False.elim ho
    | ok fl =>
      cases fl with
      | ret u =>
        obtain ⟨v, H', J2, rv, ev, q2⟩ := J.after ho
        subst ev
        exact ⟨rv, ⟨V.ref (s.heap.objs.size + 1), H', J2, rfl, q2⟩⟩
      | next => exact False.elim ho
      | brk => exact False.elim ho
      | cont => exact False.elim ho⟩
end

/-! ### defaults -/
def withD (dts : List T) (fn : List T → Option (T × List T)) (ts : List T) : Option (T × List T) := match fn (ts ++ dts) with
  | some (t, us) => some (t, us.take ts.length)
  | none => none
theorem Reps.take {K : PySem.W.Frag} {mg : Str → Option Value} {H1 H : Hp} : ∀ (vs : List V) {ws : List V} {us : List T} {F : FP}, Reps K mg H1 H (vs ++ ws) us F → ∃ G, Reps K mg H1 H vs (us.take vs.length) G ∧ ∀ b, G b → F b
  | [], _, _, _, _ => ⟨F0, by rw [List.length_nil, List.take_zero]; exact .nil, fun _ z => z.elim⟩
  | v :: vs, ws, _, _, .cons a r d => by
    obtain ⟨G, h1, h2⟩ := Reps.take vs r
    exact ⟨_, .cons a h1 fun b z w => d b z (h2 b w), fun b z => z.imp id (h2 b)⟩
theorem with_road {K : PySem.W.Frag} {mg : Str → Option Value} {dvs : List V} {dts : List T} {fn : List T → Option (T × List T)} {vs : List V} {H : Hp} {Q : VK} (fz : ∀ H, Fzs K mg H dvs dts) (h : spV K mg (withD dts fn) vs H Q) : spV K mg fn (vs ++ dvs) H Q := by
  obtain ⟨H1, F, ts, t, ts', s, r, e, q⟩ := h
  unfold withD at e
  split at e
  · rename_i u us e1
    cases e
    obtain ⟨G0, h4, h5⟩ := (fz H1).reps (H := H)
    have rr : ∃ F', Reps K mg H1 H (vs ++ dvs) (ts ++ dts) F' ∧ ∀ b, F' b ↔ F b ∨ G0 b := by
      have key : ∀ {vs : List V} {ts : List T} {F : FP}, Reps K mg H1 H vs ts F → ∃ F', Reps K mg H1 H (vs ++ dvs) (ts ++ dts) F' ∧ ∀ b, F' b ↔ F b ∨ G0 b := by
        intro vs ts F r
        exact r.append h4 fun b _ w => h5 b w
      exact key r
    obtain ⟨F', r2, hF⟩ := rr
    refine ⟨H1, F', _, _, us, s, r2, e1, fun v H1' H' F2 Ft x r3 rv d => ?_⟩
    obtain ⟨G, r4, hG⟩ := r3.take vs
    rw [r.len] at r4
    refine q v H1' H' G Ft ((x.more (G := F) fun b z => ((hF b).mp z).elim id fun z => (h5 b z).elim).less fun b z => z.imp (hG b) id) r4 rv fun b z => d b (hG b z)
  · cases e
section
variable {X : Cx} {k : Nat} {f C : Addr} {fd : FuncData} {ps : List Str} {fn : List T → Option (T × List T)} {dvs : List V} {ds : List Value} {dts : List T}
theorem callee_fnD (F : FnG X.prog X.w X.K X.mg X.base k f fd ps fn) (hr : Room k X.A) (hg : X.A.guards = some []) (kp : PySem.W.keepIn X.K (.ref f) = true) (hb : Binds X.K fd ps ds) (hd : Vals dvs ds) (fz : ∀ H, Fzs X.K X.mg H dvs dts) : Callee X (.ref f) [] (withD dts fn) :=
  ⟨kp, fun pins σ H s Q us ws vs zs I r rz hl h => by
    obtain rfl : zs = [] := List.eq_nil_of_length_eq_zero hl
    cases rz
    rw [List.append_nil] at h
    have h' := with_road fz h
    have r2 : Vals (vs ++ dvs) (us ++ ds) := r.append hd
    have hn : (us ++ ds).length = ps.length := by
      obtain ⟨H1, G, ts, t, ts', s1, rr, e, q⟩ := h'
      rw [← r2.length, rr.len, F.arity _ _ e]
    refine wpAny_call (codeAny_mono (F.meets X.A X.stack s H ⟨us, []⟩ (us ++ ds) (vs ++ dvs) Q hr hg I.env0 (hb s us I.kIn hn) r2 h') fun o s' ho => ?_)
    cases o with
    | error e => exact False.elim ho
    | ok fl =>
      cases fl with
      | ret u => exact I.after ho
      | next => exact False.elim ho
      | brk => exact False.elim ho
      | cont => exact False.elim ho⟩
theorem callee_makeD {c : String} (M : Mk X.K C f) (F : FnG X.prog X.w X.K X.mg X.base k f fd ps fn) (hr : Room (k + 1) X.A) (hg : X.A.guards = some []) (hc : X.mg (Str.ofString c) = some (.ref C)) (hb : Binds X.K fd ps ds) (hd : Vals dvs ds) (fz : ∀ H, Fzs X.K X.mg H dvs dts) : Callee X (.ref C) [] (mkMake c (withD dts fn)) :=
  ⟨M.kp, fun pins σ H s Q us ws vs zs I r rz hl h => by
    obtain rfl : zs = [] := List.eq_nil_of_length_eq_zero hl
    cases rz
    rw [List.append_nil] at h
    have hq := with_road fz (make_road (x := s.heap.objs.size + 1) (dx := s.heap.objs.size) hc h (I.hok.fresh (Nat.le_succ _)) (I.hok.fresh (Nat.le_refl _)) (Nat.ne_of_lt (Nat.lt_succ_self _)))
    have J := Inv.made (C := C) I
    have r2 : Vals (V.ref (s.heap.objs.size + 1) :: vs ++ dvs) (Value.ref (s.heap.objs.size + 1) :: us ++ ds) := (show Vals (V.ref (s.heap.objs.size + 1) :: vs) (Value.ref (s.heap.objs.size + 1) :: us) from .cons rfl r).append hd
    have hn : (Value.ref (s.heap.objs.size + 1) :: us ++ ds).length = ps.length := by
      obtain ⟨H1, G, ts, t, ts', s1, rr, e, q⟩ := hq
      rw [← r2.length, rr.len, F.arity _ _ e]
    refine wpAny_call (make_map (f := f) I.kIn M.makes M.init (beq_iff_eq.mp M.fn) (codeAny_mono (F.meets _ X.stack _ _ ⟨Value.ref (s.heap.objs.size + 1) :: us, []⟩ _ _ _ (hr.make C us []) (guards_make hg) (J.env0.make C us []) (hb _ (Value.ref (s.heap.objs.size + 1) :: us) J.kIn hn) r2 hq) fun o s' ho => ?_))
    cases o with
    | error e => exact False.elim ho
    | ok fl =>
      cases fl with
      | ret u =>
        obtain ⟨v, H', J2, rv, ev, q2⟩ := J.after ho
        subst ev
        exact ⟨rv, ⟨V.ref (s.heap.objs.size + 1), H', J2, rfl, q2⟩⟩
      | next => exact False.elim ho
      | brk => exact False.elim ho
      | cont => exact False.elim ho⟩
end
/-! ### calls by name -/
def tCallF (K : PySem.W.Frag) (mg : Str → Option Value) (fn : List T → Option (T × List T)) (t : TA) : TE := fun σ H Q => t σ H fun vs H1 => spV K mg fn vs H1 Q
section
variable {X : Cx} {f : Value} {fn : List T → Option (T × List T)} {x : Str} {p pos : Pos} {e : Expr} {es : List Expr} {tl : TA} {te : TE} {xs : Env → Option (List T)} {y : Env → Option (T × Env)}
theorem pe_callF (C : Callee X f [] fn) (hg : Gl X x) (hm : X.mg x = some f) (hv : ∃ a, f = .ref a) (ha : PA X (e :: es) tl) (hdb : (x == ("__debug__" : Str)) = false := by decide) (he : starEach (e :: es) X.env = (false, eval e X.env) :: starEach es X.env := by rfl)
    (hpl : (backTo pos (starEach es X.env)).any (·.1) = false := by rfl) : PE X (.Call (.Name x p) (e :: es) [] pos) (tCallF X.K X.mg fn tl) := by
  obtain ⟨a, rfl⟩ := hv
  refine ⟨fun pins s σ H Q I h => wpAny_Call_Name_kw (ld_glob I hg hm (PySem.W.callWith_K (h₀ := X.base) I.ok.mod.kin C.keep (thn (ha.run pos pins s σ H _ I h) fun us s1 ⟨vs, H1, I1, r, q⟩ => ⟨I1.kIn, ?_⟩) he hpl) hdb)⟩
  exact C.run pins σ H1 s1 Q us [] vs [] I1 r .nil rfl (by rw [List.append_nil]; exact q)
/-- nothing of the environment is changed -/
def qCall (fn : List T → Option (T × List T)) (xs : Env → Option (List T)) : Env → Option T := fun env => match xs env with
  | none => none
  | some ts => match fn ts with
    | some (t, _) => some t
    | none => none
theorem qe_call (C : Callee X f [] fn) (hg : Gl X x) (hm : X.mg x = some f) (hv : ∃ a, f = .ref a) (ha : QA X (e :: es) tl xs) (hdb : (x == ("__debug__" : Str)) = false := by decide) (he : starEach (e :: es) X.env = (false, eval e X.env) :: starEach es X.env := by rfl)
    (hpl : (backTo pos (starEach es X.env)).any (·.1) = false := by rfl) : QE X (.Call (.Name x p) (e :: es) [] pos) (tCallF X.K X.mg fn tl) (qCall fn xs) := ⟨pe_callF C hg hm hv ha.pa hdb he hpl, fun env t e H1 H σ F s R Q q => by
  unfold qCall at e
  split at e
  · cases e
  · rename_i ts e1
    split at e
    · rename_i u us e2
      cases e
      exact ha.qr _ _ e1 _ _ _ _ s R _ fun vs Ha Hb Ft x1 r1 => ⟨Ha, Ft, ts, _, us, x1.sub, r1, e2, fun v H1' H' F' Fv x2 r2 rv d => q v H1' H' Fv ((x1.trans x2).less fun _ z => .inr z) rv⟩
    · cases e⟩

/-! ### names lent -/
inductive Ar where
  | lent (i : Nat) | val (t : T)
inductive ArR (K : PySem.W.Frag) (mg : Str → Option Value) (H1 H : Hp) (σ : L2.St) : List V → List Ar → FP → Prop
  | nil : ArR K mg H1 H σ [] [] F0
  | lent {i : Nat} {v : V} {vs : List V} {as : List Ar} {F : FP} : σ[i]? = some (some v) → ArR K mg H1 H σ vs as F → ArR K mg H1 H σ (v :: vs) (.lent i :: as) F
  | val {t : T} {v : V} {vs : List V} {as : List Ar} {F G : FP} : Rep K mg H1 H v t F → ArR K mg H1 H σ vs as G → (∀ b, F b → ¬ G b) → ArR K mg H1 H σ (v :: vs) (.val t :: as) (fun b => F b ∨ G b)
def ELR (K : PySem.W.Frag) (mg : Str → Option Value) (ta : TA) (x : Env → Option (List Ar × Env)) : Prop := ∀ env as env', x env = some (as, env') → ∀ H1 H σ F, Same H1 H → RepE K mg H1 H σ env F → ∀ Q : List V → Hp → Prop,
  (∀ vs H1' H' F' Ft, Ext H1 H F H1' H' (fun b => F' b ∨ Ft b) → RepE K mg H1' H' σ env' F' → ArR K mg H1' H' σ vs as Ft → (∀ b, F' b → ¬ Ft b) → Q vs H') → ta σ H Q
structure EL (X : Cx) (es : List Expr) (ta : TA) (x : Env → Option (List Ar × Env)) : Prop where
  pa : PA X es ta
  er : ELR X.K X.mg ta x
def lNil : Env → Option (List Ar × Env) := fun env => some ([], env)
def lLent (i : Nat) (ys : Env → Option (List Ar × Env)) : Env → Option (List Ar × Env) := fun env => match env[i]? with
  | some (some _) => (match ys env with | some (as, env1) => some (.lent i :: as, env1) | none => none)
  | _ => none
def lVal (y : Env → Option (T × Env)) (ys : Env → Option (List Ar × Env)) : Env → Option (List Ar × Env) := fun env => match y env with
  | some (t, env1) => (match ys env1 with | some (as, env2) => some (.val t :: as, env2) | none => none)
  | none => none
theorem ArR.own {K : PySem.W.Frag} {mg : Str → Option Value} {H1 H : Hp} {σ : L2.St} : ∀ {vs : List V} {as : List Ar} {F : FP}, ArR K mg H1 H σ vs as F → ∀ b, F b → H1 b = none ∧ ∃ o, H b = some o
  | _, _, _, .nil, b, h => h.elim
  | _, _, _, .lent _ r, b, h => ArR.own r b h
  | _, _, _, .val a r _, b, h => h.elim (a.own b) (ArR.own r b)
theorem el_nil : EL X [] tNil lNil := ⟨pa_nil, fun env as env' e H1 H σ F s R Q q => by cases e; exact q [] H1 H F F0 ((Ext.refl s).less fun b z => z.elim id fun z => z.elim) R .nil fun _ _ z => z⟩
variable {ls : Env → Option (List Ar × Env)}
theorem el_lent (i : Nat) {z : Str} {zp : Pos} (h : PE X (.Name z zp) (tVar i)) (hr : EL X es tl ls) (hs : starEach (.Name z zp :: es) X.env = (false, eval (.Name z zp) X.env) :: starEach es X.env := by rfl) : EL X (.Name z zp :: es) (tCons (tVar i) tl) (lLent i ls) := ⟨pa_cons h hr.pa hs, fun env as env' e H1 H σ F s R Q q => by
  unfold lLent at e
  split at e
  · rename_i t e1
    split at e
    · rename_i bs env1 e2
      cases e
      obtain ⟨v, Fi, h1, h2, h3⟩ := R.get e1
      refine ⟨v, h1, hr.er _ _ _ e2 _ _ _ _ s R _ fun vs H1' H' F' Ft x1 R1 r1 d1 => q (v :: vs) H1' H' F' Ft x1 R1 (.lent h1 r1) d1⟩
    · cases e
  · cases e⟩
theorem el_val (h : EE X e te y) (hr : EL X es tl ls) (hs : starEach (e :: es) X.env = (false, eval e X.env) :: starEach es X.env := by rfl) : EL X (e :: es) (tCons te tl) (lVal y ls) := ⟨pa_cons h.pe hr.pa hs, fun env as env' e H1 H σ F s R Q q => by
  unfold lVal at e
  split at e
  · rename_i t env1 e1
    split at e
    · rename_i bs env2 e2
      cases e
      refine h.er _ _ _ e1 _ _ _ _ s R _ fun v Ha Hb F1 G1 x1 R1 r1 d1 => hr.er _ _ _ e2 _ _ _ _ x1.sub R1 _ fun vs Hc Hd F2 G2 x2 R2 r2 d2 => ?_
      obtain ⟨x3, k, n⟩ := eff2 x1 x2 r1.own d1
      exact q (v :: vs) Hc Hd F2 _ x3 R2 (.val (r1.frame x2.s1 k) r2 fun b z w => n b z (.inr w)) fun b z w => w.elim (fun w => n b w (.inl z)) (d2 b z)
    · cases e
  · cases e⟩
def fill : List Ar → Env → Option (List T × Env)
  | [], env => some ([], env)
  | .lent i :: r, env => match env[i]? with
    | some (some t) => (match fill r (env.set i none) with | some (ts, env1) => some (t :: ts, env1) | none => none)
    | _ => none
  | .val t :: r, env => match fill r env with | some (ts, env1) => some (t :: ts, env1) | none => none
theorem fill_rep {K : PySem.W.Frag} {mg : Str → Option Value} {H1 H : Hp} {σ : L2.St} : ∀ {vs : List V} {as : List Ar} {F Fa : FP} {env env1 : Env} {ts : List T}, ArR K mg H1 H σ vs as Fa → RepE K mg H1 H σ env F → (∀ b, F b → ¬ Fa b) → fill as env = some (ts, env1) →
    ∃ G G1, Reps K mg H1 H vs ts G ∧ RepE K mg H1 H σ env1 G1 ∧ (∀ b, G b → ¬ G1 b) ∧ (∀ b, G b → F b ∨ Fa b) ∧ ∀ b, G1 b → F b
  | _, _, F, _, env, env1, ts, .nil, R, d, e => by
    cases e
    exact ⟨F0, F, .nil, R, fun _ z => z.elim, fun _ z => z.elim, fun _ z => z⟩
  | _, _, F, _, env, env1, ts, .lent (i := i) (v := v) h r, R, d, e => by
    unfold fill at e
    split at e
    · rename_i t e1
      split at e
      · rename_i us env2 e2
        cases e
        obtain ⟨v', Fi, G0, h1, h2, h3, h4, h5, h6⟩ := R.take e1
        rw [h] at h1
        cases h1
        obtain ⟨G, G1, k1, k2, k3, k4, k5⟩ := fill_rep r h3 (fun b z => d b (h6 b z)) e2
        refine ⟨_, G1, .cons h2 k1 fun b z w => (k4 b w).elim (h4 b z) (d b (h5 b z)), k2, fun b z w => z.elim (fun z => h4 b z (k5 b w)) fun z => k3 b z w, fun b z => z.elim (fun z => .inl (h5 b z)) fun z => (k4 b z).imp (h6 b) id, fun b z => h6 b (k5 b z)⟩
      · cases e
    · cases e
  | _, _, F, _, env, env1, ts, .val (v := v) a r d1, R, d, e => by
    unfold fill at e
    split at e
    · rename_i us env2 e2
      cases e
      obtain ⟨G, G1, k1, k2, k3, k4, k5⟩ := fill_rep r R (fun b z w => d b z (.inr w)) e2
      exact ⟨_, G1, .cons a k1 fun b z w => (k4 b w).elim (fun q => d b q (.inl z)) (d1 b z), k2, fun b z w => z.elim (fun z => d b (k5 b w) (.inl z)) fun z => k3 b z w, fun b z => z.elim (fun z => .inr (.inl z)) fun z => (k4 b z).imp id .inr, k5⟩
    · cases e
def unfill : List Ar → List T → Env → Option Env
  | [], [], env => some env
  | .lent i :: r, t :: ts, env => if i < env.length then unfill r ts (env.set i (some t)) else none
  | .val _ :: r, _ :: ts, env => unfill r ts env
  | _, _, _ => none
theorem unfill_rep {K : PySem.W.Frag} {mg : Str → Option Value} {H1 H H2 H2' : Hp} {σ : L2.St} : ∀ {vs : List V} {as : List Ar} {Fa F' G : FP} {env env1 : Env} {ts : List T}, ArR K mg H1 H σ vs as Fa → Reps K mg H2 H2' vs ts F' → RepE K mg H2 H2' σ env G → (∀ b, F' b → ¬ G b) → unfill as ts env = some env1 →
    ∃ F2, RepE K mg H2 H2' σ env1 F2 ∧ ∀ b, F2 b → F' b ∨ G b
  | _, _, _, _, G, env, env1, _, .nil, .nil, R, d, e => by
    cases e
    exact ⟨G, R, fun _ z => .inr z⟩
  | _, _, _, _, G, env, env1, _, .lent (i := i) (v := v) h r, .cons a r2 d2, R, d, e => by
    unfold unfill at e
    split at e
    · rename_i hi
      obtain ⟨F1, R1, h1⟩ := R.put (i := i) hi a fun b z => d b (.inl z)
      rw [set_id h] at R1
      obtain ⟨F2, R2, h2⟩ := unfill_rep r r2 R1 (fun b z w => (h1 b w).elim (fun w => d2 b w z) (d b (.inr z))) e
      exact ⟨F2, R2, fun b z => (h2 b z).elim (fun z => .inl (.inr z)) fun z => (h1 b z).elim (fun z => .inl (.inl z)) .inr⟩
    · cases e
  | _, _, _, _, G, env, env1, _, .val a r d1, .cons a2 r2 d2, R, d, e => by
    unfold unfill at e
    obtain ⟨F2, R2, h2⟩ := unfill_rep r r2 R (fun b z => d b (.inr z)) e
    exact ⟨F2, R2, fun b z => (h2 b z).imp .inr id⟩
def eCall (fn : List T → Option (T × List T)) (ls : Env → Option (List Ar × Env)) : Env → Option (T × Env) := fun env => match ls env with
  | none => none
  | some (as, env1) => match fill as env1 with
    | none => none
    | some (ts, env2) => match fn ts with
      | none => none
      | some (t, ts') => match unfill as ts' env2 with
        | none => none
        | some env3 => some (t, env3)
theorem ee_call (C : Callee X f [] fn) (hg : Gl X x) (hm : X.mg x = some f) (hv : ∃ a, f = .ref a) (ha : EL X (e :: es) tl ls) (hdb : (x == ("__debug__" : Str)) = false := by decide) (he : starEach (e :: es) X.env = (false, eval e X.env) :: starEach es X.env := by rfl)
    (hpl : (backTo pos (starEach es X.env)).any (·.1) = false := by rfl) : EE X (.Call (.Name x p) (e :: es) [] pos) (tCallF X.K X.mg fn tl) (eCall fn ls) := ⟨pe_callF C hg hm hv ha.pa hdb he hpl, fun env t env' e H1 H σ F s R Q q => by
  unfold eCall at e
  split at e
  · cases e
  · rename_i as env1 e1
    split at e
    · cases e
    · rename_i ts env2 e2
      split at e
      · cases e
      · rename_i u ts' e3
        split at e
        · cases e
        · rename_i env3 e4
          cases e
          refine ha.er _ _ _ e1 _ _ _ _ s R _ fun vs Ha Hb F1 Ft x1 R1 r1 d1 => ?_
          obtain ⟨G, G1, k1, k2, k3, k4, k5⟩ := fill_rep r1 R1 d1 e2
          refine ⟨Ha, G, ts, _, ts', x1.sub, k1, e3, fun v H1' H' F' Fv x2 r2 rv d2 => ?_⟩
          obtain ⟨R2, n2⟩ := x2.repE k2 fun b z w => k3 b w z
          obtain ⟨F2, R3, h3⟩ := unfill_rep r1 r2 R2 (fun b z w => n2 b w (.inl z)) e4
          have x3 : Ext Ha Hb (fun b => F1 b ∨ Ft b) H1' H' (fun b => F2 b ∨ Fv b) :=
            ⟨x2.s1, x2.sub, fun b o z n => x2.keep b o z fun w => n (k4 b w), fun b z => z.elim (fun z => (h3 b z).elim (fun z => (x2.foot b (.inl z)).imp (k4 b) id) fun z => .inl (.inl (k5 b z))) fun z => (x2.foot b (.inr z)).imp (k4 b) id, fun b o z => (x2.new1 b o z).imp id fun z => z.imp (k4 b) id⟩
          exact q v H1' H' F2 Fv (x1.trans x3) R3 rv fun b z w => (h3 b z).elim (fun z => d2 b z w) fun z => n2 b z (.inr w)⟩
end

/-! ### a def, by its body -/
def back (P : Nat → Bool) : Nat → List T → Env → Option (List T)
  | _, [], _ => some []
  | k, t :: r, env => if t.sh then (match back P (k + 1) r env with | some us => some (t :: us) | none => none) else
    if P k then (match env[k]? with
      | some (some u) => (match back P (k + 1) r (env.set k none) with | some us => some (u :: us) | none => none)
      | _ => none) else none
def mkFn (n m : Nat) (P : Nat → Bool) (body : Env → Option Out) (ts : List T) : Option (T × List T) :=
  if ts.length = n then (match body (ts.map some ++ List.replicate (m - n) none) with
    | some (.nx env') => (match back P 0 ts env' with | some ts' => some (.non, ts') | none => none)
    | some (.rt t env') => (match back P 0 ts env' with | some ts' => some (t, ts') | none => none)
    | _ => none) else none
section
variable {K : PySem.W.Frag} {mg : Str → Option Value}
theorem repE_none {H1 H : Hp} : ∀ j : Nat, RepE K mg H1 H (List.replicate j none) (List.replicate j none) F0
  | 0 => .nil
  | j + 1 => .no (repE_none j)
theorem repE_start {H1 H : Hp} (j : Nat) : ∀ {vs : List V} {ts : List T} {F : FP}, Reps K mg H1 H vs ts F → ∃ F', RepE K mg H1 H (vs.map some ++ List.replicate j none) (ts.map some ++ List.replicate j none) F' ∧ ∀ b, F' b ↔ F b
  | _, _, _, .nil => ⟨F0, repE_none j, fun _ => Iff.rfl⟩
  | _, _, _, .cons a r d => by
    obtain ⟨F', R, h⟩ := repE_start j r
    exact ⟨_, .cons a R fun b z w => d b z ((h b).mp w), fun b => ⟨fun z => z.imp id (h b).mp, fun z => z.imp id (h b).mpr⟩⟩
theorem back_rep {P : Nat → Bool} {H1 H H1' H' : Hp} {σ : L2.St} (s1 : Same H1 H1') : ∀ {vs : List V} {ts us : List T} {F F' : FP} {k : Nat} {env : Env}, Reps K mg H1 H vs ts F → RepE K mg H1' H' σ env F' → (∀ j v, vs[j]? = some v → P (k + j) = true → σ[k + j]? = some (some v)) → back P k ts env = some us →
    ∃ G, Reps K mg H1' H' vs us G ∧ ∀ b, G b → F' b
  | _, _, _, _, F', k, env, .nil, R, h, e => by
    cases e
    exact ⟨F0, .nil, fun _ z => z.elim⟩
  | _, _, us, _, F', k, env, .cons (v := v) (vs := vs) a r d, R, h, e => by
    have h' : ∀ j w, vs[j]? = some w → P (k + 1 + j) = true → σ[k + 1 + j]? = some (some w) := fun j w hj hp => by
      have q := h (j + 1) w (by simpa using hj)
      rw [show k + (j + 1) = k + 1 + j by omega] at q
      exact q hp
    unfold back at e
    split at e
    · rename_i hs
      split at e
      · rename_i ws e1
        cases e
        obtain ⟨G, r1, h1⟩ := back_rep s1 r R h' e1
        exact ⟨_, .cons (.sh ((a.fzOf hs).mono s1)) r1 fun _ z => z.elim, fun b z => z.elim (fun z => z.elim) (h1 b)⟩
      · cases e
    · split at e
      · rename_i hp
        split at e
        · rename_i u e1
          split at e
          · rename_i ws e2
            cases e
            obtain ⟨v', Fi, G0, k1, k2, k3, k4, k5, k6⟩ := R.take e1
            have q := h 0 v rfl (by simpa using hp)
            rw [Nat.add_zero, k1] at q
            cases q
            obtain ⟨G, r1, h1⟩ := back_rep s1 r k3 h' e2
            exact ⟨_, .cons k2 r1 fun b z w => k4 b z (h1 b w), fun b z => z.elim (k5 b) fun z => k6 b (h1 b z)⟩
          · cases e
        · cases e
      · cases e
variable {P : Program} {w : World} {base : Heap} {x qual : Str} {st : Stmt} {f : Addr} {fd : FuncData} {N ps : List Str} {k : Nat}
/-- the context of a def's body -/
abbrev bodyCx (P : Program) (w : World) (K : PySem.W.Frag) (mg : Str → Option Value) (base : Heap) (N : List Str) (qual : Str) (st : Stmt) (f : Addr) (cdv : Value) (A : Around) (outer : List PySem.Env) (s : Shared) (H : Hp) : Cx :=
  (cxOf CX0 P w K mg base N qual (defScope st) f cdv A outer s H E0).nox
/-- a def as it stands behind the top, whatever its defaults -/
structure FunX (K : PySem.W.Frag) (x qual : Str) (st : Stmt) (f : Addr) (fd : FuncData) : Prop where
  ex : ∃ (oc : Value) (od : Option Addr) (dV kV doc pm : Value) (an : Option Addr) (cdv ct : Value) (osl : Array (Option Value)),
    fd = PySem.W.fnOf x qual (defArgs st) (defBody st) (defScope st) dV kV doc pm an cdv ct ∧ K.lookup f = some ⟨oc, od, .func fd, osl⟩ ∧ PySem.W.codeIn K cdv qual = true
theorem funX (F : Fun K x qual st f fd) : FunX K x qual st f fd := by
  obtain ⟨oc, od, kV, doc, pm, an, cdv, ct, osl, h1, h2, h3⟩ := F.ex
  exact ⟨oc, od, .none, kV, doc, pm, an, cdv, ct, osl, h1, h2, h3⟩
theorem fn_ok (F : FunX K x qual st f fd) (S : FnScope N ps (defScope st)) {pin : Nat → Bool} {b : Env → Option Out}
    (hbody : ∀ (cdv : Value) (A : Around) (outer : List PySem.Env) (s : Shared) (H : Hp), Room k (A.deeper (envOfC qual (defScope st) s.heap.objs.size f cdv)) → (A.deeper (envOfC qual (defScope st) s.heap.objs.size f cdv)).guards = some [] →
      ∃ ts, SEs (bodyCx P w K mg base N qual st f cdv A outer s H) pin (defBody st) ts b) : FnG P w K mg base (k + 1) f fd ps (mkFn ps.length N.length pin b) := by
  have ar : ∀ ts r, mkFn ps.length N.length pin b ts = some r → ts.length = ps.length := fun ts r e => by
    unfold mkFn at e
    split at e
    · assumption
    · cases e
  refine ⟨ar, fun A outer s H args us vs Q hr hg e0 hb rv h => ?_⟩
  obtain ⟨oc, od, dV, kV, doc, pm, an, cdv, ct, osl, rfl, lk, hcd⟩ := F.ex
  obtain ⟨H1, Fv, ts, t, ts', s0, rr, efn, q⟩ := h
  have hl : vs.length = ps.length := by rw [rr.len]; exact ar _ _ efn
  have KX : K.In s.heap := e0.mod.kin.keeps fun b o e => (e0.bs b o e).1
  have lim : s.heap.NoLimit := e0.mod.nolimit.keeps fun b o e => (e0.bs b o e).1
  refine codeAny_call_function hr.depth (KX _ _ lk) rfl S.co S.gen rfl (PySem.W.codeRec_of KX hcd) (hb _ _ _ _ ?_)
  refine wpAny_newFunctionEnv_cells S.kind (fun ⟨n, v⟩ hy => (S.par n (List.of_mem_zip hy).1).imp id fun q => ⟨q, PySem.W.cellsFrom_some _ _ _ (.inl q)⟩) fun env he s1 xx => ?_
  subst he
  refine ⟨lim.keeps xx.toInCall.keep, codeAny_func ?_⟩
  obtain ⟨tS, hS⟩ := hbody cdv A outer s H (hr.deeper _) (guards_deep hg)
  have I : Inv (cxOf CX0 P w K mg base N qual (defScope st) f cdv A outer s H E0) [] (L2.start N vs) H s1 := inv_start S hr.hd e0 hl rv xx
  have fin : ∀ {s' : Shared} {σ' : L2.St} {H' : Hp} {v : V} {u : Value}, Inv (cxOf CX0 P w K mg base N qual (defScope st) f cdv A outer s H E0) [] σ' H' s' → RelV v u → Q v H' → L2.CE outer P w H s Q u s' :=
    fun {s' σ' H' v u} J rv q => ⟨v, H', J.os, J.bare, J.base, J.hok, rv, q⟩
  obtain ⟨Fe, Re, hFe⟩ := repE_start (N.length - ps.length) rr
  have hst : L2.start N vs = vs.map some ++ List.replicate (N.length - ps.length) none := by unfold L2.start; rw [hl]
  have pinned : ∀ {σ' : L2.St}, (∀ i, pin i = true → σ'[i]? = (vs.map some ++ List.replicate (N.length - ps.length) none)[i]?) → ∀ j v, vs[j]? = some v → pin (0 + j) = true → σ'[0 + j]? = some (some v) := fun {σ'} pn j v hj hp => by
    rw [pn _ hp, Nat.zero_add, List.getElem?_append_left (by rw [List.length_map]; exact (List.getElem?_eq_some_iff.mp hj).1), List.getElem?_map, hj]
    rfl
  have hq : tS { nx := fun _ H' => Q .non H', rt := Q } (L2.start N vs) H := by
    rw [hst]
    unfold mkFn at efn
    rw [if_pos (ar _ _ (by unfold mkFn; exact efn))] at efn
    split at efn
    · rename_i env' eb
      split at efn
      · rename_i us' ek
        cases efn
        refine hS.sr _ _ eb _ _ _ _ s0 Re _ fun σ' H1' H' F' x1 R1 pn => ?_
        obtain ⟨G, r2, hG⟩ := back_rep x1.s1 rr R1 (pinned pn) ek
        exact q .non H1' H' G F0 ((x1.more fun b z => (hFe b).mp z).less fun b z => z.elim (hG b) fun z => z.elim) r2 (.sh .non) fun _ _ z => z
      · cases efn
    · rename_i t0 env' eb
      split at efn
      · rename_i us' ek
        cases efn
        refine hS.sr _ _ eb _ _ _ _ s0 Re _ fun v σ' H1' H' F' Ft x1 R1 r1 d1 pn => ?_
        obtain ⟨G, r2, hG⟩ := back_rep x1.s1 rr R1 (pinned pn) ek
        exact q v H1' H' G Ft ((x1.more fun b z => (hFe b).mp z).less fun b z => z.imp (hG b) id) r2 r1 fun b z => d1 b (hG b z)
      · cases efn
    · cases efn
  refine wpAny_mono (hS.ps.nox.run [] s1 (L2.start N vs) H _ I hq) (fun fl s' hs => ?_) fun e s' hs => hs
  cases fl with
  | ret u =>
    obtain ⟨v, σ', H', J, rv, q⟩ := hs
    exact fin J rv q
  | next =>
    obtain ⟨σ', H', J, q⟩ := hs
    exact fin (v := V.non) (u := Value.none) J rfl q
  | brk => obtain ⟨_, _, _, q⟩ := hs; exact False.elim q
  | cont => obtain ⟨_, _, _, q⟩ := hs; exact False.elim q
end
end GK

/-! GKZ: dict(zip(a text, a tuple)): zip over iterators of any kind, its last tuple still held. -/
namespace GKZ
open PySem
section
variable {prog : Program} {w : World} {A : Around} {E : Value → Shared → Prop} {s : Shared} {z TI TO T i1 i2 : Addr} {fp1 fp2 : List Addr} {n1 n2 i : Nat} {P1 P2 : Nat → Value → Prop} {St1 St2 : Nat → Heap → Prop} {b : Bool} {oT : Obj}
theorem held_item {Q : Value → Shared → Prop} (S : ZipSep2 z TI TO i1 i2 fp1 fp2) (D1 : Draws prog w A i1 fp1 n1 P1 St1) (D2 : Draws prog w A i2 fp2 n2 P2 St2)
    (hz : IsZipHeld s.heap z TI TO T b) (hT : s.heap.get? T = some oT) (hI : IsTupOf2 s.heap TI (.ref i1) (.ref i2)) (st1 : St1 i s.heap) (st2 : St2 i s.heap) (l1 : i < n1) (l2 : i < n2)
    (fin : ∀ x1 x2 h' tk, P1 i x1 → P2 i x2 → IsZipHeld h' z TI TO T true → St1 (i + 1) h' → St2 (i + 1) h' → IsTupOf2 h' s.heap.objs.size x1 x2 → h'.objs.size = s.heap.objs.size + 1 →
      (∀ c o, c ≠ z → c ≠ i1 → c ≠ i2 → s.heap.get? c = some o → h'.get? c = some o) → Q (.ref s.heap.objs.size) { s with heap := h', toks := tk }) :
    wpAny (model prog w) A (Builtin.«zip.__next__» ⟨[.ref z], []⟩) (fun fin s' => ∃ v, fin = .done (.ret v) ∧ Q v s') E s := by
  obtain ⟨hp, g, d, tk0, os⟩ := s
  show wpAny _ _ (field (.ref z) 2 >>= _) _ _ _
  refine wpAny_bind (wpAny_field hz rfl (x := .bool false) rfl ?_)
  show wpAny _ _ (field (.ref z) 3 >>= _) _ _ _
  refine wpAny_bind (wpAny_field hz rfl (x := .ref TI) rfl ?_)
  refine wpAny_bind (wpAny_seqItems hI rfl ?_)
  show wpAny _ _ (Builtin.SmallTypes.ownedTupleIsFree (.ref z) >>= _) _ _ _
  refine wpAny_bind (wpAny_tupleHeld_zip hz hT fun g0 hz0 hs0 => ?_)
  replace hs0 : Heap.SameBut z hp g0 := hs0
  simp only [Bool.false_eq_true, if_false]
  refine wpAny_bind ?_
  rw [← Array.forIn_toList]
  simp only [List.forIn_cons, List.forIn_nil]
  refine wpAny_bind (wpAny_bind (wpAny_holding ?_))
  show wpAny _ _ (Builtin.SmallTypes.nextOf (.ref i1) >>= _) _ _ ⟨g0, g, d, tk0, os⟩
  refine wpAny_bind (D1.item i ⟨g0, g, d, tk0, os⟩ _ _ l1 (D1.over st1 hs0 S.zf1) fun x1 p1 tk1 hx1 sn1 hp1 => wpAny_pure (wpAny_pure ?_))
  replace hp1 : Heap.SameBut i1 g0 p1 := hp1
  refine wpAny_bind (wpAny_bind (wpAny_holding ?_))
  show wpAny _ _ (Builtin.SmallTypes.nextOf (.ref i2) >>= _) _ _ ⟨p1, g, d, tk1, os⟩
  refine wpAny_bind (D2.item i ⟨p1, g, d, tk1, os⟩ _ _ l2 (D2.over (D2.over st2 hs0 S.zf2) hp1 S.sep1_2) fun x2 p2 tk2 hx2 sn2 hp2 => wpAny_pure (wpAny_pure (wpAny_pure ?_)))
  replace hp2 : Heap.SameBut i2 p1 p2 := hp2
  show wpAny _ _ (newTuple [x1, x2] >>= _) _ _ _
  refine wpAny_bind (wpAny_newTuple (wpAny_pure ⟨_, rfl, ?_⟩))
  have hsz : p2.objs.size = hp.objs.size := by rw [hp2.1, hp1.1, hs0.1]
  have hz2 : IsZipHeld p2 z TI TO T true := hp2.extBut _ _ S.zi2 (hp1.extBut _ _ S.zi1 hz0)
  have kk : ∀ c o, c ≠ z → c ≠ i1 → c ≠ i2 → hp.get? c = some o → p2.get? c = some o := fun c o c1 c2 c3 e => hp2.extBut _ _ c3 (hp1.extBut _ _ c2 (hs0.extBut _ _ c1 e))
  have up : ∀ c o, p2.get? c = some o → (p2.push { cls := .type "tuple", data := .seq #[x1, x2] }).get? c = some o := fun c o e => Heap.get?_push_of_some _ e
  have hnew : IsTupOf2 (p2.push { cls := .type "tuple", data := .seq #[x1, x2] }) p2.objs.size x1 x2 := Heap.get?_push_size _ rfl
  have hsz' : (p2.push { cls := .type "tuple", data := .seq #[x1, x2] }).objs.size = p2.objs.size + 1 := Heap.size_push ..
  show Q (.ref p2.objs.size) ⟨p2.push { cls := .type "tuple", data := .seq #[x1, x2] }, g, d, tk2, os⟩
  rw [hsz] at hnew hsz' ⊢
  exact fin x1 x2 _ tk2 hx1 hx2 (up _ _ hz2) (D1.frame _ _ _ (D1.over sn1 hp2 S.sep2_1) fun c _ o e => up c o e) (D2.frame _ _ _ sn2 fun c _ o e => up c o e) hnew hsz' fun c o c1 c2 c3 e => up _ _ (kk c o c1 c2 c3 e)
theorem held_end {Q : Fin → Shared → Prop} (S : ZipSep2 z TI TO i1 i2 fp1 fp2) (D1 : Draws prog w A i1 fp1 n1 P1 St1) (D2 : Draws prog w A i2 fp2 n2 P2 St2)
    (hz : IsZipHeld s.heap z TI TO T b) (hT : s.heap.get? T = some oT) (hI : IsTupOf2 s.heap TI (.ref i1) (.ref i2)) (st1 : St1 i s.heap) (st2 : St2 i s.heap) (l1 : i ≤ n1) (l2 : i ≤ n2) (hend : i = n1 ∨ i = n2)
    (fin : ∀ h' tk e, (∀ c o, c ≠ z → c ≠ i1 → c ≠ i2 → s.heap.get? c = some o → h'.get? c = some o) → (∃ o, h'.get? e = some o ∧ o.cls = .type "StopIteration") → E (.ref e) { s with heap := h', toks := tk }) :
    wpAny (model prog w) A (Builtin.«zip.__next__» ⟨[.ref z], []⟩) Q E s := by
  obtain ⟨hp, g, d, tk0, os⟩ := s
  show wpAny _ _ (field (.ref z) 2 >>= _) _ _ _
  refine wpAny_bind (wpAny_field hz rfl (x := .bool false) rfl ?_)
  show wpAny _ _ (field (.ref z) 3 >>= _) _ _ _
  refine wpAny_bind (wpAny_field hz rfl (x := .ref TI) rfl ?_)
  refine wpAny_bind (wpAny_seqItems hI rfl ?_)
  show wpAny _ _ (Builtin.SmallTypes.ownedTupleIsFree (.ref z) >>= _) _ _ _
  refine wpAny_bind (wpAny_tupleHeld_zip hz hT fun g0 hz0 hs0 => ?_)
  replace hs0 : Heap.SameBut z hp g0 := hs0
  simp only [Bool.false_eq_true, if_false]
  refine wpAny_bind ?_
  rw [← Array.forIn_toList]
  simp only [List.forIn_cons, List.forIn_nil]
  refine wpAny_bind (wpAny_bind (wpAny_holding ?_))
  show wpAny _ _ (Builtin.SmallTypes.nextOf (.ref i1) >>= _) _ _ ⟨g0, g, d, tk0, os⟩
  by_cases hlt : i < n1
  · have e2 : i = n2 := hend.resolve_left (Nat.ne_of_lt hlt)
    refine wpAny_bind (D1.item i ⟨g0, g, d, tk0, os⟩ _ _ hlt (D1.over st1 hs0 S.zf1) fun x1 p1 tk1 hx1 sn1 hp1 => wpAny_pure (wpAny_pure ?_))
    replace hp1 : Heap.SameBut i1 g0 p1 := hp1
    refine wpAny_bind (wpAny_bind (wpAny_holding ?_))
    show wpAny _ _ (Builtin.SmallTypes.nextOf (.ref i2) >>= _) _ _ ⟨p1, g, d, tk1, os⟩
    refine wpAny_bind (D2.done ⟨p1, g, d, tk1, os⟩ _ _ (by rw [← e2]; exact D2.over (D2.over st2 hs0 S.zf2) hp1 S.sep1_2) fun q e hq he => ?_)
    exact fin q tk1 e (fun c o c1 c2 c3 x => hq _ _ c3 (hp1.extBut _ _ c2 (hs0.extBut _ _ c1 x))) he
  · have e1 : i = n1 := Nat.le_antisymm l1 (Nat.le_of_not_lt hlt)
    refine wpAny_bind (D1.done ⟨g0, g, d, tk0, os⟩ _ _ (by rw [← e1]; exact D1.over st1 hs0 S.zf1) fun q e hq he => ?_)
    exact fin q tk0 e (fun c o c1 c2 _ x => hq _ _ c2 (hs0.extBut _ _ c1 x)) he
theorem pyNext_held_item {Q : Option Value → Shared → Prop} (S : ZipSep2 z TI TO i1 i2 fp1 fp2) (D1 : Draws prog w A.in1 i1 fp1 n1 P1 St1) (D2 : Draws prog w A.in1 i2 fp2 n2 P2 St2)
    (hz : IsZipHeld s.heap z TI TO T b) (hT : s.heap.get? T = some oT) (hI : IsTupOf2 s.heap TI (.ref i1) (.ref i2)) (st1 : St1 i s.heap) (st2 : St2 i s.heap) (l1 : i < n1) (l2 : i < n2)
    (fin : ∀ x1 x2 h' tk, P1 i x1 → P2 i x2 → IsZipHeld h' z TI TO T true → St1 (i + 1) h' → St2 (i + 1) h' → IsTupOf2 h' s.heap.objs.size x1 x2 → h'.objs.size = s.heap.objs.size + 1 →
      (∀ c o, c ≠ z → c ≠ i1 → c ≠ i2 → s.heap.get? c = some o → h'.get? c = some o) → Q (some (.ref s.heap.objs.size)) { s with heap := h', toks := tk }) :
    wpAny (model prog w) A (pyNext (.ref z)) Q E s := by
  have ty : s.TypeIs (.ref z) "zip" := ⟨_, hz, rfl⟩
  unfold pyNext
  exact wpAny_bind (wpAny_attempt (wpAny_callSpecial?_slot (name := Str.ofString "__next__") ty F.slot_zip_next (wpAny_call_entry F.slot_zip_next ty F.entry_zip_next
    (held_item S D1 D2 hz hT hI st1 st2 l1 l2 fun x1 x2 h' tk a1 a2 a3 a4 a5 a6 a7 a8 => wpAny_pure (fin x1 x2 h' tk a1 a2 a3 a4 a5 a6 a7 a8)) (F.args_zip_next_1 _))))
theorem pyNext_held_end {Q : Option Value → Shared → Prop} (S : ZipSep2 z TI TO i1 i2 fp1 fp2) (D1 : Draws prog w A.in1 i1 fp1 n1 P1 St1) (D2 : Draws prog w A.in1 i2 fp2 n2 P2 St2)
    (hz : IsZipHeld s.heap z TI TO T b) (hT : s.heap.get? T = some oT) (hI : IsTupOf2 s.heap TI (.ref i1) (.ref i2)) (st1 : St1 i s.heap) (st2 : St2 i s.heap) (l1 : i ≤ n1) (l2 : i ≤ n2) (hend : i = n1 ∨ i = n2)
    (fin : ∀ h' tk, (∀ c o, c ≠ z → c ≠ i1 → c ≠ i2 → s.heap.get? c = some o → h'.get? c = some o) → Q none { s with heap := h', toks := tk }) : wpAny (model prog w) A (pyNext (.ref z)) Q E s := by
  have ty : s.TypeIs (.ref z) "zip" := ⟨_, hz, rfl⟩
  unfold pyNext
  refine wpAny_bind (wpAny_attempt (wpAny_callSpecial?_slot (name := Str.ofString "__next__") ty F.slot_zip_next (wpAny_call_entry F.slot_zip_next ty F.entry_zip_next
    (held_end S D1 D2 hz hT hI st1 st2 l1 l2 hend fun h' tk e hk he => ?_) (F.args_zip_next_1 _))))
  obtain ⟨o, ho, hc⟩ := he
  exact wpAny_bind (wpAny_isInstance (T := "StopIteration") (b := true) ⟨o, ho, hc⟩ isSubtype_stop (wpAny_pure (fin _ _ hk)))
end
section
variable {prog : Program} {w : World} {z TI TO i1 i2 : Addr} {fp1 fp2 : List Addr} {n1 n2 : Nat} {P1 P2 : Nat → Value → Prop} {St1 St2 : Nat → Heap → Prop}
/-- zip over two iterators of any kind, as dict()'s argument -/
theorem arg_zip (S : ZipSep2 z TI TO i1 i2 fp1 fp2) (D1 : ∀ A : Around, A.handled = none → Draws prog w A i1 fp1 n1 P1 St1) (D2 : ∀ A : Around, A.handled = none → Draws prog w A i2 fp2 n2 P2 St2)
    (th1 : ∀ h, St1 0 h → ∀ b ∈ fp1, ∃ o, h.get? b = some o) (th2 : ∀ h, St2 0 h → ∀ b ∈ fp2, ∃ o, h.get? b = some o) (A0 : Around) (h0 : A0.handled = none) :
    PairArg prog w "zip" z (z :: TI :: TO :: (fp1 ++ fp2)) [z, TO, i1, i2] (min n1 n2) (fun i k v => P1 i k ∧ P2 i v)
      (fun h => IsZip h z TI TO .none ∧ IsTupOf2 h TI (.ref i1) (.ref i2) ∧ (∃ a b, IsTupOf2 h TO a b) ∧ St1 0 h ∧ St2 0 h) where
  type := fun s ok => ⟨_, ok.1, rfl⟩
  notDict := by decide
  keep := fun h h' ok hk => by
    obtain ⟨a1, a2, ⟨a, b, a3⟩, a4, a5⟩ := ok
    exact ⟨hk _ _ a1, hk _ _ a2, ⟨a, b, hk _ _ a3⟩, (D1 A0 h0).frame _ _ _ a4 fun c _ o e => hk c o e, (D2 A0 h0).frame _ _ _ a5 fun c _ o e => hk c o e⟩
  there := fun h ok b hb => by
    obtain ⟨a1, a2, ⟨a, c, a3⟩, a4, a5⟩ := ok
    simp only [List.mem_cons, List.mem_append] at hb
    rcases hb with rfl | rfl | rfl | hb | hb
    · exact ⟨_, a1⟩
    · exact ⟨_, a2⟩
    · exact ⟨_, a3⟩
    · exact th1 h a4 b hb
    · exact th2 h a5 b hb
  sub := fun b hb => by
    simp only [List.mem_cons, List.mem_append, List.not_mem_nil, or_false] at hb ⊢
    rcases hb with rfl | rfl | rfl | rfl
    · exact .inl rfl
    · exact .inr (.inr (.inl rfl))
    · exact .inr (.inr (.inr (.inl S.mem1)))
    · exact .inr (.inr (.inr (.inr S.mem2)))
  noKeys := fun A s Q E hA ok h => getAttrOr_miss_zip ok.1 rfl rfl rfl zip_no_keys (by decide +kernel) hA h
  iter := fun A s d Q E hA ok hd hdf h => by
    obtain ⟨a1, a2, ⟨a, b, a3⟩, a4, a5⟩ := ok
    simp only [List.mem_cons, List.mem_append, not_or] at hdf
    obtain ⟨dz, dTI, dTO, df1, df2⟩ := hdf
    have di1 : d ≠ i1 := fun e => df1 (e ▸ S.mem1)
    have di2 : d ≠ i2 := fun e => df2 (e ▸ S.mem2)
    refine wpAny_pyIter_zip a1 (h z [z, TO, i1, i2] (fun i h => IsTupOf2 h TI (.ref i1) (.ref i2) ∧ St1 i h ∧ St2 i h ∧
      ((IsZip h z TI TO .none ∧ ∃ a b, IsTupOf2 h TO a b) ∨ ∃ T f oT, IsZipHeld h z TI TO T f ∧ h.get? T = some oT ∧ T ≠ z ∧ T ≠ i1 ∧ T ≠ i2 ∧ T ≠ d)) s.heap s.toks ?_
      ⟨a2, a4, a5, .inl ⟨a1, a, b, a3⟩⟩ (fun _ _ e => e) fun b hb => .inl hb)
    exact {
      off := fun hm => by
        simp only [List.mem_cons, List.not_mem_nil, or_false] at hm
        rcases hm with e | e | e | e
        · exact dz e
        · exact dTO e
        · exact di1 e
        · exact di2 e
      frame := fun i h₁ h₂ st hk => by
        obtain ⟨b1, b2, b3, b4⟩ := st
        refine ⟨hk _ _ (Ne.symm dTI) b1, (D1 A hA).frame _ _ _ b2 fun c hc o e => hk c o (fun q => df1 (q ▸ hc)) e, (D2 A hA).frame _ _ _ b3 fun c hc o e => hk c o (fun q => df2 (q ▸ hc)) e, ?_⟩
        rcases b4 with ⟨b4, a, b, b5⟩ | ⟨T, f, oT, b4, b5, r1, r2, r3, r4⟩
        · exact .inl ⟨hk _ _ (Ne.symm dz) b4, a, b, hk _ _ (Ne.symm dTO) b5⟩
        · exact .inr ⟨T, f, oT, hk _ _ (Ne.symm dz) b4, hk _ _ r4 b5, r1, r2, r3, r4⟩
      item := fun i s₁ Q₁ E₁ hi st hds hQ => by
        obtain ⟨b1, b2, b3, b4⟩ := st
        have m1 : i < n1 := Nat.lt_of_lt_of_le hi (Nat.min_le_left ..)
        have m2 : i < n2 := Nat.lt_of_lt_of_le hi (Nat.min_le_right ..)
        have lt : ∀ {c o}, s₁.heap.get? c = some o → s₁.heap.objs.size ≠ c := fun e => Nat.ne_of_gt (Heap.lt_size e)
        have x1 : s₁.heap.objs.size ≠ i1 := let ⟨_, e⟩ := (D1 A hA).live _ _ b2; lt e
        have x2 : s₁.heap.objs.size ≠ i2 := let ⟨_, e⟩ := (D2 A hA).live _ _ b3; lt e
        rcases b4 with ⟨b4, a, b, b5⟩ | ⟨T, f, oT, b4, b5, r1, r2, r3, r4⟩
        · refine wpAny_pyNext_zipD2_item S (D1 A.in1 hA) (D2 A.in1 hA) b4 b1 b5 b2 b3 m1 m2 fun y1 y2 h' tk p1 p2 c1 c2 c3 c4 c5 c6 hk => ?_
          exact hQ s₁.heap.objs.size _ _ h' tk ⟨p1, p2⟩ (.inl ⟨_, c5, rfl, _, rfl⟩)
            ⟨hk _ _ S.TIz S.TITO S.TIi1 S.TIi2 b1, c3, c4, .inr ⟨s₁.heap.objs.size, false, _, c1, c5, lt b4, x1, x2, Nat.ne_of_gt hds⟩⟩
            fun c o hc e => hk c o (fun x => hc (by simp [x])) (fun x => hc (by simp [x])) (fun x => hc (by simp [x])) (fun x => hc (by simp [x])) e
        · refine pyNext_held_item S (D1 A.in1 hA) (D2 A.in1 hA) b4 b5 b1 b2 b3 m1 m2 fun y1 y2 h' tk p1 p2 c1 c3 c4 c5 c6 hk => ?_
          exact hQ s₁.heap.objs.size _ _ h' tk ⟨p1, p2⟩ (.inl ⟨_, c5, rfl, _, rfl⟩)
            ⟨hk _ _ S.TIz S.TIi1 S.TIi2 b1, c3, c4, .inr ⟨T, true, oT, c1, hk _ _ r1 r2 r3 b5, r1, r2, r3, r4⟩⟩
            fun c o hc e => hk c o (fun x => hc (by simp [x])) (fun x => hc (by simp [x])) (fun x => hc (by simp [x])) e
      done := fun s₁ Q₁ E₁ st hQ => by
        obtain ⟨b1, b2, b3, b4⟩ := st
        have hend : min n1 n2 = n1 ∨ min n1 n2 = n2 := by omega
        rcases b4 with ⟨b4, a, b, b5⟩ | ⟨T, f, oT, b4, b5, r1, r2, r3, r4⟩
        · exact wpAny_pyNext_zipD2_end S (D1 A.in1 hA) (D2 A.in1 hA) b4 b1 b5 b2 b3 (Nat.min_le_left ..) (Nat.min_le_right ..) hend fun h' tk hk => hQ h' tk fun c o hc e => hk c o (fun x => hc (by simp [x])) (fun x => hc (by simp [x])) (fun x => hc (by simp [x])) (fun x => hc (by simp [x])) e
        · exact pyNext_held_end S (D1 A.in1 hA) (D2 A.in1 hA) b4 b5 b1 b2 b3 (Nat.min_le_left ..) (Nat.min_le_right ..) hend fun h' tk hk => hQ h' tk fun c o hc e => hk c o (fun x => hc (by simp [x])) (fun x => hc (by simp [x])) (fun x => hc (by simp [x])) e }
end
end GKZ

/-! GK18: dict(zip(a text, a tuple)). -/
namespace GK
open PySem L2 PySem.Spec PyProof.Rows

def zipKeys (z : List Nat) (ys : List T) : List (Key × T) := (z.zip ys).map fun p => (.inr (S [p.1]), p.2)
def zipV (z : List Nat) (ys : List V) : List (Key × V) := (z.zip ys).map fun p => (.inr (S [p.1]), p.2)
def zipU (z : List Nat) (ys : List Value) : List (Key × Value) := (z.zip ys).map fun p => (.inr (S [p.1]), p.2)
def mergeT (kvs more : List (Key × T)) : List (Key × T) := more.foldl (fun acc kv => tput acc kv.1 kv.2) kvs
def rDictZ (K : PySem.W.Frag) : List V → Hp → VK → Prop := fun vs H Q => ∃ (z : List Nat) (q : Addr) (ys : List V), vs = [.str (S z), .ref q] ∧ SqT K H q ys ∧ ∀ p, H p = none → Q (.ref p) (upd H p (.dK (mergeK [] (zipV z ys))))
theorem kv_zip : ∀ (z : List Nat) {ys : List V} {its : List Value}, Vals ys its → KV (zipV z ys) (zipU z its)
  | [], _, _, _ => by unfold zipV zipU; exact .nil
  | _ :: _, _, _, .nil => by unfold zipV zipU; exact .nil
  | c :: z, _, _, .cons r rs => by
    have h := kv_zip z rs
    unfold zipV zipU at h ⊢
    exact .cons ⟨rfl, r⟩ h
theorem nat_no {x y : Nat} (h : x ≠ y) : ¬ (x : Addr) = (y : Addr) := h
theorem sep_new {n q : Nat} (h : q < n) : ZipSep2 (n + 4) (n + 2) (n + 3) n (n + 1) [n] [n + 1, q] := by
  have out1 : ∀ {x y : Nat}, x ≠ y → (x : Addr) ∉ ([y] : List Addr) := fun hxy hm => hxy (List.mem_singleton.mp hm)
  have out2 : ∀ {x y z : Nat}, x ≠ y → x ≠ z → (x : Addr) ∉ ([y, z] : List Addr) := fun hxy hxz hm => by
    rcases List.mem_cons.mp hm with e | e
    · exact hxy e
    · exact hxz (List.mem_singleton.mp e)
  exact ⟨nat_no (by omega), nat_no (by omega), nat_no (by omega), nat_no (by omega), List.mem_singleton.mpr rfl, out1 (by omega), out1 (by omega), nat_no (by omega), List.mem_cons_self, out2 (by omega) (by omega), out2 (by omega) (by omega), out2 (by omega) (by omega), out1 (by omega)⟩
theorem call_dictZ {X : Cx} {pins : List (Addr × Obj)} {σ : L2.St} {H : Hp} {s : Shared} {us : List Value} {vs : List V} {Q : VK} (hc : X.calm = true) (I : Inv X pins σ H s) (r : Vals vs us) (h : rDictZ X.K vs H Q) :
    wpAny (model X.prog X.w) X.A (call (.type "zip") us) (fun v s1 => wpAny (model X.prog X.w) X.A (call (.type "dict") [v]) (EP X pins σ Q) X.xe s1) X.xe s := by
  obtain ⟨z, q, ys, rfl, hq, k⟩ := h
  obtain ⟨u1, u2, rfl, r1, r2⟩ := vals2 r
  obtain ⟨tk, rfl⟩ := r1
  cases r2
  obtain ⟨its, rv, ht, hz⟩ := I.tuple hq
  have ht' : s.heap.IsTuple q its.toArray := ht
  have lq : q < s.heap.objs.size := ht.lt
  refine zip_begins2 (begins_text (S z) tk) (begins_tuple q its.toArray) trivial ht' fun h' hZ hI hO g1 g2 hsz hk => ?_
  have hh : ∀ A : Around, A.handled = none → True := fun _ _ => trivial
  have n0 : s.heap.objs.size ≠ q := Nat.ne_of_gt lq
  have sep := sep_new lq
  have st1 : h'.IsStrIter s.heap.objs.size (strIterType (S z)) (S z) tk 0 := ⟨_, g1, rfl, rfl⟩
  have st2 : h'.IsTupleIter (s.heap.objs.size + 1) q 0 ∧ h'.IsTuple q its.toArray := ⟨⟨_, g2, rfl, rfl⟩, ht'.at fun o e => hk _ o e⟩
  have hd : X.A.handled = none := I.ok.hd hc
  have P := GKZ.arg_zip (prog := X.prog) (w := X.w) sep (fun A hA => Draws.text hA s.heap.objs.size (S z) tk) (fun A hA => Draws.tuple hA (s.heap.objs.size + 1) q (Nat.ne_of_lt (Nat.lt_succ_of_lt lq)) its.toArray)
    (fun h st b hb => by rw [List.mem_singleton.mp hb]; obtain ⟨o, e, _⟩ := st; exact ⟨o, e⟩) (fun h st b hb => by
      simp only [List.mem_cons, List.not_mem_nil, or_false] at hb
      rcases hb with rfl | rfl
      · obtain ⟨⟨o, e, _⟩, _⟩ := st; exact ⟨o, e⟩
      · obtain ⟨_, ⟨o, e, _⟩⟩ := st; exact ⟨o, e⟩) X.A hd
  have lz : (zipU z its).length = min (S z).cps.size its.toArray.size := by simp [zipU, S]
  refine call_dict_pairs (knd := mixKind X.prog X.w) (kvs := zipU z its) P hd ⟨hZ, hI, ⟨_, _, hO⟩, st1, st2⟩ ⟨lz, fun i key v hr => ?_⟩ ?_ fun h2 tk2 hd2 hk2 => ?_
  · obtain ⟨⟨c, u, e1, rfl⟩, e2⟩ := hr
    refine ⟨.inr (S [c]), ?_, mixKind_str _ _ _ _⟩
    have e1' : z[i]? = some c := by simpa [S] using e1
    have e2' : its[i]? = some v := by simpa using e2
    unfold zipU
    rw [List.getElem?_map, (List.getElem?_zip_eq_some (z := (c, v))).mpr ⟨e1', e2'⟩]
    rfl
  · refine Nat.le_trans (Nat.min_le_right _ _) ?_
    rw [List.size_toArray, ← rv.length]
    exact hz
  · have kk : ∀ b o, s.heap.get? b = some o → h2.get? b = some o := fun b o e => hk2 b o (fun hm => by
      have lb := Heap.lt_size e
      simp only [List.mem_cons, List.not_mem_nil, or_false] at hm
      rcases hm with hm | hm | hm | hm
      all_goals exact absurd hm (Nat.ne_of_lt (by first | exact Nat.lt_of_lt_of_le lb (Nat.le_add_right _ _) | exact lb))) (hk _ _ e)
    have big : s.heap.objs.size ≤ h'.objs.size := by rw [hsz]; omega
    have hm : (h'.objs.size == sysModules) = false := beq_eq_false_iff_ne.mpr (Nat.ne_of_gt (Nat.lt_of_lt_of_le I.big big))
    have rel := kv_zip z rv
    have hlen : (mergeK [] (zipV z ys)).length ≤ sizeLine := by
      refine Nat.le_trans (length_mergeK _ []) ?_
      rw [List.length_nil, Nat.zero_add]
      have : (zipV z ys).length ≤ ys.length := by simp [zipV]; omega
      exact Nat.le_trans this hz
    exact ⟨.ref h'.objs.size, upd H h'.objs.size (.dK (mergeK [] (zipV z ys))), I.laid (t' := tk2) kk big (show ObjOk X.prog X.w _ _ _ (.dK (mergeK [] (zipV z ys))) from ⟨hlen, hm, merged [] (zipU z its), KV.merge rel .nil, hd2⟩), rfl, k _ (I.hok.fresh big)⟩
def tDictZ (K : PySem.W.Frag) (t : TA) : TE := fun σ H Q => t σ H fun vs H1 => rDictZ K vs H1 Q
section
variable {X : Cx} {a b : Expr} {tl : TA} {xs : Env → Option (List T)} {p p2 pos pos2 : Pos}
theorem pe_dictZ (hc : X.calm = true) (hgd : Gl X "dict") (hmd : X.mg "dict" = none) (hgz : Gl X "zip") (hmz : X.mg "zip" = none) (ha : PA X [a, b] tl)
    (hs : starEach [a, b] X.env = (false, eval a X.env) :: starEach [b] X.env := by rfl) (hpl : (backTo pos2 (starEach [b] X.env)).any (·.1) = false := by rfl)
    (hs2 : starEach [.Call (.Name "zip" p2) [a, b] [] pos2] X.env = [(false, eval (.Call (.Name "zip" p2) [a, b] [] pos2) X.env)] := by rfl) :
    PE X (.Call (.Name "dict" p) [.Call (.Name "zip" p2) [a, b] [] pos2] [] pos) (tDictZ X.K tl) := by
  refine ⟨fun pins s σ H Q I h => Call_ (ld_blt I hgd hmd (show bootBuiltins "dict" = some (.type "dict") by decide +kernel) (callWith_type1 ?_ hs2 rfl))⟩
  rw [hs2]
  show wpAny _ _ (spliced ((false, eval (.Call (.Name "zip" p2) [a, b] [] pos2) X.env) :: backTo pos [])) _ _ s
  refine Calls.spliced_cons ?_
  refine (Call_ (ld_blt I hgz hmz PyProof.Rows.boot_zip (callWith_type1 (thn (ha.run pos2 pins s σ H _ I h) fun us s1 ⟨vs, H1, I1, r1, q1⟩ => ?_) hs hpl)))
  refine wpAny_mono (call_dictZ hc I1 r1 q1) (fun v s2 hv => ?_) fun _ _ z => z
  exact Calls.spliced_nil hv
def fDictZ : List T → Option T
  | [.str z, .tup ys] => some (.dic true (mergeT [] (zipKeys z ys)))
  | _ => none
theorem merge_rep {K : PySem.W.Frag} {mg : Str → Option Value} {H1 H : Hp} : ∀ (z : List Nat) {ys : List V} {ts : List T} {acc : List (Key × V)} {at_ : List (Key × T)} {F : FP}, Fzs K mg H1 ys ts → RepA K mg H1 H acc at_ F → (∀ b, ¬ F b) → (acc.map (·.1)).Nodup →
    ∃ G, RepA K mg H1 H (mergeK acc (zipV z ys)) (mergeT at_ (zipKeys z ts)) G ∧ (∀ b, ¬ G b) ∧ ((mergeK acc (zipV z ys)).map (·.1)).Nodup
  | [], _, _, _, _, F, f, r, hF, nd => by unfold mergeK mergeT zipV zipKeys; exact ⟨F, r, hF, nd⟩
  | _ :: _, _, _, _, _, F, .nil, r, hF, nd => by unfold mergeK mergeT zipV zipKeys; exact ⟨F, r, hF, nd⟩
  | c :: z, _, _, acc, _, F, .cons f fs, r, hF, nd => by
    obtain ⟨F1, r1, h1⟩ := r.put (k := .inr (S [c])) (.sh f) fun b z => (hF b z).elim
    obtain ⟨G, r2, h2, h3⟩ := merge_rep z fs r1 (fun b z => (h1 b z).elim (hF b) id) (vput_nodup nd).1
    rw [← vput_eq nd] at r2 h3
    exact ⟨G, r2, h2, h3⟩
theorem qe_dictZ (hc : X.calm = true) (hgd : Gl X "dict") (hmd : X.mg "dict" = none) (hgz : Gl X "zip") (hmz : X.mg "zip" = none) (ha : KA X [a, b] tl xs)
    (hs : starEach [a, b] X.env = (false, eval a X.env) :: starEach [b] X.env := by rfl) (hpl : (backTo pos2 (starEach [b] X.env)).any (·.1) = false := by rfl)
    (hs2 : starEach [.Call (.Name "zip" p2) [a, b] [] pos2] X.env = [(false, eval (.Call (.Name "zip" p2) [a, b] [] pos2) X.env)] := by rfl) :
    QE X (.Call (.Name "dict" p) [.Call (.Name "zip" p2) [a, b] [] pos2] [] pos) (tDictZ X.K tl) (qCallB fDictZ xs) := ⟨pe_dictZ hc hgd hmd hgz hmz ha.pa hs hpl hs2, fun env t e H1 H σ F s R Q q => by
  unfold qCallB at e
  cases e1 : xs env with
  | none => rw [e1] at e; cases e
  | some ts =>
    rw [e1] at e
    simp only at e
    unfold fDictZ at e
    split at e
    · rename_i z ys
      cases e
      refine ha.kr _ _ e1 _ _ _ _ s R _ fun vs Ha Hb x1 r1 => ?_
      obtain ⟨v1, v2, G, G', rfl, r2, r3⟩ := r1.two
      obtain ⟨q', ws, rfl, h2, h3⟩ := r3.tuple x1.sub
      refine ⟨z, q', ws, by rw [r2.strE], h2, fun p n => ?_⟩
      obtain ⟨G1, r4, h4, h5⟩ := merge_rep (H := Hb) z h3 .nil (fun _ z => z) List.nodup_nil
      refine q _ _ _ _ (x1.trans (Ext.newO (F := F0) x1.sub n)) ?_
      have r5 : Rep X.K X.mg Ha (upd Hb p (.dK (mergeK [] (zipV z ws)))) (.ref p) (.dic true (mergeT [] (zipKeys z ys))) (fun b => b = p ∨ G1 b) := .dic upd_same (x1.sub.free n) h5 (r4.frame (Same.refl _) fun b z => (h4 b z).elim) (h4 p)
      have eG : (fun b => b = p ∨ G1 b) = fun b => b = p ∨ F0 b := funext fun b => propext ⟨fun z => z.imp id fun z => h4 b z, fun z => z.imp id fun z => z.elim⟩
      rw [eG] at r5
      exact r5
    · cases e⟩
end
end GK

/-! GK19: texts sorted, split, joined; isinstance; chains of comparisons; starred items. -/
namespace GK
open PySem L2 PySem.Spec PyProof.Rows

/-! ### sorted, of texts and of a text's signs -/
def rSortTx (K : PySem.W.Frag) : List V → Hp → VK → Prop := fun vs H Q => ∃ (xs : List Str), ((∃ a, vs = [V.ref a] ∧ SqL K H a (xs.map V.str)) ∨ ∃ z : Str, vs = [.str z] ∧ z.cps.size ≤ sizeLine ∧ xs = z.cps.toList.map fun c => ⟨#[c]⟩) ∧
  ∀ (ys : List Str) (p : Addr), ys.Perm xs → sortedS ys = true → H p = none → Q (.ref p) (upd H p (.lst (ys.map V.str)))
theorem strs_signs {z : Str} {acc : Array Value} (h : ItemsOf (SignAt z) acc z.cps.size) : StrsAre acc.toList (z.cps.toList.map fun c => ⟨#[c]⟩) := by
  have key : ∀ (l : List Nat) (vs : List Value), vs.length = l.length → (∀ i (hi : i < vs.length) (hj : i < l.length), ∃ t, vs[i] = .str ⟨#[l[i]]⟩ t) → StrsAre vs (l.map fun c => ⟨#[c]⟩) := by
    intro l
    induction l with
    | nil => intro vs hl _; rw [List.eq_nil_of_length_eq_zero hl]; exact .nil
    | cons c l ih =>
      intro vs hl hv
      cases vs with
      | nil => simp at hl
      | cons v vs =>
        obtain ⟨t, e⟩ := hv 0 (by simp) (by simp)
        simp at e
        rw [e]
        exact .cons _ t (ih vs (by simpa using hl) fun i hi hj => by
          obtain ⟨t, e⟩ := hv (i + 1) (by simpa using hi) (by simpa using hj)
          exact ⟨t, by simpa using e⟩)
  obtain ⟨h1, h2⟩ := h
  refine key _ _ (by simpa using h1) fun i hi hj => ?_
  have hi' : i < acc.size := by simpa using hi
  obtain ⟨c, u, e1, e2⟩ := h2 i acc[i] (Array.getElem?_eq_getElem hi')
  refine ⟨u, ?_⟩
  rw [Array.getElem_toList, e2]
  have e3 : z.cps.toList[i]? = some c := by rw [Array.getElem?_toList]; exact e1
  rw [List.getElem?_eq_getElem hj] at e3
  rw [Option.some.inj e3]
theorem call_sortTx {X : Cx} (hc : X.calm = true) : CallR X (.builtin "sorted") (rSortTx X.K) := by
  intro pins s σ H vs us Q I r h
  obtain ⟨xs, h, q⟩ := h
  rcases h with ⟨a, rfl, hs⟩ | ⟨z, rfl, hz, rfl⟩
  · obtain ⟨its, rv, hl, hz⟩ := I.list hs
    rw [Vals.ref1 r]
    have hlen0 := rv.length
    refine sorted_strsAny hl.isList rv.strs (by rw [← hlen0]; exact hz) fun out ys h1 h2 h3 => ?_
    obtain ⟨ep, he'⟩ := sortedAll_at s.heap its out
    have hlen : (ys.map V.str).length ≤ sizeLine := by rw [List.length_map, h2.length_eq]; rw [List.length_map] at hz; exact hz
    exact ⟨.ref _, upd H (s.heap.objs.size + 1) (.lst (ys.map V.str)), I.laid (t' := s.toks) (fun _ _ => sortedAll_old) (Nat.le_succ _) ⟨hlen, out.toList, ep, vals_of_strs h1, he'⟩, rfl, q ys _ h2 h3 (I.hok.fresh (Nat.le_succ _))⟩
  · cases r with
    | cons r1 r2 =>
      cases r2
      obtain ⟨tk, rfl⟩ := r1
      refine Calls.call_function_entry kind_sorted plain_sorted entry_sorted (args_sorted1 _) ?_
      unfold Builtin.«sorted»
      refine wpAny_bind (m := checkCount "sorted" 1 1 _) (wpAny_pure ?_)
      refine wpAny_bind (wpAny_collect_str (show X.A.in1.handled = none from I.ok.hd hc) z tk (fun s1 acc k1 g1 d1 o1 hit => ?_) hz)
      have hS := strs_signs hit
      have hl : acc.toList.length = z.cps.size := by rw [hS.length]; simp
      refine wpAny_bind (wpAny_newList ?_ (by rw [hl]; exact hz))
      have hoL : (s1.heap.push (seqObj "list" acc.toList.toArray 0)).get? s1.heap.objs.size = some (seqObj "list" acc.toList.toArray 0) := Heap.get?_push_size _ rfl
      refine wpAny_bind (wpAny_holding (wpAny_call_entry slot_list_sort ⟨_, hoL, rfl⟩ entry_list_sort (list_sort_treeKAny strKind_oneLt hoL hS.keysOf (fun v₁ v₂ rest e => keyKind_strs (by rw [← e]; exact hS)) (by rw [hl]; exact hz) fun st' hp hsd => ⟨_, rfl, ?_⟩) (args_list_sort _)))
      obtain ⟨ys, a1, a2, a3⟩ := sorted_out_str hS hp hsd
      obtain ⟨c, hcc⟩ := sortedHeap_at (vs := acc.toList) (out := (arrOf st').map (·.2)) hoL
      refine wpAny_pure ⟨_, rfl, ?_⟩
      have kk : ∀ b o, s1.heap.get? b = some o → (sortedHeap (s1.heap.push (seqObj "list" acc.toList.toArray 0)) s1.heap.objs.size acc.toList ((arrOf st').map (·.2))).get? b = some o := fun b o e1 => by
        have hlt := Heap.lt_size e1
        rw [sortedHeap_old (Nat.ne_of_lt hlt) (by rw [size_push']; exact Nat.lt_succ_of_lt hlt)]
        exact Heap.get?_push_of_some _ e1
      have hlen : (ys.map V.str).length ≤ sizeLine := by rw [List.length_map, a2.length_eq]; simpa using hz
      obtain ⟨hp, gg, dd, tt, oo⟩ := s
      obtain ⟨hp1, gg1, dd1, tt1, oo1⟩ := s1
      cases g1
      cases d1
      cases o1
      have J : Inv X pins σ H ⟨hp1, gg, dd, tt1, oo⟩ := I.kept (h' := hp1) (t' := tt1) k1
      exact ⟨.ref hp1.objs.size, upd H hp1.objs.size (.lst (ys.map V.str)), J.laid (t' := tt1) kk (Nat.le_refl _) ⟨hlen, ((arrOf st').map (·.2)).toList, c, vals_of_strs a1, hcc⟩, rfl, q ys _ a2 a3 (J.hok.fresh (Nat.le_refl _))⟩

def fSortTx : List T → Option T
  | [.str z] => if z.length ≤ maxLen then some (.lst true ((isort leS (z.map fun c => [c])).map .str)) else none
  | [.lst _ xs] => match T.ints xs with
    | some ns => some (.lst true ((isort leI ns).map .int))
    | none => match T.strs xs with
      | some zs => some (.lst true ((isort leS zs).map .str))
      | none => none
  | _ => none
theorem sorted_pw : ∀ {ys : List Str}, sortedS ys = true → ys.Pairwise fun a b => leS a.cps.toList b.cps.toList = true := by
  intro ys
  induction ys with
  | nil => intro _; exact .nil
  | cons x r ih =>
    intro h
    have key : ∀ (r : List Str) (x : Str), risingS x r = true → sortedS r = true ∧ ∀ y ∈ r, leS x.cps.toList y.cps.toList = true := by
      intro r
      induction r with
      | nil => intro x _; exact ⟨rfl, fun _ h => nomatch h⟩
      | cons y r ih2 =>
        intro x h
        have h' : (!ltCps y.cps.toList x.cps.toList && risingS y r) = true := by
          first
            | exact h
            | (unfold risingS at h; simpa using h)
        rw [Bool.and_eq_true] at h'
        have h1 : leS x.cps.toList y.cps.toList = true := by
          unfold leS
          rw [← ltCps_eq]
          exact h'.1
        refine ⟨h'.2, fun z hz => ?_⟩
        rcases List.mem_cons.mp hz with rfl | hz
        · exact h1
        · have h2 := (ih2 y h'.2).2 z hz
          rw [leS_iff] at h1 h2 ⊢
          exact List.le_trans h1 h2
    obtain ⟨h1, h2⟩ := key r x h
    exact List.pairwise_cons.mpr ⟨h2, ih h1⟩
theorem isortS_eq {zs : List (List Nat)} {ys : List Str} (p : ys.Perm (zs.map S)) (h : sortedS ys = true) : ys = (isort leS zs).map S := by
  have e1 : ys = (ys.map fun y => y.cps.toList).map S := by
    rw [List.map_map]
    conv => lhs; rw [← List.map_id ys]
    exact List.map_congr_left fun a _ => S_of a
  have p2 : (ys.map fun y => y.cps.toList).Perm zs := by
    have q := p.map fun y => y.cps.toList
    rw [List.map_map] at q
    have e : (zs.map ((fun y : Str => y.cps.toList) ∘ S)) = zs := by
      conv => rhs; rw [← List.map_id zs]
      exact List.map_congr_left fun a _ => S_toList a
    rw [e] at q
    exact q
  have pw : (ys.map fun y => y.cps.toList).Pairwise fun a b => leS a b = true := List.pairwise_map.mpr (sorted_pw h)
  rw [e1]
  congr 1
  refine List.Perm.eq_of_pairwise (le := fun a b : List Nat => leS a b = true) (fun a b _ _ h1 h2 => ?_) pw (isort_sorted (le := leS) (fun a b c h1 h2 => ?_) (fun a b => ?_) zs) (p2.trans (isort_perm zs).symm)
  · rw [leS_iff] at h1 h2
    exact List.le_antisymm h1 h2
  · rw [leS_iff] at h1 h2 ⊢
    exact List.le_trans h1 h2
  · rw [leS_iff, leS_iff]
    exact List.le_total a b
section
variable {K : PySem.W.Frag} {mg : Str → Option Value}
def rSortU (K : PySem.W.Frag) : List V → Hp → VK → Prop := fun xs H Q => rSortedI K xs H Q ∨ rSortTx K xs H Q
theorem cp_sortTx : CallP K mg (rSortU K) fSortTx := fun H1 H vs ts t s a e Q q => by
  unfold fSortTx at e
  split at e
  · rename_i z
    split at e
    · rename_i hz
      cases e
      obtain ⟨v, G, rfl, r⟩ := a.one
      rw [r.strE]
      refine .inr ⟨(z.map fun c => [c]).map S, .inr ⟨S z, rfl, by rw [maxLen_eq]; simpa [S] using hz, by rw [List.map_map, S_toList]; rfl⟩, fun ys p pm hs n => ?_⟩
      rw [isortS_eq pm hs, List.map_map]
      exact newL s (fz_strs _ _) q p n
    · cases e
  · split at e
    · rename_i ns hn
      cases e
      obtain ⟨v, G, rfl, r⟩ := a.one
      obtain ⟨p, vs, G, rfl, h2, h3⟩ := r.lst' s
      rw [h3.ints hn] at h2
      refine .inl ⟨p, ns, rfl, .inl (.inl h2), fun ms p' pm pw => ?_⟩
      rw [isortI_eq pm pw]
      exact newL s (fz_ints _ _) q p'
    · split at e
      · rename_i zs hz
        cases e
        obtain ⟨v, G, rfl, r⟩ := a.one
        obtain ⟨p, vs, G, rfl, h2, h3⟩ := r.lst' s
        rw [h3.strs hz] at h2
        refine .inr ⟨zs.map S, .inl ⟨p, rfl, by rw [List.map_map]; exact .inl (.inl h2)⟩, fun ys p' pm hs n => ?_⟩
        rw [isortS_eq pm hs, List.map_map]
        exact newL s (fz_strs _ _) q p' n
      · cases e
  · cases e
/-! ### split, join -/
def fSplit : T → T → Option T
  | .str a, .str [c] => if c < 256 ∧ a.length + 2 ≤ maxLen then some (.lst true ((TL.spl [c] 0 [] a).map .str)) else none
  | _, _ => none
theorem split_S1 {a : List Nat} {c : Nat} (hc : c < 256) : Txt.split (S a) (S [c]) = (TL.spl [c] 0 [] a).map S := by
  refine TL.map_tl_inj ?_
  rw [TL.split_spl (S a) (S [c]) (by simp [TL.tl, S]) (TL.kind_ok (by simp [S, hc]))]
  rw [List.map_map]
  have e : ∀ l : List (List Nat), l.map (TL.tl ∘ S) = l := fun l => by
    conv => rhs; rw [← List.map_id l]
    exact List.map_congr_left fun a _ => S_toList a
  rw [e]
  simp [TL.tl, S]
def fJoin : T → T → Option T
  | .str a, t => match (match t with | .lst _ xs => T.strs xs | .tup xs => T.strs xs | _ => none) with
    | some zs => if (zs.map (·.length)).sum + zs.length * a.length ≤ maxLen then some (.str (TL.joinL a zs)) else none
    | none => none
  | _, _ => none
theorem join_S (a : List Nat) (zs : List (List Nat)) : Txt.join (S a) (zs.map S) = S (TL.joinL a zs) := by
  have e := TL.tl_join (S a) (zs.map S)
  have e2 : (zs.map S).map TL.tl = zs := by
    rw [List.map_map]
    conv => rhs; rw [← List.map_id zs]
    exact List.map_congr_left fun a _ => S_toList a
  rw [e2] at e
  refine TL.ext_tl ((congrArg TL.tl (TL.join_eq (S a) (zs.map S))).trans (e.trans ?_))
  simp [TL.tl, S]
end
section
variable {X : Cx} {o e : Expr} {to te : TE} {xo x : Env → Option T} {apos pos : Pos}
theorem qe_split (ho : KE X o to xo) (he : KE X e te x) (hs : starEach [e] X.env = [(false, eval e X.env)] := by rfl) (hbase : attributeBase o "split" X.env (eval o X.env) = eval o X.env := by rfl) (hline : (apos.endLine == pos.line) = true := by rfl) :
    QE X (.Call (.Attribute o "split" apos) [e] [] pos) (tM1 (fun x xs H Q => ∃ a b, x = .str a ∧ xs = [.str b] ∧ (b.length == 0) = false ∧ a.length + 2 ≤ sizeLine ∧ rNewStrs (Txt.split a b) H Q) to te) (qOp fSplit xo x) :=
  ⟨pe_split ho.pe he.pe hs hbase hline, fun env t e H1 H σ F s R Q q => by
    obtain ⟨u, w, e1, e2, e3⟩ := qop_some e
    unfold fSplit at e3
    split at e3
    · rename_i a c
      split at e3
      · rename_i hh
        cases e3
        refine ho.kr _ _ e1 _ _ _ _ s R _ fun v1 Ha Hb G1 x1 r1 => ?_
        rw [r1.strE]
        refine ⟨⟨_, rfl⟩, he.kr _ _ e2 _ _ _ _ x1.sub (x1.qRepE R) _ fun v2 Hc Hd G2 x2 r2 => ?_⟩
        refine ⟨S a, S [c], rfl, by rw [r2.strE], by simp [S, Str.length], by rw [S_length, maxLen_eq]; exact hh.2, fun p n => ?_⟩
        rw [split_S1 hh.1, List.map_map]
        exact newL x2.sub (fz_strs _ _) (fun v H1' H' Ft x3 r3 => q v H1' H' Ft ((x1.trans x2).trans x3) r3) p n
      · cases e3
    · cases e3⟩
theorem qe_join (ho : KE X o to xo) (he : KE X e te x) (hs : starEach [e] X.env = [(false, eval e X.env)] := by rfl) (hbase : attributeBase o "join" X.env (eval o X.env) = eval o X.env := by rfl) (hline : (apos.endLine == pos.line) = true := by rfl) :
    QE X (.Call (.Attribute o "join" apos) [e] [] pos) (tM1 (fun x xs H Q => ∃ a p, ∃ ys : List Str, x = .str a ∧ xs = [.ref p] ∧ (SqL X.K H p (ys.map V.str) ∨ SqT X.K H p (ys.map V.str)) ∧ (ys.map (·.length)).sum + ys.length * a.length ≤ 16777216 ∧ Q (.str (Txt.join a ys)) H) to te) (qOp fJoin xo x) :=
  ⟨pe_m1 PySem.F.slot_str_join PySem.F.type_str_join mt_join ho.pe he.pe hs hbase hline, fun env t e H1 H σ F s R Q q => by
    obtain ⟨u, w, e1, e2, e3⟩ := qop_some e
    unfold fJoin at e3
    split at e3
    · rename_i a
      split at e3
      · rename_i zs hz
        split at e3
        · rename_i hl
          cases e3
          refine ho.kr _ _ e1 _ _ _ _ s R _ fun v1 Ha Hb G1 x1 r1 => ?_
          rw [r1.strE]
          refine ⟨⟨_, rfl⟩, he.kr _ _ e2 _ _ _ _ x1.sub (x1.qRepE R) _ fun v2 Hc Hd G2 x2 r2 => ?_⟩
          have road : ∃ p, v2 = .ref p ∧ (SqL X.K Hd p ((zs.map S).map V.str) ∨ SqT X.K Hd p ((zs.map S).map V.str)) := by
            split at hz
            · obtain ⟨p, vs, G, rfl, h2, h3⟩ := r2.lst' x2.sub
              rw [h3.strs hz] at h2
              exact ⟨p, rfl, .inl (by rw [List.map_map]; exact .inl (.inl h2))⟩
            · obtain ⟨p, vs, rfl, h2, h3⟩ := r2.tuple x2.sub
              obtain ⟨G, h4, _⟩ := h3.reps (H := Hd)
              rw [h4.strs hz] at h2
              exact ⟨p, rfl, .inr (by rw [List.map_map]; exact h2)⟩
            · cases hz
          obtain ⟨p, rfl, hp⟩ := road
          refine ⟨S a, p, zs.map S, rfl, rfl, hp, ?_, ?_⟩
          · rw [List.map_map, List.length_map, S_length]
            have e : (zs.map ((fun z : Str => z.length) ∘ S)) = zs.map (·.length) := List.map_congr_left fun a _ => S_length a
            rw [e]
            exact hl
          · rw [join_S]
            exact now (x1.trans x2).sub (.str _) fun v H1' H' Ft x3 r3 => q v H1' H' Ft ((x1.trans x2).trans x3) r3
        · cases e3
      · cases e3
    · cases e3⟩
end
end GK

/-! GK20: isinstance, chains, starred items. -/
namespace GK
open PySem L2 PySem.Spec PyProof.Rows
def T.tyName : T → Option String
  | .non => some "NoneType" | .bl _ => some "bool" | .int _ => some "int" | .str _ => some "str" | .tup _ => some "tuple" | .lst _ _ => some "list" | .scr _ => some "list" | .dic _ _ => some "dict" | .obj _ _ _ => none
section
variable {K : PySem.W.Frag} {mg : Str → Option Value}
theorem tyx_of {H1 H : Hp} {v : V} {t : T} {F : FP} {n : String} (s : Same H1 H) (r : Rep K mg H1 H v t F) (e : t.tyName = some n) : TyX K H v (.type n) := by
  have seqL : ∀ {a : Addr} {vs : List V}, SqL K H a vs → TyX K H (.ref a) (.type "list") := fun h => by
    rcases h with (h | ⟨o, h⟩) | ⟨o, its, m, h, hc, _⟩
    · exact .base (.lst h)
    · exact .base (.frz h)
    · exact .kList h hc
  have seqT : ∀ {a : Addr} {vs : List V}, SqT K H a vs → TyX K H (.ref a) (.type "tuple") := fun h => by
    rcases h with (h | ⟨o, h⟩) | ⟨o, its, m, h, hc, _⟩
    · exact .base (.tup h)
    · exact .fTuple h
    · exact .kTuple h hc
  cases t with
  | non => cases e; rw [r.nonE]; exact .base .non
  | bl b => cases e; rw [r.blE]; exact .base (.bl b)
  | int i => cases e; rw [r.intE]; exact .base (.int i)
  | str z => cases e; rw [r.strE]; exact .base (.str _)
  | tup xs => cases e; obtain ⟨a, vs, rfl, h2, h3⟩ := r.tuple s; exact seqT h2
  | lst o xs => cases e; obtain ⟨a, vs, G, rfl, h2, h3⟩ := r.list s rfl; exact seqL h2
  | scr xs => cases e; obtain ⟨a, vs, G, rfl, h2, h3⟩ := r.list s rfl; exact seqL h2
  | dic o kvs => cases e; obtain ⟨a, vs, G, rfl, h2, h3⟩ := r.dict s; exact .base (.dK h2)
  | obj o c fs => cases e
/-- isinstance(x, str) -/
def fIsStr : T → Option T
  | .str _ => some (.bl true)
  | .obj _ _ _ => none
  | _ => some (.bl false)
theorem kit_str {t : T} {n : String} {b : Bool} (e : t.tyName = some n) (h : fIsStr t = some (.bl b)) : PySem.W.kitOne K (.type n) (.type "str") = some b := by
  refine kit_ty ?_
  cases t <;> cases e <;> cases h <;> decide +kernel
theorem fIsStr_bl {t u : T} (h : fIsStr t = some u) : ∃ b n, u = .bl b ∧ t.tyName = some n := by
  cases t <;> cases h <;> exact ⟨_, _, rfl, rfl⟩
/-- what isinstance of an own class asks of it -/
structure OwnC (K : PySem.W.Frag) (C : Addr) : Prop where
  cl : Cls K C
  h1 : PySem.W.findIn K (.ref C) "__class__" = some (some (.builtin "object.__class__"))
  h2 : PySem.W.specialIn K (.builtin "object.__class__") "__get__" = some (some (.builtin "getset_descriptor.__get__"))
  h3 : PySem.W.takesIn K (.builtin "object.__class__") = some true
  h4 : PySem.W.mroIn K C (.type "object") = some true
def fIsOwn (c : String) : T → Option T
  | .obj _ d _ => if d = c then some (.bl true) else none
  | _ => none
end
section
variable {X : Cx} {a b c e : Expr} {es : List Expr} {ta tb tc te : TE} {tl : TA} {x xa xb xc : Env → Option T} {xs : Env → Option (List T)} {p p2 pos : Pos}
theorem qe_isStr (hg : Gl X "isinstance") (hm : X.mg "isinstance" = none) (hg2 : Gl X "str") (hm2 : X.mg "str" = none) (ha : KE X a ta x)
    (h1 : starEach [a, .Name "str" p2] X.env = (false, eval a X.env) :: starEach [.Name "str" p2] X.env := by rfl) (h2 : starEach [.Name "str" p2] X.env = (false, eval (.Name "str" p2) X.env) :: starEach [] X.env := by rfl) (hpl : (backTo pos (starEach [.Name "str" p2] X.env)).any (·.1) = false := by rfl) :
    QE X (.Call (.Name "isinstance" p) [a, .Name "str" p2] [] pos) (tCB (rIsi X.K) (tCons ta (tCons (tC (.ty "str")) tNil))) (qUn fIsStr x) :=
  ⟨pe_callB call_isi hg hm (by decide +kernel) (pa_cons ha.pe (pa_cons (pe_bltn (v := .ty "str") hg2 hm2 (by decide +kernel) rfl) pa_nil h2) h1) (by decide) (by decide) h1 hpl, fun env t e H1 H σ F s R Q q => by
    unfold qUn at e
    split at e
    · cases e
    · rename_i u e1
      obtain ⟨k, n, rfl, hn⟩ := fIsStr_bl e
      exact ha.kr _ _ e1 _ _ _ _ s R _ fun v Ha Hb G x1 r1 => ⟨v, .ty "str", .type n, .type "str", k, rfl, .ty "str", tyx_of x1.sub r1 hn, kit_str hn e, now x1.sub (.bl k) fun v H1' H' Ft x2 r2 => q v H1' H' Ft (x1.trans x2) r2⟩⟩
theorem qe_isOwn {y : String} {C : Addr} (hg : Gl X "isinstance") (hm : X.mg "isinstance" = none) (hg2 : Gl X (Str.ofString y)) (hm2 : X.mg (Str.ofString y) = some (.ref C)) (hC : OwnC X.K C) (ha : KE X a ta x) (hd : (Str.ofString y == ("__debug__" : Str)) = false := by decide)
    (h1 : starEach [a, .Name (Str.ofString y) p2] X.env = (false, eval a X.env) :: starEach [.Name (Str.ofString y) p2] X.env := by rfl) (h2 : starEach [.Name (Str.ofString y) p2] X.env = (false, eval (.Name (Str.ofString y) p2) X.env) :: starEach [] X.env := by rfl) (hpl : (backTo pos (starEach [.Name (Str.ofString y) p2] X.env)).any (·.1) = false := by rfl) :
    QE X (.Call (.Name "isinstance" p) [a, .Name (Str.ofString y) p2] [] pos) (tCB (rIsi X.K) (tCons ta (tCons (tC (.ref C)) tNil))) (qUn (fIsOwn y) x) :=
  ⟨pe_callB call_isi hg hm (by decide +kernel) (pa_cons ha.pe (pa_cons (pe_glob hg2 hm2 rfl hd) pa_nil h2) h1) (by decide) (by decide) h1 hpl, fun env t e H1 H σ F s R Q q => by
    unfold qUn at e
    split at e
    · cases e
    · rename_i u e1
      unfold fIsOwn at e
      split at e
      · rename_i o d fs
        split at e
        · rename_i hd
          subst hd
          cases e
          refine ha.kr _ _ e1 _ _ _ _ s R _ fun v Ha Hb G x1 r1 => ?_
          obtain ⟨p', C', dx, vs, G', rfl, g2, g3, g4⟩ := r1.ins x1.sub
          rw [hm2] at g3
          cases g3
          exact ⟨.ref p', .ref C, .ref C, .ref C, true, rfl, .own C, .base (.ins g2 hC.cl hC.h1 hC.h2 hC.h3 hC.h4), by unfold PySem.W.kitOne; rw [if_pos (by simp)], now x1.sub (.bl true) fun v H1' H' Ft x2 r2 => q v H1' H' Ft (x1.trans x2) r2⟩
        · cases e
      · cases e⟩
/-! ### a op1 b op2 c -/
def qChain (f f' : T → T → Option T) (xa xb xc : Env → Option T) : Env → Option T := fun env => match xa env, xb env with
  | some a, some b => (match f a b with
    | some (.bl true) => (match xc env with | some c => f' b c | none => none)
    | some (.bl false) => some (.bl false)
    | _ => none)
  | _, _ => none
theorem qr_chain {K : PySem.W.Frag} {mg : Str → Option Value} {r r' : R2} {f f' : T → T → Option T} (ha : KR K mg ta xa) (hb : KR K mg tb xb) (hc : KR K mg tc xc) (h : OpV K mg r f) (h' : OpV K mg r' f') : QR K mg (tChain r r' ta tb tc) (qChain f f' xa xb xc) := fun env t e H1 H σ F s R Q q => by
  unfold qChain at e
  split at e
  · rename_i u w e1 e2
    refine ha _ _ e1 _ _ _ _ s R _ fun v1 Ha Hb G1 x1 r1 => hb _ _ e2 _ _ _ _ x1.sub (x1.qRepE R) _ fun v2 Hc Hd G2 x2 r2 => ?_
    split at e
    · rename_i e3
      refine h _ _ _ _ _ _ _ _ _ x2.sub (x2.qRep r1) r2 e3 _ fun v He Hf Gv x3 r3 => ⟨true, r3.blE, ?_⟩
      rw [if_pos rfl]
      split at e
      · rename_i z e4
        exact hc _ _ e4 _ _ _ _ x3.sub (x3.qRepE (x2.qRepE (x1.qRepE R))) _ fun v3 Hg Hh G3 x4 r4 => h' _ _ _ _ _ _ _ _ _ x4.sub (x4.qRep (x3.qRep r2)) r4 e Q fun v H1' H' Ft x5 r5 => q v H1' H' Ft ((((x1.trans x2).trans (x3.less fun _ z => z.elim)).trans x4).trans x5) r5
      · cases e
    · rename_i e3
      cases e
      refine h _ _ _ _ _ _ _ _ _ x2.sub (x2.qRep r1) r2 e3 _ fun v He Hf Gv x3 r3 => ⟨false, r3.blE, ?_⟩
      rw [if_neg Bool.false_ne_true]
      exact now x3.sub (.bl false) fun v H1' H' Ft x5 r5 => q v H1' H' Ft (((x1.trans x2).trans (x3.less fun _ z => z.elim)).trans x5) r5
    · cases e
  · cases e
theorem qe_chain {op op' : CmpOp} {r r' : R2} {f f' : T → T → Option T} (ho : OpR X (compareOp op) r) (hv : OpV X.K X.mg r f) (ho' : OpR X (compareOp op') r') (hv' : OpV X.K X.mg r' f') (ha : KE X a ta xa) (hb : KE X b tb xb) (hc : KE X c tc xc)
    (hm : lastMarks [op, op'] [b, c] = false := by with_unfolding_all rfl) : QE X (.Compare a [op, op'] [b, c] pos) (tChain r r' ta tb tc) (qChain f f' xa xb xc) := ⟨pe_chain ho ho' ha.pe hb.pe hc.pe hm, qr_chain ha.kr hb.kr hc.kr hv hv'⟩
theorem te_chain {op op' : CmpOp} {r r' : R2} {f f' : T → T → Option T} (ho : OpR X (compareOp op) r) (hv : OpV X.K X.mg r f) (ho' : OpR X (compareOp op') r') (hv' : OpV X.K X.mg r' f') (ha : KE X a ta xa) (hb : KE X b tb xb) (hc : KE X c tc xc)
    (hm : lastMarks [op, op'] [b, c] = false := by with_unfolding_all rfl) : TE' X (.Compare a [op, op'] [b, c] pos) (tTest (tChain r r' ta tb tc)) (tOfB (qChain f f' xa xb xc)) := ⟨pt_chain ho ho' ha.pe hb.pe hc.pe hm, fun env k e H1 H σ F s R Q q => by
  unfold tOfB at e
  split at e
  · rename_i e1
    cases e
    exact qr_chain ha.kr hb.kr hc.kr hv hv' _ _ e1 _ _ _ _ s R _ fun v H1' H' Ft x r => by
      rw [r.blE]
      first
        | exact ⟨_, rfl, q H1' H' (x.less fun _ z => z.elim)⟩
        | exact q H1' H' (x.less fun _ z => z.elim)
  · cases e⟩
/-! ### a starred item -/
theorem qa_star {sp : Pos} (h : KE X e te x) (hr : QA X es tl xs) (hs : starEach (.Starred e sp :: es) X.env = (true, eval e X.env) :: starEach es X.env := by rfl) : QA X (.Starred e sp :: es) (StX.tStar X.K te tl) (aStar x xs) := ⟨StX.pa_star h.pe hr.pa hs, fun env ts e H1 H σ F s R Q q => by
  unfold aStar at e
  split at e
  · cases e
  · rename_i t e1
    split at e
    · rename_i ys us e2 e3
      cases e
      refine h.kr _ _ e1 _ _ _ _ s R _ fun v Ha Hb G x1 r1 => ?_
      have road : ∃ a vs, v = .ref a ∧ (SqT X.K Hb a vs ∨ SqL X.K Hb a vs) ∧ Fzs X.K X.mg Ha vs ys := by
        split at e2
        · cases e2
          obtain ⟨a, vs, rfl, h2, h3⟩ := r1.tuple x1.sub
          exact ⟨a, vs, rfl, .inl h2, h3⟩
        · split at e2
          · rename_i hsh
            cases e2
            obtain ⟨a, vs, G, rfl, h2, h3⟩ := r1.lst' x1.sub
            exact ⟨a, vs, rfl, .inr (.inl (.inl h2)), h3.fzs hsh⟩
          · cases e2
        · cases e2
      obtain ⟨a, vs, rfl, h2, h3⟩ := road
      refine ⟨a, vs, rfl, h2, hr.qr _ _ e3 _ _ _ _ x1.sub (x1.qRepE R) _ fun ws Hc Hd Ft x2 r2 => ?_⟩
      obtain ⟨G0, h4, h5⟩ := (h3.mono x2.s1).reps (H := Hd)
      obtain ⟨F', r3, hF⟩ := h4.append r2 fun b z => (h5 b z).elim
      exact q (vs ++ ws) Hc Hd F' ((x1.trans x2).less fun b z => ((hF b).mp z).elim (fun z => (h5 b z).elim) id) r3
    · cases e⟩
end
end GK

/-! GK21: what the printed walks lean on: callees by name, constants, frozen values. -/
namespace GK
open PySem L2 PySem.Spec PyProof.Rows

/-- a def of the module that may be called under its name, by what it makes of the written arguments -/
structure Has (P : Program) (w : World) (K : PySem.W.Frag) (mg : Str → Option Value) (base : Heap) (k : Nat) (x : String) (fn : List T → Option (T × List T)) : Prop where
  ex : ∃ f : Addr, mg (Str.ofString x) = some (.ref f) ∧ ∀ X : Cx, X.prog = P → X.w = w → X.K = K → X.mg = mg → X.base = base → Room k X.A → X.A.guards = some [] → Callee X (.ref f) [] fn
/-- a class of the module that may be made under its name -/
structure HasC (P : Program) (w : World) (K : PySem.W.Frag) (mg : Str → Option Value) (base : Heap) (k : Nat) (x : String) (fn : List T → Option (T × List T)) : Prop where
  ex : ∃ C : Addr, mg (Str.ofString x) = some (.ref C) ∧ ∀ X : Cx, X.prog = P → X.w = w → X.K = K → X.mg = mg → X.base = base → Room (k + 1) X.A → X.A.guards = some [] → Callee X (.ref C) [] (mkMake x fn)
section
variable {P : Program} {w : World} {K : PySem.W.Frag} {mg : Str → Option Value} {base : Heap} {k : Nat} {x : String} {f C : Addr} {fd : FuncData} {ps : List Str} {fn : List T → Option (T × List T)} {dvs : List V} {ds : List Value} {dts : List T}
theorem has_fn (F : FnG P w K mg base k f fd ps fn) (m : mg (Str.ofString x) = some (.ref f)) (kp : PySem.W.keepIn K (.ref f) = true) (b : Binds K fd ps []) : Has P w K mg base k x fn :=
  ⟨f, m, fun X h1 h2 h3 h4 h5 hr hg => by subst h1 h2 h3 h4 h5; exact callee_fn F hr hg kp b⟩
theorem has_fnD (F : FnG P w K mg base k f fd ps fn) (m : mg (Str.ofString x) = some (.ref f)) (kp : PySem.W.keepIn K (.ref f) = true) (b : Binds K fd ps ds) (d : Vals dvs ds) (fz : ∀ H, Fzs K mg H dvs dts) : Has P w K mg base k x (withD dts fn) :=
  ⟨f, m, fun X h1 h2 h3 h4 h5 hr hg => by subst h1 h2 h3 h4 h5; exact callee_fnD F hr hg kp b d fz⟩
theorem has_cls (M : Mk K C f) (F : FnG P w K mg base k f fd ps fn) (m : mg (Str.ofString x) = some (.ref C)) (b : Binds K fd ps []) : HasC P w K mg base k x fn :=
  ⟨C, m, fun X h1 h2 h3 h4 h5 hr hg => by subst h1 h2 h3 h4 h5; exact callee_make M F hr hg m b⟩
theorem has_clsD (M : Mk K C f) (F : FnG P w K mg base k f fd ps fn) (m : mg (Str.ofString x) = some (.ref C)) (b : Binds K fd ps ds) (d : Vals dvs ds) (fz : ∀ H, Fzs K mg H dvs dts) : HasC P w K mg base k x (withD dts fn) :=
  ⟨C, m, fun X h1 h2 h3 h4 h5 hr hg => by subst h1 h2 h3 h4 h5; exact callee_makeD M F hr hg m b d fz⟩
end
section
variable {X : Cx} {j k : Nat} {y : String} {fn : List T → Option (T × List T)} {p pos : Pos} {e : Expr} {es : List Expr} {te : TE} {tl : TA} {x : Env → Option T} {xs : Env → Option (List T)} {z : Env → Option (T × Env)} {ls : Env → Option (List Ar × Env)} {i : Int}
theorem Has.callee (h : Has X.prog X.w X.K X.mg X.base k y fn) (hr : Room j X.A) (hk : k ≤ j) (hg : X.A.guards = some []) : ∃ f, X.mg (Str.ofString y) = some (.ref f) ∧ Callee X (.ref f) [] fn := by
  obtain ⟨f, m, c⟩ := h.ex
  exact ⟨f, m, c X rfl rfl rfl rfl rfl (hr.mono hk) hg⟩
theorem HasC.callee (h : HasC X.prog X.w X.K X.mg X.base k y fn) (hr : Room j X.A) (hk : k + 1 ≤ j) (hg : X.A.guards = some []) : ∃ f, X.mg (Str.ofString y) = some (.ref f) ∧ Callee X (.ref f) [] (mkMake y fn) := by
  obtain ⟨f, m, c⟩ := h.ex
  exact ⟨f, m, c X rfl rfl rfl rfl rfl (hr.mono hk) hg⟩
theorem qe_has (h : Has X.prog X.w X.K X.mg X.base k y fn) (hr : Room j X.A) (hk : k ≤ j) (hg : X.A.guards = some []) (ha : QA X (e :: es) tl xs) (hgl : Gl X (Str.ofString y) := by rfl) (hdb : (Str.ofString y == ("__debug__" : Str)) = false := by decide) (he : starEach (e :: es) X.env = (false, eval e X.env) :: starEach es X.env := by rfl)
    (hpl : (backTo pos (starEach es X.env)).any (·.1) = false := by rfl) : QE X (.Call (.Name (Str.ofString y) p) (e :: es) [] pos) (tCallF X.K X.mg fn tl) (qCall fn xs) := by
  obtain ⟨f, m, C⟩ := h.callee hr hk hg
  exact qe_call C hgl m ⟨f, rfl⟩ ha hdb he hpl
theorem ee_has (h : Has X.prog X.w X.K X.mg X.base k y fn) (hr : Room j X.A) (hk : k ≤ j) (hg : X.A.guards = some []) (ha : EL X (e :: es) tl ls) (hgl : Gl X (Str.ofString y) := by rfl) (hdb : (Str.ofString y == ("__debug__" : Str)) = false := by decide) (he : starEach (e :: es) X.env = (false, eval e X.env) :: starEach es X.env := by rfl)
    (hpl : (backTo pos (starEach es X.env)).any (·.1) = false := by rfl) : EE X (.Call (.Name (Str.ofString y) p) (e :: es) [] pos) (tCallF X.K X.mg fn tl) (eCall fn ls) := by
  obtain ⟨f, m, C⟩ := h.callee hr hk hg
  exact ee_call C hgl m ⟨f, rfl⟩ ha hdb he hpl
theorem qe_hasC (h : HasC X.prog X.w X.K X.mg X.base k y fn) (hr : Room j X.A) (hk : k + 1 ≤ j) (hg : X.A.guards = some []) (ha : QA X (e :: es) tl xs) (hgl : Gl X (Str.ofString y) := by rfl) (hdb : (Str.ofString y == ("__debug__" : Str)) = false := by decide) (he : starEach (e :: es) X.env = (false, eval e X.env) :: starEach es X.env := by rfl)
    (hpl : (backTo pos (starEach es X.env)).any (·.1) = false := by rfl) : QE X (.Call (.Name (Str.ofString y) p) (e :: es) [] pos) (tCallF X.K X.mg (mkMake y fn) tl) (qCall (mkMake y fn) xs) := by
  obtain ⟨f, m, C⟩ := h.callee hr hk hg
  exact qe_call C hgl m ⟨f, rfl⟩ ha hdb he hpl
theorem ee_hasC (h : HasC X.prog X.w X.K X.mg X.base k y fn) (hr : Room j X.A) (hk : k + 1 ≤ j) (hg : X.A.guards = some []) (ha : EL X (e :: es) tl ls) (hgl : Gl X (Str.ofString y) := by rfl) (hdb : (Str.ofString y == ("__debug__" : Str)) = false := by decide) (he : starEach (e :: es) X.env = (false, eval e X.env) :: starEach es X.env := by rfl)
    (hpl : (backTo pos (starEach es X.env)).any (·.1) = false := by rfl) : EE X (.Call (.Name (Str.ofString y) p) (e :: es) [] pos) (tCallF X.K X.mg (mkMake y fn) tl) (eCall (mkMake y fn) ls) := by
  obtain ⟨f, m, C⟩ := h.callee hr hk hg
  exact ee_call C hgl m ⟨f, rfl⟩ ha hdb he hpl
/-- a module's constant -/
theorem qe_gI {n : Str} (hm : ∃ t, X.mg n = some (.int i t)) (hg : Gl X n := by rfl) (hd : (n == ("__debug__" : Str)) = false := by decide) : QE X (.Name n pos) (tC (.int i)) (qC (.int i)) := by
  obtain ⟨t, hm⟩ := hm
  exact qe_gint hm hg hd
theorem qe_gS {n : Str} {l : List Nat} (hm : ∃ t, X.mg n = some (.str (S l) t)) (hg : Gl X n := by rfl) (hd : (n == ("__debug__" : Str)) = false := by decide) : QE X (.Name n pos) (tC (.str (S l))) (qC (.str l)) := by
  obtain ⟨t, hm⟩ := hm
  exact qe_gstr hm rfl hg hd
/-- a value with effects, frozen -/
def eFz (y : Env → Option (T × Env)) : Env → Option (T × Env) := fun env => match y env with | none => none | some (t, env1) => some (t.fz, env1)
theorem ee_fz (h : EE X e te z) : EE X e te (eFz z) := ⟨h.pe, fun env t env' e H1 H σ F s R Q q => by
  unfold eFz at e
  split at e
  · cases e
  · rename_i u env1 e1
    cases e
    refine h.er _ _ _ e1 _ _ _ _ s R _ fun v Ha Hb F1 G1 x1 R1 r1 d1 => ?_
    have x2 : Ext Ha Hb (fun b => F1 b ∨ G1 b) (join Ha Hb G1) Hb F1 := Ext.freeze x1.sub (fun b z => (r1.own b z).1) (fun b z w => d1 b w z) (fun _ z => .inr z) fun _ z => .inl z
    have R2 := R1.frame (H' := Hb) x2.s1 fun b z => ⟨rfl, by rw [join_out (d1 b z)]; exact (R1.own b z).1⟩
    exact q v _ Hb F1 F0 ((x1.trans x2).less fun b z => z.elim id fun z => z.elim) R2 (.sh (r1.freeze x2.s1 fun b z => join_in z)) fun _ _ z => z⟩
/-- a name given up: its value goes out as it is -/
def eMove (i : Nat) : Env → Option (T × Env) := fun env => match env[i]? with | some (some t) => some (t, env.set i none) | _ => none
theorem ee_move (i : Nat) {y : Str} (h : PE X (.Name y pos) (tVar i)) : EE X (.Name y pos) (tVar i) (eMove i) := ⟨h, fun env t env' e H1 H σ F s R Q q => by
  unfold eMove at e
  split at e
  · rename_i t' e1
    cases e
    obtain ⟨v, Fi, G, h1, h2, h3, h4, h5, h6⟩ := R.take e1
    exact ⟨v, h1, q v H1 H G Fi ((Ext.refl s).less fun b z => z.elim (h6 b) (h5 b)) h3 h2 fun b z w => h4 b w z⟩
  · cases e⟩
/-- name = [..], frozen -/
theorem QR.fz {K : PySem.W.Frag} {mg : Str → Option Value} (h : QR K mg te x) : QR K mg te (qFz x) := fun env t e H1 H σ F s R Q q => by
  unfold qFz at e
  cases e1 : x env with
  | none => rw [e1] at e; cases e
  | some u =>
    rw [e1] at e
    cases e
    refine h _ _ e1 _ _ _ _ s R _ fun v Ha Hb Ft x1 r1 => ?_
    have x2 : Ext Ha Hb Ft (join Ha Hb Ft) Hb F0 := Ext.freeze x1.sub (fun b z => (r1.own b z).1) (fun _ _ z => z) (fun _ z => z) fun _ z => z.elim
    exact q v _ Hb F0 (x1.trans x2) (.sh (r1.freeze x2.s1 fun b z => join_in z))
variable {P : Nat → Bool} {elt tg iter kx : Expr} {ifs : List Expr} {scope : Scope} {own : List (Str × Nat)} {wi : TI} {src : Env → Option (List T)} {g : TG} {f : T → Env → Option Env} {tt : TT} {c : Env → Option Bool}
theorem se_setLcF {i : Nat} {y : Str} {py spos : Pos} (hc : X.calm = true) (hN : X.N.Nodup) (hy : X.N[i]? = some y) (hyl : X.env.scope.names.lookup y = some .local)
    (hsw : swapsWith (.ListComp elt [⟨tg, iter, ifs, 0⟩] scope pos) (some (.Name y py)) spos.line X.env = pure true) (hi : IK X tg iter wi src) (ok : BlkOk X.N X.env.scope scope own)
    (hg : ∀ (s : Shared) (H : Hp) (C : Addr) (cl : List (Str × Addr)) (fp : List Addr), ∃ g, GQ (X.blk s H scope (compEnvC scope cl C X.env) fp) (pinC (own.map (·.2))) tg g f)
    (ht : ∀ (s : Shared) (H : Hp) (C : Addr) (cl : List (Str × Addr)) (fp : List Addr), ∃ tt, TS' (X.blk s H scope (compEnvC scope cl C X.env) fp) ifs tt c)
    (he : ∀ (s : Shared) (H : Hp) (C : Addr) (cl : List (Str × Addr)) (fp : List Addr), ∃ te, QE (X.blk s H scope (compEnvC scope cl C X.env) fp) elt te x) (hp : P i = false)
    (hs : ∀ x, foldedSetIterable iter X.env x = pure x := by intro _; rfl) :
    SE X P (.Assign [.Name y py] (.ListComp elt [⟨tg, iter, ifs, 0⟩] scope pos) spos) (tAsg (tLc wi (gAll X scope (pinC (own.map (·.2))) tg f) (tAll X scope ifs c) (eAll X scope elt x) (own.map (·.2))) (gName i)) (sAsg (eQ (qFz (qLc (own.map (·.2)) src f c x))) (gSet i)) :=
  se_setLc0 hc hN hy hyl hsw hi ok hg ht he hp (qr_lc hi.ir g_allR t_allR e_allR).fz hs
end
/-! rooms -/
theorem hu65 {A : Around} {k : Nat} (r : Room k A) : A.units + 65 < cLine := by have := r.un; omega
/-! the built-ins' names -/
theorem b_len : bootBuiltins "len" = some (.builtin "len") := by decide +kernel
theorem b_abs : bootBuiltins "abs" = some (.builtin "abs") := by decide +kernel
theorem b_max : bootBuiltins "max" = some (.builtin "max") := by decide +kernel
theorem b_min : bootBuiltins "min" = some (.builtin "min") := by decide +kernel
theorem b_sum : bootBuiltins "sum" = some (.builtin "sum") := by decide +kernel
theorem b_all : bootBuiltins "all" = some (.builtin "all") := by decide +kernel
theorem b_any : bootBuiltins "any" = some (.builtin "any") := by decide +kernel
theorem b_sorted : bootBuiltins "sorted" = some (.builtin "sorted") := by decide +kernel
theorem b_divmod : bootBuiltins "divmod" = some (.builtin "divmod") := by decide +kernel
theorem b_int : bootBuiltins "int" = some (.type "int") := by decide +kernel
theorem b_str : bootBuiltins "str" = some (.type "str") := by decide +kernel
theorem b_tuple : bootBuiltins "tuple" = some (.type "tuple") := by decide +kernel
theorem b_list : bootBuiltins "list" = some (.type "list") := by decide +kernel
end GK

/-! GK22: the end of a row: the law's def is run with the script. -/
namespace GK
open PySem L2 PySem.Spec PyProof.Rows PySem.W

theorem run_law {P : Program} {w : World} {K : PySem.W.Frag} {mg mb : Str → Option Value} {k : Nat} {fa a : Addr} {fd : FuncData} {x : Str} {fn : List T → Option (T × List T)} {st : Shared} {vs : List Value} {ns : List Int}
    (kin : K.In st.heap) (nsG : st.heap.Ns mainGlobals mg) (nsB : st.heap.Ns builtinsNs mb) (bb : ∀ x : Str, x ≠ "__name__" → mb x = bootBuiltins x) (lim : st.heap.NoLimit) (gens : st.gens = #[])
    (at_ : st.heap.get? a = some { cls := .type "list", data := .seq vs.toArray }) (hints : IntsAre vs ns) (short : ns.length ≤ sizeLine) (room : Room k callerA)
    (F : ∀ base : Heap, K.In base → base.Ns mainGlobals mg → FnG P w K mg base k fa fd [x] fn) (bind : ∀ (s : Shared) (u : Value), BindsTo s fd ⟨[u], []⟩ [(x, u)])
    (plain : ∃ ts', fn [.scr (ns.map T.int)] = some (.bl true, ts')) :
    codeAny (model P w) callerA (.call (.ref fa) ⟨[.ref a], []⟩) (fun r s' => r = .ok (.ret (.bool true)) ∧ OldK st.heap s'.heap ∧ s'.os = st.os ∧ AllBare s'.gens) st := by
  have rvs := vals_ints hints
  have lvs := hints.length
  have main : ∀ H : Hp, Only H → SqL K H a (ns.map V.int) → HOk P w H st.heap → (∀ b, H b ≠ none → b = a) → (H a ≠ none → K.lookup a = none) →
      codeAny (model P w) callerA (.call (.ref fa) ⟨[.ref a], []⟩) (fun r s' => r = .ok (.ret (.bool true)) ∧ OldK st.heap s'.heap ∧ s'.os = st.os ∧ AllBare s'.gens) st := by
    intro H only seq ok onlyA free
    have hid : ∀ {b : Addr} {o : Obj}, st.heap.get? b = some o → H b = none → (hidT st.heap H).get? b = some o := fun e n => hidT_get e n
    have nodict : ∀ {b : Addr} {o : Obj} {es : Array DictEntry} {ep : Nat}, st.heap.get? b = some o → o.data = .dict es ep → H b = none := fun {b o es ep} e d => by
      rcases none_or H b with q | ⟨u, q⟩
      · exact q
      · have eb : b = a := onlyA b (by rw [q]; exact fun z => nomatch z)
        subst eb
        rw [at_] at e
        cases e
        cases (show Data.seq vs.toArray _ = Data.dict es ep from d)
    have nsH : ∀ {b : Addr} {m : Str → Option Value}, st.heap.Ns b m → (hidT st.heap H).Ns b m := fun {b m} ⟨o, es, ep, e, d, r⟩ => ⟨o, es, ep, hid e (nodict e d), d, r⟩
    have kinH : K.In (hidT st.heap H) := fun b o e => hid (kin b o e) (by
      rcases none_or H b with q | ⟨u, q⟩
      · exact q
      · have eb : b = a := onlyA b (by rw [q]; exact fun z => nomatch z)
        subst eb
        rw [free (by rw [q]; exact fun z => nomatch z)] at e
        cases e)
    have modH : Mod K mg (hidT st.heap H) := ⟨kinH, nsH nsG, ⟨mb, nsH nsB, bb⟩, let ⟨mc, h1, h2⟩ := lim; ⟨mc, nsH h1, h2⟩⟩
    have e0 : Env0 P w K mg (hidT st.heap H) callerA [] st H := ⟨rfl, modH, fun b o e => of_hidT e, Nat.le_of_eq (hidT_size _ _), trivial, (fun b hb => absurd (show b ∈ ([] : List Addr) from hb) (by simp)), ok, .of_eq gens⟩
    obtain ⟨ts', hp⟩ := plain
    have want : spV K mg fn [.ref a] H (fun v _ => v = .bl true) := ⟨H, _, _, _, ts', Same.refl H, .cons (.sh (.scr seq (fz_ints ns H))) .nil fun _ z => z.elim, hp, fun v H1' H' F' Ft _ _ rv _ => rv.blE⟩
    refine codeAny_mono ((F _ kinH (nsH nsG)).meets callerA [] st H ⟨[.ref a], []⟩ [.ref a] [.ref a] _ room rfl e0 (bind st (.ref a)) (.cons rfl .nil) want) fun o s' ho => ?_
    cases o with
    | error e => exact False.elim ho
    | ok fl =>
      cases fl with
      | next => exact False.elim ho
      | brk => exact False.elim ho
      | cont => exact False.elim ho
      | ret u =>
        obtain ⟨v, H', os, bare, un, ok', rv, qv⟩ := ho
        have qv' : v = .bl true := qv
        subst qv'
        obtain rfl : u = Value.bool true := rv
        refine ⟨rfl, OldK.of_keep fun b o e => ?_, os, bare⟩
        rcases only b with z | ⟨ob, xs, z⟩
        · exact un.keep b o e z (fun q => absurd (show b ∈ ([] : List Addr) from q) (by simp)) (by simp)
        · have z2 := un.frzs b ob _ z
          obtain ⟨e1, _⟩ := ok b _ z
          obtain ⟨e2, _⟩ := ok' b _ z2
          rw [e] at e1
          cases e1
          exact e2
  cases hk : K.lookup a with
  | some o =>
    have e := kin a o hk
    rw [at_] at e
    cases e
    exact main (fun _ => none) (fun _ => .inl rfl) (.inr ⟨_, vs.toArray, _, hk, rfl, rfl, rfl, by rw [List.size_toArray, lvs]; exact short, by simpa using rvs⟩) (fun b u z => nomatch (show (none : Option HO) = some u from z)) (fun b z => absurd rfl z) fun z => absurd rfl z
  | none =>
    refine main (fun b => if b = a then some (.frz { cls := .type "list", data := .seq vs.toArray } (.lst (ns.map V.int))) else none) (fun b => ?_) (.inl (.inr ⟨{ cls := .type "list", data := .seq vs.toArray }, if_pos rfl⟩)) (fun b u z => ?_) (fun b z => ?_) fun _ => hk
    · by_cases hb : b = a
      · exact .inr ⟨_, _, if_pos hb⟩
      · exact .inl (if_neg hb)
    · by_cases hb : b = a
      · have zz := (if_pos hb).symm.trans z
        cases zz
        subst hb
        exact ⟨at_, by rw [List.length_map]; exact short, vs, _, rvs, at_⟩
      · cases (if_neg hb).symm.trans z
    · by_cases hb : b = a
      · exact hb
      · exact absurd (if_neg hb) z
theorem walk_G {l : PySem.W.OpenLaw} {n k : Nat} {q : Program} {loose : List Str} {XP : (Str → Option Value) → Heap → Prop} {YP : World → Heap → Prop} {d : DefRec} {K : Params → PySem.W.Frag} {x : Str} {fn : List T → Option (T × List T)}
    (hn : l.most = some n) (hn2 : n ≤ sizeLine) (hdf : d.params.defaults = []) (room : Room k callerA) (hY : ∀ (w : World) (h : Heap), YP w h → (K w.params).In h)
    (F : ∀ (w : World) (mg : Str → Option Value) (fa : Addr) (h : Heap), (K w.params).In h → h.Ns mainGlobals mg → mg d.name = some (.ref fa) →
      ∃ fd : FuncData, (∀ (s : Shared) (u : Value), BindsTo s fd ⟨[u], []⟩ [(x, u)]) ∧ ∀ base : Heap, (K w.params).In base → base.Ns mainGlobals mg → FnG l.prog w (K w.params) mg base k fa fd [x] fn)
    (plain : ∀ ns : List Int, ns.length ≤ n → (∀ z ∈ ns, Builtin.Int.intBits z ≤ 1048576) → ∃ ts', fn [.scr (ns.map T.int)] = some (.bl true, ts')) :
    PySem.W.WalkO q loose XP YP l.row.toRowW d [] (fun f vs => PySem.call f vs) := by
  refine Att.attach_callB hn hdf fun w s₀ s₁ mg mb fa o pm cd doc a vs ns G Y ho hd hcd hmg hobj hints hlen hbits hg => ?_
  have kin := hY w _ Y
  obtain ⟨fd, hb, hF⟩ := F w mg fa _ kin G.T.g hmg
  exact run_law kin G.T.g G.T.b G.T.builtins G.T.nolimit hg hobj hints (Nat.le_trans hlen hn2) room hF hb (plain ns hlen hbits)
end GK

/-! GK23: small steps for the plain part. -/
namespace GK
theorem mkFn_rt {n m : Nat} {P : Nat → Bool} {b : Env → Option Out} {ts ts' : List T} {t : T} {env' : Env} (hl : ts.length = n) (hb : b (ts.map some ++ List.replicate (m - n) none) = some (.rt t env')) (hk : back P 0 ts env' = some ts') : mkFn n m P b ts = some (t, ts') := by
  unfold mkFn
  rw [if_pos hl, hb]
  simp only [hk]
theorem mkFn_nx {n m : Nat} {P : Nat → Bool} {b : Env → Option Out} {ts ts' : List T} {env' : Env} (hl : ts.length = n) (hb : b (ts.map some ++ List.replicate (m - n) none) = some (.nx env')) (hk : back P 0 ts env' = some ts') : mkFn n m P b ts = some (.non, ts') := by
  unfold mkFn
  rw [if_pos hl, hb]
  simp only [hk]
theorem seq_nx {b c : Env → Option Out} {env env1 : Env} (h : b env = some (.nx env1)) : sSeq b c env = c env1 := by unfold sSeq; rw [h]
theorem seq_rt {b c : Env → Option Out} {env env1 : Env} {t : T} (h : b env = some (.rt t env1)) : sSeq b c env = some (.rt t env1) := by unfold sSeq; rw [h]
theorem asg_at {y : Env → Option (T × Env)} {i : Nat} {env env1 : Env} {t : T} (h : y env = some (t, env1)) (hi : i < env1.length) : sAsg y (gSet i) env = some (.nx (env1.set i (some t))) := by
  unfold sAsg gSet
  rw [h]
  simp only [if_pos hi]
/-- the slots but the first, of an end -/
def tl : Option Out → List (Option T)
  | some (.nx (_ :: l)) => l
  | some (.rt _ (_ :: l)) => l
  | _ => []
def theT : Option (T × List T) → T
  | some (t, _) => t
  | none => .non
def okRt : Option Out → Bool
  | some (.rt (.bl true) (some (.lst true [.int _, .int _]) :: _)) => true
  | _ => false
theorem all_four {x : Env → Option T} {env0 : Env} {ts : List T} {f : T → Env → Option Env} (h : ∀ t ∈ ts, ∃ env1, f t env0 = some env1 ∧ env1.length = env0.length ∧ x env1 = some (.bl true)) : lcGo f cYes x env0 ts = some (ts.map fun _ => .bl true) := by
  induction ts with
  | nil => rfl
  | cons t r ih =>
    obtain ⟨env1, h1, h2, h3⟩ := h t List.mem_cons_self
    unfold lcGo
    rw [h1]
    simp only [h2, if_true, cYes, h3, ih fun t ht => h t (List.mem_cons_of_mem _ ht)]
    rfl
end GK
namespace GK
section
variable {env env1 env2 env3 : Env} {a b t : T} {ts us : List T} {x : Env → Option T} {y z : Env → Option (T × Env)} {ys : Env → Option (List T × Env)} {ls : Env → Option (List Ar × Env)} {as : List Ar} {f : T → T → Option T} {g : List T → Option T} {fn : List T → Option (T × List T)}
theorem eQ_at (h : x env = some t) : eQ x env = some (t, env) := by unfold eQ; rw [h]
theorem eOp_at (h1 : y env = some (a, env1)) (h2 : z env1 = some (b, env2)) (h3 : f a b = some t) : eOp f y z env = some (t, env2) := by
  unfold eOp
  simp only [h1, h2, h3]
theorem eFz_at (h : y env = some (t, env1)) : eFz y env = some (t.fz, env1) := by unfold eFz; rw [h]
theorem eaCons_at (h1 : y env = some (t, env1)) (h2 : ys env1 = some (ts, env2)) : eaCons y ys env = some (t :: ts, env2) := by
  unfold eaCons
  rw [h1]
  simp only [h2]
theorem eaNil_at : eaQ aNil env = some ([], env) := rfl
theorem eCallB_at (h1 : ys env = some (ts, env1)) (h2 : g ts = some t) : eCallB g ys env = some (t, env1) := by
  unfold eCallB
  rw [h1]
  simp only [h2]
theorem lVal_at (h1 : y env = some (t, env1)) (h2 : ls env1 = some (as, env2)) : lVal y ls env = some (.val t :: as, env2) := by
  unfold lVal
  rw [h1]
  simp only [h2]
theorem lNil_at : lNil env = some ([], env) := rfl
/-- a call whose one argument is a value -/
theorem eCall1_at (h1 : y env = some (a, env1)) (h2 : fn [a] = some (t, us)) (h3 : us.length = 1) : eCall fn (lVal y lNil) env = some (t, env1) := by
  unfold eCall
  rw [lVal_at h1 lNil_at]
  match us, h3 with
  | [u], _ => simp [fill, h2, unfill]
theorem sPar2_at {i j : Nat} (h : ys env = some ([a, b], env1)) (hi : i < env1.length) (hj : j < env1.length) : sPar [i, j] ys env = some (.nx ((env1.set i (some a)).set j (some b))) := by
  unfold sPar
  rw [h]
  simp [hi, hj]
theorem callB1_at {x : Env → Option T} (h1 : x env = some a) (h2 : g [a] = some t) : qCallB g (aCons x aNil) env = some t := by
  unfold qCallB aCons aNil
  simp only [h1, h2]
theorem ret_at (h : y env = some (t, env1)) : sRet y env = some (.rt t env1) := by unfold sRet; rw [h]
/-- the i-th slot of an end -/
def sl (o : Option Out) (i : Nat) : Option T := match o with
  | some (.nx env) => (match env[i]? with | some s => s | none => none)
  | some (.rt _ env) => (match env[i]? with | some s => s | none => none)
  | _ => none
end
end GK

/-! GK24: comprehensions of two clauses, enumerate, methods, defaults, list(range(..)). -/
namespace GK
open PySem L2 PySem.Spec PyProof.Rows

/-! ### two clauses -/
def lc2Go (f : T → Env → Option Env) (c : Env → Option Bool) (src1 : Env → Option (List T)) (f1 : T → Env → Option Env) (c1 : Env → Option Bool) (x : Env → Option T) (vs1 : List Nat) (env0 : Env) : List T → Option (List T)
  | [] => some []
  | t :: r => match f t env0 with
    | none => none
    | some env1 => if env1.length = env0.length then (match c env1 with
      | none => none
      | some false => lc2Go f c src1 f1 c1 x vs1 env0 r
      | some true => match src1 env1 with
        | none => none
        | some ts1 => match lcGo f1 c1 x (wipeE env1 vs1) ts1 with
          | none => none
          | some us => match lc2Go f c src1 f1 c1 x vs1 env0 r with
            | none => none
            | some ws => some (us ++ ws)) else none
def qLc2 (vs vs1 : List Nat) (src : Env → Option (List T)) (f : T → Env → Option Env) (c : Env → Option Bool) (src1 : Env → Option (List T)) (f1 : T → Env → Option Env) (c1 : Env → Option Bool) (x : Env → Option T) : Env → Option T := fun env => match src env with
  | none => none
  | some ts => match lc2Go f c src1 f1 c1 x vs1 (wipeE env vs) ts with
    | none => none
    | some us => if us.length ≤ maxLen then some (.lst true us) else none
section
variable {K : PySem.W.Frag} {mg : Str → Option Value} {wi wi1 : TI} {src src1 : Env → Option (List T)} {g g1 : TG} {f f1 : T → Env → Option Env} {tt tt1 : TT} {c c1 : Env → Option Bool} {te : TE} {x : Env → Option T} {vs vs1 : List Nat}
theorem qr_lc2 (hi : IKR K mg wi src) (hg : GQR K mg (pinC vs) g f) (ht : TR K mg tt c) (hi1 : IQR K mg wi1 src1) (hg1 : GQR K mg (pinC vs1) g1 f1) (ht1 : TR K mg tt1 c1) (he : QR K mg te x) :
    QR K mg (tLc2 wi g tt wi1 g1 tt1 te vs vs1) (qLc2 vs vs1 src f c src1 f1 c1 x) := fun env t e H1 H σ F s R Q q => by
  unfold qLc2 at e
  split at e
  · cases e
  · rename_i ts e1
    split at e
    · cases e
    · rename_i us e2
      split at e
      · rename_i hz
        cases e
        refine hi _ _ e1 _ _ _ _ s R _ fun J Ha Hb xa w D hD => ?_
        obtain ⟨G, Y, wk, hG, hY⟩ := w.ex
        have Ra := xa.qRepE R
        refine ⟨fun i m H => m = ts.length - i ∧ i ≤ ts.length ∧ ∃ H1 ts' r, LcInv K mg Ha Hb D H1 H ts' ∧ lc2Go f c src1 f1 c1 x vs1 (wipeE env vs) (ts.drop i) = some r ∧ ts' ++ r = us, ⟨ts.length, by simp, Nat.zero_le _, Ha, [], us, LcInv.start xa.sub hD, by rw [List.drop_zero]; exact e2, rfl⟩, ?_⟩
        rintro i m Hi ⟨rfl, hil, H1i, ts', r, h, el, er⟩
        obtain ⟨acc0, Fa, x1, _⟩ := h.ex
        have gi := hG H1i Hi _ x1
        by_cases hlt : i < ts.length
        · refine .inr ⟨wk.goes i Hi hlt gi, fun H' => ∃ H1 ts' r, LcInv K mg Ha Hb D H1 H' ts' ∧ lc2Go f c src1 f1 c1 x vs1 (wipeE env vs) (ts.drop (i + 1)) = some r ∧ ts' ++ r = us, fun H' h' => ⟨ts.length - (i + 1), by omega, rfl, hlt, h'⟩, fun v Hi' hy => ?_⟩
          have hy := wk.yields i Hi v Hi' hlt gi hy
          obtain ⟨t, H1'', htt, x2, fz⟩ := hY i H1i Hi _ v Hi' hlt x1 hy
          have ed : ts.drop i = t :: ts.drop (i + 1) := by
            rw [List.drop_eq_getElem_cons hlt]
            rw [List.getElem?_eq_getElem hlt] at htt
            rw [Option.some.inj htt]
          have h2 := (h.quiet x2).1
          obtain ⟨Gw, Rw, hGw⟩ := ((x1.base fun b z => z).less (F'' := F0) (fun _ z => z.elim) |>.qRepE Ra |> x2.qRepE).wipe vs
          rw [ed] at el
          unfold lc2Go at el
          split at el
          · cases el
          · rename_i env1 e3
            split at el
            · rename_i hl
              refine hg _ _ _ e3 _ _ _ _ _ x2.sub Rw fz _ fun σ2 F2 R2 hF2 pn => ⟨?_, ?_⟩
              · refine wipe_pin ?_ pn
                have l1 := R2.len
                have l2 := Rw.len
                rw [wipe_length] at l2
                rw [l1, hl, ← l2]
              · have nD : ¬ F2 D := fun z => by
                  obtain ⟨_, o, eo⟩ := R.own D (hGw D (hF2 D z))
                  rw [(xa.keep D o eo fun z => z)] at hD
                  cases hD
                split at el
                · cases el
                · rename_i e4
                  refine ht _ _ e4 _ _ _ _ x2.sub R2 _ fun H3 H3' x3 => ?_
                  rw [if_neg Bool.false_ne_true]
                  exact ⟨H3, ts', r, (h2.quiet x3).1, el, er⟩
                · rename_i e4
                  refine ht _ _ e4 _ _ _ _ x2.sub R2 _ fun H3 H3' x3 => ?_
                  rw [if_pos rfl]
                  have h3 := (h2.quiet x3).1
                  have R3 := x3.qRepE R2
                  split at el
                  · cases el
                  · rename_i ts1 e5
                    split at el
                    · cases el
                    · rename_i us1 e6
                      split at el
                      · cases el
                      · rename_i ws e7
                        cases el
                        refine hi1 _ _ e5 _ _ _ _ x3.sub R3 _ fun J1 H4 H4' x4 w1 => ?_
                        obtain ⟨G1, Y1, wk1, hG1, hY1⟩ := (w1 fun b => True).ex
                        have h4 := (h3.quiet x4).1
                        obtain ⟨Gv, Rv, hGv⟩ := (x4.qRepE R3).wipe vs1
                        have nDv : ¬ Gv D := fun z => nD (hGv D z)
                        refine ⟨fun j k H => k = ts1.length - j ∧ j ≤ ts1.length ∧ ∃ H1 ts2 r2 Fx, LcInv K mg Ha Hb D H1 H ts2 ∧ Ext H4 H4' (fun _ => True) H1 H Fx ∧ RepE K mg H1 H (L2.wipe σ2 vs1) (wipeE env1 vs1) Gv ∧ lcGo f1 c1 x (wipeE env1 vs1) (ts1.drop j) = some r2 ∧ ts2 ++ (r2 ++ ws) = us,
                          ⟨ts1.length, by simp, Nat.zero_le _, H4, ts', us1, F0, h4, (Ext.refl x4.sub).less fun _ z => z.elim, Rv, by rw [List.drop_zero]; exact e6, by rw [← er]⟩, ?_⟩
                        rintro j k Hj ⟨rfl, hjl, H1j, ts2, r2, Fx, hj, xj, Rj, ej, ers⟩
                        have gj := hG1 H1j Hj _ xj
                        by_cases hlj : j < ts1.length
                        · refine .inr ⟨wk1.goes j Hj hlj gj, fun H' => ∃ H1 ts2 r2 Fx, LcInv K mg Ha Hb D H1 H' ts2 ∧ Ext H4 H4' (fun _ => True) H1 H' Fx ∧ RepE K mg H1 H' (L2.wipe σ2 vs1) (wipeE env1 vs1) Gv ∧ lcGo f1 c1 x (wipeE env1 vs1) (ts1.drop (j + 1)) = some r2 ∧ ts2 ++ (r2 ++ ws) = us, fun H' h' => ⟨ts1.length - (j + 1), by omega, rfl, hlj, h'⟩, fun v1 Hj' hy1 => ?_⟩
                          have hy1 := wk1.yields j Hj v1 Hj' hlj gj hy1
                          obtain ⟨t1, H1q, ht1', x5, fz1⟩ := hY1 j H1j Hj _ v1 Hj' hlj xj hy1
                          have ed1 : ts1.drop j = t1 :: ts1.drop (j + 1) := by
                            rw [List.drop_eq_getElem_cons hlj]
                            rw [List.getElem?_eq_getElem hlj] at ht1'
                            rw [Option.some.inj ht1']
                          have h5 := (hj.quiet x5).1
                          have R5 := x5.qRepE Rj
                          have xt5 := xj.trans ((ext_or (F := Fx) x5).less fun b z => .inl z)
                          rw [ed1] at ej
                          unfold lcGo at ej
                          split at ej
                          · cases ej
                          · rename_i env2 e8
                            split at ej
                            · rename_i hl2
                              refine hg1 _ _ _ e8 _ _ _ _ _ x5.sub R5 fz1 _ fun σ3 F3 R6 hF3 pn3 => ⟨?_, ?_⟩
                              · refine wipe_pin ?_ pn3
                                have l1 := R6.len
                                have l2 := R5.len
                                rw [wipe_length] at l2
                                rw [l1, hl2, ← l2]
                              · split at ej
                                · cases ej
                                · rename_i e9
                                  refine ht1 _ _ e9 _ _ _ _ x5.sub R6 _ fun H6 H6' x6 => ?_
                                  rw [if_neg Bool.false_ne_true]
                                  exact ⟨H6, ts2, r2, Fx, (h5.quiet x6).1, xt5.trans ((ext_or (F := Fx) x6).less fun b z => .inl z), x6.qRepE R5, ej, ers⟩
                                · rename_i e9
                                  refine ht1 _ _ e9 _ _ _ _ x5.sub R6 _ fun H6 H6' x6 => ?_
                                  rw [if_pos rfl]
                                  have h6 := (h5.quiet x6).1
                                  split at ej
                                  · cases ej
                                  · rename_i u e10
                                    split at ej
                                    · cases ej
                                    · rename_i us2 e11
                                      cases ej
                                      refine he _ _ e10 _ _ _ _ x6.sub (x6.qRepE R6) _ fun y H7 H7' Ft x7 r7 => ?_
                                      obtain ⟨acc, k1, k2, k3⟩ := h6.add x7 r7 (by rw [← ers] at hz; simp at hz; omega)
                                      have R8 := x7.qRepE (x6.qRepE R5)
                                      have xt7 := (xt5.trans ((ext_or (F := Fx) x6).less fun b z => .inl z)).trans (ext_or (F := Fx) x7)
                                      obtain ⟨accK, FaK, xk, hk1, hk2, _⟩ := k3.ex
                                      have x8 : Ext H4 H4' (fun _ => True) H7 (upd H7' D (.lst (acc ++ [y]))) (fun _ => False) := ⟨xt7.s1, xk.sub, fun b o eo n => absurd trivial n, fun _ z => z.elim, xt7.new1⟩
                                      exact ⟨acc, k1, k2, H7, ts2 ++ [u], us2, _, k3, x8, R8.frame (Same.refl _) fun b z => ⟨upd_ne fun wD => nDv (by rw [← wD]; exact z), (R8.own b z).1⟩, e11, by rw [← ers]; simp⟩
                            · cases ej
                        · have e : j = ts1.length := by omega
                          subst e
                          rw [List.drop_length] at ej
                          cases ej
                          exact .inl ⟨wk1.stops Hj gj, H1j, ts2, ws, hj, e7, by simpa using ers⟩
            · cases el
        · have e : i = ts.length := by omega
          subst e
          rw [List.drop_length] at el
          cases el
          rw [List.append_nil] at er
          subst er
          obtain ⟨F', x2, r1⟩ := h.done
          exact .inl ⟨wk.stops Hi gi, q _ H1i Hi F' (xa.trans x2) r1⟩
      · cases e
end
section
variable {X : Cx} {P : Nat → Bool}
variable {elt tg iter tg1 iter1 kx : Expr} {ifs ifs1 : List Expr} {scope : Scope} {own : List (Str × Nat)} {vs1 : List Nat} {pos : Pos} {wi : TI} {src src1 : Env → Option (List T)} {f f1 : T → Env → Option Env} {c c1 : Env → Option Bool} {x : Env → Option T}
def iAll (X : Cx) (scope : Scope) (tg iter : Expr) (src : Env → Option (List T)) : TI := fun σ H R => ∀ (s : Shared) (H' : Hp) (C : Addr) (cl : List (Str × Addr)) (fp : List Addr) (wi : TI), IQ (X.blk s H' scope (compEnvC scope cl C X.env) fp) tg iter wi src → wi σ H R
theorem i_all (s : Shared) (H : Hp) (C : Addr) (cl : List (Str × Addr)) (fp : List Addr) (h : ∃ wi, IQ (X.blk s H scope (compEnvC scope cl C X.env) fp) tg iter wi src) : PI (X.blk s H scope (compEnvC scope cl C X.env) fp) tg iter (iAll X scope tg iter src) := by
  obtain ⟨wi, h⟩ := h
  exact ⟨fun pins s' σ H' R I q => h.pi.run pins s' σ H' R I (q s H C cl fp wi h)⟩
theorem i_allR : IQR X.K X.mg (iAll X scope tg iter src) src := fun env ts e H1 H σ F s R Q q s' H' C cl fp wi h => h.ir env ts e H1 H σ F s R Q q
theorem qe_lc2 (hc : X.calm = true) (hN : X.N.Nodup) (hi : IK X tg iter wi src) (ok : BlkOk X.N X.env.scope scope own) (hv : ∀ i ∈ vs1, i ∈ own.map (·.2))
    (hg : ∀ (s : Shared) (H : Hp) (C : Addr) (cl : List (Str × Addr)) (fp : List Addr), ∃ g, GQ (X.blk s H scope (compEnvC scope cl C X.env) fp) (pinC (own.map (·.2))) tg g f)
    (ht : ∀ (s : Shared) (H : Hp) (C : Addr) (cl : List (Str × Addr)) (fp : List Addr), ∃ tt, TS' (X.blk s H scope (compEnvC scope cl C X.env) fp) ifs tt c)
    (hi1 : ∀ (s : Shared) (H : Hp) (C : Addr) (cl : List (Str × Addr)) (fp : List Addr), ∃ wi, IQ (X.blk s H scope (compEnvC scope cl C X.env) fp) tg1 iter1 wi src1)
    (hg1 : ∀ (s : Shared) (H : Hp) (C : Addr) (cl : List (Str × Addr)) (fp : List Addr), ∃ g, GQ (X.blk s H scope (compEnvC scope cl C X.env) fp) (pinC vs1) tg1 g f1)
    (ht1 : ∀ (s : Shared) (H : Hp) (C : Addr) (cl : List (Str × Addr)) (fp : List Addr), ∃ tt, TS' (X.blk s H scope (compEnvC scope cl C X.env) fp) ifs1 tt c1)
    (he : ∀ (s : Shared) (H : Hp) (C : Addr) (cl : List (Str × Addr)) (fp : List Addr), ∃ te, QE (X.blk s H scope (compEnvC scope cl C X.env) fp) elt te x)
    (hs : ∀ x, foldedSetIterable iter X.env x = pure x := by intro _; rfl) (hs1 : ∀ env x, foldedSetIterable iter1 env x = pure x := by intro _ _; rfl) :
    QE X (.ListComp elt [⟨tg, iter, ifs, 0⟩, ⟨tg1, iter1, ifs1, 0⟩] scope pos) (tLc2 wi (gAll X scope (pinC (own.map (·.2))) tg f) (tAll X scope ifs c) (iAll X scope tg1 iter1 src1) (gAll X scope (pinC vs1) tg1 f1) (tAll X scope ifs1 c1) (eAll X scope elt x) (own.map (·.2)) vs1) (qLc2 (own.map (·.2)) vs1 src f c src1 f1 c1 x) :=
  ⟨pe_lc2 hc hN hi.pi ok hv (fun s H C cl fp => g_all s H C cl fp (hg s H C cl fp)) (fun s H C cl fp => t_all s H C cl fp (ht s H C cl fp)) (fun s H C cl fp => i_all s H C cl fp (hi1 s H C cl fp)) (fun s H C cl fp => g_all s H C cl fp (hg1 s H C cl fp)) (fun s H C cl fp => t_all s H C cl fp (ht1 s H C cl fp)) (fun s H C cl fp => e_all s H C cl fp (he s H C cl fp)) hs hs1,
    qr_lc2 hi.ir g_allR t_allR i_allR g_allR t_allR e_allR⟩
theorem se_setLc2F {i : Nat} {y : Str} {py spos : Pos} (hc : X.calm = true) (hN : X.N.Nodup) (hy : X.N[i]? = some y) (hyl : X.env.scope.names.lookup y = some .local)
    (hsw : swapsWith (.ListComp elt [⟨tg, iter, ifs, 0⟩, ⟨tg1, iter1, ifs1, 0⟩] scope pos) (some (.Name y py)) spos.line X.env = pure true) (hi : IK X tg iter wi src) (ok : BlkOk X.N X.env.scope scope own) (hv : ∀ i ∈ vs1, i ∈ own.map (·.2))
    (hg : ∀ (s : Shared) (H : Hp) (C : Addr) (cl : List (Str × Addr)) (fp : List Addr), ∃ g, GQ (X.blk s H scope (compEnvC scope cl C X.env) fp) (pinC (own.map (·.2))) tg g f)
    (ht : ∀ (s : Shared) (H : Hp) (C : Addr) (cl : List (Str × Addr)) (fp : List Addr), ∃ tt, TS' (X.blk s H scope (compEnvC scope cl C X.env) fp) ifs tt c)
    (hi1 : ∀ (s : Shared) (H : Hp) (C : Addr) (cl : List (Str × Addr)) (fp : List Addr), ∃ wi, IQ (X.blk s H scope (compEnvC scope cl C X.env) fp) tg1 iter1 wi src1)
    (hg1 : ∀ (s : Shared) (H : Hp) (C : Addr) (cl : List (Str × Addr)) (fp : List Addr), ∃ g, GQ (X.blk s H scope (compEnvC scope cl C X.env) fp) (pinC vs1) tg1 g f1)
    (ht1 : ∀ (s : Shared) (H : Hp) (C : Addr) (cl : List (Str × Addr)) (fp : List Addr), ∃ tt, TS' (X.blk s H scope (compEnvC scope cl C X.env) fp) ifs1 tt c1)
    (he : ∀ (s : Shared) (H : Hp) (C : Addr) (cl : List (Str × Addr)) (fp : List Addr), ∃ te, QE (X.blk s H scope (compEnvC scope cl C X.env) fp) elt te x) (hp : P i = false)
    (hs : ∀ x, foldedSetIterable iter X.env x = pure x := by intro _; rfl) (hs1 : ∀ env x, foldedSetIterable iter1 env x = pure x := by intro _ _; rfl) :
    SE X P (.Assign [.Name y py] (.ListComp elt [⟨tg, iter, ifs, 0⟩, ⟨tg1, iter1, ifs1, 0⟩] scope pos) spos) (tAsg (tLc2 wi (gAll X scope (pinC (own.map (·.2))) tg f) (tAll X scope ifs c) (iAll X scope tg1 iter1 src1) (gAll X scope (pinC vs1) tg1 f1) (tAll X scope ifs1 c1) (eAll X scope elt x) (own.map (·.2)) vs1) (gName i))
      (sAsg (eQ (qFz (qLc2 (own.map (·.2)) vs1 src f c src1 f1 c1 x))) (gSet i)) :=
  ⟨ps_setLc2 hc hN hy hyl hsw hi.pi ok hv (fun s H C cl fp => g_all s H C cl fp (hg s H C cl fp)) (fun s H C cl fp => t_all s H C cl fp (ht s H C cl fp)) (fun s H C cl fp => i_all s H C cl fp (hi1 s H C cl fp)) (fun s H C cl fp => g_all s H C cl fp (hg1 s H C cl fp)) (fun s H C cl fp => t_all s H C cl fp (ht1 s H C cl fp)) (fun s H C cl fp => e_all s H C cl fp (he s H C cl fp)) hs hs1,
    sr_asg (qr_lc2 hi.ir g_allR t_allR i_allR g_allR t_allR e_allR).fz.e (gr_name hp)⟩
end

/-! ### enumerate -/
def enumT : Nat → List T → List T
  | _, [] => []
  | i, t :: r => .tup [.int i, t] :: enumT (i + 1) r
theorem enumT_get : ∀ (ts : List T) (j i : Nat), (enumT j ts)[i]? = (ts[i]?).map fun t => .tup [.int ((j + i : Nat) : Int), t]
  | [], j, i => by simp [enumT]
  | t :: r, j, 0 => by simp [enumT]
  | t :: r, j, i + 1 => by
    rw [enumT, List.getElem?_cons_succ, enumT_get r (j + 1) i, List.getElem?_cons_succ]
    rw [show j + 1 + i = j + (i + 1) by omega]
theorem enumT_len : ∀ (ts : List T) (j : Nat), (enumT j ts).length = ts.length
  | [], _ => rfl
  | _ :: r, j => by rw [enumT, List.length_cons, List.length_cons, enumT_len r]
theorem walkE {K : PySem.W.Frag} {mg : Str → Option Value} {H1 H : Hp} {a : Addr} {vs : List V} {ts : List T} (h : SqL K H1 a vs) (f : Fzs K mg H1 vs ts) : ∀ G, WalkT K mg (Ite K a) H1 H G (enumT 0 ts) := fun G =>
  ⟨⟨fun H => SqL K H a vs, YPair (fun i => some (.int (i : Nat))) (fun i => vs[i]?), (by rw [enumT_len, ← f.len]; exact walk_enum (K := K) (a := a) (xs := vs)), fun H1' H' F' x => x.sub.seq (x.s1.seq h), fun i H1' H' F' v H'' hi x ⟨T', v1, v2, h1, h2, h3, h4, h5⟩ => by
    subst h1 h3
    cases h4
    rw [enumT_len] at hi
    obtain ⟨v', e1, f1⟩ := f.get (List.getElem?_eq_getElem hi)
    have h5' : vs[i]? = some v2 := h5
    rw [e1] at h5'
    cases h5'
    refine ⟨.tup [.int i, ts[i]], _, by rw [enumT_get, List.getElem?_eq_getElem hi]; simp, Ext.newS x.sub h2, ?_⟩
    have s1 : Same H1' (upd H1' T' (.tup [.int (i : Nat), v2])) := (Ext.newS (F := F0) x.sub h2).s1
    exact .tup (.inl (.inl upd_same)) (.cons (.int _) (.cons ((f1.mono x.s1).mono s1) .nil))⟩⟩
def enumL (t : T) : Option (List T) := match t with
  | .lst _ xs => some (enumT 0 xs)
  | .scr xs => some (enumT 0 xs)
  | _ => none
def qEnum (x : Env → Option T) : Env → Option (List T) := fun env => match x env with | none => none | some t => enumL t.fz
section
variable {X : Cx} {e : Expr} {te : TE} {x : Env → Option T} {p pos tpos : Pos} {elts : List Expr} {kk : Nat}
theorem iq_enum (hg : Gl X "enumerate") (hm : X.mg "enumerate" = none) (h : QE X e te x) (hs : starEach [e] X.env = [(false, eval e X.env)] := by rfl) :
    IQ X (.Tuple elts kk tpos) (.Call (.Name "enumerate" p) [e] [] pos) (iEnum X.K (tCons te tNil)) (qEnum x) := ⟨pi_enum hg hm (pa_cons h.pe pa_nil hs) hs, fun env ts e H1 H σ F s R Q q => by
  unfold qEnum at e
  cases e1 : x env with
  | none => rw [e1] at e; cases e
  | some t =>
    rw [e1] at e
    simp only at e
    refine h.qr _ _ e1 _ _ _ _ s R _ fun v Ha Hb Ft x1 r1 => ?_
    have x2 : Ext Ha Hb Ft (join Ha Hb Ft) Hb F0 := Ext.freeze x1.sub (fun b z => (r1.own b z).1) (fun _ _ z => z) (fun _ z => z) fun _ z => z.elim
    have f := r1.freeze x2.s1 fun b z => join_in z
    generalize t.fz = t' at f e
    cases f with
    | lst h1 h2 => cases e; exact ⟨_, _, rfl, .inl (.inl (x2.sub _ _ h1)), q _ _ Hb (x1.trans x2) (walkE (.inl (.inl h1)) h2)⟩
    | scr h1 h2 => cases e; exact ⟨_, _, rfl, x2.sub.seq h1, q _ _ Hb (x1.trans x2) (walkE h1 h2)⟩
    | _ => cases e⟩
end

/-! ### methods -/
structure HasM (P : Program) (w : World) (K : PySem.W.Frag) (mg : Str → Option Value) (base : Heap) (k : Nat) (c m : String) (fn : List T → Option (T × List T)) : Prop where
  ex : ∃ (C f : Addr) (fd : FuncData) (ps : List Str), Cls K C ∧ Meth K C (Str.ofString m) f ∧ FnG P w K mg base k f fd ps fn ∧ mg (Str.ofString c) = some (.ref C) ∧ Binds K fd ps []
def tMethF (K : PySem.W.Frag) (mg : Str → Option Value) (C : Addr) (m : Str) (fn : List T → Option (T × List T)) (ta : TE) (t : TA) : TE := fun σ H Q => ta σ H fun x H1 => ∃ a dx fs, x = .ref a ∧ H1 a = some (.ins C dx fs) ∧ fs.lookup m = none ∧ t σ H1 fun vs H2 => spV K mg fn (x :: vs) H2 Q
theorem RepF.none {K : PySem.W.Frag} {mg : Str → Option Value} : ∀ {vs : List (Str × V)} {ts : List (String × T)} {H1 H : Hp} {F : FP} {f : String}, RepF K mg H1 H vs ts F → ts.lookup f = Option.none → vs.lookup (Str.ofString f) = Option.none
  | _, _, _, _, _, _, .nil, _ => rfl
  | _, _, _, _, _, f, .cons (k := k) a r d, h => by
    rw [List.lookup_cons] at h ⊢
    rw [ofString_beq]
    split at h
    · cases h
    · exact RepF.none r h
def qMeth (c m : String) (fn : List T → Option (T × List T)) (xo : Env → Option T) (xs : Env → Option (List T)) : Env → Option T := fun env => match xo env with
  | some (.obj o d fs) => if d = c ∧ (fs.lookup m).isNone = true then (match xs env with
    | none => none
    | some ts => match fn (.obj o d fs :: ts) with
      | some (t, _) => some t
      | none => none) else none
  | _ => none
section
variable {X : Cx} {o e : Expr} {es : List Expr} {to : TE} {tl : TA} {xo : Env → Option T} {xs : Env → Option (List T)} {j k : Nat} {c m : String} {fn : List T → Option (T × List T)} {pos apos : Pos}
theorem qr_meth {K : PySem.W.Frag} {mg : Str → Option Value} {C : Addr} (hm : mg (Str.ofString c) = some (.ref C)) (ho : QR K mg to xo) (ha : QRA K mg tl xs) : QR K mg (tMethF K mg C (Str.ofString m) fn to tl) (qMeth c m fn xo xs) := fun env t e H1 H σ F s R Q q => by
  unfold qMeth at e
  split at e
  · rename_i o' d fs e1
    split at e
    · rename_i hh
      obtain ⟨rfl, hn⟩ := hh
      split at e
      · cases e
      · rename_i ts e2
        split at e
        · rename_i u us e3
          cases e
          refine ho _ _ e1 _ _ _ _ s R _ fun v Ha Hb G x1 r1 => ?_
          obtain ⟨p, C', dx, vs, G', rfl, h2, h3, h4⟩ := r1.ins x1.sub
          rw [hm] at h3
          cases h3
          have hnone : fs.lookup m = Option.none := by
            cases hx : fs.lookup m with
            | none => rfl
            | some y => rw [hx] at hn; cases hn
          refine ⟨p, dx, vs, rfl, h2, h4.none hnone, ha _ _ e2 _ _ _ _ x1.sub (x1.qRepE R) _ fun ws Hc Hd Ft x2 r2 => ?_⟩
          obtain ⟨r1', d1⟩ := x2.rep r1 fun _ _ z => z
          exact ⟨Hc, _, _ :: ts, _, us, x2.sub, .cons r1' r2 d1, e3, fun v H1' H' F' Fv x3 r3 rv dd => q v H1' H' Fv (((x1.trans (ext_or (F := G) x2)).trans x3).less fun _ z => .inr z) rv⟩
        · cases e
    · cases e
  · cases e
theorem qe_meth0 {pl : Sem Bool} (h : HasM X.prog X.w X.K X.mg X.base k c m fn) (hr : Room j X.A) (hk : k ≤ j) (hg : X.A.guards = some []) (ho : QE X o to xo)
    (ht : eval (.Call (.Attribute o (Str.ofString m) apos) [] [] pos) X.env = (do
      let ov ← eval o X.env
      standAt apos.atName
      let (f, first) ← holding [ov] (getMethod ov (Str.ofString m) pl)
      callWith pos f first (backTo pos (starEach [] X.env)) (backToKw pos (keywordEach [] X.env))) := by rfl) :
    ∃ te, QE X (.Call (.Attribute o (Str.ofString m) apos) [] [] pos) te (qMeth c m fn xo aNil) := by
  obtain ⟨C, f, fd, ps, cl, me, F, mc, b⟩ := h.ex
  refine ⟨tMethF X.K X.mg C (Str.ofString m) fn to tNil, ⟨fun pins s σ H Q I h => ?_⟩, qr_meth mc ho.qr (fun env ts e H1 H σ F s R Q q => by cases e; exact q [] H1 H F0 (Ext.refl s) .nil)⟩
  refine PySem.W.methodCall_KW (pl := pl) (thn (ho.pe.run pins s σ H _ I h) fun u s1 ⟨x, H1, I1, rx, a, dx, fs, ex, ea, l, q⟩ => ?_) ht
  subst ex
  obtain rfl : u = Value.ref a := rx
  refine getmeth_ok I1 ea cl me l ?_
  exact PySem.W.callWith_K0 (first := [.ref a]) I1.kIn me.kp ((callee_fn F (hr.mono hk) hg me.kp b).run pins σ H1 s1 Q [.ref a] [] [.ref a] [] I1 (.cons rfl .nil) .nil rfl q)
theorem qe_meth {pl : Sem Bool} (h : HasM X.prog X.w X.K X.mg X.base k c m fn) (hr : Room j X.A) (hk : k ≤ j) (hg : X.A.guards = some []) (ho : QE X o to xo) (ha : QA X (e :: es) tl xs)
    (hst : starEach (e :: es) X.env = (false, eval e X.env) :: starEach es X.env := by rfl) (hpl : (backTo pos (starEach es X.env)).any (·.1) = false := by rfl)
    (ht : eval (.Call (.Attribute o (Str.ofString m) apos) (e :: es) [] pos) X.env = (do
      let ov ← eval o X.env
      standAt apos.atName
      let (f, first) ← holding [ov] (getMethod ov (Str.ofString m) pl)
      callWith pos f first (backTo pos (starEach (e :: es) X.env)) (backToKw pos (keywordEach [] X.env))) := by rfl) :
    ∃ te, QE X (.Call (.Attribute o (Str.ofString m) apos) (e :: es) [] pos) te (qMeth c m fn xo xs) := by
  obtain ⟨C, f, fd, ps, cl, me, F, mc, b⟩ := h.ex
  refine ⟨tMethF X.K X.mg C (Str.ofString m) fn to tl, ⟨fun pins s σ H Q I h => ?_⟩, qr_meth mc ho.qr ha.qr⟩
  refine PySem.W.methodCall_KW (pl := pl) (thn (ho.pe.run pins s σ H _ I h) fun u s1 ⟨x, H1, I1, rx, a, dx, fs, ex, ea, l, q⟩ => ?_) ht
  subst ex
  obtain rfl : u = Value.ref a := rx
  refine getmeth_ok I1 ea cl me l ?_
  refine PySem.W.callWith_K (first := [.ref a]) (h₀ := X.base) I.ok.mod.kin me.kp (thn (ha.pa.run pos pins s1 σ H1 _ I1 q) fun us s2 ⟨vs, H2, I2, r, q2⟩ => ⟨I2.kIn, ?_⟩) hst hpl
  exact (callee_fn F (hr.mono hk) hg me.kp b).run pins σ H2 s2 Q (.ref a :: us) [] (.ref a :: vs) [] I2 (.cons rfl r) .nil rfl (by rw [List.append_nil]; exact q2)
end

/-- a reading that is told to be there -/
def mAll (X : Cx) (e : Expr) (x : Env → Option T) : TE := fun σ H Q => ∀ te, QE X e te x → te σ H Q
theorem qe_ex {X : Cx} {e : Expr} {x : Env → Option T} (h : ∃ te, QE X e te x) : QE X e (mAll X e x) x := by
  obtain ⟨te, h⟩ := h
  exact ⟨⟨fun pins s σ H Q I q => h.pe.run pins s σ H Q I (q te h)⟩, fun env t e H1 H σ F s R Q q te h => h.qr env t e H1 H σ F s R Q q⟩
/-! ### list(range(..)) -/
section
variable {X : Cx} {a b : Expr} {ta tb : TE} {xa xb : Env → Option T} {p p2 pos pos2 : Pos}
def fLstRg1 (t : T) : Option T := match t with
  | .int n => if n ≤ 16777216 ∧ 0 ≤ n then some (.lst true (rangeT 0 n.toNat)) else none
  | _ => none
def fLstRg2 (t u : T) : Option T := match t, u with
  | .int i, .int n => if (0 ≤ i ∧ i ≤ 16777216) ∧ n ≤ 16777216 ∧ 0 ≤ n then some (.lst true (rangeT i (n - i).toNat)) else none
  | _, _ => none
theorem fz_rg {K : PySem.W.Frag} {mg : Str → Option Value} (lo n : Int) (H : Hp) : Fzs K mg H (rgV lo n) (rangeT lo (n - lo).toNat) := by
  unfold rgV rangeT
  have key : ∀ l : List Nat, Fzs K mg H (l.map fun i : Nat => V.int (lo + (i : Nat))) (l.map fun (i : Nat) => T.int (lo + i)) := fun l => by
    induction l with
    | nil => exact .nil
    | cons i l ih => exact .cons (.int _) ih
  exact key _
theorem qe_lstRg1 (hc : X.calm = true) (hgl : Gl X "list") (hml : X.mg "list" = none) (hg : Gl X "range") (hm : X.mg "range" = none) (ha : KE X a ta xa)
    (na : starEach [a] X.env = (false, eval a X.env) :: starEach [] X.env := by rfl) (nb : starEach [.Call (.Name "range" p2) [a] [] pos2] X.env = (false, eval (.Call (.Name "range" p2) [a] [] pos2) X.env) :: starEach [] X.env := by rfl) :
    QE X (.Call (.Name "list" p) [.Call (.Name "range" p2) [a] [] pos2] [] pos) (tLstRg (tRg1 ta)) (qUn fLstRg1 xa) := ⟨pe_listRg hc hgl hml (prg_1 hg hm ha.pe na) nb, fun env t e H1 H σ F s R Q q => by
  unfold qUn at e
  split at e
  · cases e
  · rename_i u e1
    unfold fLstRg1 at e
    split at e
    · rename_i n
      split at e
      · rename_i hh
        cases e
        refine ha.kr _ _ e1 _ _ _ _ s R _ fun v Ha Hb G x1 r1 => ⟨n, r1.intE, .of_le (Int.le_refl _) hh.1 (by decide) hh.2, fun q' n' => ?_⟩
        have f := fz_rg (K := X.K) (mg := X.mg) 0 n Ha
        rw [Int.sub_zero] at f
        exact newL x1.sub f (fun v H1' H' Ft x2 r2 => q v H1' H' Ft (x1.trans x2) r2) q' n'
      · cases e
    · cases e⟩
theorem qe_lstRg2 (hc : X.calm = true) (hgl : Gl X "list") (hml : X.mg "list" = none) (hg : Gl X "range") (hm : X.mg "range" = none) (ha : KE X a ta xa) (hb : KE X b tb xb)
    (na : starEach [a, b] X.env = (false, eval a X.env) :: starEach [b] X.env := by rfl) (nb : starEach [b] X.env = (false, eval b X.env) :: starEach [] X.env := by rfl) (hp : (backTo pos2 (starEach [b] X.env)).any (·.1) = false := by rfl)
    (nc : starEach [.Call (.Name "range" p2) [a, b] [] pos2] X.env = (false, eval (.Call (.Name "range" p2) [a, b] [] pos2) X.env) :: starEach [] X.env := by rfl) :
    QE X (.Call (.Name "list" p) [.Call (.Name "range" p2) [a, b] [] pos2] [] pos) (tLstRg (tRg2 ta tb)) (qOp fLstRg2 xa xb) := ⟨pe_listRg hc hgl hml (prg_2 hg hm ha.pe hb.pe na nb hp) nc, fun env t e H1 H σ F s R Q q => by
  obtain ⟨u, w, e1, e2, e3⟩ := qop_some e
  unfold fLstRg2 at e3
  split at e3
  · rename_i i n
    split at e3
    · rename_i hh
      cases e3
      refine ha.kr _ _ e1 _ _ _ _ s R _ fun v Ha Hb G x1 r1 => hb.kr _ _ e2 _ _ _ _ x1.sub (x1.qRepE R) _ fun v2 Hc Hd G2 x2 r2 => ⟨i, n, r1.intE, r2.intE, .of_le hh.1.1 hh.2.1 hh.1.2 hh.2.2, fun q' n' => ?_⟩
      exact newL x2.sub (fz_rg i n Hc) (fun v H1' H' Ft x3 r3 => q v H1' H' Ft ((x1.trans x2).trans x3) r3) q' n'
    · cases e3
  · cases e3⟩
end
end GK

/-! GK25: a, b, .. = x, y, .. by way of a tuple, its items kept as they are. -/
namespace GK
open PySem L2 PySem.Spec PyProof.Rows
/-- plain names, in order -/
def gNames : List Nat → TGs
  | [] => gNil
  | i :: is => gCons (gName i) (gNames is)
def putAll : List Nat → List T → Env → Option Env
  | [], [], env => some env
  | i :: is, t :: ts, env => if i < env.length then putAll is ts (env.set i (some t)) else none
  | _, _, _ => none
def sUnp (is : List Nat) (ys : Env → Option (List T × Env)) : Env → Option Out := fun env => match ys env with
  | none => none
  | some (ts, env1) => if ts.length ≤ maxLen then (match putAll is ts env1 with | some env2 => some (.nx env2) | none => none) else none
section
variable {K : PySem.W.Frag} {mg : Str → Option Value} {P : Nat → Bool}
theorem putAll_len : ∀ {is : List Nat} {ts : List T} {env env2 : Env}, putAll is ts env = some env2 → ts.length = is.length
  | [], [], _, _, _ => rfl
  | _ :: is, _ :: ts, env, _, e => by
    unfold putAll at e
    split at e
    · rw [List.length_cons, List.length_cons, putAll_len e]
    · cases e
  | [], _ :: _, _, _, e => by cases e
  | _ :: _, [], _, _, e => by cases e
theorem names_put {H1 H : Hp} : ∀ {is : List Nat} {ts : List T} {vs : List V} {env env2 : Env} {σ : L2.St} {F Fv : FP}, putAll is ts env = some env2 → (∀ i ∈ is, P i = false) → Reps K mg H1 H vs ts Fv → RepE K mg H1 H σ env F → (∀ b, F b → ¬ Fv b) → ∀ Q : L2.St → Hp → Prop,
    (∀ σ' F', RepE K mg H1 H σ' env2 F' → (∀ b, F' b → F b ∨ Fv b) → (∀ i, P i = true → σ'[i]? = σ[i]?) → Q σ' H) → gNames is vs σ H Q
  | [], _, _, env, env2, σ, F, _, e, hp, .nil, R, d, Q, q => by
    cases e
    exact ⟨rfl, q σ F R (fun _ z => .inl z) fun _ _ => rfl⟩
  | i :: is, _, _, env, env2, σ, F, _, e, hp, .cons (v := v) (vs := vs) (F := F1) (G := F2) a r dd, R, d, Q, q => by
    unfold putAll at e
    split at e
    · rename_i hi
      obtain ⟨F', R1, hF⟩ := put1 R hi a fun b z w => d b z (.inl w)
      refine ⟨v, vs, rfl, names_put e (fun j hj => hp j (List.mem_cons_of_mem _ hj)) r R1 (fun b z w => (hF b z).elim (fun z => d b z (.inr w)) fun z => dd b z w) Q fun σ' F'' R2 hF2 pn => ?_⟩
      exact q σ' F'' R2 (fun b z => (hF2 b z).elim (fun z => (hF b z).imp id .inl) fun z => .inr (.inr z)) fun j hj => (pn j hj).trans (set_pin (hp i List.mem_cons_self) j hj)
    · cases e
  | [], _, _, _, _, _, _, _, e, _, .cons _ _ _, _, _, _, _ => by cases e
  | _ :: _, _, _, _, _, _, _, _, e, _, .nil, _, _, _, _ => by cases e
theorem sr_unp {tl : TA} {ys : Env → Option (List T × Env)} {is : List Nat} (h : EAR K mg tl ys) (hp : ∀ i ∈ is, P i = false) : SR K mg P (tAsg (tTup tl) (gTup K is.length (gNames is))) (sUnp is ys) := fun env o e H1 H σ F s R D q => by
  unfold sUnp at e
  split at e
  · cases e
  · rename_i ts env1 e1
    split at e
    · rename_i hz
      split at e
      · rename_i env2 e2
        cases e
        refine h _ _ _ e1 _ _ _ _ s R _ fun vs Ha Hb F1 Ft x1 R1 r1 d1 => ⟨by rw [r1.len, maxLen_eq]; exact hz, fun p n => ?_⟩
        have x2 : Ext Ha Hb (fun b => F1 b ∨ Ft b) Ha (upd Hb p (.tup vs)) (fun b => b = p ∨ (F1 b ∨ Ft b)) := Ext.newO x1.sub n
        have out : ∀ {G : FP}, (∀ b, G b → ∃ o, Hb b = some o) → ¬ G p := fun h z => by
          obtain ⟨o, e⟩ := h p z
          rw [n] at e; cases e
        have o1 : ∀ b, F1 b → b ≠ p := fun b z w => by
          obtain ⟨_, o, e⟩ := R1.own b z
          rw [w, n] at e; cases e
        have o2 : ∀ b, Ft b → b ≠ p := fun b z w => by
          obtain ⟨_, o, e⟩ := r1.own b z
          rw [w, n] at e; cases e
        have R2 : RepE K mg Ha (upd Hb p (.tup vs)) σ env1 F1 := R1.frame (Same.refl _) fun b z => ⟨upd_ne (o1 b z), (R1.own b z).1⟩
        have r2 : Reps K mg Ha (upd Hb p (.tup vs)) vs ts Ft := r1.frame (Same.refl _) fun b z => ⟨upd_ne (o2 b z), (r1.own b z).1⟩
        refine ⟨p, vs, rfl, .inl (.inl upd_same), by rw [r1.len]; exact putAll_len e2, names_put e2 hp r2 R2 d1 _ fun σ' F' R3 hF pn => ?_⟩
        exact q σ' Ha _ F' ((x1.trans x2).less fun b z => .inr (hF b z)) R3 pn
      · cases e
    · cases e
end
section
variable {X : Cx} {P : Nat → Bool} {es ts : List Expr} {tl : TA} {ys : Env → Option (List T × Env)} {is : List Nat} {k1 k2 : Nat} {p1 p2 pos : Pos}
/-- the targets, all of them names -/
structure NmE (X : Cx) (es : List Expr) (is : List Nat) : Prop where
  pg : PGs X es (gNames is)
theorem nm_nil : NmE X [] [] := ⟨pgs_nil⟩
theorem nm_cons {e : Expr} {i : Nat} (h : PG X e (gName i)) (h' : NmE X es is) (ha : (assignEach (e :: es) X.env).map (·.2) = assign e X.env :: (assignEach es X.env).map (·.2) := by rfl) : NmE X (e :: es) (i :: is) := ⟨pgs_cons h h'.pg ha⟩
theorem se_unp (hc : X.calm = true) (hn : NmE X ts is) (ha : EA X es tl ys) (hp : ∀ i ∈ is, P i = false) (h4 : (assignEach ts X.env).length = is.length := by rfl) (h5 : (assignEach ts X.env).findIdx? (·.1) = none := by rfl)
    (h1 : swapsWithSole [.Tuple ts k1 p1] (.Tuple es k2 p2) pos.line X.env = pure false := by rfl) (h2 : swappedStores [.Tuple ts k1 p1] (.Tuple es k2 p2) X.env = pure none := by rfl) (h3 : (assignEach [.Tuple ts k1 p1] X.env).map (·.2) = [assign (.Tuple ts k1 p1) X.env] := by rfl) :
    SE X P (.Assign [.Tuple ts k1 p1] (.Tuple es k2 p2) pos) (tAsg (tTup tl) (gTup X.K is.length (gNames is))) (sUnp is ys) :=
  ⟨ps_asg (pe_tup ha.pa) (pg_tup hc hn.pg h4 h5) h1 h2 h3, sr_unp ha.er hp⟩
end
end GK

/-! GK26: list comprehensions whose element has effects. -/
namespace GK
open PySem L2
theorem wipeE_in {σ : Env} {i : Nat} : ∀ {vs : List Nat}, i ∈ vs → i < σ.length → (wipeE σ vs)[i]? = some none
  | [], h, _ => by cases h
  | v :: vs, h, hl => by
    unfold wipeE
    by_cases e : v = i
    · subst e
      rw [List.getElem?_set_self (by rw [wipeE_len]; exact hl)]
    · rw [List.getElem?_set_ne e]
      exact wipeE_in ((List.mem_cons.mp h).resolve_left fun q => e q.symm) hl
section
variable {K : PySem.W.Frag} {mg : Str → Option Value} {H1 H : Hp}
theorem RepE.unset : ∀ {σ : L2.St} {env : Env} {F : FP} (i : Nat) (x : Option V), RepE K mg H1 H (σ.set i x) env F → (∀ t, env[i]? ≠ some (some t)) → RepE K mg H1 H σ env F
  | [], _, _, i, x, r, _ => by simpa using r
  | s :: σ, _, _, 0, x, r, n => by
    rw [List.set_cons_zero] at r
    cases r with
    | no r => exact .no r
    | cons a r d => exact absurd rfl (n _)
  | s :: σ, _, _, i + 1, x, r, n => by
    rw [List.set_cons_succ] at r
    cases r with
    | no r => exact .no (RepE.unset i x r fun t e => n t (by simpa using e))
    | cons a r d => exact .cons a (RepE.unset i x r fun t e => n t (by simpa using e)) d
theorem RepE.unwipe {env : Env} {F : FP} : ∀ {σ : L2.St} (vs : List Nat), RepE K mg H1 H (L2.wipe σ vs) env F → (∀ v ∈ vs, ∀ t, env[v]? ≠ some (some t)) → RepE K mg H1 H σ env F
  | _, [], r, _ => r
  | _, v :: vs, r, n => RepE.unwipe vs (RepE.unset v none r (n v (List.mem_cons_self ..))) fun u hu => n u (List.mem_cons_of_mem _ hu)
theorem wipeE_no {env : Env} {vs : List Nat} : ∀ v ∈ vs, ∀ t, (wipeE env vs)[v]? ≠ some (some t) := fun v hv t e => by
  by_cases h : v < env.length
  · rw [wipeE_in hv h] at e; cases e
  · rw [List.getElem?_eq_none (by rw [wipeE_len]; omega)] at e; cases e
/-- beside a frame -/
theorem Ext.fr {H1 H H1' H' : Hp} {F F' G : FP} (x : Ext H1 H F H1' H' F') : Ext H1 H (fun b => G b ∨ F b) H1' H' (fun b => G b ∨ F' b) :=
  ⟨x.s1, x.sub, fun a o e n => x.keep a o e fun z => n (.inr z), fun a z => z.elim (fun z => .inl (.inl z)) fun z => (x.foot a z).imp .inr id, fun a o e => (x.new1 a o e).imp id fun z => z.imp .inr id⟩
end
def lcGoE (vs : List Nat) (f : T → Env → Option Env) (c : Env → Option Bool) (y : Env → Option (T × Env)) : List T → Env → Option (List T × Env)
  | [], env => some ([], env)
  | t :: r, env => match f t env with
    | none => none
    | some env1 => if env1.length = env.length then (match c env1 with
      | none => none
      | some false => lcGoE vs f c y r env
      | some true => match y env1 with
        | none => none
        | some (u, env2) => match lcGoE vs f c y r (wipeE env2 vs) with
          | none => none
          | some (us, env3) => some (u :: us, env3)) else none
def eLc (vs : List Nat) (src : Env → Option (List T × Env)) (f : T → Env → Option Env) (c : Env → Option Bool) (y : Env → Option (T × Env)) : Env → Option (T × Env) := fun env => match src env with
  | none => none
  | some (ts, env1) => match lcGoE vs f c y ts (wipeE env1 vs) with
    | none => none
    | some (us, env2) => if us.length ≤ maxLen then some (.lst true us, env2) else none
section
variable {K : PySem.W.Frag} {mg : Str → Option Value} {wi : TI} {src : Env → Option (List T × Env)} {g : TG} {f : T → Env → Option Env} {tt : TT} {c : Env → Option Bool} {te : TE} {y : Env → Option (T × Env)} {vs : List Nat}
structure LcE (K : PySem.W.Frag) (mg : Str → Option Value) (Ha Hb : Hp) (F : FP) (D : Addr) (σ : L2.St) (vs : List Nat) (H1 H : Hp) (ts : List T) (env : Env) : Prop where
  ex : ∃ (acc : List V) (Fa Fi : FP), Ext Ha Hb F H1 H (fun b => (b = D ∨ Fa b) ∨ Fi b) ∧ H D = some (.lst acc) ∧ H1 D = none ∧ Reps K mg H1 H acc ts Fa ∧ ¬ Fa D ∧ RepE K mg H1 H (L2.wipe σ vs) env Fi ∧ (∀ b, (b = D ∨ Fa b) → ¬ Fi b)
  wp : ∃ e0, env = wipeE e0 vs
theorem LcE.start {Ha Hb : Hp} {F : FP} {D : Addr} {σ : L2.St} {env : Env} (s : Same Ha Hb) (n : Hb D = none) (R : RepE K mg Ha Hb σ env F) : LcE K mg Ha Hb F D σ vs Ha (upd Hb D (.lst [])) [] (wipeE env vs) := by
  obtain ⟨G, R1, hG⟩ := R.wipe vs
  have nD : ¬ F D := fun z => by
    obtain ⟨_, o, e⟩ := R.own D z
    rw [n] at e; cases e
  refine ⟨⟨[], F0, G, (Ext.newO s n).less fun b z => z.elim (fun z => z.elim .inl fun z => z.elim) fun z => .inr (hG b z), upd_same, s.free n, .nil, fun z => z, R1.frame (Same.refl _) fun b z => ⟨upd_ne fun w => nD (by rw [← w]; exact hG b z), (R1.own b z).1⟩, fun b z w => ?_⟩, env, rfl⟩
  rcases z with z | z
  · exact nD (by rw [← z]; exact hG b w)
  · exact z.elim
/-- a quiet step beside it -/
theorem LcE.quiet {Ha Hb H1 H H1' H' : Hp} {F : FP} {D : Addr} {σ : L2.St} {ts : List T} {env : Env} (h : LcE K mg Ha Hb F D σ vs H1 H ts env) (x : Ext H1 H F0 H1' H' F0) : LcE K mg Ha Hb F D σ vs H1' H' ts env := by
  obtain ⟨⟨acc, Fa, Fi, x1, h1, h2, h3, h4, h5, h6⟩, h7⟩ := h
  have ap := x.apart (G := fun b => b = D ∨ Fa b) (fun b z => z.elim (fun z => by rw [z]; exact ⟨h2, _, h1⟩) fun z => h3.own b z) (fun _ _ z => z)
  exact ⟨⟨acc, Fa, Fi, x1.trans x.wk, (ap.1 D (.inl rfl)).1.trans h1, (ap.1 D (.inl rfl)).2, h3.frame x.s1 fun b z => ap.1 b (.inr z), h4, x.qRepE h5, h6⟩, h7⟩
theorem er_lc (hi : IR K mg wi src) (hg : GQR K mg (pinC vs) g f) (ht : TR K mg tt c) (he : ER K mg te y) : ER K mg (tLc wi g tt te vs) (eLc vs src f c y) := fun env t env' e H1 H σ F s R Q q => by
  unfold eLc at e
  split at e
  · cases e
  · rename_i ts env1 e1
    split at e
    · cases e
    · rename_i us env2 e2
      split at e
      · rename_i hz
        cases e
        refine hi _ _ _ e1 _ _ _ _ s R _ fun J Ha Hb Fw xa Ra w D hD => ?_
        obtain ⟨G, Y, wk, hG, hY⟩ := w.ex
        refine lc_it wk (fun i H => ∃ H1 ts' r envi, LcE K mg Ha Hb Fw D σ vs H1 H ts' envi ∧ lcGoE vs f c y (ts.drop i) envi = some (r, env') ∧ ts' ++ r = us) ⟨Ha, [], us, _, LcE.start xa.sub hD Ra, by rw [List.drop_zero]; exact e2, rfl⟩ ?_ ?_ ?_
        · rintro i H _ ⟨H1, ts', r, envi, h, _, _⟩
          obtain ⟨acc, Fa, Fi, x1, _⟩ := h.ex
          exact hG H1 H _ x1
        · rintro i v Hi Hi' hlt ⟨H1i, ts', r, envi, h, el, er⟩ hy
          obtain ⟨acc, Fa, Fi, x1, _⟩ := h.ex
          obtain ⟨t, H1'', htt, x2, fz⟩ := hY i H1i Hi _ v Hi' hlt x1 hy
          have ed : ts.drop i = t :: ts.drop (i + 1) := by
            rw [List.drop_eq_getElem_cons hlt]
            rw [List.getElem?_eq_getElem hlt] at htt
            rw [Option.some.inj htt]
          have h2 := h.quiet x2
          obtain ⟨⟨acc, Fa, Fi, x1, k1, k2, k3, k4, Rw, k6⟩, e0, k7⟩ := h2
          rw [ed] at el
          unfold lcGoE at el
          split at el
          · cases el
          · rename_i enva e3
            split at el
            · rename_i hl
              refine hg _ _ _ e3 _ _ _ _ _ x2.sub Rw fz _ fun σ2 F2 R2 hF2 pn => ?_
              have l1 := R2.len
              have l2 := Rw.len
              rw [wipe_length] at l2
              have hw : L2.wipe σ2 vs = L2.wipe σ vs := wipe_pin (by rw [l1, hl, ← l2]) pn
              refine ⟨hw, ?_⟩
              split at el
              · cases el
              · rename_i e4
                refine ht _ _ e4 _ _ _ _ x2.sub R2 _ fun H3 H3' x3 => ?_
                rw [if_neg Bool.false_ne_true]
                exact ⟨H3, ts', r, envi, (LcE.mk ⟨acc, Fa, Fi, x1, k1, k2, k3, k4, Rw, k6⟩ ⟨e0, k7⟩).quiet x3, el, er⟩
              · rename_i e4
                refine ht _ _ e4 _ _ _ _ x2.sub R2 _ fun H3 H3' x3 => ?_
                rw [if_pos rfl]
                have ap := x3.apart (G := fun b => b = D ∨ Fa b) (fun b z => z.elim (fun z => by rw [z]; exact ⟨k2, _, k1⟩) fun z => k3.own b z) (fun _ _ z => z)
                have x1 := x1.trans x3.wk
                have k1 := (ap.1 D (.inl rfl)).1.trans k1
                have k2 := (ap.1 D (.inl rfl)).2
                have k3 := k3.frame x3.s1 fun b z => ap.1 b (.inr z)
                clear ap
                split at el
                · cases el
                · rename_i u envb e5
                  split at el
                  · cases el
                  · rename_i us' envc e6
                    cases el
                    refine he _ _ _ e5 _ _ _ _ x3.sub (x3.qRepE R2) _ fun z H4 H4' F' Ft x4 R4 r4 d4 => ?_
                    have ap := x4.apart (G := fun b => b = D ∨ Fa b) (fun b z => z.elim (fun z => by rw [z]; exact ⟨k2, _, k1⟩) fun z => k3.own b z) (fun b z w => k6 b z (hF2 b w))
                    have hD4 := ap.1 D (.inl rfl)
                    have r3 := k3.frame x4.s1 fun b z => ap.1 b (.inr z)
                    obtain ⟨F3, r5, hF3⟩ := r3.snoc r4 fun b z w => ap.2 b (.inr z) (.inr w)
                    have nD : ¬ F3 D := fun z => ((hF3 D).mp z).elim k4 fun w => ap.2 D (.inl rfl) (.inr w)
                    have x5 : Ext Ha Hb Fw H4 H4' (fun b => (b = D ∨ Fa b) ∨ (F' b ∨ Ft b)) := (x1.less (F'' := fun b => (b = D ∨ Fa b) ∨ F2 b) fun b z => z.imp id (hF2 b)).trans (x4.fr (G := fun b => b = D ∨ Fa b))
                    have x6 : Ext H4 H4' (fun b => (b = D ∨ Fa b) ∨ (F' b ∨ Ft b)) H4 (upd H4' D (.lst (acc ++ [z]))) (fun b => (b = D ∨ Fa b) ∨ (F' b ∨ Ft b)) := Ext.wr x5.sub hD4.2 (.inl (.inl rfl))
                    obtain ⟨G5, R5, hG5⟩ := R4.wipe vs
                    rw [hw] at R5
                    have dG : ∀ b, (b = D ∨ F3 b) → ¬ G5 b := fun b z w => by
                      have w := hG5 b w
                      rcases z with z | z
                      · exact ap.2 b (.inl z) (.inl w)
                      · rcases (hF3 b).mp z with z | z
                        · exact ap.2 b (.inr z) (.inl w)
                        · exact d4 b w z
                    refine ⟨acc, hD4.1.trans k1, by rw [k3.len, maxLen_eq]; rw [← er] at hz; simp at hz; omega, H4, ts' ++ [u], us', wipeE envb vs, ⟨⟨acc ++ [z], F3, G5, (x5.trans x6).less fun b z => z.elim (fun z => z.elim (fun z => .inl (.inl z)) fun z => ((hF3 b).mp z).elim (fun z => .inl (.inr z)) fun z => .inr (.inr z)) fun z => .inr (.inl (hG5 b z)), upd_same, hD4.2, r5.frame (Same.refl _) fun b z => ⟨upd_ne fun w => nD (by rw [← w]; exact z), (r5.own b z).1⟩, nD, R5.frame (Same.refl _) fun b z => ⟨upd_ne fun w => dG b (.inl w) z, (R5.own b z).1⟩, dG⟩, envb, rfl⟩, e6, by rw [← er]; simp⟩
            · cases el
        · rintro Hc ⟨H1, ts', r, envi, h, el, er⟩
          rw [List.drop_length] at el
          cases el
          rw [List.append_nil] at er
          subst er
          obtain ⟨⟨acc, Fa, Fi, x1, k1, k2, k3, k4, Rw, k6⟩, e0, k7⟩ := h
          refine q _ H1 Hc Fi (fun b => b = D ∨ Fa b) ((xa.trans x1).less fun b z => z.symm) (RepE.unwipe vs Rw (by rw [k7]; exact wipeE_no)) (.lst k1 k2 k3 k4) fun b z w => k6 b w z
      · cases e
end
section
variable {X : Cx} {P : Nat → Bool}
variable {elt tg iter : Expr} {ifs : List Expr} {scope : Scope} {own : List (Str × Nat)} {pos : Pos} {wi : TI} {src : Env → Option (List T × Env)} {f : T → Env → Option Env} {c : Env → Option Bool} {y : Env → Option (T × Env)}
def eAllE (X : Cx) (scope : Scope) (elt : Expr) (y : Env → Option (T × Env)) : TE := fun σ H Q => ∀ (s : Shared) (H' : Hp) (C : Addr) (cl : List (Str × Addr)) (fp : List Addr) (te : TE), EE (X.blk s H' scope (compEnvC scope cl C X.env) fp) elt te y → te σ H Q
theorem e_allE (s : Shared) (H : Hp) (C : Addr) (cl : List (Str × Addr)) (fp : List Addr) (h : ∃ te, EE (X.blk s H scope (compEnvC scope cl C X.env) fp) elt te y) : PE (X.blk s H scope (compEnvC scope cl C X.env) fp) elt (eAllE X scope elt y) := by
  obtain ⟨te, h⟩ := h
  exact ⟨fun pins s' σ H' Q I q => h.pe.run pins s' σ H' Q I (q s H C cl fp te h)⟩
theorem e_allER : ER X.K X.mg (eAllE X scope elt y) y := fun env t env' e H1 H σ F s R Q q s' H' C cl fp te h => h.er env t env' e H1 H σ F s R Q q
theorem ee_lc (hc : X.calm = true) (hN : X.N.Nodup) (hi : IE X tg iter wi src) (ok : BlkOk X.N X.env.scope scope own)
    (hg : ∀ (s : Shared) (H : Hp) (C : Addr) (cl : List (Str × Addr)) (fp : List Addr), ∃ g, GQ (X.blk s H scope (compEnvC scope cl C X.env) fp) (pinC (own.map (·.2))) tg g f)
    (ht : ∀ (s : Shared) (H : Hp) (C : Addr) (cl : List (Str × Addr)) (fp : List Addr), ∃ tt, TS' (X.blk s H scope (compEnvC scope cl C X.env) fp) ifs tt c)
    (he : ∀ (s : Shared) (H : Hp) (C : Addr) (cl : List (Str × Addr)) (fp : List Addr), ∃ te, EE (X.blk s H scope (compEnvC scope cl C X.env) fp) elt te y)
    (hs : ∀ x, foldedSetIterable iter X.env x = pure x := by intro _; rfl) :
    EE X (.ListComp elt [⟨tg, iter, ifs, 0⟩] scope pos) (tLc wi (gAll X scope (pinC (own.map (·.2))) tg f) (tAll X scope ifs c) (eAllE X scope elt y) (own.map (·.2))) (eLc (own.map (·.2)) src f c y) :=
  ⟨pe_lc hc hN hi.pi ok (fun s H C cl fp => g_all s H C cl fp (hg s H C cl fp)) (fun s H C cl fp => t_all s H C cl fp (ht s H C cl fp)) (fun s H C cl fp => e_allE s H C cl fp (he s H C cl fp)) hs, er_lc hi.ir g_allR t_allR e_allER⟩
/-- name = [..] -/
theorem se_setLcE0 {i : Nat} {z : Str} {py spos : Pos} {y' : Env → Option (T × Env)} (hc : X.calm = true) (hN : X.N.Nodup) (hy : X.N[i]? = some z) (hyl : X.env.scope.names.lookup z = some .local)
    (hsw : swapsWith (.ListComp elt [⟨tg, iter, ifs, 0⟩] scope pos) (some (.Name z py)) spos.line X.env = pure true) (hi : IE X tg iter wi src) (ok : BlkOk X.N X.env.scope scope own)
    (hg : ∀ (s : Shared) (H : Hp) (C : Addr) (cl : List (Str × Addr)) (fp : List Addr), ∃ g, GQ (X.blk s H scope (compEnvC scope cl C X.env) fp) (pinC (own.map (·.2))) tg g f)
    (ht : ∀ (s : Shared) (H : Hp) (C : Addr) (cl : List (Str × Addr)) (fp : List Addr), ∃ tt, TS' (X.blk s H scope (compEnvC scope cl C X.env) fp) ifs tt c)
    (he : ∀ (s : Shared) (H : Hp) (C : Addr) (cl : List (Str × Addr)) (fp : List Addr), ∃ te, EE (X.blk s H scope (compEnvC scope cl C X.env) fp) elt te y) (hp : P i = false)
    (hx : ∀ {te : TE}, ER X.K X.mg te (eLc (own.map (·.2)) src f c y) → ER X.K X.mg te y')
    (hs : ∀ x, foldedSetIterable iter X.env x = pure x := by intro _; rfl) :
    SE X P (.Assign [.Name z py] (.ListComp elt [⟨tg, iter, ifs, 0⟩] scope pos) spos) (tAsg (tLc wi (gAll X scope (pinC (own.map (·.2))) tg f) (tAll X scope ifs c) (eAllE X scope elt y) (own.map (·.2))) (gName i)) (sAsg y' (gSet i)) :=
  ⟨ps_setLc hc hN hy hyl hsw hi.pi ok (fun s H C cl fp => g_all s H C cl fp (hg s H C cl fp)) (fun s H C cl fp => t_all s H C cl fp (ht s H C cl fp)) (fun s H C cl fp => e_allE s H C cl fp (he s H C cl fp)) hs, sr_asg (hx (er_lc hi.ir g_allR t_allR e_allER)) (gr_name hp)⟩
theorem er_fz {K : PySem.W.Frag} {mg : Str → Option Value} {te : TE} {z : Env → Option (T × Env)} (h : ER K mg te z) : ER K mg te (eFz z) := fun env t env' e H1 H σ F s R Q q => by
  unfold eFz at e
  split at e
  · cases e
  · rename_i u env1 e1
    cases e
    refine h _ _ _ e1 _ _ _ _ s R _ fun v Ha Hb F1 G1 x1 R1 r1 d1 => ?_
    have x2 : Ext Ha Hb (fun b => F1 b ∨ G1 b) (join Ha Hb G1) Hb F1 := Ext.freeze x1.sub (fun b z => (r1.own b z).1) (fun b z w => d1 b w z) (fun _ z => .inr z) fun _ z => .inl z
    have R2 := R1.frame (H' := Hb) x2.s1 fun b z => ⟨rfl, by rw [join_out (d1 b z)]; exact (R1.own b z).1⟩
    exact q v _ Hb F1 F0 ((x1.trans x2).less fun b z => z.elim id fun z => z.elim) R2 (.sh (r1.freeze x2.s1 fun b z => join_in z)) fun _ _ z => z
theorem er_id {K : PySem.W.Frag} {mg : Str → Option Value} {te : TE} {z : Env → Option (T × Env)} (h : ER K mg te z) : ER K mg te z := h
end
end GK

/-! GK27: slices, joins of effectful values; append and pop with effectful arguments. -/
namespace GK
open PySem L2
section
variable {K : PySem.W.Frag} {mg : Str → Option Value}
/-- a quiet step behind an effect -/
theorem effq {H1 H Hc Hd H1' H' : Hp} {F F2 G2 Ft : FP} {σ : L2.St} {env : Env} (x : Ext H1 H F Hc Hd (fun b => F2 b ∨ G2 b)) (R : RepE K mg Hc Hd σ env F2) (y : Ext Hc Hd F0 H1' H' Ft) :
    Ext H1 H F H1' H' (fun b => F2 b ∨ Ft b) ∧ RepE K mg H1' H' σ env F2 ∧ ∀ b, F2 b → ¬ Ft b := by
  have ap := y.apart R.own fun _ _ z => z
  refine ⟨⟨x.s1.trans y.s1, y.sub, fun b o z n => y.keep b o (x.keep b o z n) fun z => z, fun b z => ?_, fun b o z => ?_⟩, R.frame y.s1 ap.1, ap.2⟩
  · rcases z with z | z
    · exact x.foot b (.inl z)
    · rcases y.foot b z with q | q
      · exact q.elim
      · exact (back_none x q).symm
  · rcases y.new1 b o z with q | q | q
    · obtain ⟨o', q⟩ := q; exact x.new1 b o' q
    · exact q.elim
    · exact .inr (back_none x q).symm
end
section
variable {X : Cx} {a b e o : Expr} {es : List Expr} {te ta tb to : TE} {tl : TA} {x xa xb xo : Env → Option T} {y ya : Env → Option (T × Env)} {pos apos : Pos}
def eSl (ya : Env → Option (T × Env)) (l h : Env → Option (Option Int)) : Env → Option (T × Env) := fun env => match ya env with | none => none | some (t, env1) => match l env1 with | none => none | some lo => match h env1 with | none => none | some hi => match fSl t lo hi with | some u => some (u, env1) | none => none
theorem ee_slice {lo hi : Option Expr} {tlo thi : TO} {l h : Env → Option (Option Int)} {p2} (ha : EE X a ta ya) (hl : PartE X lo tlo l) (hh : PartE X hi thi h) : EE X (.Subscript a (.Slice lo hi none p2) pos) (L2.tSl (rSlU X.K) ta tlo thi) (eSl ya l h) :=
  ⟨pe_slice (sl_str.or (sl_tupA.or sl_list)) ha.pe hl.po hh.po, fun env t env' e H1 H σ F s R Q q => by
    unfold eSl at e
    split at e
    · cases e
    · rename_i u env1 e1
      split at e
      · cases e
      · rename_i lo' e2
        split at e
        · cases e
        · rename_i hi' e3
          split at e
          · rename_i w e4
            cases e
            refine ha.er _ _ _ e1 _ _ _ _ s R _ fun v Ha Hb F1 G1 x1 R1 r1 d1 => hl.tr _ _ e2 _ _ _ _ x1.sub R1 _ fun Hc Hd x2 => hh.tr _ _ e3 _ _ _ _ x2.sub (x2.qRepE R1) _ fun He Hf x3 =>
              sl_road x3.sub (x3.qRep (x2.qRep r1)) e4 fun v H1' H' Ft x4 r4 => ?_
            obtain ⟨k1, k2, k3⟩ := effq x1 R1 ((x2.trans x3).trans x4)
            exact q v H1' H' F1 Ft k1 k2 r4 k3
          · cases e⟩
/-- sep.join(..) -/
def eJoin (xo : Env → Option T) (y : Env → Option (T × Env)) : Env → Option (T × Env) := fun env => match xo env with
  | some (.str a) => (match y env with | some (u, env1) => (match fJoin (.str a) u with | some t => some (t, env1) | none => none) | none => none)
  | _ => none
theorem ee_join (ho : KE X o to xo) (he : EE X e te y) (hs : starEach [e] X.env = [(false, eval e X.env)] := by rfl) (hbase : attributeBase o "join" X.env (eval o X.env) = eval o X.env := by rfl) (hline : (apos.endLine == pos.line) = true := by rfl) :
    EE X (.Call (.Attribute o "join" apos) [e] [] pos) (tM1 (fun x xs H Q => ∃ a p, ∃ ys : List Str, x = .str a ∧ xs = [.ref p] ∧ (SqL X.K H p (ys.map V.str) ∨ SqT X.K H p (ys.map V.str)) ∧ (ys.map (·.length)).sum + ys.length * a.length ≤ 16777216 ∧ Q (.str (Txt.join a ys)) H) to te) (eJoin xo y) :=
  ⟨pe_m1 PySem.F.slot_str_join PySem.F.type_str_join mt_join ho.pe he.pe hs hbase hline, fun env t env' e H1 H σ F s R Q q => by
    unfold eJoin at e
    split at e
    · rename_i a e1
      split at e
      · rename_i w env1 e2
        split at e
        · rename_i t' e3
          cases e
          unfold fJoin at e3
          simp only at e3
          split at e3
          · rename_i zs hz
            split at e3
            · rename_i hl
              cases e3
              refine ho.kr _ _ e1 _ _ _ _ s R _ fun v1 Ha Hb G1 x1 r1 => ?_
              rw [r1.strE]
              refine ⟨⟨_, rfl⟩, he.er _ _ _ e2 _ _ _ _ x1.sub (x1.qRepE R) _ fun v2 Hc Hd F2 G2 x2 R2 r2 d2 => ?_⟩
              have road : ∃ p, v2 = .ref p ∧ (SqL X.K Hd p ((zs.map S).map V.str) ∨ SqT X.K Hd p ((zs.map S).map V.str)) := by
                split at hz
                · obtain ⟨p, vs, G, h1, h2, h3⟩ := r2.lst' x2.sub
                  refine ⟨p, h1, .inl (.inl (.inl ?_))⟩
                  rw [h2, h3.strs hz, List.map_map]; rfl
                · obtain ⟨p, vs, h1, h2, h3⟩ := r2.tuple x2.sub
                  obtain ⟨F, r, _⟩ := h3.reps (H := Hd)
                  refine ⟨p, h1, .inr ?_⟩
                  rw [r.strs hz] at h2
                  rw [List.map_map]; exact h2
                · cases hz
              obtain ⟨p, rfl, h⟩ := road
              refine ⟨_, p, zs.map S, rfl, rfl, h, ?_, ?_⟩
              · rw [List.map_map, List.length_map, S_length]
                have e : (zs.map ((fun z : Str => z.length) ∘ S)) = zs.map (·.length) := List.map_congr_left fun a _ => S_length a
                rw [e]
                exact hl
              · rw [join_S]
                exact now x2.sub (.str _) fun v H1' H' Ft x3 r3 => by
                  obtain ⟨k1, k2, k3⟩ := effq ((x1.wk.trans x2) : Ext H1 H F _ _ _) R2 x3
                  exact q v H1' H' F2 Ft k1 k2 r3 k3
            · cases e3
          · cases e3
        · cases e
      · cases e
    · cases e⟩
/-- name.append(..) -/
def eAppV (i : Nat) (y : Env → Option (T × Env)) : Env → Option (T × Env) := fun env => match env[i]? with
  | some (some (.lst true _)) => (match y env with
    | some (u, env1) => (match env1[i]? with
      | some (some (.lst true xs)) => if xs.length < maxLen then some (.non, env1.set i (some (.lst true (xs ++ [u])))) else none
      | _ => none)
    | none => none)
  | _ => none
theorem ownE {K : PySem.W.Frag} {mg : Str → Option Value} {H1 H : Hp} {v : V} {xs : List T} {F : FP} (r : Rep K mg H1 H v (.lst true xs) F) : ∃ p vs Fa, v = .ref p ∧ H p = some (.lst vs) ∧ H1 p = none ∧ Reps K mg H1 H vs xs Fa ∧ ¬ Fa p ∧ (∀ b, F b ↔ b = p ∨ Fa b) := by
  cases r with
  | sh r => cases r
  | lst h1 h2 h3 h4 => exact ⟨_, _, _, rfl, h1, h2, h3, h4, fun _ => Iff.rfl⟩
theorem ee_appV (i : Nat) {z : Str} {p0 : Pos} (h : PE X (.Name z p0) (tVar i)) (ha : EE X b tb y) (m : BM1 X (.Name z p0) "append" b apos pos := by exact ⟨rfl, rfl, rfl, rfl, rfl⟩) :
    EE X (.Call (.Attribute (.Name z p0) "append" apos) [b] [] pos) (tBM X.K "list" rAppend (tVar i) (tCons tb tNil)) (eAppV i y) :=
  ⟨pe_bm PySem.F.plainAttrs_list PySem.F.slot_list_append PySem.F.type_list_append mt_append h (pa_cons ha.pe pa_nil m.star) m.base m.few m.line m.star m.plain, fun env t env' e H1 H σ F s R Q q => by
    unfold eAppV at e
    split at e
    · rename_i xs0 e0
      split at e
      · rename_i u env1 e1
        split at e
        · rename_i xs e2
          split at e
          · rename_i hz
            cases e
            obtain ⟨v0, Fi0, g1, g2, _⟩ := R.get e0
            obtain ⟨p0, vs0, Fa0, rfl, g3, _⟩ := ownE g2
            refine ⟨_, g1, .inl ⟨rfl, vs0, .inl (.inl g3)⟩, ha.er _ _ _ e1 _ _ _ _ s R _ fun w Hc Hd F2 Ft x2 R2 r2 d2 => ?_⟩
            obtain ⟨v, Fi, G, h1, h2, h3, h4, h5, h6⟩ := R2.take e2
            rw [g1] at h1
            cases h1
            obtain ⟨p, vs, Fa, hp, k1, k2, k3, k4, k5⟩ := ownE h2
            cases hp
            obtain ⟨F3, r3, hF3⟩ := k3.snoc r2 fun b z w => d2 b (h5 b ((k5 b).mpr (.inr z))) w
            have np : ¬ F3 p0 := fun z => ((hF3 p0).mp z).elim k4 (d2 p0 (h5 p0 ((k5 p0).mpr (.inl rfl))))
            have r4 := rep_relist (H := Hd) k2 r3 np
            have hi : i < env1.length := (List.getElem?_eq_some_iff.mp e2).1
            have nG : ∀ b, (b = p0 ∨ F3 b) → ¬ G b := fun b z w => by
              rcases z with z | z
              · exact h4 b ((k5 b).mpr (.inl z)) w
              · rcases (hF3 b).mp z with z | z
                · exact h4 b ((k5 b).mpr (.inr z)) w
                · exact d2 b (h6 b w) z
            have R4 : RepE X.K X.mg Hc (upd Hd p0 (.lst (vs ++ [w]))) σ (env1.set i none) G := h3.frame (Same.refl _) fun b z => ⟨upd_ne fun w => nG b (.inl w) z, (h3.own b z).1⟩
            obtain ⟨F', R5, hF⟩ := R4.put (i := i) (v := .ref p0) (t := .lst true (xs ++ [u])) (by rw [List.length_set]; exact hi) r4 nG
            rw [List.set_set, set_id g1] at R5
            have x3 : Ext Hc Hd (fun b => F2 b ∨ Ft b) Hc (upd Hd p0 (.lst (vs ++ [w]))) (fun b => F2 b ∨ Ft b) := Ext.wr x2.sub k2 (.inl (h5 p0 ((k5 p0).mpr (.inl rfl))))
            refine ⟨p0, vs, w, rfl, rfl, k1, by rw [k3.len, maxLen_eq]; exact hz, q .non Hc _ F' F0 ((x2.trans x3).less fun b z => ?_) R5 (.sh .non) fun _ _ z => z⟩
            rcases z with z | z
            · rcases hF b z with (z | z) | z
              · exact .inl (h5 b ((k5 b).mpr (.inl z)))
              · exact ((hF3 b).mp z).elim (fun z => .inl (h5 b ((k5 b).mpr (.inr z)))) .inr
              · exact .inl (h6 b z)
            · exact z.elim
          · cases e
        · cases e
      · cases e
    · cases e⟩
/-- name.pop(..) -/
def ePopV (i : Nat) (y : Env → Option (T × Env)) : Env → Option (T × Env) := fun env => match env[i]? with
  | some (some (.lst true _)) => (match y env with
    | some (.int j, env1) => (match env1[i]? with
      | some (some (.lst true xs)) => if decide (-(2 ^ 63) ≤ j) && decide (j < 2 ^ 63) then (match seqIndex? j xs.length with | some k => popAt xs k (pVarPut i) env1 | none => none) else none
      | _ => none)
    | _ => none)
  | _ => none
theorem ee_popV (i : Nat) {z : Str} {p0 : Pos} (h : PE X (.Name z p0) (tVar i)) (ha : EE X b tb y) (m : BM1 X (.Name z p0) "pop" b apos pos := by exact ⟨rfl, rfl, rfl, rfl, rfl⟩) :
    EE X (.Call (.Attribute (.Name z p0) "pop" apos) [b] [] pos) (tBM X.K "list" rPopAt (tVar i) (tCons tb tNil)) (ePopV i y) :=
  ⟨pe_bm PySem.F.plainAttrs_list PySem.F.slot_list_pop PySem.F.type_list_pop mt_popAt h (pa_cons ha.pe pa_nil m.star) m.base m.few m.line m.star m.plain, fun env t env' e H1 H σ F s R Q q => by
    unfold ePopV at e
    split at e
    · rename_i xs0 e0
      split at e
      · rename_i j env1 e1
        split at e
        · rename_i xs e2
          split at e
          · rename_i hz
            rw [Bool.and_eq_true, decide_eq_true_eq, decide_eq_true_eq] at hz
            split at e
            · rename_i k hk
              obtain ⟨v0, Fi0, g1, g2, _⟩ := R.get e0
              obtain ⟨p0, vs0, Fa0, rfl, g3, _⟩ := ownE g2
              refine ⟨_, g1, .inl ⟨rfl, vs0, .inl (.inl g3)⟩, ha.er _ _ _ e1 _ _ _ _ s R _ fun w Hc Hd F2 Ft x2 R2 r2 d2 => ?_⟩
              have x2' : Ext H1 H F Hc Hd F2 := x2.less fun _ z => .inl z
              obtain ⟨v, Fi, G, h1, h2, h3, h4, h5, h6⟩ := R2.take e2
              rw [g1] at h1
              cases h1
              obtain ⟨p, vs, Fa, hp, k1, k2, k3, k4, k5⟩ := ownE h2
              cases hp
              obtain ⟨w2, w3, w4⟩ := pop_core (H1 := Hc) (H := Hd) (Ext.refl x2.sub) R2 (fun b z => h5 b ((k5 b).mpr z)) k1 k2 k3 k4 (fun t' env' ep H2 H2' G' s2 kk r hg => by
                cases ep
                have hi : i < env1.length := (List.getElem?_eq_some_iff.mp e2).1
                have R1 : RepE X.K X.mg H2 H2' σ (env1.set i none) G := h3.frame s2 fun b z => kk b (h6 b z) fun w => h4 b ((k5 b).mpr w) z
                obtain ⟨F', R5, hF⟩ := R1.put (i := i) (v := .ref p0) (t := t') (by rw [List.length_set]; exact hi) r fun b z w => h4 b ((k5 b).mpr (hg b z (h6 b w))) w
                rw [List.set_set, set_id g1] at R5
                exact ⟨F', R5, fun b z => (hF b z).elim .inr fun z => .inl ⟨h6 b z, fun w => h4 b ((k5 b).mpr w) z⟩⟩) e (Q := Q) (fun v H1' H' F' Ft x4 => q v H1' H' F' Ft (x2'.trans x4))
              exact ⟨p0, vs, j, k, w2, rfl, by rw [r2.intE], k1, hz.1, hz.2, by rw [k3.len]; exact hk, w3, w4⟩
            · cases e
          · cases e
        · cases e
      · cases e
    · cases e⟩
end
end GK

/-! GK28: and | or with effects, as values. -/
namespace GK
open PySem L2
section
variable {X : Cx} {a b e : Expr} {rest : List Expr} {ta tb : TE} {ya yb : Env → Option (T × Env)} {pos : Pos}
def eAnd (ya yb : Env → Option (T × Env)) : Env → Option (T × Env) := fun env => match ya env with | none => none | some (t, env1) => match t.truth with | none => none | some true => yb env1 | some false => some (t, env1)
def eOr (ya yb : Env → Option (T × Env)) : Env → Option (T × Env) := fun env => match ya env with | none => none | some (t, env1) => match t.truth with | none => none | some true => some (t, env1) | some false => yb env1
theorem ee_one {op} (h : EE X a ta ya) : EE X (.BoolOp op [a] pos) ta ya := ⟨pe_one h.pe, h.er⟩
theorem ee_and (ha : EE X a ta ya) (hb : EE X (.BoolOp .And (b :: rest) pos) tb yb) : EE X (.BoolOp .And (a :: b :: rest) pos) (tAndT X.K ta tb) (eAnd ya yb) := ⟨pe_andT ha.pe hb.pe, fun env t env' e H1 H σ F s R Q q => by
  unfold eAnd at e
  split at e
  · cases e
  · rename_i u env1 e1
    refine ha.er _ _ _ e1 _ _ _ _ s R _ fun v Ha Hb F1 Ft x1 R1 r1 d1 => ?_
    split at e
    · cases e
    · rename_i ht
      exact ⟨true, tru_of x1.sub r1 ht, iteT (hb.er _ _ _ e _ _ _ _ x1.sub R1 _ fun w Hc Hd F2 Fu y R2 r2 d2 => q w Hc Hd F2 Fu ((x1.less fun _ z => .inl z).trans y) R2 r2 d2)⟩
    · rename_i ht
      cases e
      exact ⟨false, tru_of x1.sub r1 ht, iteF (q v Ha Hb F1 Ft x1 R1 r1 d1)⟩⟩
theorem ee_or (ha : EE X a ta ya) (hb : EE X (.BoolOp .Or (b :: rest) pos) tb yb) : EE X (.BoolOp .Or (a :: b :: rest) pos) (tOrT X.K ta tb) (eOr ya yb) := ⟨pe_orT ha.pe hb.pe, fun env t env' e H1 H σ F s R Q q => by
  unfold eOr at e
  split at e
  · cases e
  · rename_i u env1 e1
    refine ha.er _ _ _ e1 _ _ _ _ s R _ fun v Ha Hb F1 Ft x1 R1 r1 d1 => ?_
    split at e
    · cases e
    · rename_i ht
      cases e
      exact ⟨true, tru_of x1.sub r1 ht, iteT (q v Ha Hb F1 Ft x1 R1 r1 d1)⟩
    · rename_i ht
      exact ⟨false, tru_of x1.sub r1 ht, iteF (hb.er _ _ _ e _ _ _ _ x1.sub R1 _ fun w Hc Hd F2 Fu y R2 r2 d2 => q w Hc Hd F2 Fu ((x1.less fun _ z => .inl z).trans y) R2 r2 d2)⟩⟩
end
end GK

/-! GK29: dict displays. -/
namespace GK
open PySem L2
section
variable {K : PySem.W.Frag} {mg : Str → Option Value}
def mergeA (acc kts : List (Key × T)) : List (Key × T) := kts.foldl (fun acc kv => tput acc kv.1 kv.2) acc
theorem mergeA_rep {H1 H : Hp} : ∀ {kvs : List (Key × V)} {kts : List (Key × T)} {G : FP} {acc : List (Key × V)} {ta : List (Key × T)} {F : FP}, RepA K mg H1 H kvs kts G → RepA K mg H1 H acc ta F → (∀ b, F b → ¬ G b) → (acc.map (·.1)).Nodup →
    ∃ F', RepA K mg H1 H (mergeK acc kvs) (mergeA ta kts) F' ∧ (∀ b, F' b → F b ∨ G b) ∧ ((mergeK acc kvs).map (·.1)).Nodup
  | _, _, _, _, _, F, .nil, a, _, n => ⟨F, a, fun b z => .inl z, n⟩
  | _, _, _, acc, ta, F, .cons (k := k) (v := v) (t := t) r s d, a, dd, n => by
    obtain ⟨F1, a1, h1⟩ := a.put (k := k) r fun b z w => dd b z (.inl w)
    rw [← vput_eq n] at a1
    have n1 : ((putK acc k v).map (·.1)).Nodup := by rw [vput_eq n]; exact (vput_nodup n).1
    obtain ⟨F2, a2, h2, n2⟩ := mergeA_rep s a1 (fun b z w => (h1 b z).elim (fun z => dd b z (.inr w)) fun z => d b z w) n1
    exact ⟨F2, a2, fun b z => (h2 b z).elim (fun z => (h1 b z).imp id .inl) fun z => .inr (.inr z), n2⟩
end
/-- the pairs of a display -/
structure QP (X : Cx) (pos : Pos) (keys : List (Option Expr)) (values : List Expr) (trs : List (TE × TE)) (x : Env → Option (List (Key × T))) : Prop where
  pp : PPs X pos keys values trs
  qr : ∀ env kts, x env = some kts → ∀ H1 H σ F, Same H1 H → RepE X.K X.mg H1 H σ env F → ∀ Q : List (V × V) → Hp → Prop,
    (∀ kvs H1' H' Ft, Ext H1 H F0 H1' H' Ft → RepA X.K X.mg H1' H' kvs kts Ft → Q (kvs.map fun kv => (kV kv.1, kv.2)) H') → tPairs trs σ H Q
section
variable {X : Cx} {k v : Expr} {ks : List (Option Expr)} {vs : List Expr} {tk tv : TE} {trs : List (TE × TE)} {xk xv : Env → Option T} {xr : Env → Option (List (Key × T))} {pos : Pos}
def dNil : Env → Option (List (Key × T)) := fun _ => some []
def dCons (xk xv : Env → Option T) (r : Env → Option (List (Key × T))) : Env → Option (List (Key × T)) := fun env => match xk env with
  | none => none
  | some kt => match kt.key with
    | none => none
    | some k => match xv env with
      | none => none
      | some t => match r env with
        | none => none
        | some kts => some ((k, t) :: kts)
theorem qp_nil : QP X pos [] [] [] dNil := ⟨pps_nil, fun env kts e H1 H σ F s R Q q => by cases e; exact q [] H1 H F0 (Ext.refl s) .nil⟩
theorem qp_cons (hk : KE X k tk xk) (hv : QE X v tv xv) (hr : QP X pos ks vs trs xr) : QP X pos (some k :: ks) (v :: vs) ((tk, tv) :: trs) (dCons xk xv xr) := ⟨pps_cons hk.pe hv.pe hr.pp, fun env kts e H1 H σ F s R Q q => by
  unfold dCons at e
  split at e
  · cases e
  · rename_i kt e1
    split at e
    · cases e
    · rename_i kk e2
      split at e
      · cases e
      · rename_i t e3
        split at e
        · cases e
        · rename_i kts' e4
          cases e
          refine hk.kr _ _ e1 _ _ _ _ s R _ fun x Ha Hb G x1 r1 => hv.qr _ _ e3 _ _ _ _ x1.sub (x1.qRepE R) _ fun y Hc Hd Ft x2 r2 => hr.qr _ _ e4 _ _ _ _ x2.sub ((x2.less (F'' := F0) fun _ z => z.elim).qRepE (x1.qRepE R)) _ fun kvs He Hf Fu x3 r3 => ?_
          obtain ⟨r4, d⟩ := x3.rep r2 fun _ _ z => z
          rw [r1.keyE e2]
          exact q ((kk, y) :: kvs) He Hf (fun b => Ft b ∨ Fu b) ((x1.trans x2).both x3) (.cons r4 r3 d)⟩
def qDisp (x : Env → Option (List (Key × T))) : Env → Option T := fun env => match x env with | none => none | some kts => if kts.length ≤ 15 then some (.dic true (mergeA [] kts)) else none
theorem qe_disp (h : QP X pos ks vs trs xr) (hall : ks.all (·.isSome) = true := by rfl) (hl : ks.length = vs.length := by rfl) (h0 : ks ≠ [] := by exact fun e => nomatch e) (h15 : ks.length ≤ 15 := by decide) : QE X (.Dict ks vs pos) (tDisp trs) (qDisp xr) :=
  ⟨pe_disp h.pp hall hl h0 h15, fun env t e H1 H σ F s R Q q => by
    unfold qDisp at e
    split at e
    · cases e
    · rename_i kts e1
      split at e
      · rename_i hz
        cases e
        intro p n
        have x0 : Ext H1 H F0 H1 (upd H p (.dK [])) (fun b => b = p ∨ F0 b) := Ext.newO s n
        have x0' : Ext H1 H F0 H1 (upd H p (.dK [])) F0 := x0.less fun _ z => z.elim
        refine h.qr _ _ e1 _ _ _ _ x0.sub (x0'.qRepE R) _ fun kvs Ha Hb Ft x1 r1 => ?_
        have ap := x1.apart (G := fun b => b = p) (fun b z => by rw [z]; exact ⟨s.free n, _, upd_same⟩) (fun _ _ z => z)
        have hp := ap.1 p rfl
        obtain ⟨F2, r2, h2, n2⟩ := mergeA_rep (acc := []) (ta := []) r1 .nil (fun _ z => z.elim) List.nodup_nil
        have np : ¬ F2 p := fun z => (h2 p z).elim id (ap.2 p rfl)
        refine ⟨hp.1.trans upd_same, kvs, rfl, by rw [RepA.len r1]; exact hz, ?_⟩
        have x2 : Ext H1 H F0 Ha Hb (fun b => b = p ∨ Ft b) := (x0.less fun b z => z.elim .inl fun z => z.elim).trans (x1.fr (G := fun b => b = p))
        have x3 : Ext Ha Hb (fun b => b = p ∨ Ft b) Ha (upd Hb p (.dK (mergeK [] kvs))) (fun b => b = p ∨ Ft b) := Ext.wr x1.sub hp.2 (.inl rfl)
        exact q _ Ha _ _ ((x2.trans x3).less fun b z => z.imp id fun z => (h2 b z).elim (fun z => z.elim) id) (rep_redict hp.2 n2 r2 np)
      · cases e⟩
end
end GK

/-! GK30: sets of texts, to be sorted. -/
namespace GK
open PySem L2 PySem.Spec PyProof.Rows PySem.Froz
theorem strs_get : ∀ {vs : List Value} {zs : List Str} {i : Nat} {v : Value}, StrsAre vs zs → vs[i]? = some v → ∃ k t, zs[i]? = some k ∧ v = .str k t
  | _, _, _, _, .nil, h => by simp at h
  | _, _, 0, _, .cons k t _, h => by simp at h; exact ⟨k, t, rfl, h.symm⟩
  | _, _, i + 1, _, .cons k t r, h => by
    obtain ⟨k', t', h1, h2⟩ := strs_get r (by simpa using h)
    exact ⟨k', t', by simpa using h1, h2⟩
section
variable {P : Program} {w : World} {A : Around} {E : Value → Shared → Prop} {s : Shared} {a : Addr} {l : List Str}
/-- the set of the texts l at a -/
def SetX (P : Program) (w : World) (h : Heap) (a : Addr) (l : List Str) : Prop :=
  ∃ D : SD, h.get? a = some (sObj "set" D) ∧ TxOk P w D l ∧ l.Nodup ∧ Ris D.2.2.place.toList ∧ (w.params.followText "set-order" = true ∨ D.2.2.led = true)
theorem SetX.at {h h' : Heap} (R : SetX P w h a l) (k : ∀ o, h.get? a = some o → h'.get? a = some o) : SetX P w h' a l := by
  obtain ⟨D, ho, r⟩ := R
  exact ⟨D, k _ ho, r⟩
theorem tailTx_ris {ep : Nat} {es : Array (Int × Value)} {t : SetTable} {b : Bool} (h : Ris t.place.toList) : Ris (tailTx ep es t b).2.2.place.toList := by
  unfold tailTx
  split
  · exact relayAll_ris _ _ _
  · exact h
theorem tailTx_led {ep : Nat} {es : Array (Int × Value)} {t : SetTable} {b : Bool} : (tailTx ep es t b).2.2.led = t.led := by
  unfold tailTx
  split
  · exact relayAll_led _ _ _
  · rfl
theorem addTx_ris {D : SD} {h : Int} {v : Value} (r : Ris D.2.2.place.toList) : Ris (addTx h v D).2.2.place.toList := by
  have h1 := layNew_ris D.2.2 D.1 h v r
  unfold addTx
  refine tailTx_ris ?_
  split <;> exact h1
theorem addTx_led {D : SD} {h : Int} {v : Value} : (addTx h v D).2.2.led = D.2.2.led := by
  have h1 := layNew_led D.2.2 D.1 h v
  unfold addTx
  rw [tailTx_led]
  split <;> exact h1
/-- an add -/
theorem addX {k : Str} {u : Tok} {Q : Bool → Shared → Prop} (hS : SetX P w s.heap a l) (room : l.length + 1 < scanBound)
    (hQ : ∀ b h' l', Heap.SameBut a s.heap h' → SetX P w h' a l' → (∀ x, x ∈ l' ↔ x = k ∨ x ∈ l) → l'.length ≤ l.length + 1 → Q b { s with heap := h' }) :
    wpAny (model P w) A (setAddHashed a (.str k u) (hashStr w k)) Q E s := by
  obtain ⟨D, ho, F, nd, hr, hl⟩ := hS
  by_cases hk : k ∈ l
  · obtain ⟨es, ep, t⟩ := D
    have hd : (sObj "set" (es, ep, t)).data = .set es ep t := rfl
    have hf : t.fits es.size = true := F.fit
    have hel : ElemsOf (strKind P w) es.toList := F.el
    have hsz : es.size = l.length := F.sz
    have hb0 : es.size < scanBound := by omega
    have hkey : (strKind P w).is k (.str k u) = true := is_str k u
    unfold setAddHashed setAddHashedIn
    refine wpAny_holding (wpAny_bind (wpAny_setState_of ho hd hf ?_))
    dsimp only
    rw [byScan_of rfl hb0 hel]
    simp only [↓reduceIte]
    unfold setAddByScan
    refine wpAny_bind ?_
    refine wpAny_bind (wpAny_rule ?_)
    refine wpAny_bind (wpAny_setScan_of (knd := strKind P w) (k := k) hkey ho hd hf hel ?_)
    cases hfi : List.findIdx? (fun e => (strKind P w).is k e.2) es.toList with
    | some j =>
      dsimp only
      exact wpAny_pure (wpAny_pure (hQ _ s.heap l (Heap.SameBut.refl a s.heap) ⟨_, ho, F, nd, hr, hl⟩ (fun x => ⟨.inr, fun z => z.elim (fun z => by rw [z]; exact hk) id⟩) (Nat.le_succ _)))
    | none =>
      obtain ⟨e, he, z⟩ := (F.mem k).mp hk
      have c := List.findIdx?_eq_none_iff.mp hfi e he
      rw [z] at c
      cases c
  · refine add_x ho F hk room (hQ true _ (k :: l) (Heap.SameBut.update s.heap a _) ⟨_, get_upd _ ho rfl, add_ok u F, List.nodup_cons.mpr ⟨hk, nd⟩, addTx_ris hr, hl.imp id fun z => by rw [addTx_led]; exact z⟩ (fun x => List.mem_cons) (Nat.le_refl _))
theorem setX_new {h : Heap} (ho : h.get? a = some { cls := .type "set", dict := none, data := .set #[] 0 (.fresh 0 0 (!w.params.followText "set-order")) }) : SetX P w h a [] :=
  ⟨(#[], 0, .fresh 0 0 (!w.params.followText "set-order")), ho, TxOk.nil rfl, List.nodup_nil, List.Pairwise.nil, by
    show _ ∨ (!w.params.followText "set-order") = true
    cases w.params.followText "set-order"
    · exact .inr rfl
    · exact .inl rfl⟩
/-- set.update's loop, of texts -/
theorem set_update_strs {I : Addr} {fp wr : List Addr} {G : Array GenState → Array GenState → Prop} {n : Nat} {Pv : Nat → Value → Prop} {St : Nat → Shared → Prop} {R : Result → Shared → Prop}
    (W : WalksS P w A.in1 I fp wr G n Pv St) (S : Addr) (hSf : S ∉ fp) (zs : List Str) (hn : n = zs.length) (hb : zs.length + 1 < scanBound) (hval : ∀ i v, Pv i v → ∃ k t, zs[i]? = some k ∧ v = .str k t) :
    ∀ (k i : Nat) (s : Shared), n - i = k → i ≤ n → St i s → (∃ l, l.length ≤ i ∧ SetX P w s.heap S l ∧ ∀ x, x ∈ l ↔ x ∈ zs.take i) →
      (∀ s' l, Moved (S :: wr) G s s' → l.length ≤ n → SetX P w s'.heap S l → (∀ x, x ∈ l ↔ x ∈ zs) → R (.ok (.ret .none)) s') →
      codeAny (model P w) A (.builtin "set.update.loop" ⟨[.ref S, .ref I], []⟩) R s := by
  have hSw : S ∉ wr := fun h => hSf (W.sub _ h)
  have hsub : ∀ b ∈ wr, b ∈ S :: wr := fun b hb => List.mem_cons_of_mem _ hb
  intro k
  induction k with
  | zero =>
    intro i s hk' hi hst ⟨l, hc, hS, hm⟩ hR
    have hin : i = n := by omega
    subst hin
    refine codeAny_builtin F.entry_set_update_loop ?_
    rw [Around.under_plainId F.plain_set_update_loop _]
    show wpAny _ A.in1 (pyNext (.ref I) >>= _) _ _ s
    refine wpAny_bind (W.done s _ _ hst fun s' hmv => ?_)
    show wpAny _ A.in1 (ret Value.none) _ _ s'
    have e : zs.take i = zs := List.take_of_length_le (by omega)
    rw [e] at hm
    exact wpAny_pure (hR s' l (hmv.mono hsub) hc (hS.at fun o e => hmv.heap S o hSw e) hm)
  | succ k ih =>
    intro i s hk' hi hst ⟨l, hc, hS, hm⟩ hR
    have hlt : i < n := by omega
    refine codeAny_builtin F.entry_set_update_loop ?_
    rw [Around.under_plainId F.plain_set_update_loop _]
    show wpAny _ A.in1 (pyNext (.ref I) >>= _) _ _ s
    refine wpAny_bind (W.item i s _ _ hlt hst fun v s' hP hst' hmv => ?_)
    obtain ⟨z, t, hz, rfl⟩ := hval i v hP
    have hS' : SetX P w s'.heap S l := hS.at fun o e => hmv.heap S o hSw e
    show wpAny _ A.in1 (holding [Value.str z t] (setAdd S (.str z t)) >>= _) _ _ s'
    refine wpAny_bind (wpAny_holding ?_)
    unfold setAdd
    refine wpAny_holding ?_
    refine wpAny_bind ((strKind P w).pyHash (k := z) (is_str z t) ?_)
    refine addX (s := { s' with toks := s'.toks + 1 }) hS' (by omega) fun b h' l' hsb hS2 hm2 hl2 => ?_
    have hm3 : ∀ x, x ∈ l' ↔ x ∈ zs.take (i + 1) := fun x => by
      rw [hm2, hm, List.take_add_one, hz]
      simp [List.mem_append]
      exact Or.comm
    refine wpAny_pure ⟨plainId_quiet F.plain_set_update_loop _, ih (i + 1) _ (by omega) hlt (W.frame _ s' _ _ hst' (Nat.le_succ _) fun b hb o e => ?_) ⟨l', by omega, hS2, hm3⟩ fun s'' c2 hm'' hc'' hS'' hx => ?_⟩
    · rw [hsb.2 b (fun h : b = S => hSf (by rw [← h]; exact hb))]; exact e
    · refine hR s'' c2 (Moved.trans W.gtrans ((hmv.mono hsub).then_heap (Nat.le_succ _) fun b o hb e => ?_) hm'') hc'' hS'' hx
      rw [hsb.2 b (fun h : b = S => hb (by rw [h]; exact List.mem_cons_self))]; exact e
set_option maxRecDepth 100000 in
/-- set(xs), xs a list of texts -/
theorem call_set_strs {l : Addr} {items : Array Value} (zs : List Str) {Q : Value → Shared → Prop} (hh : A.handled = none) (hl : s.heap.IsList l items) (hit : StrsAre items.toList zs) (hb : zs.length + 1 < scanBound)
    (h : ∀ (h' : Heap) (tk : Nat) (ys : List Str), SetX P w h' s.heap.objs.size ys → (∀ x, x ∈ ys ↔ x ∈ zs) → ys.length ≤ zs.length → (∀ b o, s.heap.get? b = some o → h'.get? b = some o) → Q (.ref s.heap.objs.size) { s with heap := h', toks := tk }) :
    wpAny (model P w) A (call (.type "set") [.ref l]) Q E s := by
  have hisz : items.size = zs.length := by
    have q := hit.length
    rw [Array.length_toList] at q
    exact q
  obtain ⟨c, tl, hmro⟩ := F.called_set.mro
  have hmade := F.called_set.made
  have hsub := F.called_set.sub
  refine wpAny_call (codeAny_of_tree ?_)
  show wpAny _ _ (callAny (.type "set") _) _ _ _
  refine wpAny_pure ⟨Code.quiet_builtin _ (by decide +kernel), codeAny_builtin F.entry_type_call ?_⟩
  rw [Around.under_plain (weight_type_call_type "set" [.ref l] []) rfl]
  have h1 := F.called_set.notType
  have h2 := F.called_set.canCreate
  have hct := F.typeCall_set_1 (.ref l)
  repeat (any_goals (first | assumption | wp_step))
  refine codeAny_mono (code_set_led1 (.ref l) (E := E) (Q₁ := fun obj s₁ => obj = .ref s.heap.objs.size ∧ s₁ = { s with heap := s.heap.push { cls := .type "set", dict := none, data := .set #[] 0 (.fresh 0 0 (!w.params.followText "set-order")) } }) ⟨rfl, rfl⟩) fun r s₁ hr => ?_
  cases r with
  | error e => exact hr
  | ok fl =>
    cases fl with
    | ret obj =>
      obtain ⟨rfl, rfl⟩ := hr
      have hS : (s.heap.push { cls := .type "set", dict := none, data := .set #[] 0 (.fresh 0 0 (!w.params.followText "set-order")) }).get? s.heap.objs.size = some { cls := .type "set", dict := none, data := .set #[] 0 (.fresh 0 0 (!w.params.followText "set-order")) } := Heap.get?_push_size _ rfl
      have hT : Shared.TypeIs { s with heap := s.heap.push { cls := .type "set", dict := none, data := .set #[] 0 (.fresh 0 0 (!w.params.followText "set-order")) } } (.ref s.heap.objs.size) "set" := ⟨_, hS, rfl⟩
      have hli := F.called_set.init.lookup
      have hbi := F.called_set.init.bind (.ref s.heap.objs.size)
      repeat (any_goals (first | assumption | wp_step))
      refine codeAny_mono (codeAny_call_builtin (R := wants (fun r s₂ => r = .none ∧ ∃ h' tk ys, s₂ = { s with heap := h', toks := tk } ∧ SetX P w h' s.heap.objs.size ys ∧ (∀ x, x ∈ ys ↔ x ∈ zs) ∧ ys.length ≤ zs.length ∧
          (∀ b o, s.heap.get? b = some o → h'.get? b = some o)) E) F.called_set.init.plain F.entry_set_init (check_set_init_1 hT ?_)) fun r₂ s₂ hr₂ => ?_
      · obtain ⟨ol, hol, hcl, nl, hdl⟩ := hl
        obtain ⟨ocls, odict, odata, oslots⟩ := ol
        simp only at hcl hdl
        subst hcl; subst hdl
        have hol' : (s.heap.push { cls := .type "set", dict := none, data := .set #[] 0 (.fresh 0 0 (!w.params.followText "set-order")) }).get? l = some { cls := .type "list", dict := odict, data := .seq items nl, slots := oslots } := Heap.get?_push_of_some _ hol
        have hsls := F.sub_list_set
        have hslf := F.sub_list_frozenset
        have hne : (Value.type "list" == Value.type "dict") = false := by decide
        have hl1 : (s.heap.push { cls := .type "set", dict := none, data := .set #[] 0 (.fresh 0 0 (!w.params.followText "set-order")) }).IsList l items := ⟨_, hol', rfl, nl, rfl⟩
        unfold Builtin.«set.__init__» noKeywords Builtin.Frozenset.updateFrom
        generalize hPI : pyIter = PI
        wp_walk
        subst hPI
        refine wpAny_pyIter_list hl1 ?_
        refine wpAny_bind (wpAny_runValue ?_)
        have hlS : l < s.heap.objs.size := Heap.lt_size hol
        have hh3 : A.in1.in1.in1.handled = none := by simp [hh]
        have hneI : l ≠ (s.heap.push { cls := .type "set", dict := none, data := .set #[] 0 (.fresh 0 0 (!w.params.followText "set-order")) }).objs.size := by
          rw [Heap.size_push]; exact Nat.ne_of_lt (Nat.lt_succ_of_lt hlS)
        have hSf : s.heap.objs.size ∉ [(s.heap.push { cls := .type "set", dict := none, data := .set #[] 0 (.fresh 0 0 (!w.params.followText "set-order")) }).objs.size, l] := by
          rw [Heap.size_push]; simp only [List.mem_cons, List.mem_singleton, List.not_mem_nil, or_false, not_or]
          exact ⟨Nat.ne_of_lt (Nat.lt_succ_self _), Nat.ne_of_gt hlS⟩
        have hval : ∀ (i : Nat) (v : Value), items[i]? = some v → ∃ k t, zs[i]? = some k ∧ v = .str k t := fun i v hv => by
          have q : items.toList[i]? = some v := by rw [Array.getElem?_toList]; exact hv
          exact GK.strs_get hit q
        refine set_update_strs ((Walks.list hh3 _ l hneI items).toS) s.heap.objs.size
          hSf zs hisz hb hval (items.size - 0) 0 _ (by omega) (Nat.zero_le _)
          ⟨⟨_, Heap.get?_push_size _ rfl, rfl, rfl⟩, (hl1.push _)⟩ ?hS0 ?hR
        case hS0 =>
          have hget : ((s.heap.push { cls := .type "set", dict := none, data := .set #[] 0 (.fresh 0 0 (!w.params.followText "set-order")) }).push { cls := .type "list_iterator", data := .fields #[.ref l, .int 0 0] }).get? s.heap.objs.size
              = some { cls := .type "set", dict := none, data := .set #[] 0 (.fresh 0 0 (!w.params.followText "set-order")) } := Heap.get?_push_of_some _ hS
          exact ⟨[], Nat.le_refl _, setX_new hget, fun x => by simp⟩
        case hR =>
          intro s' ys hm hlen hS' hx
          obtain ⟨h', g2, d', tk', os'⟩ := s'
          have eg : g2 = s.gens := hm.gens
          have ed : d' = s.drawn := hm.drawn
          have eo : os' = s.os := hm.os
          subst eg; subst ed; subst eo
          show wpAny _ _ _ _ _ _
          refine wpAny_pure ?_
          show wpAny _ _ (ret Value.none) _ _ _
          refine wpAny_pure ⟨rfl, h', tk', ys, rfl, hS', hx, by rw [hisz] at hlen; exact hlen, fun b o e => ?_⟩
          have hlt : b < s.heap.objs.size := Heap.lt_size e
          refine hm.heap b o (fun z => ?_) (Heap.get?_push_of_some _ (Heap.get?_push_of_some _ e))
          rcases List.mem_cons.mp z with z | z
          · exact absurd hlt (by rw [z]; exact Nat.lt_irrefl _)
          · have z := List.mem_singleton.mp z
            rw [Heap.size_push] at z
            exact absurd hlt (by rw [z]; exact Nat.not_lt_of_le (Nat.le_succ _))
      · cases r₂ with
        | error e => exact hr₂
        | ok fl₂ =>
          cases fl₂ with
          | ret r =>
            obtain ⟨rfl, h', tk, ys, rfl, hS', hx, hlen, hk'⟩ := hr₂
            repeat (any_goals (first | assumption | wp_step))
            exact h _ _ _ hS' hx hlen hk'
          | _ => exact hr₂.elim
    | _ => exact hr.elim
end
end GK

/-! GK31: sorted(set(texts)). -/
namespace GK
open PySem L2 PySem.Spec PyProof.Rows PySem.Froz
theorem perm_of_sub {α : Type} [BEq α] [LawfulBEq α] : ∀ {l m : List α}, l.Nodup → (∀ x ∈ l, x ∈ m) → m.length ≤ l.length → m.Perm l
  | [], m, _, _, h => by rw [List.eq_nil_of_length_eq_zero (Nat.le_zero.mp h)]
  | x :: r, m, n, s, h => by
    obtain ⟨n1, n2⟩ := List.nodup_cons.mp n
    have hx := s x (List.mem_cons_self ..)
    have p1 := List.perm_cons_erase hx
    refine p1.trans (List.Perm.cons x (perm_of_sub n2 (fun y hy => ?_) ?_))
    · exact (List.mem_erase_of_ne (fun e => n1 (by rw [← e]; exact hy))).mpr (s y (List.mem_cons_of_mem _ hy))
    · have e := List.length_erase_of_mem hx
      rw [List.length_cons] at h
      omega
def keyT (v : Value) : Str := match v with | .str k _ => k | _ => ⟨#[]⟩
theorem strs_keyT : ∀ {vs : List Value}, (∀ v ∈ vs, ∃ k t, v = Value.str k t) → StrsAre vs (vs.map keyT)
  | [], _ => .nil
  | v :: vs, h => by
    obtain ⟨k, t, rfl⟩ := h v (List.mem_cons_self ..)
    exact .cons k t (strs_keyT fun u hu => h u (List.mem_cons_of_mem _ hu))
section
variable {P : Program} {w : World} {A : Around} {E : Value → Shared → Prop} {s : Shared} {a : Addr} {l : List Str}
theorem isStr_shape {k : Str} {v : Value} (h : (PySem.strKind P w).is k v = true) : ∃ t, v = .str k t := by
  have h : Value.isStrOf k v = true := h
  cases v with
  | str k' t =>
    have e : k' = k := by simpa [Value.isStrOf] using h
    exact ⟨t, by rw [e]⟩
  | _ => simp [Value.isStrOf] at h
theorem txKeys {D : SD} (F : TxOk P w D l) (nd : l.Nodup) : (∀ v ∈ D.1.toList.map (·.2), ∃ k t, v = Value.str k t) ∧ (D.1.toList.map fun e => keyT e.2).Perm l := by
  have sh : ∀ e ∈ D.1.toList, ∃ k t, e.2 = Value.str k t := fun e he => by
    obtain ⟨⟨k, h1, _⟩, _⟩ := F.el e he
    obtain ⟨t, q⟩ := isStr_shape h1
    exact ⟨k, t, q⟩
  refine ⟨fun v hv => ?_, perm_of_sub nd (fun x hx => ?_) ?_⟩
  · obtain ⟨e, he, rfl⟩ := List.mem_map.mp hv
    exact sh e he
  · obtain ⟨e, he, q⟩ := (F.mem x).mp hx
    obtain ⟨t, q⟩ := isStr_shape q
    exact List.mem_map.mpr ⟨e, he, by rw [q]; rfl⟩
  · rw [List.length_map, Array.length_toList, F.sz]
    exact Nat.le_refl _
theorem sorted_setX {Q : Value → Shared → Prop} (R : SetX P w s.heap a l) (hh : A.handled = none) (hb : l.length < scanBound)
    (hQ : ∀ s' p (out : Array Value) (c : Nat) (ws : List Str), (∀ b o, s.heap.get? b = some o → s'.heap.get? b = some o) → s'.gens = s.gens → s'.os = s.os → s.heap.objs.size ≤ p →
      s'.heap.get? p = some (seqObj "list" out c) → StrsAre out.toList ws → ws.Perm l → sortedS ws = true → Q (.ref p) s') :
    wpAny (model P w) A (call (.builtin "sorted") [.ref a]) Q E s := by
  obtain ⟨D, ho, F, nd, hr, hl⟩ := R
  have hsz : D.1.size = l.length := F.sz
  refine Calls.call_function_entry kind_sorted plain_sorted entry_sorted (args_sorted1 _) ?_
  unfold Builtin.«sorted»
  refine wpAny_bind (m := checkCount "sorted" 1 1 _) (wpAny_pure ?_)
  refine wpAny_bind (collect_set (A := A.in1) hh (es := D.1) (ep := D.2.1) (t := D.2.2) ⟨_, ho, rfl, rfl⟩ F.fit (by rw [hsz]; exact hb) hr hl fun s1 vs k1 hz g1 o1 pm => ?_)
  obtain ⟨f1, f2⟩ := txKeys F nd
  have hS : StrsAre vs (vs.map keyT) := strs_keyT fun v hv => f1 v (pm.mem_iff.mp hv)
  have pk : (vs.map keyT).Perm l := by
    have q := pm.map keyT
    rw [List.map_map] at q
    exact q.trans f2
  have hvl : vs.length ≤ sizeLine := by
    have e : vs.length = l.length := by rw [pm.length_eq, List.length_map, Array.length_toList]; exact hsz
    rw [e]
    exact fits_of_scanBound hb
  refine wpAny_bind (wpAny_newList ?_ hvl)
  have hoL : (s1.heap.push (seqObj "list" vs.toArray 0)).get? s1.heap.objs.size = some (seqObj "list" vs.toArray 0) := Heap.get?_push_size _ rfl
  refine wpAny_bind (wpAny_holding (wpAny_call_entry slot_list_sort ⟨_, hoL, rfl⟩ entry_list_sort (list_sort_treeKAny strKind_oneLt hoL hS.keysOf (fun v₁ v₂ rest e => keyKind_strs (by rw [← e]; exact hS)) hvl fun st' hp hsd => ⟨_, rfl, ?_⟩) (args_list_sort _)))
  obtain ⟨ys, a1, a2, a3⟩ := sorted_out_str hS hp hsd
  obtain ⟨c, hcc⟩ := sortedHeap_at (vs := vs) (out := (arrOf st').map (·.2)) hoL
  refine wpAny_pure ⟨_, rfl, hQ _ s1.heap.objs.size _ c ys (fun b u e => ?_) g1 o1 hz hcc a1 (a2.trans pk) a3⟩
  have q := k1 b u e
  have hlt := Heap.lt_size q
  show (sortedHeap (s1.heap.push (seqObj "list" vs.toArray 0)) s1.heap.objs.size vs _).get? b = some u
  rw [sortedHeap_old (Nat.ne_of_lt hlt) (by rw [size_push']; exact Nat.lt_succ_of_lt hlt)]
  exact Heap.get?_push_of_some _ q
end
def SetXO (P : Program) (w : World) (a : Addr) (l : List Str) : HO := .ext fun h => SetX P w h a l
theorem setXO_new {P : Program} {w : World} {H : Hp} {h : Heap} {a : Addr} {l : List Str} (R : SetX P w h a l) : ObjOk P w H h a (SetXO P w a l) :=
  ⟨R, let ⟨_, ho, _⟩ := R; ⟨_, ho⟩, fun h1 h2 p k => SetX.at p k⟩
def rSetX (K : PySem.W.Frag) (P : Program) (w : World) : List V → Hp → VK → Prop := fun xs H Q => ∃ (l : Addr) (zs : List Str), xs = [V.ref l] ∧ SqL K H l (zs.map V.str) ∧ zs.length + 1 < scanBound ∧
  ∀ a ys, H a = none → (∀ x, x ∈ ys ↔ x ∈ zs) → ys.Nodup → ys.length ≤ zs.length → Q (.ref a) (upd H a (SetXO P w a ys))
def rSortX (P : Program) (w : World) : List V → Hp → VK → Prop := fun vs H Q => ∃ (a : Addr) (ys : List Str), vs = [V.ref a] ∧ H a = some (SetXO P w a ys) ∧ ys.length < scanBound ∧
  ∀ (ws : List Str) (p : Addr), ws.Perm ys → sortedS ws = true → H p = none → Q (.ref p) (upd H p (.lst (ws.map V.str)))
section
variable {X : Cx}
theorem cr_setX (hc : X.calm = true) : CallR X (.type "set") (rSetX X.K X.prog X.w) := by
  intro pins s σ H xs us Q I r h
  obtain ⟨l, zs, rfl, hl, hb, q⟩ := h
  rw [Vals.ref1 r]
  obtain ⟨its, rv, pl, hz⟩ := I.list hl
  have hn : H s.heap.objs.size = none := I.hok.fresh (Nat.le_refl _)
  refine call_set_strs (P := X.prog) (w := X.w) zs (I.ok.hd hc) pl.isList (by simpa using rv.strs) hb fun h' tk ys R hx hlen k => ?_
  exact ⟨.ref s.heap.objs.size, upd H s.heap.objs.size (SetXO X.prog X.w s.heap.objs.size ys), I.laid (t' := tk) k (Nat.le_refl _) (setXO_new R), rfl, q _ ys hn hx (let ⟨_, _, _, nd, _⟩ := R; nd) hlen⟩
theorem cr_sortX (hc : X.calm = true) : CallR X (.builtin "sorted") (rSortX X.prog X.w) := by
  intro pins s σ H vs us Q I r h
  obtain ⟨a, ys, rfl, ha, hb, q⟩ := h
  have R : SetX X.prog X.w s.heap a ys := (I.hok a _ ha).1
  rw [Vals.ref1 r]
  refine sorted_setX R (I.ok.hd hc) hb fun s' p out c ws k g o hp hg hout pm pw => ?_
  have hlen : (ws.map V.str).length ≤ sizeLine := by rw [List.length_map, pm.length_eq]; exact fits_of_scanBound hb
  have hn : H p = none := I.hok.fresh hp
  have hv : Vals (ws.map V.str) out.toList := vals_of_strs hout
  have J : Inv X pins σ (upd H p (.lst (ws.map V.str))) { s with heap := s'.heap, gens := s'.gens, drawn := s'.drawn, toks := s'.toks } :=
    I.call (ch := []) (Un.laid k hp hn) (I.hok.laid k hp ⟨hlen, out.toList, c, hv, hg⟩) (by rw [g]; exact I.bare) (fun _ z => nomatch z)
  have e : s' = { s with heap := s'.heap, gens := s'.gens, drawn := s'.drawn, toks := s'.toks } := by
    cases s'
    cases s
    cases o
    rfl
  rw [e]
  exact ⟨.ref p, _, J, rfl, q ws p pm pw hn⟩
/-- one of each -/
def dedS (zs : List (List Nat)) : List (List Nat) := match zs with
  | [] => []
  | z :: r => if (dedS r).contains z then dedS r else z :: dedS r
theorem dedS_mem : ∀ (zs : List (List Nat)) (x : List Nat), x ∈ dedS zs ↔ x ∈ zs
  | [], x => Iff.rfl
  | z :: r, x => by
    unfold dedS
    split
    · rename_i h
      rw [List.contains_iff_mem, dedS_mem r z] at h
      rw [dedS_mem r x, List.mem_cons]
      exact ⟨.inr, fun q => q.elim (fun q => q ▸ h) id⟩
    · rw [List.mem_cons, List.mem_cons, dedS_mem r x]
theorem dedS_nodup : ∀ zs : List (List Nat), (dedS zs).Nodup
  | [] => List.nodup_nil
  | z :: r => by
    unfold dedS
    split
    · exact dedS_nodup r
    · rename_i h
      exact List.nodup_cons.mpr ⟨fun q => h (List.contains_iff_mem.mpr q), dedS_nodup r⟩
theorem S_nodup {zs : List (List Nat)} (h : zs.Nodup) : (zs.map S).Nodup := List.pairwise_map.mpr (h.imp fun hne e => hne (S_inj e))
def fSetSort (t : T) : Option T := match (match t with | .lst _ xs => T.strs xs | .scr xs => T.strs xs | _ => none) with
  | some zs => if zs.length + 1 < 4096 then some (.lst true ((isort leS (dedS zs)).map .str)) else none
  | none => none
end
section
variable {X : Cx} {e : Expr} {te : TE} {x : Env → Option T} {y : Env → Option (T × Env)} {p p2 pos pos2 : Pos}
def tSetSort (X : Cx) (te : TE) : TE := tCB (rSortX X.prog X.w) (tCons (tCB (rSetX X.K X.prog X.w) (tCons te tNil)) tNil)
theorem pe_setSort (hc : X.calm = true) (hg : Gl X "sorted") (hm : X.mg "sorted" = none) (hg2 : Gl X "set") (hm2 : X.mg "set" = none) (he : PE X e te)
    (h1 : starEach [e] X.env = (false, eval e X.env) :: starEach [] X.env := by rfl) (h2 : (backTo pos2 (starEach [] X.env)).any (·.1) = false := by rfl)
    (h3 : starEach [.Call (.Name "set" p2) [e] [] pos2] X.env = (false, eval (.Call (.Name "set" p2) [e] [] pos2) X.env) :: starEach [] X.env := by rfl) (h4 : (backTo pos (starEach [] X.env)).any (·.1) = false := by rfl) :
    PE X (.Call (.Name "sorted" p) [.Call (.Name "set" p2) [e] [] pos2] [] pos) (tSetSort X te) :=
  pe_callB (cr_sortX hc) hg hm (by decide +kernel) (pa_cons (pe_callTy (cr_setX hc) hg2 hm2 (by decide +kernel) (pa_cons he pa_nil h1) (by decide) (by decide) h1 h2) pa_nil h3) (by decide) (by decide) h3 h4
/-- the road of its value -/
theorem setSort_road {H1 H : Hp} {v : V} {t u : T} {G : FP} {Q : VK} (s : Same H1 H) (r : Rep X.K X.mg H1 H v t G) (e : fSetSort t = some u) (q : ∀ v H1' H' Ft, Ext H1 H F0 H1' H' Ft → Rep X.K X.mg H1' H' v u Ft → Q v H') :
    rSetX X.K X.prog X.w [v] H fun v2 H2 => rSortX X.prog X.w [v2] H2 Q := by
  unfold fSetSort at e
  split at e
  · rename_i zs hz
    split at e
    · rename_i hl
      cases e
      have road : ∃ p, v = .ref p ∧ SqL X.K H p ((zs.map S).map V.str) := by
        split at hz
        · obtain ⟨p, vs, G, rfl, h2, h3⟩ := r.lst' s
          rw [h3.strs hz] at h2
          exact ⟨p, rfl, by rw [List.map_map]; exact .inl (.inl h2)⟩
        · obtain ⟨p, vs, G, rfl, h2, h3⟩ := r.list s rfl
          rw [h3.strs hz] at h2
          exact ⟨p, rfl, by rw [List.map_map]; exact h2⟩
        · cases hz
      obtain ⟨p, rfl, hp⟩ := road
      refine ⟨p, zs.map S, rfl, hp, by rw [List.length_map]; exact hl, fun a ys hn hx nd hlen => ⟨a, ys, rfl, upd_same, by rw [List.length_map] at hlen; exact Nat.lt_of_le_of_lt hlen (Nat.lt_of_succ_lt hl), fun ws p' pm pw hn' => ?_⟩⟩
      have x1 : Ext H1 H F0 (upd H1 a (SetXO X.prog X.w a ys)) (upd H a (SetXO X.prog X.w a ys)) F0 := Ext.newS s hn
      have pd : ws.Perm ((dedS zs).map S) := pm.trans ((List.perm_ext_iff_of_nodup nd (S_nodup (dedS_nodup zs))).mpr fun z => by
        rw [hx, List.mem_map, List.mem_map]
        exact ⟨fun ⟨z', h1, h2⟩ => ⟨z', (dedS_mem zs z').mpr h1, h2⟩, fun ⟨z', h1, h2⟩ => ⟨z', (dedS_mem zs z').mp h1, h2⟩⟩)
      rw [isortS_eq pd pw, List.map_map]
      exact newL x1.sub (fz_strs _ _) (fun v Ha Hb Ft x2 => q v Ha Hb Ft (x1.trans x2)) p' hn'
    · cases e
  · cases e
def eSetSort (y : Env → Option (T × Env)) : Env → Option (T × Env) := fun env => match y env with | none => none | some (t, env1) => match fSetSort t with | some u => some (u, env1) | none => none
theorem ee_setSort (hc : X.calm = true) (hg : Gl X "sorted") (hm : X.mg "sorted" = none) (hg2 : Gl X "set") (hm2 : X.mg "set" = none) (he : EE X e te y)
    (h1 : starEach [e] X.env = (false, eval e X.env) :: starEach [] X.env := by rfl) (h2 : (backTo pos2 (starEach [] X.env)).any (·.1) = false := by rfl)
    (h3 : starEach [.Call (.Name "set" p2) [e] [] pos2] X.env = (false, eval (.Call (.Name "set" p2) [e] [] pos2) X.env) :: starEach [] X.env := by rfl) (h4 : (backTo pos (starEach [] X.env)).any (·.1) = false := by rfl) :
    EE X (.Call (.Name "sorted" p) [.Call (.Name "set" p2) [e] [] pos2] [] pos) (tSetSort X te) (eSetSort y) :=
  ⟨pe_setSort hc hg hm hg2 hm2 he.pe h1 h2 h3 h4, fun env t env' e H1 H σ F s R Q q => by
    unfold eSetSort at e
    split at e
    · cases e
    · rename_i u env1 e1
      split at e
      · rename_i w e2
        cases e
        refine he.er _ _ _ e1 _ _ _ _ s R _ fun v Ha Hb F1 G1 x1 R1 r1 d1 => setSort_road x1.sub r1 e2 fun v H1' H' Ft x2 r2 => ?_
        obtain ⟨k1, k2, k3⟩ := effq x1 R1 x2
        exact q v H1' H' F1 Ft k1 k2 r2 k3
      · cases e⟩
theorem qe_setSort (hc : X.calm = true) (hg : Gl X "sorted") (hm : X.mg "sorted" = none) (hg2 : Gl X "set") (hm2 : X.mg "set" = none) (he : KE X e te x)
    (h1 : starEach [e] X.env = (false, eval e X.env) :: starEach [] X.env := by rfl) (h2 : (backTo pos2 (starEach [] X.env)).any (·.1) = false := by rfl)
    (h3 : starEach [.Call (.Name "set" p2) [e] [] pos2] X.env = (false, eval (.Call (.Name "set" p2) [e] [] pos2) X.env) :: starEach [] X.env := by rfl) (h4 : (backTo pos (starEach [] X.env)).any (·.1) = false := by rfl) :
    QE X (.Call (.Name "sorted" p) [.Call (.Name "set" p2) [e] [] pos2] [] pos) (tSetSort X te) (qUn fSetSort x) :=
  ⟨pe_setSort hc hg hm hg2 hm2 he.pe h1 h2 h3 h4, fun env t e H1 H σ F s R Q q => by
    unfold qUn at e
    cases e1 : x env with
    | none => rw [e1] at e; cases e
    | some u =>
      rw [e1] at e
      exact he.kr _ _ e1 _ _ _ _ s R _ fun v Ha Hb G x1 r1 => setSort_road x1.sub r1 e fun v H1' H' Ft x2 r2 => q v H1' H' Ft (x1.trans x2) r2⟩
end
end GK

/-! GK32: repr of data. -/
namespace GK
open PySem L2 PySem.Spec PyProof.Rows
def rRepr (K : PySem.W.Frag) : List V → Hp → VK → Prop := fun vs H Q => ∃ v d, vs = [v] ∧ Dp K H v d ∧ d.showable = true ∧ d.hasDict = false ∧ d.shown.length ≤ sizeLine ∧ d.depth ≤ 8 ∧ Q (.str d.shown) H
section
variable {X : Cx}
theorem call_repr (hg : X.A.guards = some []) (hu : X.A.units + 65 < cLine) : CallR X (.builtin "repr") (rRepr X.K) := by
  intro pins s σ H xs us Q I r h
  obtain ⟨v, d, rfl, hd, h1, h2, h3, h4, q⟩ := h
  obtain ⟨u, rfl, rv⟩ := vals1 r
  obtain ⟨as, hr⟩ := Dp.reads I d v u hd rv
  have fin : ∀ t, EP X pins σ Q (.str d.shown t) { s with toks := s.toks + 1 } := fun t => ⟨.str _, H, I.tok _, ⟨_, rfl⟩, q⟩
  cases hr with
  | none => exact PySem.P.repr_of_none (fin _)
  | bool b => exact PySem.P.repr_of_bool (fin _)
  | int i t => exact PySem.P.repr_of_int (by simpa [PyData.showable] using h1) (fin _)
  | str x t => exact PySem.P.repr_of_str (fin _) h3
  | list a b c e =>
    refine repr_of_reads' (.list a b c e) h1 (fun z => by rw [h2] at z; cases z) hg (by omega) (fun _ _ e => e) (fun h' u tk hk => ⟨.str _, H, I.kept (h' := h') (t' := tk) hk, ⟨_, rfl⟩, q⟩) h3
  | tuple a b c e =>
    refine repr_of_reads' (.tuple a b c e) h1 (fun z => by rw [h2] at z; cases z) hg (by omega) (fun _ _ e => e) (fun h' u tk hk => ⟨.str _, H, I.kept (h' := h') (t' := tk) hk, ⟨_, rfl⟩, q⟩) h3
  | dict a b c e f => cases h2
def fRepr : List T → Option T
  | [t] => match t.data with
    | some d => if (d.showable && !d.hasDict) && (decide (d.shown.length ≤ maxLen) && decide (d.depth ≤ 8)) then some (.str d.shown.cps.toList) else none
    | none => none
  | _ => none
theorem cp_repr {K : PySem.W.Frag} {mg : Str → Option Value} : CallP K mg (rRepr K) fRepr := fun H1 H vs ts t s a e Q q => by
  unfold fRepr at e
  split at e
  · obtain ⟨v, G, rfl, r⟩ := a.one
    split at e
    · rename_i d hd
      split at e
      · rename_i hh
        cases e
        rw [Bool.and_eq_true, Bool.and_eq_true, Bool.and_eq_true, decide_eq_true_eq, decide_eq_true_eq, Bool.not_eq_true'] at hh
        refine ⟨v, d, rfl, r.dp s hd, hh.1.1, hh.1.2, by rw [maxLen_eq]; exact hh.2.1, hh.2.2, ?_⟩
        have e1 : V.str d.shown = V.str (S d.shown.cps.toList) := by rw [← S_of]
        rw [e1]
        exact now s (.str _) q
      · cases e
    · cases e
  · cases e
theorem b_repr : bootBuiltins "repr" = some (.builtin "repr") := by decide +kernel
end
end GK

/-! GK33: calls by keywords alone. -/
namespace GK
open PySem L2 PySem.Spec PyProof.Rows
structure KCallee (X : Cx) (f : Value) (ks : List Str) (fn : List T → Option (T × List T)) : Prop where
  keep : PySem.W.keepIn X.K f = true
  run : ∀ (pins : List (Addr × Obj)) (σ : L2.St) (H : Hp) (s : Shared) (Q : VK) (ws : List Value) (zs : List V), Inv X pins σ H s → Vals zs ws → spV X.K X.mg fn zs H Q →
    wpAny (model X.prog X.w) X.A (call f [] (ks.zip ws)) (EP X pins σ Q) X.xe s
/-- another order of the arguments -/
structure Turns (ps ks : List Str) (fd : FuncData) (fn fn' : List T → Option (T × List T)) (pv : List Value → List Value) (pV : List V → List V) : Prop where
  len : ∀ ts r, fn' ts = some r → ts.length = ks.length
  bind : ∀ ws, ws.length = ks.length → bindArgs fd ⟨[], ks.zip ws⟩ = pure (ps.zip (pv ws))
  rel : ∀ {zs : List V} {ws : List Value}, Vals zs ws → Vals (pV zs) (pv ws)
  sp : ∀ {K : PySem.W.Frag} {mg : Str → Option Value} {zs : List V} {H : Hp} {Q : VK}, spV K mg fn' zs H Q → spV K mg fn (pV zs) H Q
section
variable {X : Cx} {k : Nat} {f C : Addr} {fd : FuncData} {ps ks : List Str} {fn fn' : List T → Option (T × List T)} {pv : List Value → List Value} {pV : List V → List V}
theorem kcallee_fn (F : FnG X.prog X.w X.K X.mg X.base k f fd ps fn) (hr : Room k X.A) (hg : X.A.guards = some []) (kp : PySem.W.keepIn X.K (.ref f) = true) (T : Turns ps ks fd fn fn' pv pV) : KCallee X (.ref f) ks fn' :=
  ⟨kp, fun pins σ H s Q ws zs I rz h => by
    have hn : ws.length = ks.length := by
      obtain ⟨H1, G, ts, t, ts', s1, rr, e, q⟩ := h
      rw [← rz.length, rr.len, T.len _ _ e]
    refine wpAny_call (codeAny_mono (F.meets X.A X.stack s H ⟨[], ks.zip ws⟩ (pv ws) (pV zs) Q hr hg I.env0 (.of_eq (T.bind ws hn)) (T.rel rz) (T.sp h)) fun o s' ho => ?_)
    cases o with
    | error e => exact False.elim ho
    | ok fl =>
      cases fl with
      | ret u => exact I.after ho
      | next => exact False.elim ho
      | brk => exact False.elim ho
      | cont => exact False.elim ho⟩
/-- the same order -/
theorem turns_id (len : ∀ ts r, fn ts = some r → ts.length = ks.length) (bind : ∀ ws, ws.length = ks.length → bindArgs fd ⟨[], ks.zip ws⟩ = pure (ps.zip ws)) : Turns ps ks fd fn fn id id := ⟨len, bind, fun r => r, fun h => h⟩
/-- two, turned -/
def sw2 {α : Type} (l : List α) : List α := match l with | [a, b] => [b, a] | l => l
def swF (fn : List T → Option (T × List T)) : List T → Option (T × List T)
  | [b, a] => match fn [a, b] with | some (t, [a', b']) => some (t, [b', a']) | _ => none
  | _ => none
theorem Reps.turn2 {K : PySem.W.Frag} {mg : Str → Option Value} {H1 H : Hp} {u v : V} {a b : T} {F : FP} (r : Reps K mg H1 H [u, v] [a, b] F) : Reps K mg H1 H [v, u] [b, a] F := by
  cases r with
  | cons r1 r2 d1 =>
    cases r2 with
    | cons r3 r4 d2 =>
      cases r4
      rename_i F1 F2
      have q : Reps K mg H1 H [v, u] [b, a] (fun x => F2 x ∨ (F1 x ∨ F0 x)) := .cons r3 (.cons r1 .nil fun _ _ z => z) fun x z w => w.elim (fun w => d1 x w (.inl z)) id
      have e : (fun x => F2 x ∨ (F1 x ∨ F0 x)) = fun x => F1 x ∨ (F2 x ∨ F0 x) := funext fun x => propext ⟨fun z => z.elim (fun z => .inr (.inl z)) fun z => z.imp id .inr, fun z => z.elim (fun z => .inr (.inl z)) fun z => z.imp id .inr⟩
      rw [e] at q
      exact q
theorem vals_sw2 {zs : List V} {ws : List Value} (r : Vals zs ws) : Vals (sw2 zs) (sw2 ws) := by
  cases r with
  | nil => exact .nil
  | cons r1 r2 =>
    cases r2 with
    | nil => exact .cons r1 .nil
    | cons r3 r4 =>
      cases r4 with
      | nil => exact .cons r3 (.cons r1 .nil)
      | cons r5 r6 => exact .cons r1 (.cons r3 (.cons r5 r6))
theorem swF_len {ts : List T} {r : T × List T} (e : swF fn ts = some r) : ts.length = 2 := by
  unfold swF at e
  split at e
  · rfl
  · cases e
theorem spV_sw {K : PySem.W.Frag} {mg : Str → Option Value} {zs : List V} {H : Hp} {Q : VK} (h : spV K mg (swF fn) zs H Q) : spV K mg fn (sw2 zs) H Q := by
  obtain ⟨H1, G, ts, t, ts', s1, rr, e, q⟩ := h
  unfold swF at e
  split at e
  · rename_i b a
    split at e
    · rename_i t0 a' b' e2
      cases e
      have hl := rr.len
      match zs, hl, rr with
      | [z1, z2], _, rr =>
        exact ⟨H1, G, [a, b], t, [a', b'], s1, rr.turn2, e2, fun v H1' H' F' Ft x r => q v H1' H' F' Ft x r.turn2⟩
    · cases e
  · cases e
theorem turns_sw (hk : ks.length = 2) (bind : ∀ ws, ws.length = 2 → bindArgs fd ⟨[], ks.zip ws⟩ = pure (ps.zip (sw2 ws))) : Turns ps ks fd fn (swF fn) sw2 sw2 :=
  ⟨fun _ _ e => (swF_len e).trans hk.symm, fun ws h => bind ws (h.trans hk), vals_sw2, spV_sw⟩
end
/-- a def of the module that may be called by keywords -/
structure HasK (P : Program) (w : World) (K : PySem.W.Frag) (mg : Str → Option Value) (base : Heap) (k : Nat) (x : String) (ks : List Str) (fn : List T → Option (T × List T)) : Prop where
  ex : ∃ f : Addr, mg (Str.ofString x) = some (.ref f) ∧ ∀ X : Cx, X.prog = P → X.w = w → X.K = K → X.mg = mg → X.base = base → Room k X.A → X.A.guards = some [] → KCallee X (.ref f) ks fn
theorem hask_fn {P : Program} {w : World} {K : PySem.W.Frag} {mg : Str → Option Value} {base : Heap} {k : Nat} {x : String} {f : Addr} {fd : FuncData} {ps ks : List Str} {fn fn' : List T → Option (T × List T)} {pv : List Value → List Value} {pV : List V → List V}
    (F : FnG P w K mg base k f fd ps fn) (m : mg (Str.ofString x) = some (.ref f)) (kp : PySem.W.keepIn K (.ref f) = true) (T : Turns ps ks fd fn fn' pv pV) : HasK P w K mg base k x ks fn' :=
  ⟨f, m, fun X h1 h2 h3 h4 h5 hr hg => by subst h1 h2 h3 h4 h5; exact kcallee_fn F hr hg kp T⟩
/-- the values of keywords -/
structure QKw (X : Cx) (kws : List Keyword) (tk : TA) (xs : Env → Option (List T)) : Prop where
  pk : PK X kws tk
  qr : QRA X.K X.mg tk xs
section
variable {X : Cx} {j k : Nat} {y : String} {ks : List Str} {fn : List T → Option (T × List T)} {p pos kpos : Pos} {e : Expr} {kws : List Keyword} {te : TE} {tl : TA} {x : Env → Option T} {xs : Env → Option (List T)} {nm : Option Str}
theorem qk_nil : QKw X [] tNil aNil := ⟨pk_nil, fun env ts e H1 H σ F s R Q q => by cases e; exact q [] H1 H F0 (Ext.refl s) .nil⟩
theorem qk_cons (h : QE X e te x) (hr : QKw X kws tl xs) : QKw X (⟨nm, e, kpos⟩ :: kws) (tCons te tl) (aCons x xs) := ⟨pk_cons h.pe hr.pk, fun env ts e H1 H σ F s R Q q => by
  unfold aCons at e
  cases e1 : x env with
  | none => rw [e1] at e; cases e
  | some u =>
    cases e2 : xs env with
    | none => rw [e1, e2] at e; cases e
    | some us =>
      rw [e1, e2] at e
      cases e
      refine h.qr _ _ e1 _ _ _ _ s R _ fun v Ha Hb Ft x1 r1 => hr.qr _ _ e2 _ _ _ _ x1.sub ((x1.less (F'' := F0) fun _ z => z.elim).qRepE R) _ fun vs Hc Hd Fu x2 r2 => ?_
      obtain ⟨r3, d⟩ := x2.rep r1 fun _ _ z => z
      exact q (v :: vs) Hc Hd (fun b => Ft b ∨ Fu b) (x1.both x2) (.cons r3 r2 d)⟩
theorem qe_hasK (h : HasK X.prog X.w X.K X.mg X.base k y ks fn) (hr : Room j X.A) (hk : k ≤ j) (hg : X.A.guards = some []) (ha : QKw X kws tl xs) (hgl : Gl X (Str.ofString y) := by rfl) (hdb : (Str.ofString y == ("__debug__" : Str)) = false := by decide)
    (hall : (backToKw pos (keywordEach kws X.env)).all (·.1.isSome) = true := by rfl) (hks : (backToKw pos (keywordEach kws X.env)).filterMap (·.1) = ks := by rfl)
    (hpl : ((backTo pos (starEach [] X.env)).any (·.1) || (backToKw pos (keywordEach kws X.env)).any (·.1.isNone)) = false := by rfl) :
    QE X (.Call (.Name (Str.ofString y) p) [] kws pos) (tCallF X.K X.mg fn tl) (qCall fn xs) := by
  obtain ⟨f, m, c⟩ := h.ex
  have C := c X rfl rfl rfl rfl rfl (hr.mono hk) hg
  refine ⟨⟨fun pins s σ H Q I h => wpAny_Call_Name_kw (ld_glob I hgl m (PySem.W.callWith_KW0 (h₀ := X.base) I.ok.mod.kin C.keep hall (thn (ha.pk.run pos pins s σ H _ I h) fun ws s1 ⟨zs, H1, I1, r, q⟩ => ⟨I1.kIn, ?_⟩) hpl) hdb)⟩, fun env t e H1 H σ F s R Q q => ?_⟩
  · rw [hks]
    exact C.run pins σ H1 s1 Q ws zs I1 r q
  · unfold qCall at e
    split at e
    · cases e
    · rename_i ts e1
      split at e
      · rename_i u us e2
        cases e
        exact ha.qr _ _ e1 _ _ _ _ s R _ fun vs Ha Hb Ft x1 r1 => ⟨Ha, Ft, ts, _, us, x1.sub, r1, e2, fun v H1' H' F' Fv x2 r2 rv d => q v H1' H' Fv ((x1.trans x2).less fun _ z => .inr z) rv⟩
      · cases e
end
end GK

/-! GK34: classes made by keywords. -/
namespace GK
open PySem L2 PySem.Spec PyProof.Rows
/-- what a new object and the keywords' values are bound to -/
structure TurnsC (ps ks : List Str) (fd : FuncData) (fn fn' : List T → Option (T × List T)) (pv : List Value → List Value) (pV : List V → List V) : Prop where
  len : ∀ ts r, fn' ts = some r → ts.length = ks.length
  bind : ∀ x ws, ws.length = ks.length → bindArgs fd ⟨[x], ks.zip ws⟩ = pure (ps.zip (x :: pv ws))
  rel : ∀ {zs : List V} {ws : List Value}, Vals zs ws → Vals (pV zs) (pv ws)
  sp : ∀ {K : PySem.W.Frag} {mg : Str → Option Value} {zs : List V} {H : Hp} {Q : VK}, spV K mg fn' zs H Q → spV K mg fn (pV zs) H Q
section
variable {X : Cx} {k : Nat} {f C : Addr} {fd : FuncData} {ps ks : List Str} {fn fn' : List T → Option (T × List T)} {pv : List Value → List Value} {pV : List V → List V}
theorem kcallee_make {c : String} (M : Mk X.K C f) (F : FnG X.prog X.w X.K X.mg X.base k f fd ps fn) (hr : Room (k + 1) X.A) (hg : X.A.guards = some []) (hc : X.mg (Str.ofString c) = some (.ref C)) (T : TurnsC ps ks fd (mkMake c fn) fn' pv pV) : KCallee X (.ref C) ks fn' :=
  ⟨M.kp, fun pins σ H s Q ws zs I rz h => by
    have hn : ws.length = ks.length := by
      obtain ⟨H1, G, ts, t, ts', s1, rr, e, q⟩ := h
      rw [← rz.length, rr.len, T.len _ _ e]
    have hq := make_road (x := s.heap.objs.size + 1) (dx := s.heap.objs.size) hc (T.sp h) (I.hok.fresh (Nat.le_succ _)) (I.hok.fresh (Nat.le_refl _)) (Nat.ne_of_lt (Nat.lt_succ_self _))
    have J := Inv.made (C := C) I
    have r2 : Vals (V.ref (s.heap.objs.size + 1) :: pV zs) (Value.ref (s.heap.objs.size + 1) :: pv ws) := .cons rfl (T.rel rz)
    refine wpAny_call (make_map (f := f) I.kIn M.makes M.init (beq_iff_eq.mp M.fn) (codeAny_mono (F.meets _ X.stack _ _ ⟨[Value.ref (s.heap.objs.size + 1)], ks.zip ws⟩ _ _ _ (hr.make C [] (ks.zip ws)) (guards_make hg) (J.env0.make C [] (ks.zip ws)) (.of_eq (T.bind _ ws hn)) r2 hq) fun o s' ho => ?_))
    cases o with
    | error e => exact False.elim ho
    | ok fl =>
      cases fl with
      | ret u =>
        obtain ⟨v, H', J2, rv, ev, q2⟩ := J.after ho
        subst ev
        exact ⟨rv, ⟨V.ref (s.heap.objs.size + 1), H', J2, rfl, q2⟩⟩
      | next => exact False.elim ho
      | brk => exact False.elim ho
      | cont => exact False.elim ho⟩
theorem turnsC_id {c : String} (len : ∀ ts r, mkMake c fn ts = some r → ts.length = ks.length) (bind : ∀ x ws, ws.length = ks.length → bindArgs fd ⟨[x], ks.zip ws⟩ = pure (ps.zip (x :: ws))) : TurnsC ps ks fd (mkMake c fn) (mkMake c fn) id id := ⟨len, bind, fun r => r, fun h => h⟩
theorem turnsC_sw {c : String} (hk : ks.length = 2) (bind : ∀ x ws, ws.length = 2 → bindArgs fd ⟨[x], ks.zip ws⟩ = pure (ps.zip (x :: sw2 ws))) : TurnsC ps ks fd (mkMake c fn) (swF (mkMake c fn)) sw2 sw2 where
  len := fun _ _ e => (swF_len e).trans hk.symm
  bind := fun x ws h => bind x ws (h.trans hk)
  rel := vals_sw2
  sp := spV_sw
end
theorem mk_len {c : String} {fn : List T → Option (T × List T)} {n : Nat} (h : ∀ ts r, fn ts = some r → ts.length = n + 1) : ∀ ts r, mkMake c fn ts = some r → ts.length = n := fun ts r e => by
  unfold mkMake at e
  split at e
  · rename_i e1
    have := h _ _ e1
    rw [List.length_cons] at this
    omega
  · cases e
structure HasKC (P : Program) (w : World) (K : PySem.W.Frag) (mg : Str → Option Value) (base : Heap) (k : Nat) (x : String) (ks : List Str) (fn : List T → Option (T × List T)) : Prop where
  ex : ∃ f : Addr, mg (Str.ofString x) = some (.ref f) ∧ ∀ X : Cx, X.prog = P → X.w = w → X.K = K → X.mg = mg → X.base = base → Room (k + 1) X.A → X.A.guards = some [] → KCallee X (.ref f) ks fn
theorem hask_cls {P : Program} {w : World} {K : PySem.W.Frag} {mg : Str → Option Value} {base : Heap} {k : Nat} {x : String} {f C : Addr} {fd : FuncData} {ps ks : List Str} {fn fn' : List T → Option (T × List T)} {pv : List Value → List Value} {pV : List V → List V}
    (M : Mk K C f) (F : FnG P w K mg base k f fd ps fn) (m : mg (Str.ofString x) = some (.ref C)) (T : TurnsC ps ks fd (mkMake x fn) fn' pv pV) : HasKC P w K mg base k x ks fn' :=
  ⟨C, m, fun X h1 h2 h3 h4 h5 hr hg => by subst h1 h2 h3 h4 h5; exact kcallee_make M F hr hg m T⟩
theorem HasKC.up {P : Program} {w : World} {K : PySem.W.Frag} {mg : Str → Option Value} {base : Heap} {k : Nat} {x : String} {ks : List Str} {fn : List T → Option (T × List T)} (h : HasKC P w K mg base k x ks fn) : HasK P w K mg base (k + 1) x ks fn := ⟨h.ex⟩
end GK

/-! GK35: plain helpers: comprehensions and loops at a given environment. -/
namespace GK
theorem lcGo_map {f : T → Env → Option Env} {x : Env → Option T} {env0 : Env} {g : T → T} : ∀ (ts : List T), (∀ t ∈ ts, ∃ env1, f t env0 = some env1 ∧ env1.length = env0.length ∧ x env1 = some (g t)) → lcGo f cYes x env0 ts = some (ts.map g)
  | [], _ => rfl
  | t :: r, h => by
    obtain ⟨env1, h1, h2, h3⟩ := h t List.mem_cons_self
    unfold lcGo
    rw [h1]
    simp only [h2, if_true, cYes, h3, lcGo_map r fun t ht => h t (List.mem_cons_of_mem _ ht)]
    rfl
theorem qLc_map {vs : List Nat} {src : Env → Option (List T)} {i : Nat} {x : Env → Option T} {env : Env} {ts : List T} (g : T → T) (hs : src env = some ts) (hi : i < env.length) (hx : ∀ t ∈ ts, x ((wipeE env vs).set i (some t)) = some (g t)) (hl : ts.length ≤ maxLen) :
    qLc vs src (gSet i) cYes x env = some (.lst true (ts.map g)) := by
  unfold qLc
  rw [hs]
  simp only
  rw [lcGo_map (g := g) ts fun t ht => ⟨(wipeE env vs).set i (some t), by unfold gSet; rw [if_pos (by rw [wipeE_len]; exact hi)], by rw [List.length_set], hx t ht⟩]
  simp only [List.length_map, if_pos hl]
theorem bls_map {α : Type} {f : α → Bool} (l : List α) : T.bls (l.map fun a => .bl (f a)) = some (l.map f) := by
  induction l with
  | nil => rfl
  | cons a l ih => simp [T.bls, ih]
theorem strs_map (l : List (List Nat)) : T.strs (l.map T.str) = some l := by
  induction l with
  | nil => rfl
  | cons a l ih => simp [T.strs, ih]
theorem ints_map (l : List Int) : T.ints (l.map T.int) = some l := by
  induction l with
  | nil => rfl
  | cons a l ih => simp [T.ints, ih]
theorem all_true {α : Type} {l : List α} : fAll [.lst true (l.map fun _ => .bl true)] = some (.bl true) := by
  have h := bls_map (f := fun _ => true) l
  show Option.map _ (T.bls _) = _
  rw [h]
  simp
theorem fzs_strs (l : List (List Nat)) : T.fzs (l.map T.str) = l.map T.str := by
  induction l with
  | nil => rfl
  | cons a l ih => rw [List.map_cons, T.fzs, ih]; simp [T.fz]
theorem fzs_ints (l : List Int) : T.fzs (l.map T.int) = l.map T.int := by
  induction l with
  | nil => rfl
  | cons a l ih => rw [List.map_cons, T.fzs, ih]; simp [T.fz]
theorem sh_strs (l : List (List Nat)) : (l.map T.str).all T.sh = true := by simp [T.sh]
theorem seq_at {b c : Env → Option Out} {env env1 : Env} {o : Option Out} (h : b env = some (.nx env1)) (h2 : c env1 = o) : sSeq b c env = o := by rw [seq_nx h, h2]
theorem if_t {c : Env → Option Bool} {b d : Env → Option Out} {env : Env} {o : Option Out} (h : c env = some true) (h2 : b env = o) : sIf (etQ c) b d env = o := by unfold sIf etQ; simp only [h]; exact h2
theorem if_f {c : Env → Option Bool} {b d : Env → Option Out} {env : Env} {o : Option Out} (h : c env = some false) (h2 : d env = o) : sIf (etQ c) b d env = o := by unfold sIf etQ; simp only [h]; exact h2
theorem asgQ_at {x : Env → Option T} {i : Nat} {env : Env} {t : T} (h : x env = some t) (hi : i < env.length) : sAsg (eQ x) (gSet i) env = some (.nx (env.set i (some t))) := asg_at (eQ_at h) hi
theorem retQ_at {x : Env → Option T} {env : Env} {t : T} (h : x env = some t) : sRet (eQ x) env = some (.rt t env) := ret_at (eQ_at h)
theorem qOp_at {f : T → T → Option T} {x y : Env → Option T} {env : Env} {a b t : T} (h1 : x env = some a) (h2 : y env = some b) (h3 : f a b = some t) : qOp f x y env = some t := by unfold qOp; rw [h1, h2]; exact h3
theorem qFz_at {x : Env → Option T} {env : Env} {t : T} (h : x env = some t) : qFz x env = some t.fz := by unfold qFz; rw [h]
theorem qCall1_at {x : Env → Option T} {fn : List T → Option (T × List T)} {env : Env} {a t : T} {us : List T} (h1 : x env = some a) (h2 : fn [a] = some (t, us)) : qCall fn (aCons x aNil) env = some t := by
  unfold qCall aCons aNil
  simp only [h1, h2]
theorem qCall2_at {x y : Env → Option T} {fn : List T → Option (T × List T)} {env : Env} {a b t : T} {us : List T} (h1 : x env = some a) (h3 : y env = some b) (h2 : fn [a, b] = some (t, us)) : qCall fn (aCons x (aCons y aNil)) env = some t := by
  unfold qCall aCons aNil
  simp only [h1, h3, h2]
theorem qVar_at {i : Nat} {env : Env} {t : T} (h : env[i]? = some (some t)) (hs : t.sh = true) : qVar i env = some t := by unfold qVar; simp only [h, if_pos hs]
theorem walk_at {x : Env → Option T} {env : Env} {t : T} {ts : List T} (h : x env = some t) (hs : t.sh = true) (hw : t.walk = some ts) : qWalk x env = some ts := by unfold qWalk; simp only [h, T.fz_sh hs, hw]
theorem chk_some {α : Type} {o : Option α} {a : α} (h : o = some a) : o.isSome = true := by rw [h]; rfl
theorem tTruth_at {x : Env → Option T} {env : Env} {t : T} {b : Bool} (h : x env = some t) (ht : t.truth = some b) : tTruth x env = some b := by unfold tTruth; simp only [h, ht]
theorem tOfB_at {x : Env → Option T} {env : Env} {b : Bool} (h : x env = some (.bl b)) : tOfB x env = some b := by unfold tOfB; rw [h]
theorem tNotC_at {c : Env → Option Bool} {env : Env} {b : Bool} (h : c env = some b) : tNotC c env = some (!b) := by unfold tNotC; rw [h]
theorem tOrF {c d : Env → Option Bool} {env : Env} {b : Bool} (h : c env = some false) (h2 : d env = some b) : tOrC c d env = some b := by unfold tOrC; simp only [h]; exact h2
theorem tOrT' {c d : Env → Option Bool} {env : Env} (h : c env = some true) : tOrC c d env = some true := by unfold tOrC; simp only [h]
theorem qIf_t {c : Env → Option Bool} {x y : Env → Option T} {env : Env} {t : T} (h : c env = some true) (h2 : x env = some t) : qIf c x y env = some t := by unfold qIf; simp only [h]; exact h2
theorem qIf_f {c : Env → Option Bool} {x y : Env → Option T} {env : Env} {t : T} (h : c env = some false) (h2 : y env = some t) : qIf c x y env = some t := by unfold qIf; simp only [h]; exact h2
theorem qTup2_at {x y : Env → Option T} {env : Env} {a b : T} (h1 : x env = some a) (h2 : y env = some b) (ha : a.fz = a) (hb : b.fz = b) : qTup (aCons x (aCons y aNil)) env = some (.tup [a, b]) := by
  unfold qTup aCons aNil
  simp [h1, h2, T.fzs, ha, hb, maxLen]
theorem qTup3_at {x y z : Env → Option T} {env : Env} {a b c : T} (h1 : x env = some a) (h2 : y env = some b) (h3 : z env = some c) (ha : a.fz = a) (hb : b.fz = b) (hc : c.fz = c) : qTup (aCons x (aCons y (aCons z aNil))) env = some (.tup [a, b, c]) := by
  unfold qTup aCons aNil
  simp [h1, h2, h3, T.fzs, ha, hb, hc, maxLen]
end GK

/-! GK36: the plain part by postconditions: wp x Q, what is asked of the value of x. -/
namespace GK
open PySem L2
def wp {α : Type} (x : Option α) (Q : α → Prop) : Prop := ∃ a, x = some a ∧ Q a
section
variable {α β : Type} {Q R : α → Prop}
@[simp] theorem wp_some {a : α} : wp (some a) Q ↔ Q a := ⟨fun ⟨_, h, q⟩ => by cases h; exact q, fun q => ⟨a, rfl, q⟩⟩
@[simp] theorem wp_none : wp (none : Option α) Q ↔ False := ⟨fun ⟨_, h, _⟩ => (nomatch h), fun h => h.elim⟩
theorem wp.mono {x : Option α} (h : wp x Q) (q : ∀ a, Q a → R a) : wp x R := by obtain ⟨a, h1, h2⟩ := h; exact ⟨a, h1, q a h2⟩
theorem wp_of {x : Option α} {a : α} (h : x = some a) (q : Q a) : wp x Q := ⟨a, h, q⟩
theorem eq_of_wp {x : Option α} {a : α} (h : wp x (fun b => b = a)) : x = some a := by obtain ⟨b, h1, h2⟩ := h; rw [h1, h2]
theorem wp_eq {x : Option α} {a : α} : wp x (fun b => b = a) ↔ x = some a := ⟨eq_of_wp, fun h => ⟨a, h, rfl⟩⟩
@[simp] theorem wp_guard' {c : Prop} [Decidable c] {x : Option α} : wp (if c then x else none) Q ↔ c ∧ wp x Q := by
  by_cases h : c <;> simp [h]
theorem wp_guard {c : Prop} [Decidable c] {x : α} : wp (if c then some x else none) Q ↔ c ∧ Q x := by
  by_cases h : c <;> simp [h]
@[simp] theorem wp_map {x : Option β} {f : β → α} : wp (x.map f) Q ↔ wp x fun b => Q (f b) := by cases x <;> simp
theorem wp_ite {c : Prop} [Decidable c] {x y : Option α} : wp (if c then x else y) Q ↔ (c → wp x Q) ∧ (¬ c → wp y Q) := by
  by_cases h : c <;> simp [h]
end
@[simp] theorem maxLen_lit : maxLen = 16777216 := rfl
/-! ### expressions -/
section
variable {env : Env} {Q : T → Prop} {x y z : Env → Option T} {xs : Env → Option (List T)} {c d : Env → Option Bool}
@[simp] theorem wp_qC {t : T} : wp (qC t env) Q ↔ Q t := wp_some
@[simp] theorem wp_kVar {i : Nat} : wp (kVar i env) Q ↔ wp env[i]? fun o => wp o Q := by unfold kVar; cases env[i]? <;> simp
@[simp] theorem wp_qVar {i : Nat} : wp (qVar i env) Q ↔ wp env[i]? fun o => wp o fun t => t.sh = true ∧ Q t := by
  unfold qVar
  rcases env[i]? with _ | _ | t <;> simp
@[simp] theorem wp_qOp {f : T → T → Option T} : wp (qOp f x y env) Q ↔ wp (x env) fun a => wp (y env) fun b => wp (f a b) Q := by
  unfold qOp; cases x env <;> simp; cases y env <;> simp
@[simp] theorem wp_qUn {f : T → Option T} : wp (qUn f x env) Q ↔ wp (x env) fun a => wp (f a) Q := by unfold qUn; cases x env <;> simp
@[simp] theorem wp_qIf : wp (qIf c x y env) Q ↔ wp (c env) fun b => (b = true → wp (x env) Q) ∧ (b = false → wp (y env) Q) := by
  unfold qIf; rcases c env with _ | _ | _ <;> simp
@[simp] theorem wp_qAnd : wp (qAnd x y env) Q ↔ wp (x env) fun t => wp t.truth fun b => (b = true → wp (y env) Q) ∧ (b = false → Q t) := by
  unfold qAnd; cases x env with
  | none => simp
  | some t => simp; rcases t.truth with _ | _ | _ <;> simp
@[simp] theorem wp_qOr : wp (qOr x y env) Q ↔ wp (x env) fun t => wp t.truth fun b => (b = true → Q t) ∧ (b = false → wp (y env) Q) := by
  unfold qOr; cases x env with
  | none => simp
  | some t => simp; rcases t.truth with _ | _ | _ <;> simp
@[simp] theorem wp_qNot : wp (qNot x env) Q ↔ wp (x env) fun t => wp t.truth fun b => Q (.bl (!b)) := by
  unfold qNot; cases x env with
  | none => simp
  | some t => simp; rcases t.truth with _ | _ | _ <;> simp
@[simp] theorem wp_qChain {f g : T → T → Option T} : wp (qChain f g x y z env) Q ↔ wp (x env) fun a => wp (y env) fun b => wp (f a b) fun t => wp (match t with | .bl k => some k | _ => none) fun k => (k = true → wp (z env) fun c => wp (g b c) Q) ∧ (k = false → Q (.bl false)) := by
  unfold qChain
  cases x env <;> simp
  rename_i a
  cases y env <;> simp
  rename_i b
  rcases f a b with _ | t <;> simp
  cases t <;> simp
  rename_i k
  cases k <;> simp
  cases z env <;> simp
@[simp] theorem wp_qCallB {f : List T → Option T} : wp (qCallB f xs env) Q ↔ wp (xs env) fun ts => wp (f ts) Q := by unfold qCallB; cases xs env <;> simp
@[simp] theorem wp_qCall {fn : List T → Option (T × List T)} : wp (qCall fn xs env) Q ↔ wp (xs env) fun ts => wp (fn ts) fun r => Q r.1 := by
  unfold qCall; cases xs env <;> simp; rename_i ts; rcases fn ts with _ | ⟨t, u⟩ <;> simp
@[simp] theorem wp_qFz : wp (qFz x env) Q ↔ wp (x env) fun t => Q t.fz := by unfold qFz; cases x env <;> simp
@[simp] theorem wp_qLst : wp (qLst xs env) Q ↔ wp (xs env) fun ts => ts.length ≤ maxLen ∧ Q (.lst true ts) := by unfold qLst; cases xs env <;> simp
@[simp] theorem wp_qTup : wp (qTup xs env) Q ↔ wp (xs env) fun ts => ts.length ≤ maxLen ∧ Q (.tup (T.fzs ts)) := by unfold qTup; cases xs env <;> simp
@[simp] theorem wp_qDic0 : wp (qDic0 env) Q ↔ Q (.dic true []) := wp_some
@[simp] theorem wp_qSl {l h : Env → Option (Option Int)} : wp (qSl x l h env) Q ↔ wp (x env) fun t => wp (l env) fun lo => wp (h env) fun hi => wp (fSl t lo hi) Q := by
  unfold qSl; cases x env <;> simp; cases l env <;> simp; cases h env <;> simp
@[simp] theorem wp_kFld {AF : List (String × List String)} {f : String} : wp (kFld AF f x env) Q ↔ wp (x env) fun t => wp (fFld AF f t) Q := by unfold kFld; cases x env <;> simp
@[simp] theorem wp_qFld {AF : List (String × List String)} {f : String} : wp (qFld AF f x env) Q ↔ wp (x env) fun t => wp (fFld AF f t) fun u => u.sh = true ∧ Q u := by
  unfold qFld; cases x env <;> simp; rename_i t; rcases fFld AF f t with _ | u <;> simp
@[simp] theorem wp_tOfB {Q : Bool → Prop} : wp (tOfB x env) Q ↔ wp (x env) fun t => wp (match t with | .bl k => some k | _ => none) Q := by
  unfold tOfB; rcases x env with _ | t <;> simp; cases t <;> simp
@[simp] theorem wp_tTruth {Q : Bool → Prop} : wp (tTruth x env) Q ↔ wp (x env) fun t => wp t.truth Q := by unfold tTruth; cases x env <;> simp
@[simp] theorem wp_tNotC {Q : Bool → Prop} : wp (tNotC c env) Q ↔ wp (c env) fun b => Q (!b) := by unfold tNotC; cases c env <;> simp
@[simp] theorem wp_tAndC {Q : Bool → Prop} : wp (tAndC c d env) Q ↔ wp (c env) fun b => (b = true → wp (d env) Q) ∧ (b = false → Q false) := by unfold tAndC; rcases c env with _ | _ | _ <;> simp
@[simp] theorem wp_tOrC {Q : Bool → Prop} : wp (tOrC c d env) Q ↔ wp (c env) fun b => (b = true → Q true) ∧ (b = false → wp (d env) Q) := by unfold tOrC; rcases c env with _ | _ | _ <;> simp
@[simp] theorem wp_cYes {Q : Bool → Prop} : wp (cYes env) Q ↔ Q true := wp_some
@[simp] theorem wp_aNil {Q : List T → Prop} : wp (aNil env) Q ↔ Q [] := wp_some
@[simp] theorem wp_aCons {Q : List T → Prop} : wp (aCons x xs env) Q ↔ wp (x env) fun t => wp (xs env) fun ts => Q (t :: ts) := by unfold aCons; cases x env <;> simp; cases xs env <;> simp
def starT : T → Option (List T)
  | .tup ys => some ys
  | .lst _ ys => if ys.all T.sh then some ys else none
  | _ => none
@[simp] theorem wp_aStar {Q : List T → Prop} : wp (aStar x xs env) Q ↔ wp (x env) fun t => wp (starT t) fun ys => wp (xs env) fun ts => Q (ys ++ ts) := by
  unfold aStar
  rcases x env with _ | t
  · simp
  simp only [wp_some]
  cases t with
  | tup ys => simp only [starT, wp_some]; rcases xs env with _ | us <;> simp
  | lst o ys =>
    simp only [starT]
    by_cases h : ys.all T.sh = true
    · simp only [if_pos h, wp_some]; rcases xs env with _ | us <;> simp
    · simp only [if_neg h, wp_none]
  | _ => simp [starT]
@[simp] theorem starT_tup {ys : List T} : starT (.tup ys) = some ys := rfl
@[simp] theorem starT_lst {o : Bool} {ys : List T} : starT (.lst o ys) = if ys.all T.sh then some ys else none := rfl
@[simp] theorem wp_pNo {Q : Option Int → Prop} : wp (pNo env) Q ↔ Q none := wp_some
@[simp] theorem wp_pSome {Q : Option Int → Prop} : wp (pSome x env) Q ↔ wp (x env) fun t => wp (match t with | .int i => some i | _ => none) fun i => Q (some i) := by
  unfold pSome; rcases x env with _ | t <;> simp; cases t <;> simp
@[simp] theorem wp_qRng {Q : List T → Prop} : wp (qRng xs env) Q ↔ wp (xs env) fun ts => wp (rng ts) Q := by unfold qRng; cases xs env <;> simp
@[simp] theorem wp_qWalk {Q : List T → Prop} : wp (qWalk x env) Q ↔ wp (x env) fun t => wp t.fz.walk Q := by unfold qWalk; cases x env <;> simp
@[simp] theorem wp_qEnum {Q : List T → Prop} : wp (qEnum x env) Q ↔ wp (x env) fun t => wp (enumL t.fz) Q := by unfold qEnum; cases x env <;> simp
def kwalk : T → Option (List T)
  | .lst _ xs => if xs.all T.sh then some xs else none
  | _ => none
@[simp] theorem wp_kWalk {Q : List T → Prop} : wp (kWalk x env) Q ↔ wp (x env) fun t => wp (kwalk t) Q := by
  unfold kWalk; rcases x env with _ | t <;> simp; cases t <;> simp [kwalk]
@[simp] theorem kwalk_lst {o : Bool} {ys : List T} : kwalk (.lst o ys) = if ys.all T.sh then some ys else none := rfl
@[simp] theorem wp_pVar {i : Nat} : wp (pVar i env) Q ↔ wp env[i]? fun o => wp o Q := by unfold pVar; cases env[i]? <;> simp
end
/-! ### expressions with effects -/
section
variable {env : Env} {x : Env → Option T} {xs : Env → Option (List T)} {y z : Env → Option (T × Env)} {ys : Env → Option (List T × Env)} {ls : Env → Option (List Ar × Env)} {c d : Env → Option (Bool × Env)} {Q : T × Env → Prop}
@[simp] theorem wp_eQ : wp (eQ x env) Q ↔ wp (x env) fun t => Q (t, env) := by unfold eQ; cases x env <;> simp
@[simp] theorem wp_eFz : wp (eFz y env) Q ↔ wp (y env) fun p => Q (p.1.fz, p.2) := by unfold eFz; rcases y env with _ | ⟨t, e⟩ <;> simp
@[simp] theorem wp_eVar {i : Nat} : wp (eVar i env) Q ↔ wp env[i]? fun o => wp o fun t => Q (t.fz, if t.sh then env else env.set i (some t.fz)) := by
  unfold eVar; rcases env[i]? with _ | _ | t <;> simp
@[simp] theorem wp_eMove {i : Nat} : wp (eMove i env) Q ↔ wp env[i]? fun o => wp o fun t => Q (t, env.set i none) := by
  unfold eMove; rcases env[i]? with _ | _ | t <;> simp
@[simp] theorem wp_eaQ {Q : List T × Env → Prop} : wp (eaQ xs env) Q ↔ wp (xs env) fun ts => Q (ts, env) := by unfold eaQ; cases xs env <;> simp
@[simp] theorem wp_eaCons {Q : List T × Env → Prop} : wp (eaCons y ys env) Q ↔ wp (y env) fun p => wp (ys p.2) fun q => Q (p.1 :: q.1, q.2) := by
  unfold eaCons; rcases y env with _ | ⟨t, e⟩ <;> simp; rcases ys e with _ | ⟨ts, e2⟩ <;> simp
@[simp] theorem wp_eLst : wp (eLst ys env) Q ↔ wp (ys env) fun p => p.1.length ≤ maxLen ∧ Q (.lst true p.1, p.2) := by unfold eLst; rcases ys env with _ | ⟨ts, e2⟩ <;> simp
@[simp] theorem wp_eTup : wp (eTup ys env) Q ↔ wp (ys env) fun p => p.1.length ≤ maxLen ∧ Q (.tup (T.fzs p.1), p.2) := by unfold eTup; rcases ys env with _ | ⟨ts, e2⟩ <;> simp
@[simp] theorem wp_eOp {f : T → T → Option T} : wp (eOp f y z env) Q ↔ wp (y env) fun p => wp (z p.2) fun q => wp (f p.1 q.1) fun t => Q (t, q.2) := by
  unfold eOp; rcases y env with _ | ⟨t, e⟩ <;> simp; rcases z e with _ | ⟨u, e2⟩ <;> simp; rcases f t u with _ | v <;> simp
@[simp] theorem wp_eCallB {f : List T → Option T} : wp (eCallB f ys env) Q ↔ wp (ys env) fun p => wp (f p.1) fun t => Q (t, p.2) := by
  unfold eCallB; rcases ys env with _ | ⟨ts, e⟩ <;> simp; rcases f ts with _ | v <;> simp
@[simp] theorem wp_etQ {c : Env → Option Bool} {Q : Bool × Env → Prop} : wp (etQ c env) Q ↔ wp (c env) fun b => Q (b, env) := by unfold etQ; cases c env <;> simp
@[simp] theorem wp_etTruth {Q : Bool × Env → Prop} : wp (etTruth y env) Q ↔ wp (y env) fun p => wp p.1.truth fun b => Q (b, p.2) := by
  unfold etTruth; rcases y env with _ | ⟨t, e⟩ <;> simp; rcases t.truth with _ | b <;> simp
@[simp] theorem wp_etB {Q : Bool × Env → Prop} : wp (etB y env) Q ↔ wp (y env) fun p => wp (match p.1 with | .bl k => some k | _ => none) fun b => Q (b, p.2) := by
  unfold etB; rcases y env with _ | ⟨t, e⟩ <;> simp; cases t <;> simp
@[simp] theorem wp_etNot {Q : Bool × Env → Prop} : wp (etNot c env) Q ↔ wp (c env) fun p => Q (!p.1, p.2) := by unfold etNot; rcases c env with _ | ⟨b, e⟩ <;> simp
@[simp] theorem wp_etAnd {Q : Bool × Env → Prop} : wp (etAnd c d env) Q ↔ wp (c env) fun p => (p.1 = true → wp (d p.2) Q) ∧ (p.1 = false → Q (false, p.2)) := by
  unfold etAnd; rcases c env with _ | ⟨_ | _, e⟩ <;> simp
@[simp] theorem wp_etOr {Q : Bool × Env → Prop} : wp (etOr c d env) Q ↔ wp (c env) fun p => (p.1 = true → Q (true, p.2)) ∧ (p.1 = false → wp (d p.2) Q) := by
  unfold etOr; rcases c env with _ | ⟨_ | _, e⟩ <;> simp
@[simp] theorem wp_eIf : wp (eIf c y z env) Q ↔ wp (c env) fun p => (p.1 = true → wp (y p.2) Q) ∧ (p.1 = false → wp (z p.2) Q) := by
  unfold eIf; rcases c env with _ | ⟨_ | _, e⟩ <;> simp
@[simp] theorem wp_eAnd : wp (eAnd y z env) Q ↔ wp (y env) fun p => wp p.1.truth fun b => (b = true → wp (z p.2) Q) ∧ (b = false → Q p) := by
  unfold eAnd; rcases y env with _ | ⟨t, e⟩ <;> simp; rcases t.truth with _ | _ | _ <;> simp
@[simp] theorem wp_eOr : wp (eOr y z env) Q ↔ wp (y env) fun p => wp p.1.truth fun b => (b = true → Q p) ∧ (b = false → wp (z p.2) Q) := by
  unfold eOr; rcases y env with _ | ⟨t, e⟩ <;> simp; rcases t.truth with _ | _ | _ <;> simp
@[simp] theorem wp_eSl {l h : Env → Option (Option Int)} : wp (eSl y l h env) Q ↔ wp (y env) fun p => wp (l p.2) fun lo => wp (h p.2) fun hi => wp (fSl p.1 lo hi) fun t => Q (t, p.2) := by
  unfold eSl; rcases y env with _ | ⟨t, e⟩ <;> simp; cases l e <;> simp; cases h e <;> simp; rename_i lo hi; rcases fSl t lo hi with _ | u <;> simp
@[simp] theorem wp_eSetSort : wp (eSetSort y env) Q ↔ wp (y env) fun p => wp (fSetSort p.1) fun t => Q (t, p.2) := by
  unfold eSetSort; rcases y env with _ | ⟨t, e⟩ <;> simp; rcases fSetSort t with _ | u <;> simp
@[simp] theorem wp_eJoin : wp (eJoin x y env) Q ↔ wp (x env) fun s => wp (match s with | .str a => some a | _ => none) fun a => wp (y env) fun p => wp (fJoin (.str a) p.1) fun t => Q (t, p.2) := by
  unfold eJoin; rcases x env with _ | t <;> simp; cases t <;> simp; rename_i a
  rcases y env with _ | ⟨t, e⟩ <;> simp; rcases fJoin (.str a) t with _ | u <;> simp
def ownL : T → Option (List T)
  | .lst true xs => some xs
  | _ => none
@[simp] theorem ownL_lst {xs : List T} : ownL (.lst true xs) = some xs := rfl
@[simp] theorem wp_eAppV {i : Nat} : wp (eAppV i y env) Q ↔ wp env[i]? fun o => wp o fun t => wp (ownL t) fun _ => wp (y env) fun p => wp p.2[i]? fun o => wp o fun t => wp (ownL t) fun xs => xs.length < maxLen ∧ Q (.non, p.2.set i (some (.lst true (xs ++ [p.1])))) := by
  unfold eAppV
  rcases env[i]? with _ | _ | t <;> simp
  rcases t with _ | _ | _ | _ | _ | ⟨o, xs⟩ | _ | _ | _ <;> simp [ownL]
  cases o <;> simp
  rcases y env with _ | ⟨u, e⟩ <;> simp
  rcases e[i]? with _ | _ | t <;> simp
  rcases t with _ | _ | _ | _ | _ | ⟨o, xs⟩ | _ | _ | _ <;> try simp [ownL]
  cases o <;> simp
def popX (xs : List T) (i : Int) : Option (T × List T) := if -9223372036854775808 ≤ i ∧ i < 9223372036854775808 then (match seqIndex? i xs.length with | some k => (match xs[k]? with | some t => some (t, xs.eraseIdx k) | none => none) | none => none) else none
@[simp] theorem wp_ePopV {i : Nat} : wp (ePopV i y env) Q ↔ wp env[i]? fun o => wp o fun t => wp (ownL t) fun _ => wp (y env) fun p => wp (match p.1 with | .int j => some j | _ => none) fun j => wp p.2[i]? fun o => wp o fun t => wp (ownL t) fun xs => wp (popX xs j) fun r => Q (r.1, p.2.set i (some (.lst true r.2))) := by
  unfold ePopV
  rcases env[i]? with _ | _ | t <;> simp
  rcases t with _ | _ | _ | _ | _ | ⟨o, xs⟩ | _ | _ | _ <;> simp [ownL]
  cases o <;> simp
  rcases y env with _ | ⟨u, e⟩ <;> simp
  cases u <;> simp
  rename_i j
  rcases e[i]? with _ | _ | t <;> simp
  rcases t with _ | _ | _ | _ | _ | ⟨o, xs⟩ | _ | _ | _ <;> try simp [ownL]
  cases o <;> simp
  unfold popX
  by_cases h : -9223372036854775808 ≤ j ∧ j < 9223372036854775808
  · rw [if_pos h]; simp only [h, and_self, true_and]
    rcases seqIndex? j xs.length with _ | k <;> simp
    unfold popAt
    rcases xs[k]? with _ | t <;> simp [pVarPut]
  · rw [if_neg h]; simp only [h, false_and, wp_none]
@[simp] theorem wp_lNil {Q : List Ar × Env → Prop} : wp (lNil env) Q ↔ Q ([], env) := wp_some
@[simp] theorem wp_lLent {i : Nat} {Q : List Ar × Env → Prop} : wp (lLent i ls env) Q ↔ wp env[i]? fun o => wp o fun _ => wp (ls env) fun p => Q (.lent i :: p.1, p.2) := by
  unfold lLent; rcases env[i]? with _ | _ | t <;> simp; rcases ls env with _ | ⟨a, e⟩ <;> simp
@[simp] theorem wp_lVal {Q : List Ar × Env → Prop} : wp (lVal y ls env) Q ↔ wp (y env) fun p => wp (ls p.2) fun q => Q (.val p.1 :: q.1, q.2) := by
  unfold lVal; rcases y env with _ | ⟨t, e⟩ <;> simp; rcases ls e with _ | ⟨a, e⟩ <;> simp
@[simp] theorem wp_eCall {fn : List T → Option (T × List T)} : wp (eCall fn ls env) Q ↔ wp (ls env) fun p => wp (fill p.1 p.2) fun q => wp (fn q.1) fun r => wp (unfill p.1 r.2 q.2) fun e => Q (r.1, e) := by
  unfold eCall; rcases ls env with _ | ⟨as, e⟩ <;> simp
  rcases fill as e with _ | ⟨ts, e2⟩ <;> simp
  rcases fn ts with _ | ⟨t, us⟩ <;> simp
  rcases unfill as us e2 with _ | e3 <;> simp
@[simp] theorem fill_nil : fill [] env = some ([], env) := rfl
@[simp] theorem wp_fill_lent {i : Nat} {r : List Ar} {Q : List T × Env → Prop} : wp (fill (.lent i :: r) env) Q ↔ wp env[i]? fun o => wp o fun t => wp (fill r (env.set i none)) fun p => Q (t :: p.1, p.2) := by
  rw [fill]; rcases env[i]? with _ | _ | t <;> simp; rcases fill r (env.set i none) with _ | ⟨a, e⟩ <;> simp
@[simp] theorem wp_fill_val {t : T} {r : List Ar} {Q : List T × Env → Prop} : wp (fill (.val t :: r) env) Q ↔ wp (fill r env) fun p => Q (t :: p.1, p.2) := by
  rw [fill]; rcases fill r env with _ | ⟨a, e⟩ <;> simp
@[simp] theorem unfill_nil : unfill [] [] env = some env := rfl
@[simp] theorem wp_unfill_lent {i : Nat} {t : T} {ts : List T} {r : List Ar} {Q : Env → Prop} : wp (unfill (.lent i :: r) (t :: ts) env) Q ↔ i < env.length ∧ wp (unfill r ts (env.set i (some t))) Q := by
  rw [unfill]; by_cases h : i < env.length <;> simp [h]
@[simp] theorem unfill_val {t u : T} {ts : List T} {r : List Ar} : unfill (.val u :: r) (t :: ts) env = unfill r ts env := rfl
@[simp] theorem wp_iQ {src : Env → Option (List T)} {Q : List T × Env → Prop} : wp (iQ src env) Q ↔ wp (src env) fun ts => Q (ts, env) := by unfold iQ; cases src env <;> simp
@[simp] theorem wp_eWalk {Q : List T × Env → Prop} : wp (eWalk y env) Q ↔ wp (y env) fun p => wp p.1.fz.walk fun ts => Q (ts, p.2) := by
  unfold eWalk; rcases y env with _ | ⟨t, e⟩ <;> simp; rcases t.fz.walk with _ | ts <;> simp
@[simp] theorem wp_eRng {Q : List T × Env → Prop} : wp (eRng ys env) Q ↔ wp (ys env) fun p => wp (rng p.1) fun ts => Q (ts, p.2) := by
  unfold eRng; rcases ys env with _ | ⟨t, e⟩ <;> simp; rcases rng t with _ | ts <;> simp
end
/-! ### places and targets -/
section
variable {env : Env} {Q : Env → Prop} {t : T}
@[simp] theorem wp_gSet {i : Nat} : wp (gSet i t env) Q ↔ i < env.length ∧ Q (env.set i (some t)) := by unfold gSet; simp
@[simp] theorem gNilC_nil : gNilC [] env = some env := rfl
@[simp] theorem wp_gConsC {f : T → Env → Option Env} {g : List T → Env → Option Env} {r : List T} : wp (gConsC f g (t :: r) env) Q ↔ wp (f t env) fun e => wp (g r e) Q := by
  unfold gConsC; simp; rcases f t env with _ | e <;> simp
@[simp] theorem gUn_tup {f : List T → Env → Option Env} {xs : List T} : gUn f (.tup xs) env = f xs env := rfl
@[simp] theorem wp_pVarPut {i : Nat} : wp (pVarPut i t env) Q ↔ Q (env.set i (some t)) := by unfold pVarPut; simp
def ownO : T → Option (String × List (String × T))
  | .obj true c fs => some (c, fs)
  | _ => none
@[simp] theorem ownO_obj {c : String} {fs : List (String × T)} : ownO (.obj true c fs) = some (c, fs) := rfl
@[simp] theorem wp_pFld {AF : List (String × List String)} {f : String} {get : Env → Option T} {Q : T → Prop} : wp (pFld AF f get env) Q ↔ wp (get env) fun t => wp (ownO t) fun p => afHas AF p.1 f = true ∧ wp (p.2.lookup f) Q := by
  unfold pFld; rcases get env with _ | t <;> simp
  rcases t with _ | _ | _ | _ | _ | _ | _ | _ | ⟨o, c, fs⟩ <;> simp [ownO]
  cases o <;> simp
@[simp] theorem wp_pFldPut {f : String} {get : Env → Option T} {put : T → Env → Option Env} : wp (pFldPut f get put t env) Q ↔ wp (get env) fun u => wp (ownO u) fun p => wp (put (.obj true p.1 (fput p.2 f t)) env) Q := by
  unfold pFldPut; rcases get env with _ | t <;> simp
  rcases t with _ | _ | _ | _ | _ | _ | _ | _ | ⟨o, c, fs⟩ <;> simp [ownO]
  cases o <;> simp
@[simp] theorem wp_gAttr {AF : List (String × List String)} {f : String} {get : Env → Option T} {put : T → Env → Option Env} : wp (gAttr AF f get put t env) Q ↔ wp (get env) fun u => wp (ownO u) fun p => (afHas AF p.1 f = true ∧ p.2.length < 1000) ∧ wp (put (.obj true p.1 (fput p.2 f t)) env) Q := by
  unfold gAttr; rcases get env with _ | t <;> simp
  rcases t with _ | _ | _ | _ | _ | _ | _ | _ | ⟨o, c, fs⟩ <;> simp [ownO]
  cases o <;> simp
theorem wp_pIx {get xi : Env → Option T} {Q : T → Prop} : wp (pIx get xi env) Q ↔ wp (get env) fun t => wp (ixGet t (xi env)) Q := by unfold pIx; rcases get env with _ | t <;> simp
theorem wp_pIxPut {get xi : Env → Option T} {put : T → Env → Option Env} : wp (pIxPut get xi put t env) Q ↔ wp (get env) fun u => wp (ixPut u (xi env) t) fun v => wp (put v env) Q := by
  unfold pIxPut; rcases get env with _ | u <;> simp; rcases ixPut u (xi env) t with _ | v <;> simp
theorem wp_gIx {get xi : Env → Option T} {put : T → Env → Option Env} : wp (gIx get xi put t env) Q ↔ wp (get env) fun u => wp (ixStore u (xi env) t) fun v => wp (put v env) Q := by
  unfold gIx; rcases get env with _ | u <;> simp; rcases ixStore u (xi env) t with _ | v <;> simp
@[simp] theorem wp_pIx' {get xi : Env → Option T} {Q : T → Prop} : wp (pIx get xi env) Q ↔ wp (get env) fun t => wp (xi env) fun k => wp (ixGet t (some k)) Q := by
  rw [wp_pIx]; rcases get env with _ | t <;> simp
  rcases xi env with _ | k <;> simp
  cases t <;> simp [ixGet]
  all_goals (rename_i o _; cases o <;> simp)
@[simp] theorem wp_pIxPut' {get xi : Env → Option T} {put : T → Env → Option Env} : wp (pIxPut get xi put t env) Q ↔ wp (get env) fun u => wp (xi env) fun k => wp (ixPut u (some k) t) fun v => wp (put v env) Q := by
  rw [wp_pIxPut]; rcases get env with _ | u <;> simp
  rcases xi env with _ | k <;> simp
  cases u <;> simp [ixPut]
  all_goals (rename_i o _; cases o <;> simp)
@[simp] theorem wp_gIx' {get xi : Env → Option T} {put : T → Env → Option Env} : wp (gIx get xi put t env) Q ↔ wp (get env) fun u => wp (xi env) fun k => wp (ixStore u (some k) t) fun v => wp (put v env) Q := by
  rw [wp_gIx]; rcases get env with _ | u <;> simp
  rcases xi env with _ | k <;> simp
  cases u <;> simp [ixStore]
  all_goals (rename_i o _; cases o <;> simp)
@[simp] theorem wp_eAppend {get : Env → Option T} {put : T → Env → Option Env} {x : Env → Option T} {Q : T × Env → Prop} : wp (eAppend get put x env) Q ↔ wp (get env) fun u => wp (ownL u) fun xs => wp (x env) fun t => xs.length < maxLen ∧ wp (put (.lst true (xs ++ [t])) env) fun e => Q (.non, e) := by
  unfold eAppend; rcases get env with _ | u <;> simp
  rcases u with _ | _ | _ | _ | _ | ⟨o, xs⟩ | _ | _ | _ <;> simp [ownL]
  cases o <;> simp
  rcases x env with _ | t <;> simp
  by_cases h : xs.length < 16777216
  · simp [h]; rcases put _ env with _ | e <;> simp
  · simp [h]
@[simp] theorem wp_popAt {xs : List T} {k : Nat} {put : T → Env → Option Env} {Q : T × Env → Prop} : wp (popAt xs k put env) Q ↔ wp xs[k]? fun t => wp (put (.lst true (xs.eraseIdx k)) env) fun e => Q (t, e) := by
  unfold popAt; rcases xs[k]? with _ | t <;> simp; rcases put _ env with _ | e <;> simp
@[simp] theorem wp_ePop {get : Env → Option T} {put : T → Env → Option Env} {Q : T × Env → Prop} : wp (ePop get put env) Q ↔ wp (get env) fun u => wp (ownL u) fun xs => wp (popAt xs (xs.length - 1) put env) Q := by
  unfold ePop; rcases get env with _ | u <;> simp
  rcases u with _ | _ | _ | _ | _ | ⟨o, xs⟩ | _ | _ | _ <;> simp [ownL]
  cases o <;> simp
end
/-! ### statements -/
def oSeq (c : Env → Option Out) (Q : Out → Prop) : Out → Prop
  | .nx e => wp (c e) Q
  | .rt t e => Q (.rt t e)
  | .bk e => Q (.bk e)
  | .ct e => Q (.ct e)
def oLoop (I : Env → Prop) (Q : Out → Prop) : Out → Prop
  | .nx e => I e
  | .ct e => I e
  | .bk e => Q (.nx e)
  | .rt t e => Q (.rt t e)
def oFn (P : Nat → Bool) (ts : List T) (Q : T × List T → Prop) : Out → Prop
  | .nx e => wp (back P 0 ts e) fun us => Q (.non, us)
  | .rt t e => wp (back P 0 ts e) fun us => Q (t, us)
  | _ => False
section
variable {env : Env} {Q : Out → Prop} {b c d : Env → Option Out} {y : Env → Option (T × Env)} {I : Env → Prop} {P : Nat → Bool} {ts : List T} {R : T × List T → Prop} {t : T}
@[simp] theorem oSeq_nx : oSeq c Q (.nx env) = wp (c env) Q := rfl
@[simp] theorem oSeq_rt : oSeq c Q (.rt t env) = Q (.rt t env) := rfl
@[simp] theorem oSeq_bk : oSeq c Q (.bk env) = Q (.bk env) := rfl
@[simp] theorem oSeq_ct : oSeq c Q (.ct env) = Q (.ct env) := rfl
@[simp] theorem oLoop_nx : oLoop I Q (.nx env) = I env := rfl
@[simp] theorem oLoop_ct : oLoop I Q (.ct env) = I env := rfl
@[simp] theorem oLoop_bk : oLoop I Q (.bk env) = Q (.nx env) := rfl
@[simp] theorem oLoop_rt : oLoop I Q (.rt t env) = Q (.rt t env) := rfl
@[simp] theorem oFn_nx : oFn P ts R (.nx env) = wp (back P 0 ts env) fun us => R (.non, us) := rfl
@[simp] theorem oFn_rt : oFn P ts R (.rt t env) = wp (back P 0 ts env) fun us => R (t, us) := rfl
@[simp] theorem wp_sSeq : wp (sSeq b c env) Q ↔ wp (b env) (oSeq c Q) := by unfold sSeq; rcases b env with _ | o <;> simp; cases o <;> simp
@[simp] theorem wp_sNext : wp (sNext env) Q ↔ Q (.nx env) := wp_some
@[simp] theorem wp_sBreak : wp (sBreak env) Q ↔ Q (.bk env) := wp_some
@[simp] theorem wp_sCont : wp (sCont env) Q ↔ Q (.ct env) := wp_some
@[simp] theorem wp_sNever : wp (sNever env) Q ↔ False := wp_none
@[simp] theorem wp_sAsg {f : T → Env → Option Env} : wp (sAsg y f env) Q ↔ wp (y env) fun p => wp (f p.1 p.2) fun e => Q (.nx e) := by
  unfold sAsg; rcases y env with _ | ⟨t, e⟩ <;> simp; rcases f t e with _ | e2 <;> simp
@[simp] theorem wp_sExpr : wp (sExpr y env) Q ↔ wp (y env) fun p => Q (.nx p.2) := by unfold sExpr; rcases y env with _ | ⟨t, e⟩ <;> simp
@[simp] theorem wp_sRet : wp (sRet y env) Q ↔ wp (y env) fun p => Q (.rt p.1 p.2) := by unfold sRet; rcases y env with _ | ⟨t, e⟩ <;> simp
@[simp] theorem wp_sRetN : wp (sRetN env) Q ↔ Q (.rt .non env) := wp_some
@[simp] theorem wp_sIf {k : Env → Option (Bool × Env)} : wp (sIf k b d env) Q ↔ wp (k env) fun p => (p.1 = true → wp (b p.2) Q) ∧ (p.1 = false → wp (d p.2) Q) := by
  unfold sIf; rcases k env with _ | ⟨_ | _, e⟩ <;> simp
@[simp] theorem wp_sFor {src : Env → Option (List T × Env)} {f : T → Env → Option Env} : wp (sFor src f b env) Q ↔ wp (src env) fun p => wp (loop f b p.1 p.2) Q := by
  unfold sFor; rcases src env with _ | ⟨t, e⟩ <;> simp
@[simp] theorem wp_mkFn {n m : Nat} : wp (mkFn n m P b ts) R ↔ ts.length = n ∧ wp (b (ts.map some ++ List.replicate (m - n) none)) (oFn P ts R) := by
  unfold mkFn
  by_cases h : ts.length = n
  · simp only [if_pos h, h, true_and]
    rcases b _ with _ | o <;> simp
    cases o <;> simp [oFn]
    · rename_i e; rcases back P 0 ts e with _ | us <;> simp
    · rename_i t e; rcases back P 0 ts e with _ | us <;> simp
  · simp [h]
def parSet (is : List Nat) (ts : List T) (env : Env) : Env := match is, ts with
  | i :: is, t :: ts => parSet is ts (env.set i (some t))
  | _, _ => env
@[simp] theorem parSet_nil {env : Env} : parSet [] [] env = env := rfl
@[simp] theorem parSet_cons {i : Nat} {is : List Nat} {t : T} {ts : List T} {env : Env} : parSet (i :: is) (t :: ts) env = parSet is ts (env.set i (some t)) := rfl
theorem parSet_eq : ∀ (is : List Nat) (ts : List T) (env : Env), (is.zip ts).foldl (fun env p => env.set p.1 (some p.2)) env = parSet is ts env
  | [], _, _ => by simp [parSet]
  | i :: is, [], _ => by simp [parSet]
  | i :: is, t :: ts, env => by simp [parSet, parSet_eq is ts]
@[simp] theorem wp_sPar {is : List Nat} {ys : Env → Option (List T × Env)} : wp (sPar is ys env) Q ↔ wp (ys env) fun p => (p.1.length = is.length ∧ is.all (fun i => decide (i < p.2.length)) = true) ∧ Q (.nx (parSet is p.1 p.2)) := by
  unfold sPar; rcases ys env with _ | ⟨ts, e⟩ <;> simp [parSet_eq]
@[simp] theorem wp_sUnp {is : List Nat} {ys : Env → Option (List T × Env)} : wp (sUnp is ys env) Q ↔ wp (ys env) fun p => p.1.length ≤ maxLen ∧ wp (putAll is p.1 p.2) fun e => Q (.nx e) := by
  unfold sUnp; rcases ys env with _ | ⟨ts, e⟩ <;> simp
  by_cases h : ts.length ≤ maxLen
  · simp [h]; rcases putAll is ts e with _ | e2 <;> simp
  · simp [h]
@[simp] theorem putAll_nil : putAll [] [] env = some env := rfl
@[simp] theorem wp_putAll {i : Nat} {is : List Nat} {Q : Env → Prop} : wp (putAll (i :: is) (t :: ts) env) Q ↔ i < env.length ∧ wp (putAll is ts (env.set i (some t))) Q := by
  rw [putAll]; by_cases h : i < env.length <;> simp [h]
@[simp] theorem back_nil {k : Nat} : back P k [] env = some [] := rfl
theorem back_sh {k : Nat} (h : t.sh = true) : back P k (t :: ts) env = (back P (k + 1) ts env).map (t :: ·) := by
  rw [back, if_pos h]; rcases back P (k + 1) ts env with _ | us <;> rfl
theorem wp_back_own {k : Nat} {R : List T → Prop} (h : t.sh = false) : wp (back P k (t :: ts) env) R ↔ P k = true ∧ wp env[k]? fun o => wp o fun u => wp (back P (k + 1) ts (env.set k none)) fun us => R (u :: us) := by
  rw [back, if_neg (by rw [h]; decide)]
  by_cases hp : P k = true
  · simp only [hp, if_true, true_and]
    rcases env[k]? with _ | _ | u <;> simp
    rcases back P (k + 1) ts (env.set k none) with _ | us <;> simp
  · simp [hp]
@[simp] theorem back_str {k : Nat} {s : List Nat} : back P k (.str s :: ts) env = (back P (k + 1) ts env).map (.str s :: ·) := back_sh rfl
@[simp] theorem back_int {k : Nat} {i : Int} : back P k (.int i :: ts) env = (back P (k + 1) ts env).map (.int i :: ·) := back_sh rfl
@[simp] theorem back_bl {k : Nat} {i : Bool} : back P k (.bl i :: ts) env = (back P (k + 1) ts env).map (.bl i :: ·) := back_sh rfl
@[simp] theorem back_non {k : Nat} : back P k (.non :: ts) env = (back P (k + 1) ts env).map (.non :: ·) := back_sh rfl
@[simp] theorem back_tup {k : Nat} {xs : List T} : back P k (.tup xs :: ts) env = (back P (k + 1) ts env).map (.tup xs :: ·) := back_sh rfl
@[simp] theorem back_scr {k : Nat} {xs : List T} : back P k (.scr xs :: ts) env = (back P (k + 1) ts env).map (.scr xs :: ·) := back_sh rfl
@[simp] theorem back_lstF {k : Nat} {xs : List T} : back P k (.lst false xs :: ts) env = (back P (k + 1) ts env).map (.lst false xs :: ·) := back_sh rfl
@[simp] theorem back_dicF {k : Nat} {xs : List (Key × T)} : back P k (.dic false xs :: ts) env = (back P (k + 1) ts env).map (.dic false xs :: ·) := back_sh rfl
@[simp] theorem back_objF {k : Nat} {q : String} {xs : List (String × T)} : back P k (.obj false q xs :: ts) env = (back P (k + 1) ts env).map (.obj false q xs :: ·) := back_sh rfl
@[simp] theorem back_lst {k : Nat} {xs : List T} {R : List T → Prop} : wp (back P k (.lst true xs :: ts) env) R ↔ P k = true ∧ wp env[k]? fun o => wp o fun u => wp (back P (k + 1) ts (env.set k none)) fun us => R (u :: us) := wp_back_own rfl
@[simp] theorem back_dic {k : Nat} {xs : List (Key × T)} {R : List T → Prop} : wp (back P k (.dic true xs :: ts) env) R ↔ P k = true ∧ wp env[k]? fun o => wp o fun u => wp (back P (k + 1) ts (env.set k none)) fun us => R (u :: us) := wp_back_own rfl
@[simp] theorem back_obj {k : Nat} {q : String} {xs : List (String × T)} {R : List T → Prop} : wp (back P k (.obj true q xs :: ts) env) R ↔ P k = true ∧ wp env[k]? fun o => wp o fun u => wp (back P (k + 1) ts (env.set k none)) fun us => R (u :: us) := wp_back_own rfl
end
end GK

/-! GK37: what the operations by values answer, by constructors; comprehensions, loops. -/
namespace GK
open PySem L2
/-! ### values -/
@[simp] theorem sh_non : T.sh .non = true := rfl
@[simp] theorem sh_bl {b : Bool} : T.sh (.bl b) = true := rfl
@[simp] theorem sh_int {i : Int} : T.sh (.int i) = true := rfl
@[simp] theorem sh_str {s : List Nat} : T.sh (.str s) = true := rfl
@[simp] theorem sh_tup {xs : List T} : T.sh (.tup xs) = true := rfl
@[simp] theorem sh_scr {xs : List T} : T.sh (.scr xs) = true := rfl
@[simp] theorem sh_lst {o : Bool} {xs : List T} : T.sh (.lst o xs) = !o := rfl
@[simp] theorem sh_dic {o : Bool} {xs : List (Key × T)} : T.sh (.dic o xs) = !o := rfl
@[simp] theorem sh_obj {o : Bool} {c : String} {xs : List (String × T)} : T.sh (.obj o c xs) = !o := rfl
@[simp] theorem fz_non : T.fz .non = .non := by simp [T.fz]
@[simp] theorem fz_bl {b : Bool} : T.fz (.bl b) = .bl b := by simp [T.fz]
@[simp] theorem fz_int {i : Int} : T.fz (.int i) = .int i := by simp [T.fz]
@[simp] theorem fz_str {s : List Nat} : T.fz (.str s) = .str s := by simp [T.fz]
@[simp] theorem fz_tup {xs : List T} : T.fz (.tup xs) = .tup xs := by simp [T.fz]
@[simp] theorem fz_scr {xs : List T} : T.fz (.scr xs) = .scr xs := by simp [T.fz]
@[simp] theorem fz_lstF {xs : List T} : T.fz (.lst false xs) = .lst false xs := by simp [T.fz]
@[simp] theorem fz_lstT {xs : List T} : T.fz (.lst true xs) = .lst false (T.fzs xs) := by simp [T.fz]
@[simp] theorem fz_dicF {xs : List (Key × T)} : T.fz (.dic false xs) = .dic false xs := by simp [T.fz]
@[simp] theorem fz_dicT {xs : List (Key × T)} : T.fz (.dic true xs) = .dic false (T.fzA xs) := by simp [T.fz]
@[simp] theorem fz_objF {c : String} {xs : List (String × T)} : T.fz (.obj false c xs) = .obj false c xs := by simp [T.fz]
@[simp] theorem fz_objT {c : String} {xs : List (String × T)} : T.fz (.obj true c xs) = .obj false c (T.fzF xs) := by simp [T.fz]
@[simp] theorem fzs_nil : T.fzs [] = [] := by simp [T.fzs]
@[simp] theorem fzs_cons {t : T} {r : List T} : T.fzs (t :: r) = t.fz :: T.fzs r := by rw [T.fzs]
@[simp] theorem fzF_nil : T.fzF [] = [] := by simp [T.fzF]
@[simp] theorem fzF_cons {k : String} {t : T} {r : List (String × T)} : T.fzF ((k, t) :: r) = (k, t.fz) :: T.fzF r := by rw [T.fzF]
@[simp] theorem fzA_nil : T.fzA [] = [] := by simp [T.fzA]
@[simp] theorem fzA_cons {k : Key} {t : T} {r : List (Key × T)} : T.fzA ((k, t) :: r) = (k, t.fz) :: T.fzA r := by rw [T.fzA]
theorem fzs_append {a b : List T} : T.fzs (a ++ b) = T.fzs a ++ T.fzs b := by
  induction a with
  | nil => simp
  | cons t r ih => simp [ih]
theorem fzs_map {α : Type} {g : α → T} (l : List α) : T.fzs (l.map g) = l.map fun a => (g a).fz := by
  induction l with
  | nil => simp
  | cons a r ih => simp [ih]
theorem fzs_sh {xs : List T} (h : xs.all T.sh = true) : T.fzs xs = xs := by
  induction xs with
  | nil => simp
  | cons t r ih =>
    rw [List.all_cons, Bool.and_eq_true] at h
    rw [fzs_cons, T.fz_sh h.1, ih h.2]
theorem fzs_of {α : Type} {g : α → T} (l : List α) (h : ∀ a, (g a).sh = true) : T.fzs (l.map g) = l.map g := fzs_sh (by simp [h])
@[simp] theorem fzs_id {α : Type} {g : α → T} (l : List α) (h : (∀ a, (g a).sh = true) = True) : T.fzs (l.map g) = l.map g := fzs_of l (h ▸ trivial)
@[simp] theorem fzs_mapS (l : List (List Nat)) : T.fzs (l.map T.str) = l.map T.str := fzs_of l fun _ => rfl
@[simp] theorem fzs_mapI (l : List Int) : T.fzs (l.map T.int) = l.map T.int := fzs_of l fun _ => rfl
@[simp] theorem allsh_id {α : Type} {g : α → T} (l : List α) (h : (∀ a, (g a).sh = true) = True) : (l.map g).all T.sh = true := by
  have h : ∀ a, (g a).sh = true := h ▸ trivial
  simp [h]
@[simp] theorem allsh_S (l : List (List Nat)) : (l.map T.str).all T.sh = true := by simp
@[simp] theorem truth_bl {b : Bool} : T.truth (.bl b) = some b := rfl
@[simp] theorem truth_non : T.truth .non = some false := rfl
@[simp] theorem truth_int {i : Int} : T.truth (.int i) = some (i != 0) := rfl
@[simp] theorem truth_str {s : List Nat} : T.truth (.str s) = if s.length ≤ maxLen then some (s.length != 0) else none := rfl
@[simp] theorem truth_tup {xs : List T} : T.truth (.tup xs) = some (!xs.isEmpty) := rfl
@[simp] theorem truth_lst {o : Bool} {xs : List T} : T.truth (.lst o xs) = some (!xs.isEmpty) := rfl
@[simp] theorem truth_scr {xs : List T} : T.truth (.scr xs) = some (!xs.isEmpty) := rfl
@[simp] theorem truth_dic {o : Bool} {xs : List (Key × T)} : T.truth (.dic o xs) = some (!xs.isEmpty) := rfl
@[simp] theorem walk_str {s : List Nat} : T.walk (.str s) = some (s.map fun c => .str [c]) := rfl
@[simp] theorem walk_lst {o : Bool} {xs : List T} : T.walk (.lst o xs) = some xs := rfl
@[simp] theorem walk_tup {xs : List T} : T.walk (.tup xs) = some xs := rfl
@[simp] theorem walk_scr {xs : List T} : T.walk (.scr xs) = some xs := rfl
@[simp] theorem enumL_lst {o : Bool} {xs : List T} : enumL (.lst o xs) = some (enumT 0 xs) := rfl
@[simp] theorem key_int {i : Int} : T.key (.int i) = some (.inl i) := rfl
@[simp] theorem key_str {s : List Nat} : T.key (.str s) = some (.inr (S s)) := rfl
/-! ### operators -/
section
variable {i j : Int} {a b : List Nat} {xs ys : List T} {o o' : Bool} {k : Bool} {Q : T → Prop}
@[simp] theorem fAdd_int : fAdd (.int i) (.int j) = some (.int (i + j)) := rfl
@[simp] theorem fAdd_str : fAdd (.str a) (.str b) = if a.length + b.length ≤ maxLen then some (.str (a ++ b)) else none := by
  show (match (if a.length + b.length ≤ maxLen then some (T.str (a ++ b)) else none) with | some t => some t | none => none) = _
  by_cases h : a.length + b.length ≤ maxLen
  · simp only [if_pos h]
  · simp only [if_neg h]
@[simp] theorem fAdd_lst : fAdd (.lst o xs) (.lst o' ys) = if (xs.all T.sh = true ∧ ys.all T.sh = true) ∧ xs.length + ys.length ≤ maxLen then some (.lst true (xs ++ ys)) else none := by
  show (match (if (xs.all T.sh && ys.all T.sh && decide (xs.length + ys.length ≤ maxLen)) = true then some (T.lst true (xs ++ ys)) else none) with | some t => some t | none => none) = _
  have e : ((xs.all T.sh && ys.all T.sh && decide (xs.length + ys.length ≤ maxLen)) = true) = ((xs.all T.sh = true ∧ ys.all T.sh = true) ∧ xs.length + ys.length ≤ maxLen) := by
    rw [Bool.and_eq_true, Bool.and_eq_true, decide_eq_true_eq]
  simp only [e]
  by_cases h : (xs.all T.sh = true ∧ ys.all T.sh = true) ∧ xs.length + ys.length ≤ maxLen
  · simp only [if_pos h]
  · simp only [if_neg h]
@[simp] theorem fAdd_tup : fAdd (.tup xs) (.tup ys) = if xs.length + ys.length ≤ maxLen then some (.tup (xs ++ ys)) else none := by
  rfl
@[simp] theorem fSub_int : fSub (.int i) (.int j) = some (.int (i - j)) := rfl
def MulOk (i j : Int) : Prop := ((-18446744073709551616 < i ∧ i < 18446744073709551616) ∨ (-18446744073709551616 < j ∧ j < 18446744073709551616)) ∨ (Builtin.Int.intBits i : Int) + (Builtin.Int.intBits j : Int) ≤ 134217728
@[simp] theorem wp_mul : wp (fMul (.int i) (.int j)) Q ↔ MulOk i j ∧ Q (.int (i * j)) := by
  unfold fMul
  simp only [MulOk, Bool.or_eq_true, decide_eq_true_eq]
  exact wp_guard
theorem mulOk_of (h : (-18446744073709551616 < i ∧ i < 18446744073709551616) ∨ (-18446744073709551616 < j ∧ j < 18446744073709551616)) : MulOk i j := .inl h
@[simp] theorem wp_mulS {n : Int} : wp (fMul (.str a) (.int n)) Q ↔ ((-9223372036854775808 ≤ n ∧ n < 9223372036854775808) ∧ a.length * n.toNat ≤ maxLen) ∧ Q (.str (List.replicate n.toNat a).flatten) := by
  unfold fMul
  simp only [Bool.and_eq_true, decide_eq_true_eq]
  exact wp_guard
@[simp] theorem wp_mulL {n : Int} : wp (fMul (.lst o xs) (.int n)) Q ↔ (((xs.all T.sh = true ∧ -9223372036854775808 ≤ n) ∧ n < 9223372036854775808) ∧ xs.length * n.toNat ≤ maxLen) ∧ Q (.lst true (List.replicate n.toNat xs).flatten) := by
  unfold fMul
  simp only [Bool.and_eq_true, decide_eq_true_eq]
  exact wp_guard
@[simp] theorem fMod_int : fMod (.int i) (.int j) = if 0 < j then some (.int (i % j)) else none := by
  show (if decide (0 < j) = true then _ else _) = _
  simp only [decide_eq_true_eq]
@[simp] theorem fDiv_int : fDiv (.int i) (.int j) = if 0 < j ∧ j < 1073741824 then some (.int (i / j)) else none := by
  show (if (decide (0 < j) && decide (j < 1073741824)) = true then _ else _) = _
  simp only [Bool.and_eq_true, decide_eq_true_eq]
@[simp] theorem wp_pow : wp (fPow (.int i) (.int j)) Q ↔ ((0 ≤ j ∧ j ≤ 1000000) ∧ i.natAbs < 18446744073709551616) ∧ Q (.int (i ^ j.toNat)) := by
  unfold fPow fI
  simp only [Bool.and_eq_true, decide_eq_true_eq]
  exact wp_guard
@[simp] theorem fNeg_int : fNeg (.int i) = some (.int (-i)) := rfl
@[simp] theorem cLt_int : cLt (.int i) (.int j) = some (.bl (decide (i < j))) := rfl
@[simp] theorem cLt_str : cLt (.str a) (.str b) = some (.bl (decide (a < b))) := rfl
@[simp] theorem cLe_int : cLe (.int i) (.int j) = some (.bl (decide (i ≤ j))) := rfl
@[simp] theorem cGt_int : cGt (.int i) (.int j) = some (.bl (decide (j < i))) := rfl
@[simp] theorem cGe_int : cGe (.int i) (.int j) = some (.bl (decide (j ≤ i))) := rfl
@[simp] theorem cEq_int : cEq (.int i) (.int j) = some (.bl (decide (i = j))) := by
  have e : (i == j) = decide (i = j) := by by_cases h : i = j <;> simp [h]
  show some (T.bl (i == j)) = _
  rw [e]
@[simp] theorem cNe_int : cNe (.int i) (.int j) = some (.bl (decide (i ≠ j))) := by
  have e : (!(i == j)) = decide (i ≠ j) := by by_cases h : i = j <;> simp [h]
  show some (T.bl (!(i == j))) = _
  rw [e]
@[simp] theorem cEq_str : cEq (.str a) (.str b) = some (.bl (decide (a = b))) := by
  have e : (a == b) = decide (a = b) := by by_cases h : a = b <;> simp [h]
  show some (T.bl (a == b)) = _
  rw [e]
@[simp] theorem cNe_str : cNe (.str a) (.str b) = some (.bl (decide (a ≠ b))) := by
  have e : (!(a == b)) = decide (a ≠ b) := by by_cases h : a = b <;> simp [h]
  show some (T.bl (!(a == b))) = _
  rw [e]
@[simp] theorem cEq_bl {p q : Bool} : cEq (.bl p) (.bl q) = some (.bl (p == q)) := rfl
@[simp] theorem cNe_bl {p q : Bool} : cNe (.bl p) (.bl q) = some (.bl (!(p == q))) := rfl
@[simp] theorem cEq_non : cEq .non .non = some (.bl true) := rfl
@[simp] theorem cNe_non : cNe .non .non = some (.bl false) := rfl
@[simp] theorem cIs_non : cIs .non .non = some (.bl true) := rfl
@[simp] theorem cIs_int : cIs (.int i) .non = some (.bl false) := rfl
@[simp] theorem cIs_str : cIs (.str a) .non = some (.bl false) := rfl
@[simp] theorem cIs_tup : cIs (.tup xs) .non = some (.bl false) := rfl
@[simp] theorem cIs_lst : cIs (.lst o xs) .non = some (.bl false) := rfl
@[simp] theorem cIs_bl : cIs (.bl k) .non = some (.bl false) := rfl
@[simp] theorem cIs_obj {c : String} {fs : List (String × T)} : cIs (.obj o c fs) .non = some (.bl false) := rfl
@[simp] theorem cIsN_non : cIsN .non .non = some (.bl false) := rfl
@[simp] theorem cIsN_int : cIsN (.int i) .non = some (.bl true) := rfl
@[simp] theorem cIsN_str : cIsN (.str a) .non = some (.bl true) := rfl
@[simp] theorem cIsN_tup : cIsN (.tup xs) .non = some (.bl true) := rfl
@[simp] theorem cIsN_lst : cIsN (.lst o xs) .non = some (.bl true) := rfl
@[simp] theorem cIsN_bl : cIsN (.bl k) .non = some (.bl true) := rfl
@[simp] theorem cIsN_obj {c : String} {fs : List (String × T)} : cIsN (.obj o c fs) .non = some (.bl true) := rfl
@[simp] theorem cIn_sub {c : Nat} : cIn k (.str [c]) (.str b) = some (.bl (if k then !decide (c ∈ b) else decide (c ∈ b))) := rfl
theorem flats_strs : ∀ l : List (List Nat), T.flats (l.map T.str) = some (l.map fun s => .str (S s))
  | [] => rfl
  | s :: r => by simp [T.flats, T.flat, flats_strs r]
theorem any_strs {a : List Nat} (l : List (List Nat)) : ((l.map T.str).any fun y => T.eqv y (.str a)) = decide (a ∈ l) := by
  induction l with
  | nil => simp
  | cons s r ih =>
    rw [List.map_cons, List.any_cons, ih]
    by_cases h : s = a
    · subst h; simp [T.eqv]
    · have h2 : ¬ a = s := fun e => h e.symm
      simp [T.eqv, h, h2]
@[simp] theorem cIn_tupS {l : List (List Nat)} : cIn k (.str a) (.tup (l.map T.str)) = some (.bl (if k then !decide (a ∈ l) else decide (a ∈ l))) := by
  have h : fIn1 (.str a) (.tup (l.map T.str)) = some (decide (a ∈ l)) := by
    unfold fIn1
    simp only [flats_strs, T.flat, any_strs]
  show Option.map _ (fIn1 (.str a) (.tup (l.map T.str))) = _
  rw [h]; rfl
@[simp] theorem cIn_lstS {l : List (List Nat)} : cIn k (.str a) (.lst o (l.map T.str)) = some (.bl (if k then !decide (a ∈ l) else decide (a ∈ l))) := by
  have h : fIn1 (.str a) (.lst o (l.map T.str)) = some (decide (a ∈ l)) := by
    unfold fIn1
    simp only [flats_strs, T.flat, any_strs]
  show Option.map _ (fIn1 (.str a) (.lst o (l.map T.str))) = _
  rw [h]; rfl
theorem cIn_dicS {kvs : List (Key × T)} : cIn k (.str a) (.dic o kvs) = some (.bl (if k then !(tget kvs (.inr (S a))).isSome else (tget kvs (.inr (S a))).isSome)) := rfl
/-! ### items -/
@[simp] theorem atI_nat {α : Type} {l : List α} {n : Nat} : atI l (n : Int) = l[n]? := by
  unfold atI ixN
  by_cases h : (n : Int) < l.length
  · simp [h]
  · have : l.length ≤ n := by omega
    simp [h, this]
@[simp] theorem atI_0 {α : Type} {l : List α} : atI l 0 = l[0]? := atI_nat (n := 0)
@[simp] theorem atI_1 {α : Type} {l : List α} : atI l 1 = l[1]? := atI_nat (n := 1)
@[simp] theorem atI_2 {α : Type} {l : List α} : atI l 2 = l[2]? := atI_nat (n := 2)
@[simp] theorem atI_3 {α : Type} {l : List α} : atI l 3 = l[3]? := atI_nat (n := 3)
@[simp] theorem atI_4 {α : Type} {l : List α} : atI l 4 = l[4]? := atI_nat (n := 4)
@[simp] theorem atI_5 {α : Type} {l : List α} : atI l 5 = l[5]? := atI_nat (n := 5)
@[simp] theorem atI_6 {α : Type} {l : List α} : atI l 6 = l[6]? := atI_nat (n := 6)
@[simp] theorem atI_last {α : Type} {l : List α} : atI l (-1) = l.getLast? := by
  unfold atI ixN
  cases l with
  | nil => simp
  | cons a r =>
    have h : -((a :: r).length : Int) ≤ -1 := by simp; omega
    simp only [h, if_true]
    rw [if_neg (by omega)]
    have e : (-1 + ((a :: r).length : Int)).toNat = r.length := by simp; omega
    simp only [e, Option.bind_some]
    rw [List.getLast?_eq_getElem?]
    simp
@[simp] theorem wp_ixT {Q : T → Prop} : wp (ixT xs i) Q ↔ wp (atI xs i) fun t => t.sh = true ∧ Q t := by unfold ixT; rcases atI xs i with _ | t <;> simp
@[simp] theorem fItem_tup : fItem (.tup xs) (.int i) = ixT xs i := rfl
@[simp] theorem fItem_lst : fItem (.lst o xs) (.int i) = ixT xs i := rfl
@[simp] theorem fItem_scr : fItem (.scr xs) (.int i) = ixT xs i := rfl
@[simp] theorem fItem_str : fItem (.str a) (.int i) = if a.length ≤ maxLen then (atI a i).map fun c => .str [c] else none := rfl
@[simp] theorem wp_fItem_dic {kvs : List (Key × T)} {t : T} : wp (fItem (.dic o kvs) t) Q ↔ wp t.key fun k => wp (tget kvs k) fun u => u.sh = true ∧ Q u := by
  unfold fItem; rcases t.key with _ | k <;> simp; rcases tget kvs k with _ | u <;> simp
@[simp] theorem fPeekU_tup : fPeekU (.tup xs) (.int i) = ixT xs i := rfl
@[simp] theorem fPeekU_scr : fPeekU (.scr xs) (.int i) = ixT xs i := rfl
@[simp] theorem fPeekU_str : fPeekU (.str a) (.int i) = if a.length ≤ maxLen then (atI a i).map fun c => .str [c] else none := rfl
@[simp] theorem fPeekU_lst : fPeekU (.lst o xs) (.int i) = atI xs i := by
  show (match atI xs i with | some t => some t | none => ixT xs i) = _
  unfold ixT
  rcases atI xs i with _ | t <;> rfl
@[simp] theorem wp_fPeekU_dic {kvs : List (Key × T)} {t : T} : wp (fPeekU (.dic o kvs) t) Q ↔ wp t.key fun k => wp (tget kvs k) Q := by
  show wp (match (match t.key with | none => none | some k => tget kvs k) with | some t => some t | none => fItem (.dic o kvs) t) Q ↔ _
  unfold fItem
  rcases t.key with _ | k <;> simp
  rcases tget kvs k with _ | u <;> simp
@[simp] theorem fIx_str : fIx (.str a) (.int i) = if a.length ≤ maxLen then (atI a i).map fun c => .str [c] else none := rfl
@[simp] theorem fIx_lst : fIx (.lst o xs) (.int i) = ixT xs i := rfl
@[simp] theorem fIx_tup : fIx (.tup xs) (.int i) = ixT xs i := rfl
@[simp] theorem wp_fFld {AF : List (String × List String)} {f c : String} {fs : List (String × T)} : wp (fFld AF f (.obj o c fs)) Q ↔ afHas AF c f = true ∧ wp (fs.lookup f) Q := by
  unfold fFld
  by_cases h : afHas AF c f = true <;> simp [h]
@[simp] theorem lookup_cons' {α : Type} {f g : String} {t : α} {r : List (String × α)} : List.lookup f ((g, t) :: r) = if f = g then some t else List.lookup f r := by
  rw [List.lookup_cons]
  by_cases h : f = g
  · simp [h]
  · have : (f == g) = false := by simp [h]
    simp [this, h]
@[simp] theorem fput_nil {α : Type} {f : String} {t : α} : fput [] f t = [(f, t)] := rfl
@[simp] theorem fput_cons {α : Type} {f g : String} {t u : α} {r : List (String × α)} : fput ((g, u) :: r) f t = if g = f then (g, t) :: r else (g, u) :: fput r f t := rfl
@[simp] theorem ixGet_lst : ixGet (.lst true xs) (some (.int i)) = atI xs i := rfl
@[simp] theorem wp_ixGet_dic {kvs : List (Key × T)} {t : T} : wp (ixGet (.dic true kvs) (some t)) Q ↔ wp t.key fun k => wp (tget kvs k) Q := by
  show wp (match t.key with | some k => tget kvs k | none => none) Q ↔ _; rcases t.key with _ | k <;> simp
@[simp] theorem wp_ixPut_lst {u : T} : wp (ixPut (.lst true xs) (some (.int i)) u) Q ↔ wp (ixN xs.length i) fun j => Q (.lst true (xs.set j u)) := by
  show wp (match ixN xs.length i with | some j => some (T.lst true (xs.set j u)) | none => none) Q ↔ _; rcases ixN xs.length i with _ | j <;> simp
@[simp] theorem wp_ixStore_lst {u : T} : wp (ixStore (.lst true xs) (some (.int i)) u) Q ↔ wp (ixN xs.length i) fun j => Q (.lst true (xs.set j u)) := by
  show wp (match ixN xs.length i with | some j => some (T.lst true (xs.set j u)) | none => none) Q ↔ _; rcases ixN xs.length i with _ | j <;> simp
@[simp] theorem wp_ixPut_dic {kvs : List (Key × T)} {t u : T} : wp (ixPut (.dic true kvs) (some t) u) Q ↔ wp t.key fun k => Q (.dic true (tput kvs k u)) := by
  show wp (match t.key with | some k => some (T.dic true (tput kvs k u)) | none => none) Q ↔ _; rcases t.key with _ | k <;> simp
@[simp] theorem wp_ixStore_dic {kvs : List (Key × T)} {t u : T} : wp (ixStore (.dic true kvs) (some t) u) Q ↔ wp t.key fun k => kvs.length < maxLen ∧ Q (.dic true (tput kvs k u)) := by
  show wp (match t.key with | some k => if kvs.length < maxLen then some (T.dic true (tput kvs k u)) else none | none => none) Q ↔ _; rcases t.key with _ | k <;> simp
@[simp] theorem wp_ixN {n : Nat} {m : Nat} {Q : Nat → Prop} : wp (ixN n (m : Int)) Q ↔ m < n ∧ Q m := by
  unfold ixN; by_cases h : m < n
  · have : (m : Int) < n := by omega
    simp [h]
  · have : ¬ (m : Int) < n := by omega
    simp [h]
@[simp] theorem wp_ixN0 {n : Nat} {Q : Nat → Prop} : wp (ixN n 0) Q ↔ 0 < n ∧ Q 0 := wp_ixN (m := 0)
@[simp] theorem wp_ixN1 {n : Nat} {Q : Nat → Prop} : wp (ixN n 1) Q ↔ 1 < n ∧ Q 1 := wp_ixN (m := 1)
@[simp] theorem wp_ixN2 {n : Nat} {Q : Nat → Prop} : wp (ixN n 2) Q ↔ 2 < n ∧ Q 2 := wp_ixN (m := 2)
@[simp] theorem wp_ixN3 {n : Nat} {Q : Nat → Prop} : wp (ixN n 3) Q ↔ 3 < n ∧ Q 3 := wp_ixN (m := 3)
@[simp] theorem wp_ixN4 {n : Nat} {Q : Nat → Prop} : wp (ixN n 4) Q ↔ 4 < n ∧ Q 4 := wp_ixN (m := 4)
/-! ### calls -/
@[simp] theorem fLen_str : fLen [.str a] = if a.length ≤ maxLen then some (.int a.length) else none := rfl
@[simp] theorem fLen_tup : fLen [.tup xs] = some (.int xs.length) := rfl
@[simp] theorem fLen_lst : fLen [.lst o xs] = some (.int xs.length) := rfl
@[simp] theorem fLen_scr : fLen [.scr xs] = some (.int xs.length) := rfl
@[simp] theorem fLen_dic {kvs : List (Key × T)} : fLen [.dic o kvs] = some (.int kvs.length) := rfl
@[simp] theorem fAbs_int : fAbs [.int i] = some (.int (if i < 0 then -i else i)) := rfl
@[simp] theorem fMax_int : fMax [.int i, .int j] = some (.int (if j > i then j else i)) := rfl
@[simp] theorem fMin_int : fMin [.int i, .int j] = some (.int (if j < i then j else i)) := rfl
@[simp] theorem fDivmod_int : fDivmod [.int i, .int j] = if 0 < j ∧ j < 1073741824 then some (.tup [.int (i / j), .int (i % j)]) else none := by
  show (if (decide (0 < j) && decide (j < 1073741824)) = true then _ else _) = _
  simp only [Bool.and_eq_true, decide_eq_true_eq]
@[simp] theorem fInt_int : fInt [.int i] = some (.int i) := rfl
@[simp] theorem fInt_bl : fInt [.bl k] = some (.int (if k then 1 else 0)) := rfl
@[simp] theorem fInt_str {c : Nat} : fInt [.str [c]] = if 48 ≤ c ∧ c ≤ 57 then some (.int ((c : Int) - 48)) else none := by
  show (if (decide (48 ≤ c) && decide (c ≤ 57)) = true then _ else _) = _
  simp only [Bool.and_eq_true, decide_eq_true_eq]
@[simp] theorem fStr_str : fStr [.str a] = some (.str a) := rfl
@[simp] theorem fTuple_lst : fTuple [.lst o xs] = if xs.all T.sh = true then some (.tup xs) else none := rfl
@[simp] theorem fTuple_tup : fTuple [.tup xs] = some (.tup xs) := rfl
@[simp] theorem fList_lst : fList [.lst o xs] = if xs.all T.sh = true then some (.lst true xs) else none := rfl
@[simp] theorem fList_scr : fList [.scr xs] = if xs.all T.sh = true then some (.lst true xs) else none := rfl
@[simp] theorem fList_tup : fList [.tup xs] = some (.lst true xs) := rfl
@[simp] theorem fAll_bls {α : Type} {p : α → Bool} {l : List α} : fAll [.lst o (l.map fun a => .bl (p a))] = some (.bl (l.all p)) := by
  show Option.map _ (T.bls _) = _
  rw [bls_map]
  simp [Function.comp_def]
@[simp] theorem fAny_bls {α : Type} {p : α → Bool} {l : List α} : fAny [.lst o (l.map fun a => .bl (p a))] = some (.bl (l.any p)) := by
  show Option.map _ (T.bls _) = _
  rw [bls_map]
  simp [Function.comp_def]
theorem ints_mapf {α : Type} (f : α → Int) (l : List α) : T.ints (l.map fun a => .int (f a)) = some (l.map f) := by
  have := ints_map (l.map f)
  rw [List.map_map] at this
  exact this
theorem strs_mapf {α : Type} (f : α → List Nat) (l : List α) : T.strs (l.map fun a => .str (f a)) = some (l.map f) := by
  have := strs_map (l.map f)
  rw [List.map_map] at this
  exact this
@[simp] theorem fSum_ints {α : Type} {f : α → Int} {l : List α} : fSum [.lst o (l.map fun a => .int (f a))] = some (.int (l.map f).sum) := by
  show Option.map _ (T.ints _) = _
  rw [ints_mapf]; rfl
theorem fJoin_strs {α : Type} {f : α → List Nat} {l : List α} : fJoin (.str a) (.lst o (l.map fun x => .str (f x))) = if ((l.map f).map (·.length)).sum + (l.map f).length * a.length ≤ maxLen then some (.str (TL.joinL a (l.map f))) else none := by
  show (match T.strs (l.map fun x => .str (f x)) with | some zs => _ | none => none) = _
  rw [strs_mapf]
@[simp] theorem fSl_str {lo hi : Option Int} : fSl (.str a) lo hi = if a.length ≤ maxLen then some (.str (cutL a lo hi)) else none := rfl
@[simp] theorem fSl_tup {lo hi : Option Int} : fSl (.tup xs) lo hi = some (.tup (cutL xs lo hi)) := rfl
@[simp] theorem fSl_lst {lo hi : Option Int} : fSl (.lst o xs) lo hi = if xs.all T.sh = true then some (.lst true (cutL xs lo hi)) else none := rfl
@[simp] theorem fSl_scr {lo hi : Option Int} : fSl (.scr xs) lo hi = if xs.all T.sh = true then some (.lst true (cutL xs lo hi)) else none := rfl
@[simp] theorem rng_one : rng [.int j] = if -4611686018427387904 ≤ j ∧ j < 4611686018427387904 then some (rangeT 0 j.toNat) else none := rfl
@[simp] theorem rng_two : rng [.int i, .int j] = if (-4611686018427387904 ≤ i ∧ i < 4611686018427387904) ∧ -4611686018427387904 ≤ j ∧ j < 4611686018427387904 then some (rangeT i (j - i).toNat) else none := rfl
@[simp] theorem fIsStr_str : fIsStr (.str a) = some (.bl true) := rfl
@[simp] theorem fIsStr_int : fIsStr (.int i) = some (.bl false) := rfl
@[simp] theorem fIsOwn_obj {c d : String} {fs : List (String × T)} : fIsOwn c (.obj o d fs) = if d = c then some (.bl true) else none := rfl
end
theorem wp_popX {xs : List T} {j : Nat} {Q : T × List T → Prop} (h : j < 4096 * 4096) : wp (popX xs (j : Int)) Q ↔ wp xs[j]? fun t => Q (t, xs.eraseIdx j) := by
  have e : seqIndex? (j : Int) xs.length = if j < xs.length then some j else none := by
    unfold seqIndex?
    by_cases h : j < xs.length
    · simp [h]; omega
    · simp [h]; omega
  unfold popX
  rw [if_pos (by omega), e]
  by_cases h : j < xs.length
  · simp [h]
  · simp [h]
@[simp] theorem wp_swF {fn : List T → Option (T × List T)} {a b : T} {Q : T × List T → Prop} : wp (swF fn [b, a]) Q ↔ wp (fn [a, b]) fun r => wp (match r.2 with | [a', b'] => some (r.1, [b', a']) | _ => none) Q := by
  show wp (match fn [a, b] with | some (t, [a', b']) => some (t, [b', a']) | _ => none) Q ↔ _
  rcases fn [a, b] with _ | ⟨t, us⟩
  · simp
  · simp only [wp_some]
    rcases us with _ | ⟨x, _ | ⟨y, _ | ⟨z, r⟩⟩⟩ <;> simp
theorem fSortTx_strs {α : Type} {o : Bool} {f : α → List Nat} : ∀ {l : List α}, fSortTx [.lst o (l.map fun x => .str (f x))] = some (.lst true ((isort leS (l.map f)).map .str))
  | [] => rfl
  | a :: r => by
    have h1 : T.ints ((a :: r).map fun x => .str (f x)) = none := by simp [T.ints]
    have h2 := strs_mapf f (a :: r)
    unfold fSortTx
    simp only [h1, h2]
theorem ins_map {α β : Type} {le : β → β → Bool} {f : α → β} (x : α) : ∀ l : List α, ins le (f x) (l.map f) = (ins (fun a b => le (f a) (f b)) x l).map f
  | [] => rfl
  | y :: r => by
    rw [List.map_cons]
    unfold ins
    by_cases h : le (f x) (f y) = true
    · rw [if_pos h, if_pos h]; rfl
    · rw [if_neg h, if_neg h, ins_map x r]; rfl
theorem isort_map {α β : Type} {le : β → β → Bool} {f : α → β} : ∀ l : List α, isort le (l.map f) = (isort (fun a b => le (f a) (f b)) l).map f
  | [] => rfl
  | x :: r => by
    rw [List.map_cons]
    unfold isort
    rw [isort_map r, ins_map]
section
variable {α : Type}
theorem cutL_from {l : List α} {n : Nat} : cutL l (some n) none = l.drop n := by
  unfold cutL
  rw [HT.sIx_nat, HT.sIx_none, List.take_of_length_le (by simp)]
  rcases Nat.le_total n l.length with h | h
  · rw [Nat.min_eq_left h]
  · rw [Nat.min_eq_right h, List.drop_length, List.drop_eq_nil_of_le h]
theorem cutL_to {l : List α} {n : Nat} : cutL l none (some n) = l.take n := by
  unfold cutL
  rw [HT.sIx_nat, HT.sIx_none, Nat.sub_zero, List.drop_zero]
  rcases Nat.le_total n l.length with h | h
  · rw [Nat.min_eq_left h]
  · rw [Nat.min_eq_right h, List.take_length, List.take_of_length_le h]
theorem cutL_last {l : List α} {n : Nat} : cutL l (some (-(n + 1 : Nat) : Int)) none = l.drop (l.length - (n + 1)) := by
  unfold cutL
  rw [HT.sIx_none, List.take_of_length_le (by simp)]
  congr 1
  show (if (-(n + 1 : Nat) : Int) < 0 then ((-(n + 1 : Nat) : Int) + (l.length : Int)).toNat else _) = _
  rw [if_pos (by omega)]
  omega
theorem cutL_between {l : List α} {m n : Nat} : cutL l (some m) (some n) = (l.take n).drop m := by
  unfold cutL
  rw [HT.sIx_nat, HT.sIx_nat]
  rw [List.drop_take]
  rcases Nat.le_total m l.length with h | h
  · rw [Nat.min_eq_left h]
    rcases Nat.le_total n l.length with h2 | h2
    · rw [Nat.min_eq_left h2]
    · rw [Nat.min_eq_right h2, List.take_of_length_le (by simp), List.take_of_length_le (by simp; omega)]
  · rw [Nat.min_eq_right h]
    simp [List.drop_eq_nil_of_le h]
theorem mem_cutL {l : List α} {a b : Option Int} {c : α} (h : c ∈ cutL l a b) : c ∈ l := List.mem_of_mem_drop (List.mem_of_mem_take h)
theorem len_cutL {l : List α} {a b : Option Int} : (cutL l a b).length ≤ l.length := by unfold cutL; simp; omega
theorem cutL_all {l : List α} : cutL l none none = l := by
  unfold cutL
  rw [HT.sIx_none, HT.sIx_none]; simp
end
@[simp] theorem wipeE_nil {env : Env} : wipeE env [] = env := rfl
@[simp] theorem wipeE_cons {env : Env} {v : Nat} {vs : List Nat} : wipeE env (v :: vs) = (wipeE env vs).set v none := rfl
/-! ### comprehensions -/
section
variable {α β : Type} {vs : List Nat} {src : Env → Option (List T)} {f : T → Env → Option Env} {c : Env → Option Bool} {x : Env → Option T} {env : Env} {Q : T → Prop}
theorem lcGo_flt {w : α → T} {p : α → Bool} {g : α → T} {env0 : Env} : ∀ l : List α, (∀ a ∈ l, wp (f (w a) env0) fun e => e.length = env0.length ∧ wp (c e) fun b => b = p a ∧ (p a = true → wp (x e) fun t => t = g a)) →
    lcGo f c x env0 (l.map w) = some ((l.filter p).map g)
  | [], _ => rfl
  | a :: r, h => by
    obtain ⟨e, h1, h2, b, h3, rfl, h4⟩ := h a List.mem_cons_self
    have ih := lcGo_flt r fun a ha => h a (List.mem_cons_of_mem _ ha)
    rw [List.map_cons]
    unfold lcGo
    simp only [h1, h2, h3, if_true, ih]
    cases hp : p a with
    | false => simp [hp]
    | true =>
      obtain ⟨t, h5, rfl⟩ := h4 hp
      simp [hp, h5]
@[simp] theorem wp_qLc : wp (qLc vs src f c x env) Q ↔ wp (src env) fun ts => wp (lcGo f c x (wipeE env vs) ts) fun us => us.length ≤ maxLen ∧ Q (.lst true us) := by
  unfold qLc; rcases src env with _ | ts <;> simp; rcases lcGo f c x (wipeE env vs) ts with _ | us <;> simp
theorem wp_lcGoF {env0 : Env} {Q : List T → Prop} {l : List α} {w : α → T} (p : α → Bool) (g : α → T)
    (hx : ∀ a ∈ l, wp (f (w a) env0) fun e => e.length = env0.length ∧ wp (c e) fun b => b = p a ∧ (p a = true → wp (x e) fun t => t = g a))
    (q : Q ((l.filter p).map g)) : wp (lcGo f c x env0 (l.map w)) Q := ⟨_, lcGo_flt l hx, q⟩
theorem wp_lcGo {env0 : Env} {Q : List T → Prop} {l : List α} {w : α → T} (g : α → T)
    (hx : ∀ a ∈ l, wp (f (w a) env0) fun e => e.length = env0.length ∧ wp (x e) fun t => t = g a)
    (q : Q (l.map g)) : wp (lcGo f cYes x env0 (l.map w)) Q :=
  wp_lcGoF (fun _ => true) g (fun a ha => (hx a ha).mono fun e h => ⟨h.1, wp_cYes.mpr ⟨rfl, fun _ => h.2⟩⟩) (by rw [List.filter_eq_self.mpr fun _ _ => rfl]; exact q)
theorem forget {α γ : Type} {R : α → Prop} {g : α → γ} : ∀ us : List γ, (∀ u ∈ us, ∃ v, R v ∧ u = g v) → ∃ ws : List α, us = ws.map g ∧ ∀ v ∈ ws, R v
  | [], _ => ⟨[], rfl, fun _ h => nomatch h⟩
  | u :: r, h => by
    obtain ⟨v, h1, rfl⟩ := h u List.mem_cons_self
    obtain ⟨ws, rfl, h3⟩ := forget r fun u hu => h u (List.mem_cons_of_mem _ hu)
    exact ⟨v :: ws, rfl, fun x hx => (List.mem_cons.mp hx).elim (fun e => e ▸ h1) (h3 x)⟩
end
section
variable {α β : Type} {vs : List Nat} {src : Env → Option (List T × Env)} {f : T → Env → Option Env} {c : Env → Option Bool} {y : Env → Option (T × Env)} {env : Env} {Q : T × Env → Prop}
theorem lcGoE_inv {w : α → T} {I : Env → Prop} {R : β → Prop} {g : β → T} : ∀ (l : List α) (e : Env), I e → (∀ a ∈ l, ∀ e, I e → wp (f (w a) e) fun e1 => e1.length = e.length ∧ wp (y e1) fun r => (∃ v, R v ∧ r.1 = g v) ∧ I (wipeE r.2 vs)) →
    wp (lcGoE vs f cYes y (l.map w) e) fun p => ∃ us : List β, p.1 = us.map g ∧ us.length = l.length ∧ (∀ u ∈ us, R u) ∧ I p.2
  | [], e, hI, _ => ⟨_, rfl, [], rfl, rfl, (fun _ h => nomatch h), hI⟩
  | a :: r, e, hI, h => by
    obtain ⟨e1, h1, h2, p, h3, ⟨v, h4, h5⟩, h6⟩ := h a List.mem_cons_self e hI
    obtain ⟨q, h7, us, h8, h9, h10, h11⟩ := lcGoE_inv r _ h6 fun a ha => h a (List.mem_cons_of_mem _ ha)
    refine ⟨(p.1 :: q.1, q.2), ?_, v :: us, by simp [h5, h8], by simp [h9], fun u hu => (List.mem_cons.mp hu).elim (fun e => e ▸ h4) (h10 u), h11⟩
    rw [List.map_cons]
    unfold lcGoE
    simp only [h1, h2, cYes, if_true, h3, h7]
@[simp] theorem wp_eLc : wp (eLc vs src f c y env) Q ↔ wp (src env) fun p => wp (lcGoE vs f c y p.1 (wipeE p.2 vs)) fun r => r.1.length ≤ maxLen ∧ Q (.lst true r.1, r.2) := by
  unfold eLc; rcases src env with _ | ⟨ts, e⟩ <;> simp; rcases lcGoE vs f c y ts (wipeE e vs) with _ | ⟨us, e2⟩ <;> simp
theorem wp_lcGoE {l : List α} {w : α → T} {e0 : Env} {Q : List T × Env → Prop} (I : Env → Prop) (R : β → Prop) (g : β → T) (h0 : I e0)
    (hx : ∀ a ∈ l, ∀ e, I e → wp (f (w a) e) fun e1 => e1.length = e.length ∧ wp (y e1) fun r => (∃ v, R v ∧ r.1 = g v) ∧ I (wipeE r.2 vs))
    (q : ∀ (us : List β) (e : Env), us.length = l.length → (∀ u ∈ us, R u) → I e → Q (us.map g, e)) : wp (lcGoE vs f cYes y (l.map w) e0) Q := by
  obtain ⟨⟨us, e2⟩, h3, vs', rfl, h5, h6, h7⟩ := lcGoE_inv l _ h0 hx
  exact ⟨_, h3, q vs' e2 h5 h6 h7⟩
end
section
variable {α : Type} {vs : List Nat} {src : Env → Option (List T)} {f : T → Env → Option Env} {c : Env → Option Bool} {xk x : Env → Option T} {env : Env} {Q : T → Prop}
@[simp] theorem wp_qDc : wp (qDc vs src f c xk x env) Q ↔ wp (src env) fun ts => wp (dcGo f c xk x (wipeE env vs) ts []) fun us => Q (.dic true us) := by
  unfold qDc; rcases src env with _ | ts <;> simp; rcases dcGo f c xk x (wipeE env vs) ts [] with _ | us <;> simp
theorem wp_dcGo {w : α → T} (k : α → Key) (g : α → T) {env0 : Env} {Q : List (Key × T) → Prop} : ∀ (l : List α) (acc : List (Key × T)), acc.length + l.length ≤ 16777216 →
    (∀ a ∈ l, wp (f (w a) env0) fun e => e.length = env0.length ∧ wp (xk e) fun kt => kt.key = some (k a) ∧ wp (x e) fun t => t = g a) →
    Q (l.foldl (fun acc a => tput acc (k a) (g a)) acc) → wp (dcGo f cYes xk x env0 (l.map w) acc) Q
  | [], acc, _, _, q => wp_some.mpr q
  | a :: r, acc, hz, h, q => by
    obtain ⟨e, h1, h2, kt, h3, h4, t, h5, rfl⟩ := h a List.mem_cons_self
    have tl : ∀ (l : List (Key × T)) (k : Key) (t : T), (tput l k t).length ≤ l.length + 1 := fun l k t => by
      induction l with
      | nil => simp [tput]
      | cons p r ih => obtain ⟨k', u⟩ := p; unfold tput; split <;> simp <;> omega
    rw [List.map_cons]
    unfold dcGo
    have hz' : acc.length < maxLen := by simp at hz; show acc.length < 16777216; omega
    simp only [h1, h2, hz', cYes, h3, h4, h5, true_and, if_true]
    have := tl acc (k a) (g a)
    exact wp_dcGo k g r _ (by simp at hz; omega) (fun b hb => h b (List.mem_cons_of_mem _ hb)) q
end
section
variable {α β : Type} {vs vs1 : List Nat} {src src1 : Env → Option (List T)} {f f1 : T → Env → Option Env} {c c1 : Env → Option Bool} {x : Env → Option T} {env : Env} {Q : T → Prop}
@[simp] theorem wp_qLc2 : wp (qLc2 vs vs1 src f c src1 f1 c1 x env) Q ↔ wp (src env) fun ts => wp (lc2Go f c src1 f1 c1 x vs1 (wipeE env vs) ts) fun us => us.length ≤ maxLen ∧ Q (.lst true us) := by
  unfold qLc2; rcases src env with _ | ts <;> simp; rcases lc2Go f c src1 f1 c1 x vs1 (wipeE env vs) ts with _ | us <;> simp
theorem wp_lc2Go {w : α → T} {w1 : β → T} (m : α → List β) (p : α → β → Bool) (g : α → β → T) {env0 : Env} {Q : List T → Prop} : ∀ l : List α,
    (∀ a ∈ l, wp (f (w a) env0) fun e => e.length = env0.length ∧ wp (src1 e) fun ts => ts = (m a).map w1 ∧ ∀ b ∈ m a, wp (f1 (w1 b) (wipeE e vs1)) fun e1 => e1.length = e.length ∧ wp (c1 e1) fun k => k = p a b ∧ (p a b = true → wp (x e1) fun t => t = g a b)) →
    Q (l.flatMap fun a => ((m a).filter (p a)).map (g a)) → wp (lc2Go f cYes src1 f1 c1 x vs1 env0 (l.map w)) Q := by
  intro l h q
  refine ⟨_, ?_, q⟩
  clear q
  induction l with
  | nil => rfl
  | cons a r ih =>
    obtain ⟨e, h1, h2, ts, h3, rfl, h4⟩ := h a List.mem_cons_self
    have ih := ih fun b hb => h b (List.mem_cons_of_mem _ hb)
    have e2 := lcGo_flt (f := f1) (c := c1) (x := x) (env0 := wipeE e vs1) (m a) (w := w1) (p := p a) (g := g a) fun b hb => (h4 b hb).mono fun e1 h => ⟨by rw [h.1, wipeE_len], h.2⟩
    rw [List.map_cons]
    unfold lc2Go
    simp only [h1, h2, if_true, cYes, h3, e2, ih, List.flatMap_cons]
end
/-! ### loops -/
section
variable {α : Type} {f : T → Env → Option Env} {b : Env → Option Out} {c : Env → Option (Bool × Env)} {Q : Out → Prop}
theorem wp_loop {w : α → T} (I : List α → Env → Prop) : ∀ (l : List α) (e : Env), I l e → (∀ a r e, I (a :: r) e → wp (f (w a) e) fun e1 => wp (b e1) (oLoop (I r) Q)) → (∀ e, I [] e → Q (.nx e)) → wp (loop f b (l.map w) e) Q
  | [], e, h, _, q => wp_some.mpr (q e h)
  | a :: r, e, h, st, q => by
    obtain ⟨e1, h1, o, h2, h3⟩ := st a r e h
    rw [List.map_cons]
    unfold loop
    simp only [h1, h2]
    cases o with
    | nx e2 => exact wp_loop I r e2 h3 st q
    | ct e2 => exact wp_loop I r e2 h3 st q
    | bk e2 => exact wp_some.mpr h3
    | rt t e2 => exact wp_some.mpr h3
theorem wp_wloop (I : Nat → Env → Prop) (st : ∀ n e, I n e → wp (c e) fun p => (p.1 = false → Q (.nx p.2)) ∧ (p.1 = true → ∃ k, n = k + 1 ∧ wp (b p.2) (oLoop (I k) Q))) : ∀ (fuel n : Nat) (e : Env), I n e → n < fuel → wp (wloop c b fuel e) Q
  | 0, n, e, _, hn => absurd hn (Nat.not_lt_zero n)
  | fuel + 1, n, e, h, hn => by
    obtain ⟨⟨k, e1⟩, h1, h2, h3⟩ := st n e h
    unfold wloop
    rw [h1]
    cases k with
    | false => exact wp_some.mpr (h2 rfl)
    | true =>
      obtain ⟨m, rfl, o, h4, h5⟩ := h3 rfl
      simp only [h4]
      cases o with
      | nx e2 => exact wp_wloop I st fuel m e2 h5 (by omega)
      | ct e2 => exact wp_wloop I st fuel m e2 h5 (by omega)
      | bk e2 => exact wp_some.mpr h5
      | rt t e2 => exact wp_some.mpr h5
end
@[simp] theorem rangeT_map (lo : Int) (n : Nat) : rangeT lo n = (List.range n).map fun (k : Nat) => T.int (lo + k) := rfl
end GK

/-! GK38: comparing and showing values of data. -/
namespace GK
open PySem L2
/-- data of at most a depth, with texts of letters -/
def T.fit : Nat → T → Prop
  | _, .non => True
  | _, .bl _ => True
  | _, .int _ => True
  | _, .str s => ∀ c ∈ s, c < 1114112
  | n + 1, .tup xs => ∀ x ∈ xs, T.fit n x
  | n + 1, .lst _ xs => ∀ x ∈ xs, T.fit n x
  | n + 1, .scr xs => ∀ x ∈ xs, T.fit n x
  | _, _ => False
section
variable {n : Nat}
@[simp] theorem fit_non : T.fit n .non = True := by cases n <;> rfl
@[simp] theorem fit_bl {b : Bool} : T.fit n (.bl b) = True := by cases n <;> rfl
@[simp] theorem fit_int {i : Int} : T.fit n (.int i) = True := by cases n <;> rfl
@[simp] theorem fit_str {s : List Nat} : T.fit n (.str s) = ∀ c ∈ s, c < 1114112 := by cases n <;> rfl
@[simp] theorem fit_tup {xs : List T} : T.fit (n + 1) (.tup xs) = ∀ x ∈ xs, T.fit n x := rfl
@[simp] theorem fit_lst {o : Bool} {xs : List T} : T.fit (n + 1) (.lst o xs) = ∀ x ∈ xs, T.fit n x := rfl
theorem fits_data {n : Nat} (ih : ∀ t, T.fit n t → ∃ d, t.data = some d ∧ d.canLay0 = true ∧ d.depth ≤ n) : ∀ xs : List T, (∀ x ∈ xs, T.fit n x) → ∃ ds, T.datas xs = some ds ∧ PyData.canLayAll0 ds = true ∧ PyData.depthAll ds ≤ n
  | [], _ => ⟨[], by simp [T.datas], by simp [PyData.canLayAll0], by simp [PyData.depthAll]⟩
  | x :: r, h => by
    obtain ⟨d, h1, h2, h3⟩ := ih x (h x List.mem_cons_self)
    obtain ⟨ds, h4, h5, h6⟩ := fits_data ih r fun y hy => h y (List.mem_cons_of_mem _ hy)
    refine ⟨d :: ds, by simp [T.datas, h1, h4], by simp [PyData.canLayAll0, h2, h5], ?_⟩
    simp only [PyData.depthAll]
    exact Nat.max_le.mpr ⟨h3, h6⟩
theorem fit_data : ∀ (n : Nat) (t : T), T.fit n t → ∃ d, t.data = some d ∧ d.canLay0 = true ∧ d.depth ≤ n
  | n, .non, _ => ⟨.none, by simp [T.data], by simp [PyData.canLay0], by simp [PyData.depth]⟩
  | n, .bl b, _ => ⟨.bool b, by simp [T.data], by simp [PyData.canLay0], by simp [PyData.depth]⟩
  | n, .int b, _ => ⟨.int b, by simp [T.data], by simp [PyData.canLay0], by simp [PyData.depth]⟩
  | n, .str s, h => ⟨.str (S s), by simp [T.data], by
      rw [fit_str] at h
      show (S s).cps.all (· < 0x110000) = true
      simp [S]
      exact h, by simp [PyData.depth]⟩
  | n + 1, .tup xs, h => by
    obtain ⟨ds, h1, h2, h3⟩ := fits_data (fun t => fit_data n t) xs h
    exact ⟨.tuple ds, by simp [T.data, h1], by simp [PyData.canLay0, h2], by simp [PyData.depth, h3]⟩
  | n + 1, .lst o xs, h => by
    obtain ⟨ds, h1, h2, h3⟩ := fits_data (fun t => fit_data n t) xs h
    exact ⟨.list ds, by simp [T.data, h1], by simp [PyData.canLay0, h2], by simp [PyData.depth, h3]⟩
  | n + 1, .scr xs, h => by
    obtain ⟨ds, h1, h2, h3⟩ := fits_data (fun t => fit_data n t) xs h
    exact ⟨.list ds, by simp [T.data, h1], by simp [PyData.canLay0, h2], by simp [PyData.depth, h3]⟩
  | 0, .tup xs, h => h.elim
  | 0, .lst _ xs, h => h.elim
  | 0, .scr xs, h => h.elim
  | 0, .dic _ _, h => h.elim
  | 0, .obj _ _ _, h => h.elim
  | n + 1, .dic _ _, h => h.elim
  | n + 1, .obj _ _ _, h => h.elim
theorem shaped_fit {n : Nat} {t : T} (hn : n ≤ 64) (h : T.fit n t) : t.shaped = true := by
  obtain ⟨d, h1, h2, h3⟩ := fit_data n t h
  unfold T.shaped
  rw [h1]
  show (d.canLay0 && decide (d.depth ≤ 64)) = true
  rw [h2, decide_eq_true (by omega)]; rfl
theorem fEq_fit {a b : T} (ha : T.fit 64 a) (hb : T.fit 64 b) : fEq a b = some (T.eqv a b) := by
  have e : (a.shaped && b.shaped) = true := by rw [shaped_fit (Nat.le_refl _) ha, shaped_fit (Nat.le_refl _) hb]; rfl
  cases a <;> cases b <;> first
    | rfl
    | (simp only [fEq]; rw [if_pos e])
    | (simp [fEq, T.eqv])
theorem cEq_fit {a b : T} (ha : T.fit 64 a) (hb : T.fit 64 b) : cEq a b = some (.bl (T.eqv a b)) := by unfold cEq; rw [fEq_fit ha hb]; rfl
theorem cNe_fit {a b : T} (ha : T.fit 64 a) (hb : T.fit 64 b) : cNe a b = some (.bl (!T.eqv a b)) := by unfold cNe; rw [fEq_fit ha hb]; rfl
theorem eqvs_nil {xs : List T} : T.eqvs xs [] = xs.isEmpty := by cases xs <;> simp [T.eqvs]
theorem cEq_lst_nil {o o' : Bool} {xs : List T} (h : T.fit 64 (.lst o xs)) : cEq (.lst o xs) (.lst o' []) = some (.bl xs.isEmpty) := by
  rw [cEq_fit h (by simp)]
  simp [T.eqv, eqvs_nil]
theorem cNe_lst_nil {o o' : Bool} {xs : List T} (h : T.fit 64 (.lst o xs)) : cNe (.lst o xs) (.lst o' []) = some (.bl (!xs.isEmpty)) := by
  rw [cNe_fit h (by simp)]
  simp [T.eqv, eqvs_nil]
def boolS (b : Bool) : List Nat := if b then [84, 114, 117, 101] else [70, 97, 108, 115, 101]
@[simp] theorem fRepr_bl {b : Bool} : fRepr [.bl b] = some (.str (boolS b)) := by cases b <;> kernel_rfl
@[simp] theorem boolS_inj {a b : Bool} : boolS a = boolS b ↔ a = b := by cases a <;> cases b <;> decide
end
end GK

/-! GK39: list(a text). -/
namespace GK
open PySem L2 PySem.Spec PyProof.Rows
def rListStr : List V → Hp → VK → Prop := fun xs H Q => ∃ z : List Nat, xs = [.str (S z)] ∧ z.length ≤ sizeLine ∧ ∀ p, H p = none → Q (.ref p) (upd H p (.lst (z.map fun c => V.str (S [c]))))
theorem call_listStr {X : Cx} (hc : X.calm = true) : CallR X (.type "list") rListStr := by
  intro pins s σ H xs us Q I r h
  obtain ⟨z, rfl, hz, q⟩ := h
  cases r with
  | cons r1 r2 =>
    cases r2
    obtain ⟨tk, rfl⟩ := r1
    refine call_list_str (I.ok.hd hc) (S z) tk (fun h' tk' acc c' kp e hit => ?_) (by simpa [S] using hz)
    have hS := strs_signs hit
    have e1 : (S z).cps.toList.map (fun c => (⟨#[c]⟩ : Str)) = z.map fun c => S [c] := by rw [S_toList]; rfl
    rw [e1] at hS
    have e2 : (z.map fun c => S [c]).map V.str = z.map fun c => V.str (S [c]) := by rw [List.map_map]; rfl
    exact ⟨.ref s.heap.objs.size, upd H s.heap.objs.size (.lst (z.map fun c => V.str (S [c]))), I.laid (t' := tk') kp (Nat.le_refl _) (show ObjOk X.prog X.w _ h' _ (.lst (z.map fun c => V.str (S [c]))) from ⟨by rw [List.length_map]; exact hz, acc.toList, c', by rw [← e2]; exact vals_of_strs hS, by simpa using e⟩), rfl, q _ (I.hok.fresh (Nat.le_refl _))⟩
def fListS : List T → Option T
  | [.str z] => if z.length ≤ maxLen then some (.lst true (z.map fun c => .str [c])) else none
  | _ => none
section
variable {K : PySem.W.Frag} {mg : Str → Option Value}
theorem fzs_signs : ∀ {z : List Nat} {H : Hp}, Fzs K mg H (z.map fun c => V.str (S [c])) (z.map fun c => T.str [c])
  | [], _ => .nil
  | _ :: _, _ => .cons (.str _) fzs_signs
theorem cp_listS : CallP K mg rListStr fListS := fun H1 H vs ts t s a e Q q => by
  unfold fListS at e
  split at e
  · split at e
    · rename_i hz
      cases e
      obtain ⟨v, G, rfl, r⟩ := a.one
      have := r.strE
      subst this
      exact ⟨_, rfl, hz, newL s fzs_signs q⟩
    · cases e
  · cases e
def fListU (xs : List T) : Option T := match fList xs with | some t => some t | none => fListS xs
theorem cp_listU {r : List V → Hp → VK → Prop} (h : CallP K mg r fList) : CallP K mg (fun xs H Q => r xs H Q ∨ rListStr xs H Q) fListU := fun H1 H vs ts t s a e Q q => by
  unfold fListU at e
  cases e1 : fList ts with
  | some t' => rw [e1] at e; cases e; exact .inl (h _ _ _ _ _ s a e1 Q q)
  | none => rw [e1] at e; exact .inr (cp_listS _ _ _ _ _ s a e Q q)
end
section
variable {xs : List T} {o : Bool} {z : List Nat}
@[simp] theorem fListU_str : fListU [.str z] = if z.length ≤ maxLen then some (.lst true (z.map fun c => .str [c])) else none := rfl
@[simp] theorem fListU_lst {Q : T → Prop} : wp (fListU [.lst o xs]) Q ↔ xs.all T.sh = true ∧ Q (.lst true xs) := by
  show wp (match (if xs.all T.sh = true then some (T.lst true xs) else none) with | some t => some t | none => none) Q ↔ _
  by_cases h : xs.all T.sh = true
  · rw [if_pos h]; simp only [wp_some]; exact ⟨fun q => ⟨h, q⟩, fun q => q.2⟩
  · rw [if_neg h]; exact ⟨fun q => (wp_none.mp q).elim, fun q => absurd q.1 h⟩
@[simp] theorem fListU_scr {Q : T → Prop} : wp (fListU [.scr xs]) Q ↔ xs.all T.sh = true ∧ Q (.lst true xs) := by
  show wp (match (if xs.all T.sh = true then some (T.lst true xs) else none) with | some t => some t | none => none) Q ↔ _
  by_cases h : xs.all T.sh = true
  · rw [if_pos h]; simp only [wp_some]; exact ⟨fun q => ⟨h, q⟩, fun q => q.2⟩
  · rw [if_neg h]; exact ⟨fun q => (wp_none.mp q).elim, fun q => absurd q.1 h⟩
@[simp] theorem fListU_tup : fListU [.tup xs] = some (.lst true xs) := rfl
end
end GK

/-! GK40: which values have a repr. -/
namespace GK
open PySem L2 PySem.Spec PyProof.Rows
def T.rp : Nat → Nat → T → Prop
  | _, _, .non => True
  | _, _, .bl _ => True
  | _, W, .int i => i.natAbs < 1000000000000 ∧ 40 ≤ W
  | _, W, .str s => (∀ c ∈ s, c < 1114112) ∧ s.length ≤ W
  | n + 1, W, .tup xs => ∃ w, (∀ x ∈ xs, T.rp n w x) ∧ xs.length * (w + 1) ≤ W
  | n + 1, W, .lst _ xs => ∃ w, (∀ x ∈ xs, T.rp n w x) ∧ xs.length * (w + 1) ≤ W
  | _, _, _ => False
theorem int_short {i : Int} (h : i.natAbs < 1000000000000) : (Str.ofString (toString i)).length ≤ 13 := by
  by_cases h0 : 0 ≤ i
  · exact Nat.le_trans (toString_length_le h0 (k := 12) (by decide) (by have : (10 : Int) ^ 12 = 1000000000000 := by decide
                                                                        rw [this]; omega)) (by decide)
  · have e := len_text_neg (n := i) (by omega)
    have := toString_length_le (v := 0 - i) (by omega) (k := 12) (by decide) (by have : (10 : Int) ^ 12 = 1000000000000 := by decide
                                                                                 rw [this]; omega)
    omega
theorem rps_data {n w : Nat} (ih : ∀ t, T.rp n w t → ∃ d, t.data = some d ∧ d.canLay0 = true ∧ d.depth ≤ n ∧ d.weight ≤ w ∧ d.intsShort 13 = true ∧ d.showable = true) : ∀ xs : List T, (∀ x ∈ xs, T.rp n w x) →
    ∃ ds, T.datas xs = some ds ∧ PyData.canLayAll0 ds = true ∧ PyData.depthAll ds ≤ n ∧ PyData.weightAll ds ≤ xs.length * (w + 1) ∧ PyData.intsShortAll 13 ds = true ∧ PyData.showableAll ds = true
  | [], _ => ⟨[], by simp [T.datas], by simp [PyData.canLayAll0], by simp [PyData.depthAll], by simp [PyData.weightAll], by simp [PyData.intsShortAll], by simp [PyData.showableAll]⟩
  | x :: r, h => by
    obtain ⟨d, h1, h2, h3, h7, h8, h9⟩ := ih x (h x List.mem_cons_self)
    obtain ⟨ds, h4, h5, h6, g7, g8, g9⟩ := rps_data ih r fun y hy => h y (List.mem_cons_of_mem _ hy)
    refine ⟨d :: ds, by simp [T.datas, h1, h4], by simp [PyData.canLayAll0, h2, h5], ?_, ?_, by simp [PyData.intsShortAll, h8, g8], by simp [PyData.showableAll, h9, g9]⟩
    · simp only [PyData.depthAll]
      exact Nat.max_le.mpr ⟨h3, h6⟩
    · simp only [PyData.weightAll, List.length_cons, Nat.succ_mul]
      omega
theorem rp_data : ∀ (n W : Nat) (t : T), T.rp n W t → ∃ d, t.data = some d ∧ d.canLay0 = true ∧ d.depth ≤ n ∧ d.weight ≤ W ∧ d.intsShort 13 = true ∧ d.showable = true
  | n, W, .non, _ => ⟨.none, by simp [T.data], by simp [PyData.canLay0], by simp [PyData.depth], by simp [PyData.weight], by simp [PyData.intsShort], by simp [PyData.showable]⟩
  | n, W, .bl b, _ => ⟨.bool b, by simp [T.data], by simp [PyData.canLay0], by simp [PyData.depth], by simp [PyData.weight], by simp [PyData.intsShort], by simp [PyData.showable]⟩
  | n, W, .int i, h => by
    have h : i.natAbs < 1000000000000 ∧ 40 ≤ W := by cases n <;> exact h
    have hl : i.natAbs.log2 < 40 := by
      by_cases h0 : i.natAbs = 0
      · rw [h0]; decide
      · exact (Nat.log2_lt h0).mpr (Nat.lt_of_lt_of_le h.1 (by decide))
    refine ⟨.int i, by simp [T.data], by simp [PyData.canLay0], by simp [PyData.depth], ?_, ?_, ?_⟩
    · simp only [PyData.weight]
      split <;> omega
    · simp only [PyData.intsShort, PyData.shown]
      exact decide_eq_true (int_short h.1)
    · simp only [PyData.showable, decide_eq_true_eq]
      omega
  | n, W, .str s, h => by
    have h : (∀ c ∈ s, c < 1114112) ∧ s.length ≤ W := by cases n <;> exact h
    refine ⟨.str (S s), by simp [T.data], ?_, by simp [PyData.depth], by simp only [PyData.weight]; simpa [S] using h.2, by simp [PyData.intsShort], by simp [PyData.showable]⟩
    show (S s).cps.all (· < 0x110000) = true
    simp [S]
    exact h.1
  | n + 1, W, .tup xs, h => by
    obtain ⟨w, h, hw⟩ := h
    obtain ⟨ds, h1, h2, h3, h4, h5, h6⟩ := rps_data (fun t => rp_data n w t) xs h
    exact ⟨.tuple ds, by simp [T.data, h1], by simp [PyData.canLay0, h2], by simp [PyData.depth, h3], by simp only [PyData.weight]; omega, by simp [PyData.intsShort, h5], by simp [PyData.showable, h6]⟩
  | n + 1, W, .lst o xs, h => by
    obtain ⟨w, h, hw⟩ := h
    obtain ⟨ds, h1, h2, h3, h4, h5, h6⟩ := rps_data (fun t => rp_data n w t) xs h
    exact ⟨.list ds, by simp [T.data, h1], by simp [PyData.canLay0, h2], by simp [PyData.depth, h3], by simp only [PyData.weight]; omega, by simp [PyData.intsShort, h5], by simp [PyData.showable, h6]⟩
  | 0, _, .tup xs, h => h.elim
  | 0, _, .lst _ xs, h => h.elim
  | 0, _, .scr xs, h => h.elim
  | 0, _, .dic _ _, h => h.elim
  | 0, _, .obj _ _ _, h => h.elim
  | n + 1, _, .scr _, h => h.elim
  | n + 1, _, .dic _ _, h => h.elim
  | n + 1, _, .obj _ _ _, h => h.elim
theorem repr_of {t : T} (h : T.rp 8 1000000 t) : ∃ r, fRepr [t] = some (.str r) := by
  obtain ⟨d, h1, h2, h3, h4, h5, h6⟩ := rp_data _ _ t h
  have hl : d.layable0 = true := by
    show (d.canLay0 && decide (d.depth ≤ 64) && decide (d.weight ≤ 2 ^ 20)) = true
    rw [h2, decide_eq_true (by omega), decide_eq_true (Nat.le_trans h4 (by decide))]; rfl
  have hs := shown_le13 hl h5
  refine ⟨d.shown.cps.toList, ?_⟩
  unfold fRepr
  simp only [h1]
  rw [if_pos]
  rw [h6, PyData.hasDict_of_canLay d h2, decide_eq_true h3, decide_eq_true (show d.shown.length ≤ 16777216 by omega)]
  rfl
section
variable {n W : Nat}
@[simp] theorem rp_non : T.rp n W .non = True := by cases n <;> rfl
@[simp] theorem rp_bl {b : Bool} : T.rp n W (.bl b) = True := by cases n <;> rfl
theorem rp_int {i : Int} (h : i.natAbs < 1000000000000) (hw : 40 ≤ W) : T.rp n W (.int i) := by cases n <;> exact ⟨h, hw⟩
theorem rp_str {s : List Nat} (h : ∀ c ∈ s, c < 1114112) (hw : s.length ≤ W) : T.rp n W (.str s) := by cases n <;> exact ⟨h, hw⟩
theorem rp_tup {xs : List T} (w : Nat) (h : ∀ x ∈ xs, T.rp n w x) (hw : xs.length * (w + 1) ≤ W) : T.rp (n + 1) W (.tup xs) := ⟨w, h, hw⟩
theorem rp_lst {o : Bool} {xs : List T} (w : Nat) (h : ∀ x ∈ xs, T.rp n w x) (hw : xs.length * (w + 1) ≤ W) : T.rp (n + 1) W (.lst o xs) := ⟨w, h, hw⟩
end
end GK

/-! GK41: x[::-1] of a list, a text. -/
namespace GK
open PySem L2 PySem.Spec PyProof.Rows
def rRev (K : PySem.W.Frag) : V → Hp → VK → Prop := fun x H Q => (∃ a xs, x = .ref a ∧ SqL K H a xs ∧ ∀ p, H p = none → Q (.ref p) (upd H p (.lst xs.reverse))) ∨ ∃ z : List Nat, x = .str (S z) ∧ z.length ≤ sizeLine ∧ Q (.str (S z.reverse)) H
theorem pick_str (z : Str) : ((Builtin.Str.strSliceIndices none none (-1) z.length).filterMap (z.cps[·]?)).toArray = z.cps.toList.reverse.toArray := by
  have e : Builtin.Str.strSliceIndices none none (-1) z.length = sliceRange ((z.cps.size : Int) - 1) (-1) (-1) := by
    unfold Builtin.Str.strSliceIndices
    rfl
  rw [e, PySem.W.krv_sliceRange, PySem.W.krv_range, List.filterMap_reverse, PySem.W.krv_all]
section
variable {X : Cx}
theorem pe_rev {e : Expr} {te : TE} {k : Nat} {p1 p2 p3 pos : Pos} (he : PE X e te) : PE X (.Subscript e (.Slice none none (some (.UnaryOp .USub (.Constant (.int 1) k p1) p2)) p3) pos) (tUn (rRev X.K) te) := by
  refine ⟨fun pins s σ H Q I h => ?_⟩
  refine Subscript_ (thn (he.run pins s σ H _ I h) fun v s1 ⟨x, H1, I1, r1, q1⟩ => ?_)
  have hst : PO X (some (.UnaryOp .USub (.Constant (.int 1) k p1) p2)) (tPart (tUn (rU fun i => .int (-i)) (tC (.int 1)))) := po_some (pe_un un_neg pe_int)
  refine wpAny_Slice (thn (po_none.run pins s1 σ H1 (fun o H2 => o = none ∧ H2 = H1) I1 ⟨rfl, rfl⟩) fun vl s2 ⟨l, H2, I2, pl, el, e2⟩ => ?_)
  subst el e2
  refine thn (po_none.run pins s2 σ H2 (fun o H3 => o = none ∧ H3 = H2) I2 ⟨rfl, rfl⟩) fun vu s3 ⟨u, H3, I3, pu, eu, e3⟩ => ?_
  subst eu e3
  refine thn (hst.run pins s3 σ H3 (fun o H4 => o = some (-1) ∧ H4 = H3) I3 ⟨1, rfl, -1, rfl, rfl, rfl⟩) fun vs s4 ⟨o, H4, I4, ps, eo, e4⟩ => ?_
  subst eo e4
  have I5 : Inv X pins σ H4 { s4 with heap := s4.heap.push { cls := .type "slice", data := .fields #[vl, vu, vs] } } := I4.kept (t' := s4.toks) fun b ob q => Heap.get?_push_of_some _ q
  rcases q1 with ⟨a, xs, ex, hx, q⟩ | ⟨z, ex, hz, q⟩
  · subst ex
    cases r1
    obtain ⟨its, r, ht, hz⟩ := I5.list hx
    have hlen := r.length
    show wpAny (model X.prog X.w) X.A (subscriptTail e (.Slice none none (some (.UnaryOp .USub (.Constant (.int 1) k p1) p2)) p3) (.ref a) (.ref s4.heap.objs.size)) (EP X pins σ Q) X.xe { s4 with heap := s4.heap.push { cls := .type "slice", data := .fields #[vl, vu, vs] } }
    refine tail_any (ops := [.ref a, .ref s4.heap.objs.size]) ht.isList.typeIs (PySem.slot_list_getitem.lookup) ?_ (by with_unfolding_all rfl)
    refine wpAny_getItem_list_slice ht.isList (Heap.IsSliceOf.new _ vl vu vs) pl pu ps (by decide) ?_ (by rw [List.size_toArray]; omega)
    rw [PySem.W.krv_pick]
    refine ⟨.ref _, _, I5.laid (t' := s4.toks) (o := .lst xs.reverse) (fun b ob q => Heap.get?_push_of_some _ q) (Nat.le_refl _) ?_, rfl, q _ (I5.hok.fresh (Nat.le_refl _))⟩
    exact ⟨by rw [List.length_reverse]; exact hz, _, 0, r.reverse, Heap.get?_push_size _ rfl⟩
  · subst ex
    obtain ⟨t, rfl⟩ := r1
    show wpAny (model X.prog X.w) X.A (subscriptTail e (.Slice none none (some (.UnaryOp .USub (.Constant (.int 1) k p1) p2)) p3) (.str (S z) t) (.ref s4.heap.objs.size)) (EP X pins σ Q) X.xe { s4 with heap := s4.heap.push { cls := .type "slice", data := .fields #[vl, vu, vs] } }
    refine tail_any (ops := [.ref s4.heap.objs.size, .str (S z) t]) (typeIs_str _ _ _) (F.slot_str_getitem.lookup) ?_ (by with_unfolding_all rfl)
    obtain ⟨os, hos, hcs, hds⟩ := (Heap.IsSliceOf.new s4.heap vl vu vs)
    obtain ⟨l, rfl, hl⟩ := IsPart.raw pl
    obtain ⟨u, rfl, hu⟩ := IsPart.raw pu
    obtain ⟨w, rfl, hw⟩ := IsPart.raw ps
    have el : l = none := by cases l with | none => rfl | some _ => cases hl
    have eu : u = none := by cases u with | none => rfl | some _ => cases hu
    subst el eu
    refine wpAny_getItem_str_slice (l := none) (u := none) (st := w) ⟨os, hos, hcs, hds⟩ (by rw [hw]; rfl) ?_
    have e1 : sliceMade (S z) t none none w = Made.str (S z.reverse) := by
      unfold sliceMade slicePicked
      rw [hw]
      refine Eq.trans (if_neg ?_) ?_
      · show ¬ ((false && _) = true)
        simp
      show Made.str ⟨((Builtin.Str.strSliceIndices none none (-1) (S z).length).filterMap ((S z).cps[·]?)).toArray⟩ = _
      rw [pick_str, S_toList]
      rfl
    rw [e1]
    exact ⟨by rw [S_length, List.length_reverse]; exact hz, .str _, H4, I5.tok _, ⟨_, rfl⟩, q⟩
end
def fRev : T → Option T
  | .str s => if s.length ≤ maxLen then some (.str s.reverse) else none
  | .lst _ xs => if xs.all T.sh then some (.lst true xs.reverse) else none
  | _ => none
section
variable {K : PySem.W.Frag} {mg : Str → Option Value}
theorem Fzs.reverse : ∀ {vs : List V} {ts : List T} {H : Hp}, Fzs K mg H vs ts → Fzs K mg H vs.reverse ts.reverse
  | _, _, _, .nil => .nil
  | _, _, _, .cons a r => by
    rw [List.reverse_cons, List.reverse_cons]
    exact (Fzs.reverse r).append (.cons a .nil)
theorem uv_rev : UnV K mg (rRev K) fRev := fun H1 H vx tx Gx t s a e Q q => by
  unfold fRev at e
  split at e
  · split at e
    · rename_i hz
      cases e
      have := a.strE
      subst this
      exact .inr ⟨_, rfl, hz, now s (.str _) q⟩
    · cases e
  · split at e
    · rename_i hs
      cases e
      obtain ⟨p, vs, G, rfl, h2, h3⟩ := a.lst' s
      exact .inl ⟨p, vs, rfl, .inl (.inl h2), newL s (h3.fzs hs).reverse q⟩
    · cases e
  · cases e
end
theorem qe_rev {X : Cx} {e : Expr} {te : TE} {x : Env → Option T} {k : Nat} {p1 p2 p3 pos : Pos} (he : KE X e te x) : QE X (.Subscript e (.Slice none none (some (.UnaryOp .USub (.Constant (.int 1) k p1) p2)) p3) pos) (tUn (rRev X.K) te) (qUn fRev x) := ⟨pe_rev he.pe, qr_un he.kr uv_rev⟩
@[simp] theorem fRev_str {s : List Nat} : fRev (.str s) = if s.length ≤ maxLen then some (.str s.reverse) else none := rfl
@[simp] theorem fRev_lst {o : Bool} {xs : List T} : fRev (.lst o xs) = if xs.all T.sh = true then some (.lst true xs.reverse) else none := rfl
end GK

/-! GK42: text.count(sign), text.index(sign). -/
namespace GK
open PySem L2 PySem.Spec PyProof.Rows
open PySem.StrLaws Builtin Builtin.Str in
theorem occ_go (s sub : Str) (hi limit : Nat) (h1 : 1 ≤ sub.length) : ∀ (l : List Nat) (found : Array Nat) (free : Nat), (∀ i ∈ l, free ≤ i) → l.Pairwise (fun a b => a + sub.length ≤ b) →
    (forIn l (found, free) (occBody s sub hi limit)).run.fst.toList = found.toList ++ (l.filter fun i => decide (i + sub.length ≤ hi) && subAt s sub i).take (limit - found.size)
  | [], found, free, _, _ => by simp
  | a :: l, found, free, hf, hp => by
    rw [List.forIn_cons]
    unfold occBody
    have ha : free ≤ a := hf a (List.mem_cons_self ..)
    obtain ⟨p1, p2⟩ := List.pairwise_cons.mp hp
    have hl : ∀ i ∈ l, free ≤ i := fun i hi' => hf i (List.mem_cons_of_mem _ hi')
    by_cases hc : a + sub.length ≤ hi ∧ subAt s sub a = true
    · have e1 : (decide (a + sub.length ≤ hi) && subAt s sub a) = true := by simp [hc.1, hc.2]
      by_cases hz : found.size < limit
      · rw [if_pos ⟨⟨⟨hz, ha⟩, hc.1⟩, hc.2⟩]
        have ih := occ_go s sub hi limit h1 l (found.push a) (a + sub.length) p1 p2
        refine ih.trans ?_
        rw [List.filter_cons, if_pos e1]
        have e2 : limit - found.size = (limit - (found.push a).size) + 1 := by simp; omega
        rw [e2, List.take_succ_cons]
        simp
      · rw [if_neg (fun h => hz h.1.1.1)]
        have ih := occ_go s sub hi limit h1 l found free hl p2
        refine ih.trans ?_
        have e2 : limit - found.size = 0 := by omega
        rw [e2]; simp
    · rw [if_neg (fun h => hc ⟨h.1.2, h.2⟩)]
      have ih := occ_go s sub hi limit h1 l found free hl p2
      refine ih.trans ?_
      have e1 : ¬ (decide (a + sub.length ≤ hi) && subAt s sub a) = true := by
        rw [Bool.and_eq_true, decide_eq_true_eq]; exact hc
      rw [List.filter_cons, if_neg e1]
theorem subAt_one (a : List Nat) (c i : Nat) : Builtin.Str.subAt (S a) (S [c]) i = (a[i]? == some c) := by
  unfold Builtin.Str.subAt
  have e : (S a).cps.extract i (i + (S [c]).length) = (a[i]?.toList).toArray := by
    have : (S [c]).length = 1 := rfl
    rw [this]
    apply Array.toList_inj.mp
    simp [S]
    rw [List.take_one, List.head?_drop]
  rw [e]
  show ((a[i]?.toList).toArray == #[c]) = _
  cases h : a[i]? with
  | none => rfl
  | some d =>
    by_cases hd : d = c
    · subst hd; simp
    · have h1 : (some d == some c) = false := by simp [hd]
      rw [h1]
      simp [hd]
def posOf (a : List Nat) (c : Nat) : List Nat := (List.range a.length).filter fun i => a[i]? == some c
theorem occ_one (a : List Nat) (c lim : Nat) : Builtin.Str.occurrences (S a) (S [c]) 0 (S a).length lim = (posOf a c).take lim := by
  have h := occ_go (S a) (S [c]) (S a).length lim (Nat.le_refl 1) (List.range' 0 ((S a).length + 1 - 0)) #[] 0 (fun i _ => Nat.zero_le i) (by
    have := List.pairwise_lt_range' (s := 0) (n := (S a).length + 1 - 0) 
    exact this.imp fun h => h)
  rw [PySem.StrLaws.occ_eq, h]
  have e1 : (fun i => decide (i + (S [c]).length ≤ (S a).length) && Builtin.Str.subAt (S a) (S [c]) i) = fun i => a[i]? == some c := by
    funext i
    rw [subAt_one, S_length, S_length]
    by_cases hi : i < a.length
    · have : i + 1 ≤ a.length := by omega
      simp [this]
    · have : a[i]? = none := by simp; omega
      rw [this]; simp
  rw [e1]
  simp only [Array.size_empty, Nat.sub_zero, List.nil_append, S_length]
  show List.take lim _ = _
  congr 1
  have e2 : List.range' 0 (a.length + 1) = List.range a.length ++ [a.length] := by
    rw [← List.range_eq_range', List.range_succ]
  rw [e2, List.filter_append]
  unfold posOf
  simp
theorem posOf_cons (x : Nat) (r : List Nat) (c : Nat) : posOf (x :: r) c = (if x = c then [0] else []) ++ (posOf r c).map (· + 1) := by
  unfold posOf
  rw [List.length_cons, List.range_succ_eq_map, List.filter_cons, List.filter_map]
  have e : ((fun i => (x :: r)[i]? == some c) ∘ Nat.succ) = fun i => r[i]? == some c := by funext i; simp
  rw [e]
  by_cases h : x = c
  · simp [h]
  · simp [h]
theorem posOf_count (c : Nat) : ∀ a : List Nat, (posOf a c).length = a.count c
  | [] => rfl
  | x :: r => by
    rw [posOf_cons, List.length_append, List.length_map, posOf_count c r, List.count_cons]
    by_cases h : x = c
    · simp [h]; omega
    · simp [h]
theorem posOf_first (c : Nat) : ∀ a : List Nat, c ∈ a → ∃ rest, posOf a c = a.idxOf c :: rest
  | x :: r, hm => by
    rw [posOf_cons]
    by_cases h : x = c
    · subst h; exact ⟨(posOf r x).map (· + 1), by simp⟩
    · obtain ⟨rest, e⟩ := posOf_first c r ((List.mem_cons.mp hm).resolve_left fun e => h e.symm)
      refine ⟨rest.map (· + 1), ?_⟩
      rw [e, List.idxOf_cons]
      have : (x == c) = false := by simp [h]
      simp [h, this]
def fCount : T → T → Option T
  | .str a, .str [c] => some (.int (a.count c))
  | _, _ => none
def fIndex : T → T → Option T
  | .str a, .str [c] => if c ∈ a then some (.int (a.idxOf c)) else none
  | _, _ => none
section
variable {X : Cx} {o e : Expr} {to te : TE} {xo x : Env → Option T} {pos apos : Pos}
theorem qe_count (ho : KE X o to xo) (he : KE X e te x) (hs : starEach [e] X.env = [(false, eval e X.env)] := by rfl) (hbase : attributeBase o "count" X.env (eval o X.env) = eval o X.env := by rfl) (hline : (apos.endLine == pos.line) = true := by rfl) :
    QE X (.Call (.Attribute o "count" apos) [e] [] pos) (tM1 (fun x xs H Q => ∃ a b, x = .str a ∧ xs = [.str b] ∧ Q (.int (Txt.count a b)) H) to te) (qOp fCount xo x) :=
  ⟨pe_m1 PySem.F.slot_str_count PySem.F.type_str_count mt_count ho.pe he.pe hs hbase hline, fun env t e H1 H σ F s R Q q => by
    obtain ⟨u, w, e1, e2, e3⟩ := qop_some e
    unfold fCount at e3
    split at e3
    · rename_i a c
      cases e3
      refine ho.kr _ _ e1 _ _ _ _ s R _ fun v Ha Hb G1 x1 r1 => ?_
      have ev := r1.strE
      subst ev
      refine ⟨⟨_, rfl⟩, he.kr _ _ e2 _ _ _ _ x1.sub (x1.qRepE R) _ fun v2 Hc Hd G2 x2 r2 => ?_⟩
      have ev2 := r2.strE
      subst ev2
      refine ⟨_, _, rfl, rfl, ?_⟩
      have ec : Txt.count (S a) (S [c]) = ((a.count c : Nat) : Int) := by
        unfold Txt.count
        rw [occ_one, List.take_of_length_le, posOf_count]
        rw [posOf_count, S_length]
        exact Nat.le_succ_of_le List.count_le_length
      rw [ec]
      exact now x2.sub (.int _) fun v' H1' H' Ft x3 r3 => q v' H1' H' Ft ((x1.trans x2).trans x3) r3
    · cases e3⟩
theorem qe_index (ho : KE X o to xo) (he : KE X e te x) (hs : starEach [e] X.env = [(false, eval e X.env)] := by rfl) (hbase : attributeBase o "index" X.env (eval o X.env) = eval o X.env := by rfl) (hline : (apos.endLine == pos.line) = true := by rfl) :
    QE X (.Call (.Attribute o "index" apos) [e] [] pos) (tM1 (fun x xs H Q => ∃ a b i rest, x = .str a ∧ xs = [.str b] ∧ Builtin.Str.occurrences a b 0 a.length 1 = i :: rest ∧ Q (.int (i : Nat)) H) to te) (qOp fIndex xo x) :=
  ⟨pe_m1 PySem.F.slot_str_index PySem.F.type_str_index mt_sindex ho.pe he.pe hs hbase hline, fun env t e H1 H σ F s R Q q => by
    obtain ⟨u, w, e1, e2, e3⟩ := qop_some e
    unfold fIndex at e3
    split at e3
    · rename_i a c
      split at e3
      · rename_i hm
        cases e3
        refine ho.kr _ _ e1 _ _ _ _ s R _ fun v Ha Hb G1 x1 r1 => ?_
        have ev := r1.strE
        subst ev
        refine ⟨⟨_, rfl⟩, he.kr _ _ e2 _ _ _ _ x1.sub (x1.qRepE R) _ fun v2 Hc Hd G2 x2 r2 => ?_⟩
        have ev2 := r2.strE
        subst ev2
        obtain ⟨rest, er⟩ := posOf_first c a hm
        refine ⟨_, _, _, _, rfl, rfl, by rw [occ_one, er, List.take_succ_cons], ?_⟩
        exact now x2.sub (.int _) fun v' H1' H' Ft x3 r3 => q v' H1' H' Ft ((x1.trans x2).trans x3) r3
      · cases e3
    · cases e3⟩
end
@[simp] theorem fCount_str {a : List Nat} {c : Nat} : fCount (.str a) (.str [c]) = some (.int (a.count c)) := rfl
@[simp] theorem fIndex_str {a : List Nat} {c : Nat} : fIndex (.str a) (.str [c]) = if c ∈ a then some (.int (a.idxOf c)) else none := rfl
end GK

/-! GK43: sum(a tuple). -/
namespace GK
open PySem L2 PySem.Spec PyProof.Rows
section
variable {prog : Program} {w : World} {A : Around} {E : Value → Shared → Prop} {s : Shared} {l : Addr} {its : List Value} {ns : List Int} {Q : Value → Shared → Prop}
theorem sum_rawT (hh : A.handled = none) (hl : s.heap.IsTuple l its.toArray) (hi : IntsAre its ns)
    (h : ∀ h' tk t', (∀ b o, s.heap.get? b = some o → h'.get? b = some o) → Q (.int ns.sum t') { s with heap := h', toks := tk }) : wpAny (model prog w) A (call (.builtin "sum") [.ref l]) Q E s := by
  obtain ⟨xs, e⟩ := hi.allInts.items
  have hn : numsOf (intItems xs).toList = ns := by rw [← e]; exact hi.numsOf
  rw [nums_intItems] at hn
  rw [e] at hl
  have hlt : l < s.heap.objs.size := by obtain ⟨_, e, _⟩ := hl; exact Heap.lt_size e
  refine call_sum_walkG (wpAny_pyIter_tuple hl ?_)
  refine ⟨_, _, _, _, _, _, numAt xs, rfl, Walks.tuple (A := A.in1) hh _ l (Nat.ne_of_lt hlt) (intItems xs), ⟨⟨_, Heap.get?_push_size _ rfl, rfl, rfl⟩, hl.at fun o e => Heap.get?_push_of_some _ e⟩, fun b hb => ?_, (fun _ _ => intItems_at), fun h' tk t' hk => ?_⟩
  · show b < (s.heap.push _).objs.size
    rw [Heap.size_push]
    rcases List.mem_cons.mp hb with rfl | hb
    · exact Nat.lt_succ_self _
    · rcases List.mem_cons.mp hb with rfl | hb
      · exact Nat.lt_succ_of_lt hlt
      · cases hb
  · have := h h' tk t' fun b o e => hk b o (fun q => by
      have := Heap.lt_size e
      rw [List.mem_singleton.mp q] at this
      exact Nat.lt_irrefl _ this) (Heap.get?_push_of_some _ e)
    simp only [intItems] at this ⊢
    rw [preSum_eq, List.take_of_length_le (by simp), hn]; exact this
end
def rSumT (K : PySem.W.Frag) : List V → Hp → VK → Prop := fun vs H Q => ∃ (a : Addr) (ns : List Int), vs = [V.ref a] ∧ SqT K H a (ns.map V.int) ∧ Q (.int ns.sum) H
theorem cr_sumT {X : Cx} (hc : X.calm = true) : CallR X (.builtin "sum") (rSumT X.K) := by
  intro pins s σ H vs us Q I r h
  obtain ⟨a, ns, rfl, hs, q⟩ := h
  obtain ⟨its, rv, hl, _⟩ := I.tuple hs
  rw [Vals.ref1 r]
  exact sum_rawT (I.ok.hd hc) hl rv.ints fun h' tk t' hk => ⟨.int _, H, I.kept hk, ⟨_, rfl⟩, q⟩
def fSumT : List T → Option T
  | [.tup xs] => (T.ints xs).map fun ns => .int ns.sum
  | _ => none
def fSumU (xs : List T) : Option T := match fSum xs with | some t => some t | none => fSumT xs
section
variable {K : PySem.W.Frag} {mg : Str → Option Value}
theorem cp_sumT : CallP K mg (rSumT K) fSumT := fun H1 H vs ts t s a e Q q => by
  unfold fSumT at e
  split at e
  · rw [Option.map_eq_some_iff] at e
    obtain ⟨ns, hn, rfl⟩ := e
    obtain ⟨v, G, rfl, r⟩ := a.one
    obtain ⟨p, vs, rfl, h2, h3⟩ := r.tuple s
    obtain ⟨F, h4, _⟩ := h3.reps (H := H)
    rw [h4.ints hn] at h2
    exact ⟨p, ns, rfl, h2, now s (.int _) q⟩
  · cases e
theorem cp_sumU {r r' : List V → Hp → VK → Prop} (h : CallP K mg r fSum) (h' : CallP K mg r' fSumT) : CallP K mg (fun xs H Q => r xs H Q ∨ r' xs H Q) fSumU := fun H1 H vs ts t s a e Q q => by
  unfold fSumU at e
  cases e1 : fSum ts with
  | some t' => rw [e1] at e; cases e; exact .inl (h _ _ _ _ _ s a e1 Q q)
  | none => rw [e1] at e; exact .inr (h' _ _ _ _ _ s a e Q q)
end
@[simp] theorem fSumU_ints {α : Type} {o : Bool} {f : α → Int} {l : List α} : fSumU [.lst o (l.map fun a => .int (f a))] = some (.int (l.map f).sum) := by
  unfold fSumU; rw [fSum_ints]
@[simp] theorem fSumU_tup {α : Type} {f : α → Int} {l : List α} : fSumU [.tup (l.map fun a => .int (f a))] = some (.int (l.map f).sum) := by
  show Option.map _ (T.ints _) = _
  rw [ints_mapf]; rfl
end GK

/-! GK44: isinstance(x, int), of bool, tuple, list. -/
namespace GK
open PySem L2 PySem.Spec PyProof.Rows
section
variable {K : PySem.W.Frag}
def fIsInt : T → Option T
  | .bl _ => some (.bl true)
  | .int _ => some (.bl true)
  | .obj _ _ _ => none
  | _ => some (.bl false)
theorem kit_intTy {t : T} {n : String} {b : Bool} (e : t.tyName = some n) (h : fIsInt t = some (.bl b)) : PySem.W.kitOne K (.type n) (.type "int") = some b := by
  refine kit_ty ?_
  cases t <;> cases e <;> cases h <;> decide +kernel
theorem fIsInt_ofbl {t u : T} (h : fIsInt t = some u) : ∃ b n, u = .bl b ∧ t.tyName = some n := by
  cases t <;> cases h <;> exact ⟨_, _, rfl, rfl⟩
def fIsBool : T → Option T
  | .bl _ => some (.bl true)
  | .obj _ _ _ => none
  | _ => some (.bl false)
theorem kit_boolTy {t : T} {n : String} {b : Bool} (e : t.tyName = some n) (h : fIsBool t = some (.bl b)) : PySem.W.kitOne K (.type n) (.type "bool") = some b := by
  refine kit_ty ?_
  cases t <;> cases e <;> cases h <;> decide +kernel
theorem fIsBool_ofbl {t u : T} (h : fIsBool t = some u) : ∃ b n, u = .bl b ∧ t.tyName = some n := by
  cases t <;> cases h <;> exact ⟨_, _, rfl, rfl⟩
def fIsTup : T → Option T
  | .tup _ => some (.bl true)
  | .obj _ _ _ => none
  | _ => some (.bl false)
theorem kit_tupTy {t : T} {n : String} {b : Bool} (e : t.tyName = some n) (h : fIsTup t = some (.bl b)) : PySem.W.kitOne K (.type n) (.type "tuple") = some b := by
  refine kit_ty ?_
  cases t <;> cases e <;> cases h <;> decide +kernel
theorem fIsTup_ofbl {t u : T} (h : fIsTup t = some u) : ∃ b n, u = .bl b ∧ t.tyName = some n := by
  cases t <;> cases h <;> exact ⟨_, _, rfl, rfl⟩
def fIsLst : T → Option T
  | .lst _ _ => some (.bl true)
  | .scr _ => some (.bl true)
  | .obj _ _ _ => none
  | _ => some (.bl false)
theorem kit_lstTy {t : T} {n : String} {b : Bool} (e : t.tyName = some n) (h : fIsLst t = some (.bl b)) : PySem.W.kitOne K (.type n) (.type "list") = some b := by
  refine kit_ty ?_
  cases t <;> cases e <;> cases h <;> decide +kernel
theorem fIsLst_ofbl {t u : T} (h : fIsLst t = some u) : ∃ b n, u = .bl b ∧ t.tyName = some n := by
  cases t <;> cases h <;> exact ⟨_, _, rfl, rfl⟩
end
section
variable {X : Cx} {a : Expr} {ta : TE} {x : Env → Option T} {p p2 pos : Pos}
theorem qe_isInt (hg : Gl X "isinstance") (hm : X.mg "isinstance" = none) (hg2 : Gl X "int") (hm2 : X.mg "int" = none) (ha : KE X a ta x)
    (h1 : starEach [a, .Name "int" p2] X.env = (false, eval a X.env) :: starEach [.Name "int" p2] X.env := by rfl) (h2 : starEach [.Name "int" p2] X.env = (false, eval (.Name "int" p2) X.env) :: starEach [] X.env := by rfl) (hpl : (backTo pos (starEach [.Name "int" p2] X.env)).any (·.1) = false := by rfl) :
    QE X (.Call (.Name "isinstance" p) [a, .Name "int" p2] [] pos) (tCB (rIsi X.K) (tCons ta (tCons (tC (.ty "int")) tNil))) (qUn fIsInt x) :=
  ⟨pe_callB call_isi hg hm (by decide +kernel) (pa_cons ha.pe (pa_cons (pe_bltn (v := .ty "int") hg2 hm2 (by decide +kernel) rfl) pa_nil h2) h1) (by decide) (by decide) h1 hpl, fun env t e H1 H σ F s R Q q => by
    unfold qUn at e
    split at e
    · cases e
    · rename_i u e1
      obtain ⟨k, n, rfl, hn⟩ := fIsInt_ofbl e
      exact ha.kr _ _ e1 _ _ _ _ s R _ fun v Ha Hb G x1 r1 => ⟨v, .ty "int", .type n, .type "int", k, rfl, .ty "int", tyx_of x1.sub r1 hn, kit_intTy hn e, now x1.sub (.bl k) fun v H1' H' Ft x2 r2 => q v H1' H' Ft (x1.trans x2) r2⟩⟩
theorem qe_isBool (hg : Gl X "isinstance") (hm : X.mg "isinstance" = none) (hg2 : Gl X "bool") (hm2 : X.mg "bool" = none) (ha : KE X a ta x)
    (h1 : starEach [a, .Name "bool" p2] X.env = (false, eval a X.env) :: starEach [.Name "bool" p2] X.env := by rfl) (h2 : starEach [.Name "bool" p2] X.env = (false, eval (.Name "bool" p2) X.env) :: starEach [] X.env := by rfl) (hpl : (backTo pos (starEach [.Name "bool" p2] X.env)).any (·.1) = false := by rfl) :
    QE X (.Call (.Name "isinstance" p) [a, .Name "bool" p2] [] pos) (tCB (rIsi X.K) (tCons ta (tCons (tC (.ty "bool")) tNil))) (qUn fIsBool x) :=
  ⟨pe_callB call_isi hg hm (by decide +kernel) (pa_cons ha.pe (pa_cons (pe_bltn (v := .ty "bool") hg2 hm2 (by decide +kernel) rfl) pa_nil h2) h1) (by decide) (by decide) h1 hpl, fun env t e H1 H σ F s R Q q => by
    unfold qUn at e
    split at e
    · cases e
    · rename_i u e1
      obtain ⟨k, n, rfl, hn⟩ := fIsBool_ofbl e
      exact ha.kr _ _ e1 _ _ _ _ s R _ fun v Ha Hb G x1 r1 => ⟨v, .ty "bool", .type n, .type "bool", k, rfl, .ty "bool", tyx_of x1.sub r1 hn, kit_boolTy hn e, now x1.sub (.bl k) fun v H1' H' Ft x2 r2 => q v H1' H' Ft (x1.trans x2) r2⟩⟩
theorem qe_isTup (hg : Gl X "isinstance") (hm : X.mg "isinstance" = none) (hg2 : Gl X "tuple") (hm2 : X.mg "tuple" = none) (ha : KE X a ta x)
    (h1 : starEach [a, .Name "tuple" p2] X.env = (false, eval a X.env) :: starEach [.Name "tuple" p2] X.env := by rfl) (h2 : starEach [.Name "tuple" p2] X.env = (false, eval (.Name "tuple" p2) X.env) :: starEach [] X.env := by rfl) (hpl : (backTo pos (starEach [.Name "tuple" p2] X.env)).any (·.1) = false := by rfl) :
    QE X (.Call (.Name "isinstance" p) [a, .Name "tuple" p2] [] pos) (tCB (rIsi X.K) (tCons ta (tCons (tC (.ty "tuple")) tNil))) (qUn fIsTup x) :=
  ⟨pe_callB call_isi hg hm (by decide +kernel) (pa_cons ha.pe (pa_cons (pe_bltn (v := .ty "tuple") hg2 hm2 (by decide +kernel) rfl) pa_nil h2) h1) (by decide) (by decide) h1 hpl, fun env t e H1 H σ F s R Q q => by
    unfold qUn at e
    split at e
    · cases e
    · rename_i u e1
      obtain ⟨k, n, rfl, hn⟩ := fIsTup_ofbl e
      exact ha.kr _ _ e1 _ _ _ _ s R _ fun v Ha Hb G x1 r1 => ⟨v, .ty "tuple", .type n, .type "tuple", k, rfl, .ty "tuple", tyx_of x1.sub r1 hn, kit_tupTy hn e, now x1.sub (.bl k) fun v H1' H' Ft x2 r2 => q v H1' H' Ft (x1.trans x2) r2⟩⟩
theorem qe_isLst (hg : Gl X "isinstance") (hm : X.mg "isinstance" = none) (hg2 : Gl X "list") (hm2 : X.mg "list" = none) (ha : KE X a ta x)
    (h1 : starEach [a, .Name "list" p2] X.env = (false, eval a X.env) :: starEach [.Name "list" p2] X.env := by rfl) (h2 : starEach [.Name "list" p2] X.env = (false, eval (.Name "list" p2) X.env) :: starEach [] X.env := by rfl) (hpl : (backTo pos (starEach [.Name "list" p2] X.env)).any (·.1) = false := by rfl) :
    QE X (.Call (.Name "isinstance" p) [a, .Name "list" p2] [] pos) (tCB (rIsi X.K) (tCons ta (tCons (tC (.ty "list")) tNil))) (qUn fIsLst x) :=
  ⟨pe_callB call_isi hg hm (by decide +kernel) (pa_cons ha.pe (pa_cons (pe_bltn (v := .ty "list") hg2 hm2 (by decide +kernel) rfl) pa_nil h2) h1) (by decide) (by decide) h1 hpl, fun env t e H1 H σ F s R Q q => by
    unfold qUn at e
    split at e
    · cases e
    · rename_i u e1
      obtain ⟨k, n, rfl, hn⟩ := fIsLst_ofbl e
      exact ha.kr _ _ e1 _ _ _ _ s R _ fun v Ha Hb G x1 r1 => ⟨v, .ty "list", .type n, .type "list", k, rfl, .ty "list", tyx_of x1.sub r1 hn, kit_lstTy hn e, now x1.sub (.bl k) fun v H1' H' Ft x2 r2 => q v H1' H' Ft (x1.trans x2) r2⟩⟩
end
@[simp] theorem fIsInt_bl {k : Bool} : fIsInt (.bl k) = some (.bl true) := rfl
@[simp] theorem fIsInt_int {i : Int} : fIsInt (.int i) = some (.bl true) := rfl
@[simp] theorem fIsInt_str {s : List Nat} : fIsInt (.str s) = some (.bl false) := rfl
@[simp] theorem fIsInt_tup {xs : List T} : fIsInt (.tup xs) = some (.bl false) := rfl
@[simp] theorem fIsInt_lst {o : Bool} {xs : List T} : fIsInt (.lst o xs) = some (.bl false) := rfl
@[simp] theorem fIsInt_non : fIsInt (.non) = some (.bl false) := rfl
@[simp] theorem fIsBool_bl {k : Bool} : fIsBool (.bl k) = some (.bl true) := rfl
@[simp] theorem fIsBool_int {i : Int} : fIsBool (.int i) = some (.bl false) := rfl
@[simp] theorem fIsBool_str {s : List Nat} : fIsBool (.str s) = some (.bl false) := rfl
@[simp] theorem fIsBool_tup {xs : List T} : fIsBool (.tup xs) = some (.bl false) := rfl
@[simp] theorem fIsBool_lst {o : Bool} {xs : List T} : fIsBool (.lst o xs) = some (.bl false) := rfl
@[simp] theorem fIsBool_non : fIsBool (.non) = some (.bl false) := rfl
@[simp] theorem fIsTup_bl {k : Bool} : fIsTup (.bl k) = some (.bl false) := rfl
@[simp] theorem fIsTup_int {i : Int} : fIsTup (.int i) = some (.bl false) := rfl
@[simp] theorem fIsTup_str {s : List Nat} : fIsTup (.str s) = some (.bl false) := rfl
@[simp] theorem fIsTup_tup {xs : List T} : fIsTup (.tup xs) = some (.bl true) := rfl
@[simp] theorem fIsTup_lst {o : Bool} {xs : List T} : fIsTup (.lst o xs) = some (.bl false) := rfl
@[simp] theorem fIsTup_non : fIsTup (.non) = some (.bl false) := rfl
@[simp] theorem fIsLst_bl {k : Bool} : fIsLst (.bl k) = some (.bl false) := rfl
@[simp] theorem fIsLst_int {i : Int} : fIsLst (.int i) = some (.bl false) := rfl
@[simp] theorem fIsLst_str {s : List Nat} : fIsLst (.str s) = some (.bl false) := rfl
@[simp] theorem fIsLst_tup {xs : List T} : fIsLst (.tup xs) = some (.bl false) := rfl
@[simp] theorem fIsLst_lst {o : Bool} {xs : List T} : fIsLst (.lst o xs) = some (.bl true) := rfl
@[simp] theorem fIsLst_non : fIsLst (.non) = some (.bl false) := rfl
end GK

/-! GK45: a chain of three comparisons, as a test. -/
namespace GK
open PySem L2 PySem.Spec PyProof.Rows
section
variable {X : Cx} {a b c d : Expr} {ta tb tc td : TE} {xa xb xc xd : Env → Option T} {pos : Pos}
def tChain3 (r r' r'' : R2) (ta tb tc td : TE) : TE := fun σ H Q => ta σ H fun x H1 => tb σ H1 fun y H2 => r x y H2 fun z H3 => ∃ k, z = .bl k ∧
  (if k = true then tc σ H3 fun w H4 => r' y w H4 fun z' H5 => ∃ k', z' = .bl k' ∧ (if k' = true then td σ H5 fun u H6 => r'' w u H6 Q else Q (.bl false) H5) else Q (.bl false) H3)
theorem pt_chain3 {op op' op'' : CmpOp} {r r' r'' : R2} (ho : OpR X (compareOp op) r) (ho' : OpR X (compareOp op') r') (ho'' : OpR X (compareOp op'') r'') (ha : PE X a ta) (hb : PE X b tb) (hc : PE X c tc) (hd : PE X d td)
    (hm : lastMarks [op, op', op''] [b, c, d] = false := by with_unfolding_all rfl) : PT X (.Compare a [op, op', op''] [b, c, d] pos) (tTest (tChain3 r r' r'' ta tb tc td)) := by
  refine ⟨fun pins s σ H Q I h => ?_⟩
  refine isTrue_chain (thn (ha.run pins s σ H _ I h) fun v s1 ⟨x, H1, I1, r1, q1⟩ => test_link (thn (hb.run pins s1 σ H1 _ I1 q1) fun u s2 ⟨y, H2, I2, r2, q2⟩ =>
    thn (ho pins s2 σ H2 x y v u _ I2 r1 r2 q2) fun d s3 ⟨z, H3, I3, r3, k, e, q3⟩ => ?_)) hm
  subst e
  cases r3
  refine wpAny_truthy_bool ?_
  cases k with
  | false =>
    obtain ⟨k', e', q'⟩ := q3
    cases e'
    exact ite_ff ⟨H3, I3, q'⟩
  | true =>
    refine ite_tt (test_link (thn (hc.run pins s3 σ H3 _ I3 q3) fun w' s4 ⟨z', H4, I4, r4, q4⟩ => thn (ho' pins s4 σ H4 y z' u w' _ I4 r2 r4 q4) fun d' s5 ⟨z2, H5, I5, r5, k2, e2, q5⟩ => ?_))
    subst e2
    cases r5
    refine wpAny_truthy_bool ?_
    cases k2 with
    | false =>
      obtain ⟨k', e', q'⟩ := q5
      cases e'
      exact ite_ff ⟨H5, I5, q'⟩
    | true =>
      refine ite_tt (test_last (thn (hd.run pins s5 σ H5 _ I5 q5) fun w2 s6 ⟨z3, H6, I6, r6, q6⟩ => thn (ho'' pins s6 σ H6 z' z3 w' w2 _ I6 r4 r6 q6) fun d2 s7 ⟨z4, H7, I7, r7, k3, e3, q7⟩ => ?_))
      subst e3
      cases r7
      exact wpAny_truthy_bool ⟨H7, I7, q7⟩
def qChain3 (f f' f'' : T → T → Option T) (xa xb xc xd : Env → Option T) : Env → Option T := fun env => match xa env, xb env with
  | some a, some b => (match f a b with
    | some (.bl true) => (match xc env with
      | some c => (match f' b c with
        | some (.bl true) => (match xd env with | some d => f'' c d | none => none)
        | some (.bl false) => some (.bl false)
        | _ => none)
      | none => none)
    | some (.bl false) => some (.bl false)
    | _ => none)
  | _, _ => none
theorem qr_chain3 {K : PySem.W.Frag} {mg : Str → Option Value} {r r' r'' : R2} {f f' f'' : T → T → Option T} (ha : KR K mg ta xa) (hb : KR K mg tb xb) (hc : KR K mg tc xc) (hd : KR K mg td xd) (h : OpV K mg r f) (h' : OpV K mg r' f') (h'' : OpV K mg r'' f'') : QR K mg (tChain3 r r' r'' ta tb tc td) (qChain3 f f' f'' xa xb xc xd) := fun env t e H1 H σ F s R Q q => by
  unfold qChain3 at e
  split at e
  · rename_i u w e1 e2
    refine ha _ _ e1 _ _ _ _ s R _ fun v1 Ha Hb G1 x1 r1 => hb _ _ e2 _ _ _ _ x1.sub (x1.qRepE R) _ fun v2 Hc Hd G2 x2 r2 => ?_
    split at e
    · rename_i e3
      refine h _ _ _ _ _ _ _ _ _ x2.sub (x2.qRep r1) r2 e3 _ fun v He Hf Gv x3 r3 => ⟨true, r3.blE, ?_⟩
      rw [if_pos rfl]
      split at e
      · rename_i z e4
        refine hc _ _ e4 _ _ _ _ x3.sub (x3.qRepE (x2.qRepE (x1.qRepE R))) _ fun v3 Hg Hh G3 x4 r4 => ?_
        split at e
        · rename_i e5
          refine h' _ _ _ _ _ _ _ _ _ x4.sub (x4.qRep (x3.qRep r2)) r4 e5 _ fun v Hi Hj Gw x5 r5 => ⟨true, r5.blE, ?_⟩
          rw [if_pos rfl]
          split at e
          · rename_i z2 e6
            exact hd _ _ e6 _ _ _ _ x5.sub (x5.qRepE (x4.qRepE (x3.qRepE (x2.qRepE (x1.qRepE R))))) _ fun v4 Hk Hl G4 x6 r6 => h'' _ _ _ _ _ _ _ _ _ x6.sub (x6.qRep (x5.qRep r4)) r6 e Q fun v H1' H' Ft x7 r7 => q v H1' H' Ft ((((((x1.trans x2).trans (x3.less fun _ z => z.elim)).trans x4).trans (x5.less fun _ z => z.elim)).trans x6).trans x7) r7
          · cases e
        · rename_i e5
          cases e
          refine h' _ _ _ _ _ _ _ _ _ x4.sub (x4.qRep (x3.qRep r2)) r4 e5 _ fun v Hi Hj Gw x5 r5 => ⟨false, r5.blE, ?_⟩
          rw [if_neg Bool.false_ne_true]
          exact now x5.sub (.bl false) fun v H1' H' Ft x7 r7 => q v H1' H' Ft (((((x1.trans x2).trans (x3.less fun _ z => z.elim)).trans x4).trans (x5.less fun _ z => z.elim)).trans x7) r7
        · cases e
      · cases e
    · rename_i e3
      cases e
      refine h _ _ _ _ _ _ _ _ _ x2.sub (x2.qRep r1) r2 e3 _ fun v He Hf Gv x3 r3 => ⟨false, r3.blE, ?_⟩
      rw [if_neg Bool.false_ne_true]
      exact now x3.sub (.bl false) fun v H1' H' Ft x5 r5 => q v H1' H' Ft (((x1.trans x2).trans (x3.less fun _ z => z.elim)).trans x5) r5
    · cases e
  · cases e
theorem te_chain3 {op op' op'' : CmpOp} {r r' r'' : R2} {f f' f'' : T → T → Option T} (ho : OpR X (compareOp op) r) (hv : OpV X.K X.mg r f) (ho' : OpR X (compareOp op') r') (hv' : OpV X.K X.mg r' f') (ho'' : OpR X (compareOp op'') r'') (hv'' : OpV X.K X.mg r'' f'') (ha : KE X a ta xa) (hb : KE X b tb xb) (hc : KE X c tc xc) (hd : KE X d td xd)
    (hm : lastMarks [op, op', op''] [b, c, d] = false := by with_unfolding_all rfl) : TE' X (.Compare a [op, op', op''] [b, c, d] pos) (tTest (tChain3 r r' r'' ta tb tc td)) (tOfB (qChain3 f f' f'' xa xb xc xd)) := ⟨pt_chain3 ho ho' ho'' ha.pe hb.pe hc.pe hd.pe hm, fun env k e H1 H σ F s R Q q => by
  unfold tOfB at e
  split at e
  · rename_i e1
    cases e
    exact qr_chain3 ha.kr hb.kr hc.kr hd.kr hv hv' hv'' _ _ e1 _ _ _ _ s R _ fun v H1' H' Ft x r => by
      rw [r.blE]
      exact ⟨_, rfl, q H1' H' (x.less fun _ z => z.elim)⟩
  · cases e⟩
@[simp] theorem wp_qChain3 {f g h : T → T → Option T} {x y z w : Env → Option T} {env : Env} {Q : T → Prop} : wp (qChain3 f g h x y z w env) Q ↔ wp (x env) fun a => wp (y env) fun b => wp (f a b) fun t => wp (match t with | .bl k => some k | _ => none) fun k => (k = true → wp (z env) fun c => wp (g b c) fun t => wp (match t with | .bl k => some k | _ => none) fun k => (k = true → wp (w env) fun d => wp (h c d) Q) ∧ (k = false → Q (.bl false))) ∧ (k = false → Q (.bl false)) := by
  unfold qChain3
  rcases x env with _ | a <;> simp
  rcases y env with _ | b <;> simp
  rcases f a b with _ | t <;> simp
  cases t <;> simp
  rename_i k
  cases k <;> simp
  rcases z env with _ | c <;> simp
  rcases g b c with _ | t <;> simp
  cases t <;> simp
  rename_i k
  cases k <;> simp
  rcases w env with _ | d <;> simp
end
end GK

/-! GK46: zip(a text, a tuple), walked. -/
namespace GK
open PySem L2 PySem.Spec PyProof.Rows
/-- the signs of a text and the items of a tuple, in new pairs -/
def ItzS (K : PySem.W.Frag) (z : List Nat) (b : Addr) : It :=
  ⟨fun i H => ∃ (ys : List V) (c : Nat) (y : V), SqT K H b ys ∧ z[i]? = some c ∧ ys[i]? = some y,
    fun i H v H' => ∃ T c y, v = .ref T ∧ H T = none ∧ H' = upd H T (.tup [.str (S [c]), y]) ∧ z[i]? = some c ∧ ∀ ys, SqT K H b ys → ys[i]? = some y,
    fun i H => ∃ ys : List V, SqT K H b ys ∧ i = min z.length ys.length⟩
theorem turn_zipS {P : Program} {w : World} {K : PySem.W.Frag} {elts : List Expr} {kk : Nat} {tpos : Pos} {n : Nat} {b : Addr} {z : List Nat} {tk : Tok} (lq : b < n) :
    Turn P w K (.Tuple elts kk tpos) (ItzS K z b) [n + 4, n + 2, n + 3, n, n + 1] (n + 4) (fun i h => IsZip h (n + 4) (n + 2) (n + 3) .none ∧ IsTupOf2 h (n + 2) (.ref n) (.ref (n + 1)) ∧ (∃ x y, IsTupOf2 h (n + 3) x y) ∧ h.IsStrIter n (strIterType (S z)) (S z) tk i ∧ h.IsTupleIter (n + 1) b i) where
  mem := by simp
  obj := fun i h st c hc => by
    obtain ⟨hz, hTI, ⟨x, y, hTO⟩, ⟨o1, e1, _, d1⟩, ⟨o2, e2, _, d2⟩⟩ := st
    have e' : c = n + 4 ∨ c = n + 2 ∨ c = n + 3 ∨ c = n ∨ c = n + 1 := by simpa using hc
    rcases e' with q | q | q | q | q
    · rw [q]; exact ⟨_, hz, fun v q => nomatch q⟩
    · rw [q]; exact ⟨_, hTI, fun v q => nomatch q⟩
    · rw [q]; exact ⟨_, hTO, fun v q => nomatch q⟩
    · rw [q]; exact ⟨o1, e1, fun v q => by rw [d1] at q; cases q⟩
    · rw [q]; exact ⟨o2, e2, fun v q => by rw [d2] at q; cases q⟩
  keep := fun i h h' st k => by
    obtain ⟨hz, hTI, ⟨x, y, hTO⟩, h1, h2⟩ := st
    exact ⟨k _ (by simp) _ hz, k _ (by simp) _ hTI, ⟨x, y, k _ (by simp) _ hTO⟩, (let ⟨o, e, r⟩ := h1; ⟨o, k _ (by simp) _ e, r⟩), h2.at fun o q => k _ (by simp) o q⟩
  item := by
    intro X hP hw hK hc i pins s σ H E I hf st hg
    subst hP hw hK
    obtain ⟨hz, hTI, ⟨x0, y0, hTO⟩, h1, h2⟩ := st
    obtain ⟨ys, c, y, hqy, hx, hy⟩ := hg
    obtain ⟨its, rv, p, _⟩ := I.tuple hqy
    have p' : s.heap.IsTuple b its.toArray := p
    obtain ⟨u2, hu2, ru2⟩ := rv.get hy
    have hzl : n + 4 < s.heap.objs.size := Heap.lt_size hz
    have sep := sep_new lq
    have hd : X.A.in1.handled = none := I.ok.hd hc
    have i1 : i < (S z).cps.size := by simpa [S] using (List.getElem?_eq_some_iff.mp hx).1
    have i2 : i < its.toArray.size := by simpa using (List.getElem?_eq_some_iff.mp hu2).1
    refine wpAny_pyNext_zipD2_item sep (Draws.text hd n (S z) tk) (Draws.tuple hd (n + 1) b (Nat.ne_of_lt (Nat.lt_succ_of_lt lq)) its.toArray) hz hTI hTO h1 ⟨h2, p'⟩ i1 i2 fun x1 x2 h' tk2 y1 y2 b1 b2 d1 d2 b5 b6 hk => ?_
    obtain ⟨c1, u, e1, rfl⟩ := y1
    have ec : c1 = c := by
      have : z[i]? = some c1 := by simpa [S] using e1
      rw [hx] at this; cases this; rfl
    subst ec
    have e2 : x2 = u2 := by
      have : its[i]? = some x2 := by simpa using y2
      rw [hu2] at this; cases this; rfl
    subst e2
    refine ⟨_, rfl, wpAny_letOwnedTupleGo_zip (s := { s with heap := h', toks := tk2 }) b1 fun h'' z'' sb => ?_⟩
    have hT2 : h''.get? s.heap.objs.size = some { cls := .type "tuple", data := .seq #[.str ⟨#[c1]⟩ u, x2] } := (sb.2 _ (Nat.ne_of_gt hzl)).trans b5
    have new : ObjOk X.prog X.w (upd H s.heap.objs.size (.tup [.str (S [c1]), y])) h'' s.heap.objs.size (.tup [.str (S [c1]), y]) :=
      ⟨by show 2 ≤ sizeLine; decide, [.str ⟨#[c1]⟩ u, x2], .cons ⟨u, rfl⟩ (.cons ru2 .nil), ⟨_, hT2, rfl, _, rfl⟩⟩
    have I1 : Inv X pins σ (upd H s.heap.objs.size (.tup [.str (S [c1]), y])) { s with heap := h'', toks := tk2 } :=
      I.turnedNew (t' := tk2) (ch := [n + 4, n + 2, n + 3, n, n + 1]) (fun c o hb q => (sb.2 c (fun q' => hb (by simp [q']))).trans (hk c o (fun q' => hb (by simp [q'])) (fun q' => hb (by simp [q'])) (fun q' => hb (by simp [q'])) (fun q' => hb (by simp [q'])) q)) hf (Nat.le_refl _) new
    refine ⟨.ref s.heap.objs.size, _, I1, rfl, ⟨_, c1, y, rfl, I.hok.fresh (Nat.le_refl _), rfl, hx, fun l hl => by rw [I.tuple_inj hl hqy]; exact hy⟩, ⟨z'', ?_, ⟨.str ⟨#[c1]⟩ u, x2, ?_⟩, ?_, ?_⟩, fun c hcm => ?_⟩
    · exact (sb.2 _ sep.TIz).trans (hk _ _ sep.TIz sep.TITO sep.TIi1 sep.TIi2 hTI)
    · exact (sb.2 _ sep.TOz).trans b2
    · obtain ⟨o, e, r⟩ := d1
      exact ⟨o, (sb.2 _ sep.zi1.symm).trans e, r⟩
    · exact d2.1.at fun o q => (sb.2 _ sep.zi2.symm).trans q
    · have hlt : c < s.heap.objs.size := by
        have e' : c = n + 4 ∨ c = n + 2 ∨ c = n + 3 ∨ c = n ∨ c = n + 1 := by simpa using hcm
        rcases e' with q | q | q | q | q
        · rw [q]; exact hzl
        · rw [q]; exact Heap.lt_size hTI
        · rw [q]; exact Heap.lt_size hTO
        · rw [q]; obtain ⟨_, e1, _⟩ := h1; exact Heap.lt_size e1
        · rw [q]; obtain ⟨_, e2, _⟩ := h2; exact Heap.lt_size e2
      rw [upd_ne (Nat.ne_of_lt hlt)]
      exact (hf c hcm).1
  done := by
    intro X hP hw hK hc i pins s σ H E I hf st hg
    subst hP hw hK
    obtain ⟨hz, hTI, ⟨x0, y0, hTO⟩, h1, h2⟩ := st
    obtain ⟨ys, hqy, hi⟩ := hg
    obtain ⟨its, rv, p, _⟩ := I.tuple hqy
    have p' : s.heap.IsTuple b its.toArray := p
    have sep := sep_new lq
    have hd : X.A.in1.handled = none := I.ok.hd hc
    have l1 : (S z).cps.size = z.length := by simp [S]
    have l2 : its.toArray.size = ys.length := by rw [List.size_toArray, ← rv.length]
    exact wpAny_pyNext_zipD2_end sep (Draws.text hd n (S z) tk) (Draws.tuple hd (n + 1) b (Nat.ne_of_lt (Nat.lt_succ_of_lt lq)) its.toArray) hz hTI hTO h1 ⟨h2, p'⟩ (by omega) (by omega) (by omega) fun h' tk2 hk => ⟨rfl, I.turnedL (t' := tk2) (ch := [n + 4, n + 2, n + 3, n, n + 1]) (fun c o hb q =>
      hk c o (fun q' => hb (by simp [q'])) (fun q' => hb (by simp [q'])) (fun q' => hb (by simp [q'])) (fun q' => hb (by simp [q'])) q) hf⟩
  self := fun A i s Q E st h => wpAny_pyIter_zip st.1 h
def iZipS (K : PySem.W.Frag) (ta : TA) : TI := fun σ H R => ta σ H fun vs H1 => ∃ z b ys, vs = [.str (S z), .ref b] ∧ SqT K H1 b ys ∧ R (ItzS K z b) H1
theorem pi_zipS {X : Cx} {e e2 : Expr} {ta : TA} {p pos tpos : Pos} {elts : List Expr} {kk : Nat} (hg : Gl X "zip") (hm : X.mg "zip" = none) (ha : PA X [e, e2] ta)
    (hs : starEach [e, e2] X.env = (false, eval e X.env) :: starEach [e2] X.env := by rfl) (hpl : (backTo pos (starEach [e2] X.env)).any (·.1) = false := by rfl) :
    PI X (.Tuple elts kk tpos) (.Call (.Name "zip" p) [e, e2] [] pos) (iZipS X.K ta) := by
  refine ⟨fun pins s σ H R I h => ?_⟩
  refine Call_ (ld_blt I hg hm PyProof.Rows.boot_zip (PyProof.Rows.callWith_type1 (thn (ha.run pos pins s σ H _ I h) fun us s1 ⟨vs, H1, I1, r1, q1⟩ => ?_) hs hpl))
  obtain ⟨z, b, ys, ex, hq, q1⟩ := q1
  subst ex
  obtain ⟨u1, u2, rfl, r1, r2⟩ := vals2 r1
  obtain ⟨tk, rfl⟩ := r1
  cases r2
  obtain ⟨its, rv, ht, _⟩ := I1.tuple hq
  have ht' : s1.heap.IsTuple b its.toArray := ht
  have lq : b < s1.heap.objs.size := ht.lt
  have fresh5 : ∀ c, c ∈ [s1.heap.objs.size + 4, s1.heap.objs.size + 2, s1.heap.objs.size + 3, s1.heap.objs.size, s1.heap.objs.size + 1] → FpOk X pins H1 c := fun c hcm => by
    have e' : c = s1.heap.objs.size + 4 ∨ c = s1.heap.objs.size + 2 ∨ c = s1.heap.objs.size + 3 ∨ c = s1.heap.objs.size ∨ c = s1.heap.objs.size + 1 := by simpa using hcm
    have hle : s1.heap.objs.size ≤ c := by
      rcases e' with z | z | z | z | z
      · rw [z]; exact Nat.le_add_right _ _
      · rw [z]; exact Nat.le_add_right _ _
      · rw [z]; exact Nat.le_add_right _ _
      · rw [z]; exact Nat.le_refl _
      · rw [z]; exact Nat.le_add_right _ _
    exact I1.fpOk hle (I1.hok.fresh hle)
  refine zip_begins2 (begins_text (S z) tk) (begins_tuple b its.toArray) trivial ht' fun h' hZ hI hO g1 g2 hsz hk => wpAny_pyIter_zip hZ ?_
  have I2 : Inv X pins σ H1 { s1 with heap := h' } := I1.kept (t' := s1.toks) hk
  exact ⟨s1.heap.objs.size + 4, _, _, _, H1, rfl, I2, turn_zipS lq, ⟨hZ, hI, ⟨_, _, hO⟩, ⟨_, g1, rfl, rfl⟩, ⟨_, g2, rfl, rfl⟩⟩, fresh5, q1⟩
def zipT (z : List Nat) (ts : List T) : List T := (z.zip ts).map fun p => .tup [.str [p.1], p.2]
theorem walkZ {K : PySem.W.Frag} {mg : Str → Option Value} {H1 H : Hp} {z : List Nat} {b : Addr} {vs : List V} {ts : List T} (h : SqT K H1 b vs) (f : Fzs K mg H1 vs ts) : ∀ G, WalkT K mg (ItzS K z b) H1 H G (zipT z ts) := fun G =>
  have ln : (zipT z ts).length = min z.length vs.length := by simp [zipT, f.len]
  ⟨⟨fun H => SqT K H b vs, YPair (fun i => (z[i]?).map fun c => .str (S [c])) (fun i => vs[i]?), ⟨fun i H hi q => by
      rw [ln] at hi
      have h1 : i < z.length := by omega
      have h2 : i < vs.length := by omega
      exact ⟨vs, z[i], vs[i], q, by simp [h1], by simp [h2]⟩, fun H q => ⟨vs, q, ln⟩, fun i H x H' hi q y => by
      obtain ⟨T, c, y, h1, h2, h3, h4, h5⟩ := y
      exact ⟨T, _, y, h1, h2, h3, by simp [h4], h5 vs q⟩⟩, fun H1' H' F' x => Same.seqT x.sub (Same.seqT x.s1 h), fun i H1' H' F' v H'' hi x ⟨T', v1, v2, h1, h2, h3, h4, h5⟩ => by
    subst h1 h3
    rw [ln] at hi
    have i1 : i < z.length := by omega
    have i2 : i < ts.length := by rw [← f.len]; omega
    have e0 : v1 = .str (S [z[i]]) := by
      have h4' : (z[i]?).map (fun c => V.str (S [c])) = some v1 := h4
      rw [List.getElem?_eq_getElem i1] at h4'
      cases h4'; rfl
    subst e0
    obtain ⟨v', e1, f1⟩ := f.get (List.getElem?_eq_getElem i2)
    have h5' : vs[i]? = some v2 := h5
    rw [e1] at h5'
    cases h5'
    refine ⟨.tup [.str [z[i]], ts[i]], _, ?_, Ext.newS x.sub h2, ?_⟩
    · unfold zipT
      rw [List.getElem?_map, (List.getElem?_zip_eq_some (z := (z[i], ts[i]))).mpr ⟨List.getElem?_eq_getElem i1, List.getElem?_eq_getElem i2⟩]
      rfl
    · have s1 : Same H1' (upd H1' T' (.tup [.str (S [z[i]]), v2])) := (Ext.newS (F := F0) x.sub h2).s1
      exact .tup (.inl (.inl upd_same)) (.cons (.str _) (.cons ((f1.mono x.s1).mono s1) .nil))⟩⟩
theorem Rep.tupleF {K : PySem.W.Frag} {mg : Str → Option Value} {H1 H : Hp} {v : V} {ts : List T} {F : FP} (h : Rep K mg H1 H v (.tup ts) F) : ∃ a vs, v = .ref a ∧ SqT K H1 a vs ∧ Fzs K mg H1 vs ts := by
  cases h with
  | sh h => cases h with | tup a b => exact ⟨_, _, rfl, a, b⟩
def zipL : List T → Option (List T)
  | [.str z, .tup ts] => some (zipT z ts)
  | _ => none
def qZip (xs : Env → Option (List T)) : Env → Option (List T) := fun env => match xs env with | none => none | some ts => zipL ts
theorem iq_zip {X : Cx} {a b : Expr} {tl : TA} {xs : Env → Option (List T)} {p pos tpos : Pos} {elts : List Expr} {kk : Nat} (hg : Gl X "zip") (hm : X.mg "zip" = none) (h : KA X [a, b] tl xs)
    (hs : starEach [a, b] X.env = (false, eval a X.env) :: starEach [b] X.env := by rfl) (hpl : (backTo pos (starEach [b] X.env)).any (·.1) = false := by rfl) :
    IQ X (.Tuple elts kk tpos) (.Call (.Name "zip" p) [a, b] [] pos) (iZipS X.K tl) (qZip xs) := ⟨pi_zipS hg hm h.pa hs hpl, fun env ts e H1 H σ F s R Q q => by
  unfold qZip at e
  cases e1 : xs env with
  | none => rw [e1] at e; cases e
  | some us =>
    rw [e1] at e
    simp only at e
    unfold zipL at e
    split at e
    · rename_i z ys
      cases e
      refine h.kr _ _ e1 _ _ _ _ s R _ fun vs Ha Hb x1 r1 => ?_
      obtain ⟨v1, v2, G, G', rfl, r2, r3⟩ := r1.two
      obtain ⟨b', ws, rfl, h2, h3⟩ := r3.tupleF
      exact ⟨z, b', ws, by rw [r2.strE], Same.seqT x1.sub h2, q _ Ha Hb x1 (walkZ h2 h3)⟩
    · cases e⟩
section
variable {env : Env} {xs : Env → Option (List T)}
@[simp] theorem wp_qZip {Q : List T → Prop} : wp (qZip xs env) Q ↔ wp (xs env) fun ts => wp (zipL ts) Q := by unfold qZip; cases xs env <;> simp
@[simp] theorem zipL_st {z : List Nat} {ts : List T} : zipL [.str z, .tup ts] = some (zipT z ts) := rfl
end
end GK

/-! GK47: != of two instances of a class of the text that has its own __eq__ and no __ne__. -/
namespace GK
open PySem L2 PySem.Spec PyProof.Rows
section
variable {prog : Program} {w : World} {A : Around} {E : Value → Shared → Prop} {s : Shared} {K : PySem.W.Frag} {x C f : Addr} {ox : Obj} {od : Option Obj} {y : Value}
theorem ne_entry_K {Q : Fin → Shared → Prop} (X : K.In s.heap) (I : PySem.W.InstAt s.heap x ox C od) (hs : PySem.W.findIn K (.ref C) "__eq__" = some (some (.ref f))) (hf : PySem.W.isFn K (.ref f) = true) (hu : A.units < cLine)
    (hcall : wpAny (model prog w) A (call (.ref f) [.ref x, y]) (fun v s' => ∃ b, v = .bool b ∧ Q (.done (.ret (.bool (!b)))) s') E s) : wpAny (model prog w) A (Builtin.«object.__ne__» ⟨[.ref x, y], []⟩) Q E s := by
  unfold Builtin.«object.__ne__»
  repeat (first
    | with_reducible refine wpAny_cRoomFor hu ?_
    | (refine wpAny_bind (m := callSpecialIfBound? (.ref x) (Str.ofString "__eq__") [y])
        (PySem.W.ifBound_K X I hs hf (wpAny_mono hcall (fun r s' hr => by
          obtain ⟨b, rfl, hq⟩ := hr
          repeat (first | exact hq | exact wpAny_pure hq | exact wpAny_truthy_bool hq | (refine wpAny_bind (m := truthy (.bool _)) (wpAny_truthy_bool ?_)) | wp_step)) fun _ _ e => e)))
    | wp_step)
theorem ne_try_K {Q : Option Value → Shared → Prop} (X : K.In s.heap) (I : PySem.W.InstAt s.heap x ox C od) (hn : PySem.W.findIn K (.ref C) "__ne__" = some (some (.builtin "object.__ne__"))) (hs : PySem.W.findIn K (.ref C) "__eq__" = some (some (.ref f))) (hf : PySem.W.isFn K (.ref f) = true)
    (ho : PySem.W.mroIn K C (.type "object") = some true) (hu : A.units + 1 < cLine)
    (hcall : wpAny (model prog w) A.in1 (call (.ref f) [.ref x, y]) (fun v s' => ∃ b, v = .bool b ∧ Q (some (.bool (!b))) s') E s) : wpAny (model prog w) A (tryCompare (.ref x) "__ne__" y) Q E s := by
  have FB := PySem.F.cmp_object
  have sub : PySem.W.Looks (model prog w) s.heap (isInstance (.ref x) (.type "object")) true := I.type.andThen (PySem.W.looks_mroIn X ho)
  have hc2 : wpAny (model prog w) A (call (.builtin "object.__ne__") [.ref x, y]) (fun v s' => ∃ b, v = .bool b ∧ Q (some (.bool b)) s') E s :=
    wpAny_call (codeAny_call_builtin FB.ne.plain PySem.F.cmpEntry_ne (PySem.W.check_slot PySem.F.cmpKind_ne PySem.F.cmpSplit_ne sub (PySem.F.cmpArgs_ne _ _)
      (ne_entry_K (A := A.in1) X I hs hf hu (wpAny_mono hcall (fun v s' hv => by
        obtain ⟨b, rfl, hq⟩ := hv
        exact ⟨b, rfl, ⟨!b, rfl, hq⟩⟩) fun _ _ e => e))))
  simp only [tryCompare]
  refine wpAny_bind ?_
  simp only [callSpecialIfBound?, bindSpecialIfBound?]
  refine wpAny_holding (wpAny_bind (wpAny_bind (wpAny_bind (I.type.here ((PySem.W.looks_findIn X hn).here ?_)))))
  refine wpAny_bind (wpAny_askSetting (wpAny_ite ?_))
  simp only [FB.ne.bind]
  split
  · exact wpAny_bind (wpAny_pure (wpAny_pure (wpAny_bind (wpAny_mono hc2 (fun v s' h' => (by obtain ⟨b, rfl, hq⟩ := h'; exact wpAny_pure (wpAny_pure hq))) fun _ _ h' => h'))))
  · exact wpAny_tryCatch (wpAny_bind (wpAny_pure (wpAny_pure (wpAny_bind (wpAny_mono hc2 (fun v s' h' => (by obtain ⟨b, rfl, hq⟩ := h'; exact wpAny_pure (wpAny_pure hq))) fun _ _ h' => h')))))
theorem ne_rich_K {b : Addr} {oy : Obj} {od' : Option Obj} {Q : Value → Shared → Prop} (X : K.In s.heap) (I : PySem.W.InstAt s.heap x ox C od) (J : PySem.W.InstAt s.heap b oy C od') (hn : PySem.W.findIn K (.ref C) "__ne__" = some (some (.builtin "object.__ne__"))) (hs : PySem.W.findIn K (.ref C) "__eq__" = some (some (.ref f))) (hf : PySem.W.isFn K (.ref f) = true)
    (ho : PySem.W.mroIn K C (.type "object") = some true) (hu : A.units + 1 < cLine)
    (hcall : wpAny (model prog w) A.in1 (call (.ref f) [.ref x, .ref b]) (fun v s' => ∃ k, v = .bool k ∧ Q (.bool (!k)) s') E s) : wpAny (model prog w) A (compareOp .NotEq (.ref x) (.ref b)) Q E s := by
  unfold compareOp richCompare
  simp only [oneThing_ref]
  refine wpAny_holding (wpAny_bind (wpAny_cRoomFor (Nat.lt_of_succ_lt hu) ?_))
  rw [cmpInfo_NotEq]
  dsimp only
  refine wpAny_bind (I.type.here (wpAny_bind (J.type.here ?_)))
  rw [show (Value.ref C != Value.ref C) = false from by simp]
  simp only [Bool.false_eq_true, if_false]
  refine wpAny_bind (wpAny_pure ?_)
  simp only [Bool.false_eq_true, if_false]
  refine wpAny_bind (ne_try_K X I hn hs hf ho hu (wpAny_mono hcall (fun v s' hv => ?_) fun _ _ e => e))
  obtain ⟨b, rfl, hq⟩ := hv
  exact ⟨b, rfl, wpAny_pure hq⟩
theorem eq_rich_K {b : Addr} {oy : Obj} {od' : Option Obj} {Q : Value → Shared → Prop} (X : K.In s.heap) (I : PySem.W.InstAt s.heap x ox C od) (J : PySem.W.InstAt s.heap b oy C od') (hs : PySem.W.findIn K (.ref C) "__eq__" = some (some (.ref f))) (hf : PySem.W.isFn K (.ref f) = true) (hu : A.units < cLine)
    (hcall : wpAny (model prog w) A (call (.ref f) [.ref x, .ref b]) (fun v s' => ∃ k, v = .bool k ∧ Q (.bool k) s') E s) : wpAny (model prog w) A (compareOp .Eq (.ref x) (.ref b)) Q E s := by
  unfold compareOp richCompare
  simp only [oneThing_ref]
  refine wpAny_holding (wpAny_bind (wpAny_cRoomFor hu ?_))
  refine wpAny_bind (I.type.here (wpAny_bind (J.type.here ?_)))
  rw [show (Value.ref C != Value.ref C) = false from by simp]
  simp only [Bool.false_eq_true, if_false]
  refine wpAny_bind (wpAny_pure ?_)
  simp only [Bool.false_eq_true, if_false]
  refine wpAny_bind ?_
  unfold tryCompare
  refine wpAny_bind (PySem.W.ifBound_K X I hs hf (wpAny_mono hcall (fun v s' hv => ?_) fun _ _ e => e))
  obtain ⟨b, rfl, hq⟩ := hv
  exact wpAny_pure (wpAny_pure hq)
end
/-- what == and != by an own __eq__ ask of the class -/
structure EqC (K : PySem.W.Frag) (C f : Addr) : Prop where
  ne : PySem.W.findIn K (.ref C) "__ne__" = some (some (.builtin "object.__ne__"))
  eq : PySem.W.findIn K (.ref C) "__eq__" = some (some (.ref f))
  fn : PySem.W.isFn K (.ref f) = true
  ob : PySem.W.mroIn K C (.type "object") = some true
def rCmpOwn (K : PySem.W.Frag) (mg : Str → Option Value) (C : Addr) (fn : List T → Option (T × List T)) (neg : Bool) : R2 := fun x y H Q => ∃ a b dx dy fs gs, x = .ref a ∧ y = .ref b ∧ H a = some (.ins C dx fs) ∧ H b = some (.ins C dy gs) ∧ spV K mg fn [x, y] H fun v H' => ∃ k, v = .bl k ∧ Q (.bl (if neg then !k else k)) H'
section
variable {X : Cx} {C f : Addr} {fd : FuncData} {ps : List Str} {k : Nat} {fn : List T → Option (T × List T)}
theorem call_at {A : Around} (F : FnG X.prog X.w X.K X.mg X.base k f fd ps fn) (hr : Room k A) (hg : A.guards = some []) (hb : Binds X.K fd ps []) {pins : List (Addr × Obj)} {σ : L2.St} {H : Hp} {s : Shared} {Q : VK} {us : List Value} {vs : List V} (he : Env0 X.prog X.w X.K X.mg X.base A X.stack s H) (I : Inv X pins σ H s) (r : Vals vs us) (h : spV X.K X.mg fn vs H Q) :
    wpAny (model X.prog X.w) A (call (.ref f) us) (EP X pins σ Q) X.xe s := by
  have hn : us.length = ps.length := by
    obtain ⟨H1, G, ts, t, ts', s1, rr, e, q⟩ := h
    rw [← r.length, rr.len, F.arity _ _ e]
  refine wpAny_call (codeAny_mono (F.meets A X.stack s H ⟨us, []⟩ us vs Q hr hg he (by
    have hb' := hb s us I.kIn (by rw [List.append_nil]; exact hn)
    rw [List.append_nil] at hb'
    exact hb') r h) fun o s' ho => ?_)
  cases o with
  | error e => exact False.elim ho
  | ok fl =>
    cases fl with
    | ret u => exact I.after ho
    | next => exact False.elim ho
    | brk => exact False.elim ho
    | cont => exact False.elim ho
theorem op_neOwn (F : FnG X.prog X.w X.K X.mg X.base k f fd ps fn) (hr : Room (k + 1) X.A) (hg : X.A.guards = some []) (hb : Binds X.K fd ps []) (c : EqC X.K C f) : OpR X (compareOp .NotEq) (rCmpOwn X.K X.mg C fn true) := by
  intro pins s σ H x y v u Q I rx ry h
  obtain ⟨a, b, dx, dy, fs, gs, rfl, rfl, ha, hb', q⟩ := h
  cases rx
  cases ry
  obtain ⟨mA, J, _⟩ := ins_get I.hok ha
  obtain ⟨mB, J', _⟩ := ins_get I.hok hb'
  obtain ⟨od, J, _⟩ := J.look
  obtain ⟨od', J', _⟩ := J'.look
  refine ne_rich_K I.kIn J J' c.ne c.eq c.fn c.ob (by have := hr.un; omega) ?_
  refine wpAny_mono (call_at F hr.in1 (by first | exact hg | simpa [Around.in1] using hg) hb I.env0.in1 I (vs := [.ref a, .ref b]) (us := [.ref a, .ref b]) (.cons rfl (.cons rfl .nil)) q) (fun w s' hw => ?_) fun _ _ e => e
  obtain ⟨z, H', I', rz, k, rfl, hq⟩ := hw
  cases rz
  exact ⟨k, rfl, .bl (!k), H', I', rfl, hq⟩
theorem op_eqOwn (F : FnG X.prog X.w X.K X.mg X.base k f fd ps fn) (hr : Room k X.A) (hg : X.A.guards = some []) (hb : Binds X.K fd ps []) (c : EqC X.K C f) : OpR X (compareOp .Eq) (rCmpOwn X.K X.mg C fn false) := by
  intro pins s σ H x y v u Q I rx ry h
  obtain ⟨a, b, dx, dy, fs, gs, rfl, rfl, ha, hb', q⟩ := h
  cases rx
  cases ry
  obtain ⟨mA, J, _⟩ := ins_get I.hok ha
  obtain ⟨mB, J', _⟩ := ins_get I.hok hb'
  obtain ⟨od, J, _⟩ := J.look
  obtain ⟨od', J', _⟩ := J'.look
  refine eq_rich_K I.kIn J J' c.eq c.fn hr.units0 ?_
  refine wpAny_mono (call_at F hr hg hb I.env0 I (vs := [.ref a, .ref b]) (us := [.ref a, .ref b]) (.cons rfl (.cons rfl .nil)) q) (fun w s' hw => ?_) fun _ _ e => e
  obtain ⟨z, H', I', rz, k, rfl, hq⟩ := hw
  cases rz
  exact ⟨k, rfl, .bl k, H', I', rfl, hq⟩
def cOwn (c : String) (fn : List T → Option (T × List T)) (neg : Bool) : T → T → Option T
  | .obj false d fs, .obj false d' gs => if d = c ∧ d' = c then (match fn [.obj false d fs, .obj false d' gs] with
    | some (.bl k, _) => some (.bl (if neg then !k else k))
    | _ => none) else none
  | _, _ => none
theorem opv_own {K : PySem.W.Frag} {mg : Str → Option Value} {C : Addr} {c : String} {fn : List T → Option (T × List T)} {neg : Bool} (hm : mg (Str.ofString c) = some (.ref C)) : OpV K mg (rCmpOwn K mg C fn neg) (cOwn c fn neg) := fun H1 H vx vy tx ty Gx Gy t s ra rb e Q q => by
  unfold cOwn at e
  split at e
  · rename_i d fs d' gs
    split at e
    · rename_i hh
      obtain ⟨rfl, rfl⟩ := hh
      split at e
      · rename_i k us e1
        cases e
        obtain ⟨p, C1, dx, vs, G1, ea, h2, h3, h4⟩ := ra.ins s
        obtain ⟨p', C2, dy, ws, G2, eb, h2', h3', h4'⟩ := rb.ins s
        rw [hm] at h3 h3'
        cases h3
        cases h3'
        have fa : ∃ u, u = T.obj false d' fs ∧ Fz K mg H1 vx u := by cases ra with | sh h => exact ⟨_, rfl, h⟩
        have fb : ∃ u, u = T.obj false d' gs ∧ Fz K mg H1 vy u := by cases rb with | sh h => exact ⟨_, rfl, h⟩
        obtain ⟨_, rfl, fa⟩ := fa
        obtain ⟨_, rfl, fb⟩ := fb
        refine ⟨p, p', dx, dy, vs, ws, ea, eb, h2, h2', H1, _, _, _, us, s, .cons (.sh fa) (.cons (.sh fb) .nil fun _ z => z.elim) (fun _ z => z.elim), e1, fun v H1' H' F' Ft x rs rv dd => ⟨k, rv.blE, ?_⟩⟩
        refine q _ H1' H' F0 ?_ (.sh (.bl _))
        have eF : (fun b => F0 b ∨ F0 b ∨ F0 b) = F0 := funext fun b => propext ⟨fun z => z.elim id fun z => z.elim id id, fun z => .inl z⟩
        rw [eF] at x
        exact x.less fun _ z => z.elim
      · cases e
    · cases e
  · cases e
end
/-- a class with an own ==, its method's plain function fn -/
structure HasE (P : Program) (w : World) (K : PySem.W.Frag) (mg : Str → Option Value) (base : Heap) (k : Nat) (c : String) (fn : List T → Option (T × List T)) : Prop where
  ex : ∃ (C f : Addr) (fd : FuncData) (ps : List Str), EqC K C f ∧ FnG P w K mg base k f fd ps fn ∧ mg (Str.ofString c) = some (.ref C) ∧ Binds K fd ps []
/-- != by the layer's own comparison, or by an own == -/
def cNeO (c : String) (fn : List T → Option (T × List T)) : T → T → Option T := fun a b => match cNe a b with | some t => some t | none => cOwn c fn true a b
def cEqO (c : String) (fn : List T → Option (T × List T)) : T → T → Option T := fun a b => match cEq a b with | some t => some t | none => cOwn c fn false a b
section
variable {X : Cx} {c : String} {k j : Nat} {fn : List T → Option (T × List T)} {f : Value → Value → Sem Value} {fo : T → T → Option T}
theorem OpR.or {r r' : R2} (h : OpR X f r) (h' : OpR X f r') : OpR X f (fun x y H Q => r x y H Q ∨ r' x y H Q) := fun pins s σ H x y v u Q I rx ry q =>
  q.elim (h pins s σ H x y v u Q I rx ry) (h' pins s σ H x y v u Q I rx ry)
def mOp (X : Cx) (f : Value → Value → Sem Value) (fo : T → T → Option T) : R2 := fun x y H Q => ∀ r, OpR X f r → OpV X.K X.mg r fo → r x y H Q
theorem opEx_r (h : ∃ r, OpR X f r ∧ OpV X.K X.mg r fo) : OpR X f (mOp X f fo) := by
  obtain ⟨r, h1, h2⟩ := h
  exact fun pins s σ H x y v u Q I rx ry q => h1 pins s σ H x y v u Q I rx ry (q r h1 h2)
theorem opEx_v : OpV X.K X.mg (mOp X f fo) fo := fun H1 H vx vy tx ty Gx Gy t s ra rb e Q q r h1 h2 => h2 H1 H vx vy tx ty Gx Gy t s ra rb e Q q
theorem op_ne_own (h : HasE X.prog X.w X.K X.mg X.base k c fn) (hr : Room j X.A) (hk : k + 1 ≤ j) (hg : X.A.guards = some []) : ∃ r, OpR X (compareOp .NotEq) r ∧ OpV X.K X.mg r (cOwn c fn true) := by
  obtain ⟨C, f, fd, ps, e, F, mc, b⟩ := h.ex
  exact ⟨_, op_neOwn F (hr.mono hk) hg b e, opv_own mc⟩
theorem op_eq_own (h : HasE X.prog X.w X.K X.mg X.base k c fn) (hr : Room j X.A) (hk : k + 1 ≤ j) (hg : X.A.guards = some []) : ∃ r, OpR X (compareOp .Eq) r ∧ OpV X.K X.mg r (cOwn c fn false) := by
  obtain ⟨C, f, fd, ps, e, F, mc, b⟩ := h.ex
  exact ⟨_, op_eqOwn F (hr.mono (Nat.le_of_succ_le hk)) hg b e, opv_own mc⟩
theorem op_neO (h : HasE X.prog X.w X.K X.mg X.base k c fn) (hr : Room j X.A) (hk : k + 1 ≤ j) (hg : X.A.guards = some []) : OpR X (compareOp .NotEq) (fun x y H Q => rNeU X.K x y H Q ∨ mOp X (compareOp .NotEq) (cOwn c fn true) x y H Q) := OpR.or (op_neU hr.units) (opEx_r (op_ne_own h hr hk hg))
theorem op_eqO (h : HasE X.prog X.w X.K X.mg X.base k c fn) (hr : Room j X.A) (hk : k + 1 ≤ j) (hg : X.A.guards = some []) : OpR X (compareOp .Eq) (fun x y H Q => rEqU X.K x y H Q ∨ mOp X (compareOp .Eq) (cOwn c fn false) x y H Q) := OpR.or (op_eqU hr.units) (opEx_r (op_eq_own h hr hk hg))
theorem ov_neO : OpV X.K X.mg (fun x y H Q => rNeU X.K x y H Q ∨ mOp X (compareOp .NotEq) (cOwn c fn true) x y H Q) (cNeO c fn) := OpV.or ov_neU opEx_v
theorem ov_eqO : OpV X.K X.mg (fun x y H Q => rEqU X.K x y H Q ∨ mOp X (compareOp .Eq) (cOwn c fn false) x y H Q) (cEqO c fn) := OpV.or ov_eqU opEx_v
end
section
variable {c : String} {fn : List T → Option (T × List T)} {fs gs : List (String × T)} {Q : T → Prop}
theorem data_obj {o : Bool} {d : String} : (T.obj o d fs).data = none := by simp [T.data]
theorem shaped_obj {o : Bool} {d : String} : (T.obj o d fs).shaped = false := by unfold T.shaped; rw [data_obj]
theorem wp_cNeO (q : wp (fn [.obj false c fs, .obj false c gs]) fun r => ∃ k, r.1 = .bl k ∧ Q (.bl (!k))) : wp (cNeO c fn (.obj false c fs) (.obj false c gs)) Q := by
  obtain ⟨⟨t, us⟩, h1, k, rfl, h2⟩ := q
  have e : cNe (.obj false c fs) (.obj false c gs) = none := by simp [cNe, fEq, shaped_obj]
  exact ⟨_, by unfold cNeO; rw [e]; simp [cOwn, h1], h2⟩
theorem wp_cEqO (q : wp (fn [.obj false c fs, .obj false c gs]) fun r => ∃ k, r.1 = .bl k ∧ Q (.bl k)) : wp (cEqO c fn (.obj false c fs) (.obj false c gs)) Q := by
  obtain ⟨⟨t, us⟩, h1, k, rfl, h2⟩ := q
  have e : cEq (.obj false c fs) (.obj false c gs) = none := by simp [cEq, fEq, shaped_obj]
  exact ⟨_, by unfold cEqO; rw [e]; simp [cOwn, h1], h2⟩
end
end GK

/-! GK48: str(x) of an instance of a class of the text that has its own __str__. -/
namespace GK
open PySem L2 PySem.Spec PyProof.Rows
def rStrOwn (K : PySem.W.Frag) (mg : Str → Option Value) (C : Addr) (fn : List T → Option (T × List T)) : List V → Hp → VK → Prop := fun vs H Q => ∃ a dx fs, vs = [.ref a] ∧ H a = some (.ins C dx fs) ∧ spV K mg fn [.ref a] H fun v H' => ∃ z, v = .str z ∧ Q (.str z) H'
section
variable {X : Cx} {C f : Addr} {fd : FuncData} {ps : List Str} {k : Nat} {fn : List T → Option (T × List T)}
theorem call_strOwn (F : FnG X.prog X.w X.K X.mg X.base k f fd ps fn) (hr : Room (k + 2) X.A) (hg : X.A.guards = some []) (hb : Binds X.K fd ps []) (hs : PySem.W.findIn X.K (.ref C) "__str__" = some (some (.ref f))) (hf : PySem.W.isFn X.K (.ref f) = true) : CallR X (.type "str") (rStrOwn X.K X.mg C fn) := by
  intro pins s σ H xs us Q I r h
  obtain ⟨a, dx, fs, rfl, ha, q⟩ := h
  cases r with
  | cons rx rr =>
    cases rr
    cases rx
    obtain ⟨mA, J, _⟩ := ins_get I.hok ha
    obtain ⟨od, J, _⟩ := J.look
    refine PySem.W.kso_call (by have := hr.un; show X.A.units + 1 + 1 < _; omega) I.kIn J hs hf ?_
    refine wpAny_mono (call_at F hr.in1.in1 (by first | exact hg | simpa [Around.in1] using hg) hb I.env0.in1.in1 I (vs := [.ref a]) (us := [.ref a]) (.cons rfl .nil) q) (fun w s' hw => ?_) fun _ _ e => e
    obtain ⟨z, H', I', rz, y, rfl, hq⟩ := hw
    obtain ⟨tk, rfl⟩ := rz
    exact ⟨.str y, H', I', ⟨tk, rfl⟩, hq⟩
def fStrOwn (c : String) (fn : List T → Option (T × List T)) : List T → Option T
  | [.obj false d fs] => if d = c then (match fn [.obj false d fs] with
    | some (.str z, _) => some (.str z)
    | _ => none) else none
  | _ => none
theorem cp_strOwn {K : PySem.W.Frag} {mg : Str → Option Value} {c : String} (hm : mg (Str.ofString c) = some (.ref C)) : CallP K mg (rStrOwn K mg C fn) (fStrOwn c fn) := fun H1 H vs ts t s a e Q q => by
  unfold fStrOwn at e
  split at e
  · rename_i d fs
    split at e
    · rename_i hh
      subst hh
      split at e
      · rename_i z us e1
        cases e
        obtain ⟨v, G, rfl, ra⟩ := a.one
        obtain ⟨p, C1, dx, vs, G1, ea, h2, h3, h4⟩ := ra.ins s
        rw [hm] at h3
        cases h3
        have fa : ∃ u, u = T.obj false d fs ∧ Fz K mg H1 v u := by cases ra with | sh h => exact ⟨_, rfl, h⟩
        obtain ⟨_, rfl, fa⟩ := fa
        subst ea
        refine ⟨p, dx, vs, rfl, h2, H1, _, _, _, us, s, .cons (.sh fa) .nil fun _ z => z.elim, e1, fun v H1' H' F' Ft x rs rv dd => ⟨_, rv.strE, ?_⟩⟩
        refine q _ H1' H' F0 ?_ (.sh (.str _))
        have eF : (fun b => F0 b ∨ F0 b) = F0 := funext fun b => propext ⟨fun z => z.elim id id, fun z => .inl z⟩
        rw [eF] at x
        exact x.less fun _ z => z.elim
      · cases e
    · cases e
  · cases e
def mCall (X : Cx) (g : Value) (fo : List T → Option T) : List V → Hp → VK → Prop := fun x H Q => ∀ r, CallR X g r → CallP X.K X.mg r fo → r x H Q
theorem callEx_r {g : Value} {fo : List T → Option T} (h : ∃ r, CallR X g r ∧ CallP X.K X.mg r fo) : CallR X g (mCall X g fo) := by
  obtain ⟨r, h1, h2⟩ := h
  exact fun pins s σ H xs us Q I rv q => h1 pins s σ H xs us Q I rv (q r h1 h2)
theorem callEx_v {g : Value} {fo : List T → Option T} : CallP X.K X.mg (mCall X g fo) fo := fun H1 H vs ts t s a e Q q r h1 h2 => h2 H1 H vs ts t s a e Q q
theorem call_strO {c : String} {j : Nat} (h : HasM X.prog X.w X.K X.mg X.base k c "__str__" fn) (hr : Room j X.A) (hk : k + 2 ≤ j) (hg : X.A.guards = some []) : CallR X (.type "str") (mCall X (.type "str") (fStrOwn c fn)) := by
  obtain ⟨C, f, fd, ps, cl, me, F, mc, b⟩ := h.ex
  exact callEx_r ⟨_, call_strOwn F (hr.mono hk) hg b me.at_ me.fn, cp_strOwn mc⟩
theorem CallP.or {K : PySem.W.Frag} {mg : Str → Option Value} {r r' : List V → Hp → VK → Prop} {f f' : List T → Option T} (h : CallP K mg r f) (h' : CallP K mg r' f') : CallP K mg (fun x H Q => r x H Q ∨ r' x H Q) (fun x => match f x with | some t => some t | none => f' x) :=
  fun H1 H vs ts t s a e Q q => by
    cases e1 : f ts with
    | some t' => dsimp only at e; rw [e1] at e; cases e; exact .inl (h _ _ _ _ _ s a e1 Q q)
    | none => dsimp only at e; rw [e1] at e; exact .inr (h' _ _ _ _ _ s a e Q q)
def fStrO (c : String) (fn : List T → Option (T × List T)) : List T → Option T := fun ts => match fStr ts with | some t => some t | none => fStrOwn c fn ts
end
theorem wp_fStrO {c : String} {fn : List T → Option (T × List T)} {fs : List (String × T)} {Q : T → Prop} (q : wp (fn [.obj false c fs]) fun r => ∃ z, r.1 = .str z ∧ Q (.str z)) : wp (fStrO c fn [.obj false c fs]) Q := by
  obtain ⟨⟨t, us⟩, h1, z, rfl, h2⟩ := q
  have e : fStr [.obj false c fs] = none := rfl
  exact ⟨_, by unfold fStrO; rw [e]; simp [fStrOwn, h1], h2⟩
end GK

/-! GK49: sorted(set(a tuple of texts)); tuples of ints by <=. -/
namespace GK
open PySem L2 PySem.Spec PyProof.Rows PySem.Froz
section
variable {P : Program} {w : World} {A : Around} {E : Value → Shared → Prop} {s : Shared} {a : Addr} {l : List Str}
set_option maxRecDepth 100000 in
/-- set(xs), xs a tuple of texts -/
theorem call_set_strsT {l : Addr} {items : Array Value} (zs : List Str) {Q : Value → Shared → Prop} (hh : A.handled = none) (hl : s.heap.IsTuple l items) (hit : StrsAre items.toList zs) (hb : zs.length + 1 < scanBound)
    (h : ∀ (h' : Heap) (tk : Nat) (ys : List Str), SetX P w h' s.heap.objs.size ys → (∀ x, x ∈ ys ↔ x ∈ zs) → ys.length ≤ zs.length → (∀ b o, s.heap.get? b = some o → h'.get? b = some o) → Q (.ref s.heap.objs.size) { s with heap := h', toks := tk }) :
    wpAny (model P w) A (call (.type "set") [.ref l]) Q E s := by
  have hisz : items.size = zs.length := by
    have q := hit.length
    rw [Array.length_toList] at q
    exact q
  obtain ⟨c, tl, hmro⟩ := F.called_set.mro
  have hmade := F.called_set.made
  have hsub := F.called_set.sub
  refine wpAny_call (codeAny_of_tree ?_)
  show wpAny _ _ (callAny (.type "set") _) _ _ _
  refine wpAny_pure ⟨Code.quiet_builtin _ (by decide +kernel), codeAny_builtin F.entry_type_call ?_⟩
  rw [Around.under_plain (weight_type_call_type "set" [.ref l] []) rfl]
  have h1 := F.called_set.notType
  have h2 := F.called_set.canCreate
  have hct := F.typeCall_set_1 (.ref l)
  repeat (any_goals (first | assumption | wp_step))
  refine codeAny_mono (code_set_led1 (.ref l) (E := E) (Q₁ := fun obj s₁ => obj = .ref s.heap.objs.size ∧ s₁ = { s with heap := s.heap.push { cls := .type "set", dict := none, data := .set #[] 0 (.fresh 0 0 (!w.params.followText "set-order")) } }) ⟨rfl, rfl⟩) fun r s₁ hr => ?_
  cases r with
  | error e => exact hr
  | ok fl =>
    cases fl with
    | ret obj =>
      obtain ⟨rfl, rfl⟩ := hr
      have hS : (s.heap.push { cls := .type "set", dict := none, data := .set #[] 0 (.fresh 0 0 (!w.params.followText "set-order")) }).get? s.heap.objs.size = some { cls := .type "set", dict := none, data := .set #[] 0 (.fresh 0 0 (!w.params.followText "set-order")) } := Heap.get?_push_size _ rfl
      have hT : Shared.TypeIs { s with heap := s.heap.push { cls := .type "set", dict := none, data := .set #[] 0 (.fresh 0 0 (!w.params.followText "set-order")) } } (.ref s.heap.objs.size) "set" := ⟨_, hS, rfl⟩
      have hli := F.called_set.init.lookup
      have hbi := F.called_set.init.bind (.ref s.heap.objs.size)
      repeat (any_goals (first | assumption | wp_step))
      refine codeAny_mono (codeAny_call_builtin (R := wants (fun r s₂ => r = .none ∧ ∃ h' tk ys, s₂ = { s with heap := h', toks := tk } ∧ SetX P w h' s.heap.objs.size ys ∧ (∀ x, x ∈ ys ↔ x ∈ zs) ∧ ys.length ≤ zs.length ∧
          (∀ b o, s.heap.get? b = some o → h'.get? b = some o)) E) F.called_set.init.plain F.entry_set_init (check_set_init_1 hT ?_)) fun r₂ s₂ hr₂ => ?_
      · obtain ⟨ol, hol, hcl, nl, hdl⟩ := hl
        obtain ⟨ocls, odict, odata, oslots⟩ := ol
        simp only at hcl hdl
        subst hcl; subst hdl
        have hol' : (s.heap.push { cls := .type "set", dict := none, data := .set #[] 0 (.fresh 0 0 (!w.params.followText "set-order")) }).get? l = some { cls := .type "tuple", dict := odict, data := .seq items nl, slots := oslots } := Heap.get?_push_of_some _ hol
        have hsls := F.sub_tuple_set
        have hslf := F.sub_tuple_frozenset
        have hne : (Value.type "tuple" == Value.type "dict") = false := by decide
        have hl1 : (s.heap.push { cls := .type "set", dict := none, data := .set #[] 0 (.fresh 0 0 (!w.params.followText "set-order")) }).IsTuple l items := ⟨_, hol', rfl, nl, rfl⟩
        unfold Builtin.«set.__init__» noKeywords Builtin.Frozenset.updateFrom
        generalize hPI : pyIter = PI
        wp_walk
        subst hPI
        refine wpAny_pyIter_tuple hl1 ?_
        refine wpAny_bind (wpAny_runValue ?_)
        have hlS : l < s.heap.objs.size := Heap.lt_size hol
        have hh3 : A.in1.in1.in1.handled = none := by simp [hh]
        have hneI : l ≠ (s.heap.push { cls := .type "set", dict := none, data := .set #[] 0 (.fresh 0 0 (!w.params.followText "set-order")) }).objs.size := by
          rw [Heap.size_push]; exact Nat.ne_of_lt (Nat.lt_succ_of_lt hlS)
        have hSf : s.heap.objs.size ∉ [(s.heap.push { cls := .type "set", dict := none, data := .set #[] 0 (.fresh 0 0 (!w.params.followText "set-order")) }).objs.size, l] := by
          rw [Heap.size_push]; simp only [List.mem_cons, List.mem_singleton, List.not_mem_nil, or_false, not_or]
          exact ⟨Nat.ne_of_lt (Nat.lt_succ_self _), Nat.ne_of_gt hlS⟩
        have hval : ∀ (i : Nat) (v : Value), items[i]? = some v → ∃ k t, zs[i]? = some k ∧ v = .str k t := fun i v hv => by
          have q : items.toList[i]? = some v := by rw [Array.getElem?_toList]; exact hv
          exact GK.strs_get hit q
        refine set_update_strs ((Walks.tuple hh3 _ l hneI items).toS) s.heap.objs.size
          hSf zs hisz hb hval (items.size - 0) 0 _ (by omega) (Nat.zero_le _)
          ⟨⟨_, Heap.get?_push_size _ rfl, rfl, rfl⟩, (hl1.push _)⟩ ?hS0 ?hR
        case hS0 =>
          have hget : ((s.heap.push { cls := .type "set", dict := none, data := .set #[] 0 (.fresh 0 0 (!w.params.followText "set-order")) }).push { cls := .type "tuple_iterator", data := .fields #[.ref l, .int 0 0] }).get? s.heap.objs.size
              = some { cls := .type "set", dict := none, data := .set #[] 0 (.fresh 0 0 (!w.params.followText "set-order")) } := Heap.get?_push_of_some _ hS
          exact ⟨[], Nat.le_refl _, setX_new hget, fun x => by simp⟩
        case hR =>
          intro s' ys hm hlen hS' hx
          obtain ⟨h', g2, d', tk', os'⟩ := s'
          have eg : g2 = s.gens := hm.gens
          have ed : d' = s.drawn := hm.drawn
          have eo : os' = s.os := hm.os
          subst eg; subst ed; subst eo
          show wpAny _ _ _ _ _ _
          refine wpAny_pure ?_
          show wpAny _ _ (ret Value.none) _ _ _
          refine wpAny_pure ⟨rfl, h', tk', ys, rfl, hS', hx, by rw [hisz] at hlen; exact hlen, fun b o e => ?_⟩
          have hlt : b < s.heap.objs.size := Heap.lt_size e
          refine hm.heap b o (fun z => ?_) (Heap.get?_push_of_some _ (Heap.get?_push_of_some _ e))
          rcases List.mem_cons.mp z with z | z
          · exact absurd hlt (by rw [z]; exact Nat.lt_irrefl _)
          · have z := List.mem_singleton.mp z
            rw [Heap.size_push] at z
            exact absurd hlt (by rw [z]; exact Nat.not_lt_of_le (Nat.le_succ _))
      · cases r₂ with
        | error e => exact hr₂
        | ok fl₂ =>
          cases fl₂ with
          | ret r =>
            obtain ⟨rfl, h', tk, ys, rfl, hS', hx, hlen, hk'⟩ := hr₂
            repeat (any_goals (first | assumption | wp_step))
            exact h _ _ _ hS' hx hlen hk'
          | _ => exact hr₂.elim
    | _ => exact hr.elim
end
def rSetXT (K : PySem.W.Frag) (P : Program) (w : World) : List V → Hp → VK → Prop := fun xs H Q => ∃ (l : Addr) (zs : List Str), xs = [V.ref l] ∧ SqT K H l (zs.map V.str) ∧ zs.length + 1 < scanBound ∧
  ∀ a ys, H a = none → (∀ x, x ∈ ys ↔ x ∈ zs) → ys.Nodup → ys.length ≤ zs.length → Q (.ref a) (upd H a (SetXO P w a ys))
section
variable {X : Cx}
theorem cr_setXT (hc : X.calm = true) : CallR X (.type "set") (rSetXT X.K X.prog X.w) := by
  intro pins s σ H xs us Q I r h
  obtain ⟨l, zs, rfl, hl, hb, q⟩ := h
  rw [Vals.ref1 r]
  obtain ⟨its, rv, pl, hz⟩ := I.tuple hl
  have hn : H s.heap.objs.size = none := I.hok.fresh (Nat.le_refl _)
  refine call_set_strsT (P := X.prog) (w := X.w) zs (I.ok.hd hc) pl (by simpa using rv.strs) hb fun h' tk ys R hx hlen k => ?_
  exact ⟨.ref s.heap.objs.size, upd H s.heap.objs.size (SetXO X.prog X.w s.heap.objs.size ys), I.laid (t' := tk) k (Nat.le_refl _) (setXO_new R), rfl, q _ ys hn hx (let ⟨_, _, _, nd, _⟩ := R; nd) hlen⟩
end
def fSetSortT (t : T) : Option T := match (match t with | .tup xs => T.strs xs | _ => none) with
  | some zs => if zs.length + 1 < 4096 then some (.lst true ((isort leS (dedS zs)).map .str)) else none
  | none => none
section
variable {X : Cx} {e : Expr} {te : TE} {x : Env → Option T} {p p2 pos pos2 : Pos}
def tSetSortT (X : Cx) (te : TE) : TE := tCB (rSortX X.prog X.w) (tCons (tCB (rSetXT X.K X.prog X.w) (tCons te tNil)) tNil)
theorem pe_setSortT (hc : X.calm = true) (hg : Gl X "sorted") (hm : X.mg "sorted" = none) (hg2 : Gl X "set") (hm2 : X.mg "set" = none) (he : PE X e te)
    (h1 : starEach [e] X.env = (false, eval e X.env) :: starEach [] X.env := by rfl) (h2 : (backTo pos2 (starEach [] X.env)).any (·.1) = false := by rfl)
    (h3 : starEach [.Call (.Name "set" p2) [e] [] pos2] X.env = (false, eval (.Call (.Name "set" p2) [e] [] pos2) X.env) :: starEach [] X.env := by rfl) (h4 : (backTo pos (starEach [] X.env)).any (·.1) = false := by rfl) :
    PE X (.Call (.Name "sorted" p) [.Call (.Name "set" p2) [e] [] pos2] [] pos) (tSetSortT X te) :=
  pe_callB (cr_sortX hc) hg hm (by decide +kernel) (pa_cons (pe_callTy (cr_setXT hc) hg2 hm2 (by decide +kernel) (pa_cons he pa_nil h1) (by decide) (by decide) h1 h2) pa_nil h3) (by decide) (by decide) h3 h4
theorem setSort_roadT {H1 H : Hp} {v : V} {t u : T} {G : FP} {Q : VK} (s : Same H1 H) (r : Rep X.K X.mg H1 H v t G) (e : fSetSortT t = some u) (q : ∀ v H1' H' Ft, Ext H1 H F0 H1' H' Ft → Rep X.K X.mg H1' H' v u Ft → Q v H') :
    rSetXT X.K X.prog X.w [v] H fun v2 H2 => rSortX X.prog X.w [v2] H2 Q := by
  unfold fSetSortT at e
  split at e
  · rename_i zs hz
    split at e
    · rename_i hl
      cases e
      have road : ∃ p, v = .ref p ∧ SqT X.K H p ((zs.map S).map V.str) := by
        split at hz
        · obtain ⟨p, vs, rfl, h2, h3⟩ := r.tuple s
          obtain ⟨F, h4, _⟩ := h3.reps (H := H)
          rw [h4.strs hz] at h2
          exact ⟨p, rfl, by rw [List.map_map]; exact h2⟩
        · cases hz
      obtain ⟨p, rfl, hp⟩ := road
      refine ⟨p, zs.map S, rfl, hp, by rw [List.length_map]; exact hl, fun a ys hn hx nd hlen => ⟨a, ys, rfl, upd_same, by rw [List.length_map] at hlen; exact Nat.lt_of_le_of_lt hlen (Nat.lt_of_succ_lt hl), fun ws p' pm pw hn' => ?_⟩⟩
      have x1 : Ext H1 H F0 (upd H1 a (SetXO X.prog X.w a ys)) (upd H a (SetXO X.prog X.w a ys)) F0 := Ext.newS s hn
      have pd : ws.Perm ((dedS zs).map S) := pm.trans ((List.perm_ext_iff_of_nodup nd (S_nodup (dedS_nodup zs))).mpr fun z => by
        rw [hx, List.mem_map, List.mem_map]
        exact ⟨fun ⟨z', h1, h2⟩ => ⟨z', (dedS_mem zs z').mpr h1, h2⟩, fun ⟨z', h1, h2⟩ => ⟨z', (dedS_mem zs z').mp h1, h2⟩⟩)
      rw [isortS_eq pd pw, List.map_map]
      exact newL x1.sub (fz_strs _ _) (fun v Ha Hb Ft x2 => q v Ha Hb Ft (x1.trans x2)) p' hn'
    · cases e
  · cases e
theorem qe_setSortT (hc : X.calm = true) (hg : Gl X "sorted") (hm : X.mg "sorted" = none) (hg2 : Gl X "set") (hm2 : X.mg "set" = none) (he : KE X e te x)
    (h1 : starEach [e] X.env = (false, eval e X.env) :: starEach [] X.env := by rfl) (h2 : (backTo pos2 (starEach [] X.env)).any (·.1) = false := by rfl)
    (h3 : starEach [.Call (.Name "set" p2) [e] [] pos2] X.env = (false, eval (.Call (.Name "set" p2) [e] [] pos2) X.env) :: starEach [] X.env := by rfl) (h4 : (backTo pos (starEach [] X.env)).any (·.1) = false := by rfl) :
    QE X (.Call (.Name "sorted" p) [.Call (.Name "set" p2) [e] [] pos2] [] pos) (tSetSortT X te) (qUn fSetSortT x) :=
  ⟨pe_setSortT hc hg hm hg2 hm2 he.pe h1 h2 h3 h4, fun env t e H1 H σ F s R Q q => by
    unfold qUn at e
    cases e1 : x env with
    | none => rw [e1] at e; cases e
    | some u =>
      rw [e1] at e
      exact he.kr _ _ e1 _ _ _ _ s R _ fun v Ha Hb G x1 r1 => setSort_roadT x1.sub r1 e fun v H1' H' Ft x2 r2 => q v H1' H' Ft (x1.trans x2) r2⟩
end
def cLeT : T → T → Option T := fun a b => match a, b with
  | .tup xs, .tup ys => match T.ints xs, T.ints ys with
    | some ns, some ms => some (.bl (Ob.lexAt (fun j => decide (ns.getD j 0 = ms.getD j 0)) (fun j => decide (ns.getD j 0 ≤ ms.getD j 0)) (decide (ns.length ≤ ms.length)) 0 (min ns.length ms.length)))
    | _, _ => none
  | _, _ => none
theorem ov_leT {K : PySem.W.Frag} {mg : Str → Option Value} : OpV K mg (rLeT K) cLeT := fun H1 H vx vy tx ty Gx Gy t s ra rb e Q q => by
  unfold cLeT at e
  split at e
  · rename_i xs ys
    split at e
    · rename_i ns ms h1 h2
      cases e
      obtain ⟨p, vs, rfl, g2, g3⟩ := ra.tuple s
      obtain ⟨p', ws, rfl, g2', g3'⟩ := rb.tuple s
      obtain ⟨F, h4, _⟩ := g3.reps (H := H)
      obtain ⟨F', h4', _⟩ := g3'.reps (H := H)
      rw [h4.ints h1] at g2
      rw [h4'.ints h2] at g2'
      exact ⟨p, p', ns, ms, rfl, rfl, g2, g2', now s (.bl _) q⟩
    · cases e
  · cases e
end GK

/-! GK50: a, b, .. = a tuple or a list. -/
namespace GK
open PySem L2 PySem.Spec PyProof.Rows
def gUnU (f : List T → Env → Option Env) : T → Env → Option Env := fun t env => match t with | .tup xs => f xs env | .lst false xs => f xs env | _ => none
def gTupU (K : PySem.W.Frag) (n : Nat) (t : TGs) : TG := fun v σ H Q => gTup K n t v σ H Q ∨ gLst K n t v σ H Q
theorem PG.orT {X : Cx} {e : Expr} {t t' : TG} (h : PG X e t) (h' : PG X e t') : PG X e (fun v σ H Q => t v σ H Q ∨ t' v σ H Q) := ⟨fun pins s σ H v u Q I r hw => hw.elim (h.run pins s σ H v u Q I r) (h'.run pins s σ H v u Q I r)⟩
theorem gr_tupU {P : Nat → Bool} {K : PySem.W.Frag} {mg : Str → Option Value} {n : Nat} {t : TGs} {f : List T → Env → Option Env} (h : GsR P K mg n t f) : GR K mg P (gTupU K n t) (gUnU f) := fun u env env' e H1 H σ F v Fv s R r d Q q => by
  unfold gUnU at e
  split at e
  · rename_i xs
    obtain ⟨hl, hg⟩ := h _ _ _ e
    obtain ⟨a, vs, rfl, h2, h3⟩ := r.tuple s
    exact .inl ⟨a, vs, rfl, h2, by rw [h3.len, hl], hg _ _ _ _ _ s R h3 Q fun σ' H1' H' F' x R' pn => q σ' H1' H' F' (x.more fun b z => .inl z) R' pn⟩
  · rename_i xs
    obtain ⟨hl, hg⟩ := h _ _ _ e
    have fa : ∃ u, u = T.lst false xs ∧ Fz K mg H1 v u := by cases r with | sh h => exact ⟨_, rfl, h⟩
    obtain ⟨_, e0, fa⟩ := fa
    cases fa with
    | lst h2 h3 =>
      cases e0
      exact .inr ⟨_, _, rfl, .inl (.inl (s _ _ h2)), by rw [h3.len, hl], hg _ _ _ _ _ s R h3 Q fun σ' H1' H' F' x R' pn => q σ' H1' H' F' (x.more fun b z => .inl z) R' pn⟩
    | _ => cases e0
  · cases e
theorem ge_tupU {X : Cx} {P : Nat → Bool} {pos : Pos} {es : List Expr} {u : TGs} {g : List T → Env → Option Env} {n k : Nat} (hc : X.calm = true) (h : GsE X P n es u g) (h1 : (assignEach es X.env).length = n := by rfl) (h2 : (assignEach es X.env).findIdx? (·.1) = none := by rfl) :
    GE X P (.Tuple es k pos) (gTupU X.K n u) (gUnU g) := ⟨PG.orT (pg_tup hc h.pg h1 h2) (pg_lst hc h.pg h1 h2), gr_tupU h.gr⟩
@[simp] theorem gUnU_tup {f : List T → Env → Option Env} {xs : List T} {env : Env} : gUnU f (.tup xs) env = f xs env := rfl
@[simp] theorem gUnU_lst {f : List T → Env → Option Env} {xs : List T} {env : Env} : gUnU f (.lst false xs) env = f xs env := rfl
end GK

namespace LW
open PySem L2 GK PySem.Spec PyProof.Rows
def top (i : Nat) : Stmt := PySem.Challenge.pw_gapkinds_k75_whole_rules_put_together.main.body.getD i (.Pass ⟨0, 0, 0, 0⟩)
def AF : List (String × List String) := [("Rule", ["text", "triples", "reach", "worth_of", "behind", "kinds", "worths", "bars"])]
structure Txt (K : PySem.W.Frag) (mg : Str → Option Value) : Prop where
  cls : Cls' K mg AF
  z_abs : mg "abs" = none
  z_all : mg "all" = none
  z_dict : mg "dict" = none
  z_divmod : mg "divmod" = none
  z_int : mg "int" = none
  z_isinstance : mg "isinstance" = none
  z_len : mg "len" = none
  z_list : mg "list" = none
  z_max : mg "max" = none
  z_min : mg "min" = none
  z_range : mg "range" = none
  z_repr : mg "repr" = none
  z_set : mg "set" = none
  z_sorted : mg "sorted" = none
  z_str : mg "str" = none
  z_tuple : mg "tuple" = none
  z_zip : mg "zip" = none
  c_DIGITS : ∃ t, mg "DIGITS" = some (.str (S [48, 49, 50, 51, 52, 53, 54, 55, 56, 57]) t)
  c_DISTANCES : ∃ t, mg "DISTANCES" = some (.str (S [49, 50, 51, 52, 53]) t)
  c_LETTERS : ∃ t, mg "LETTERS" = some (.str (S [97, 98, 99, 100, 101, 102, 103, 104, 105, 106, 107, 108, 109, 110, 111, 112, 113, 114, 115, 116, 117, 118, 119, 120, 121, 122]) t)
  c_MOST_BARS : ∃ t, mg "MOST_BARS" = some (.int 40 t)
  c_MOST_DISTANCE : ∃ t, mg "MOST_DISTANCE" = some (.int 5 t)
  c_MOST_KINDS : ∃ t, mg "MOST_KINDS" = some (.int 4 t)
  c_MOST_PLACES : ∃ t, mg "MOST_PLACES" = some (.int 1000 t)
  oc_Rule : ∃ C, mg (Str.ofString "Rule") = some (.ref C) ∧ OwnC K C
section
variable {P : Program} {w : World} {K : PySem.W.Frag} {mg : Str → Option Value} {base : Heap}
abbrev s_Rule_eq : Stmt := inClass (top 23) 1
def pin_Rule_eq : Nat → Bool := fun i => ([0, 1] : List Nat).contains i
def b_Rule_eq_0 : GK.Env → Option Out :=
 (sRet (eQ (qAnd (qUn (fIsOwn "Rule") (kVar 1)) (qOp cEq (kFld AF "text" (kVar 0)) (kFld AF "text" (kVar 1))))))
def b_Rule_eq : GK.Env → Option Out :=
 b_Rule_eq_0
def f_Rule_eq : List T → Option (T × List T) := mkFn 2 2 pin_Rule_eq b_Rule_eq
theorem sc_Rule_eq : FnScope ["self", "other"] ["self", "other"] (defScope s_Rule_eq) := ⟨rfl, rfl, rfl, by decide +kernel, rfl, by decide +kernel, by decide +kernel⟩
theorem ok_Rule_eq {f : Addr} {fd : FuncData} (F : FunX K "__eq__" "Rule.__eq__" s_Rule_eq f fd) (Tx : Txt K mg) : FnG P w K mg base 1 f fd ["self", "other"] f_Rule_eq := by
  refine fn_ok F sc_Rule_eq (pin := pin_Rule_eq) (b := b_Rule_eq) fun cdv A outer s H hr hgd => ?_
  obtain ⟨C_Rule, m_Rule, o_Rule⟩ := Tx.oc_Rule
  exact ⟨_, (ses_one (se_ret (QE.eff (qe_and (qe_isOwn (y := "Rule") (by rfl) Tx.z_isinstance (by rfl) m_Rule o_Rule (ke_var 1 (pv 1))) (qe_one (qe_cmp (ce_op (op_eqU hr.units) ov_eqU (ke_fld (f := "text") Tx.cls (ke_var 0 (pv 0))) (ke_fld (f := "text") Tx.cls (ke_var 1 (pv 1))))))))))⟩

abbrev s_law_bars : Stmt := top 37
def pin_law_bars : Nat → Bool := fun i => ([0, 1] : List Nat).contains i
def b_law_bars_0 : GK.Env → Option Out :=
 (sAsg (eQ (qLst aNil)) (gSet 2))
def b_law_bars_1 : GK.Env → Option Out :=
 (sFor (iQ (qWalk (qVar 0))) (gSet 3)
 (sFor (iQ (qWalk (qVar 0))) (gSet 4)
 (sAsg (eQ (qOp fAdd (kVar 2) (qLc [5] (qRng (aCons (qVar 1) aNil)) (gSet 5) cYes (qOp fAdd (qOp fAdd (kVar 3) (kVar 4)) (qCallB fStr (aCons (qOp fAdd (kVar 5) (qC (.int 1))) aNil)))))) (gSet 2))))
def b_law_bars_2 : GK.Env → Option Out :=
 (sRet (eMove 2))
def b_law_bars : GK.Env → Option Out :=
 (sSeq b_law_bars_0 (sSeq b_law_bars_1 b_law_bars_2))
def f_law_bars : List T → Option (T × List T) := mkFn 2 6 pin_law_bars b_law_bars
theorem sc_law_bars : FnScope ["_law_letters", "_law_far", "_law_found", "_law_near", "_law_late", "_law_k"] ["_law_letters", "_law_far"] (defScope s_law_bars) := ⟨rfl, rfl, rfl, by decide +kernel, rfl, by decide +kernel, by decide +kernel⟩
theorem ok_law_bars {f : Addr} {fd : FuncData} (F : FunX K "_law_bars" "_law_bars" s_law_bars f fd) (Tx : Txt K mg) : FnG P w K mg base 1 f fd ["_law_letters", "_law_far"] f_law_bars := by
  refine fn_ok F sc_law_bars (pin := pin_law_bars) (b := b_law_bars) fun cdv A outer s H hr hgd => ?_
  exact ⟨_, (ses_cons (se_asg (QE.eff (qe_lst qa_nil)) (ge_name (pg_name (i := 2) sc_law_bars.nd (by rfl) (by first | exact Or.inl rfl | exact Or.inr rfl)) (by rfl)))
 (ses_cons (se_for PassesOwn.never (by rfl) (IQ.toE (iq_any (qe_var 0 (pv 0)))) (ge_name (pg_name (i := 3) sc_law_bars.nd (by rfl) (by first | exact Or.inl rfl | exact Or.inr rfl)) (by rfl))
 (ses_one (se_for PassesOwn.never (by rfl) (IQ.toE (iq_any (qe_var 0 (pv 0)))) (ge_name (pg_name (i := 4) sc_law_bars.nd (by rfl) (by first | exact Or.inl rfl | exact Or.inr rfl)) (by rfl))
 (ses_one (se_asg (QE.eff (qe_bin op_addU ov_addU (ke_var 2 (pv 2)) (QE.k (qe_lc (by rfl) sc_law_bars.nd (IQ.toK (iq_rng1 (by rfl) Tx.z_range (qa_cons (qe_var 1 (pv 1)) qa_nil) (len_cons fun _ _ e => len_nil e))) (blkOk_by (own := [(Str.ofString "_law_k", 5)]) (by show blkC ["_law_letters", "_law_far", "_law_found", "_law_near", "_law_late", "_law_k"] (defScope s_law_bars) _ _ = true; decide +kernel)) (fun _ _ _ _ _ => ⟨_, (gq_name (pg_name (i := 5) sc_law_bars.nd (by rfl) (by first | exact Or.inl rfl | exact Or.inr rfl)) (by rfl))⟩) (fun _ _ _ _ _ => ⟨_, ts_nil⟩) (fun _ _ _ _ _ => ⟨_, (qe_bin op_addU ov_addU (QE.k (qe_bin op_addU ov_addU (ke_var 3 (pv 3)) (ke_var 4 (pv 4)))) (QE.k (qe_bty (call_str_int.or SkE.call_str_str) cp_str Tx.z_str b_str (ka_cons (QE.k (qe_bin op_addU ov_addU (ke_var 5 (pv 5)) (QE.k qe_int))) ka_nil))))⟩))))) (ge_name (pg_name (i := 2) sc_law_bars.nd (by rfl) (by first | exact Or.inl rfl | exact Or.inr rfl)) (by rfl)))))))
 (ses_one (se_ret (ee_move 2 (pv 2))))))⟩

abbrev s_law_draw : Stmt := top 36
def pin_law_draw : Nat → Bool := fun i => ([0, 1] : List Nat).contains i
def b_law_draw_0 : GK.Env → Option Out :=
 (sIf (etQ (tOfB (qOp cGt (qOp fPeekU (kVar 0) (qC (.int 0))) (qC (.int 0)))))
 (sSeq (sAsg (eQ (qCallB fDivmod (aCons (qOp fPeekU (kVar 0) (qC (.int 0))) (aCons (kVar 1) aNil)))) (gUn (gConsC (gIx (pVar 0) (qC (.int 0)) (pVarPut 0)) (gConsC (gSet 2) gNilC))))
 (sRet (eQ (qVar 2))))
 sNext)
def b_law_draw_1 : GK.Env → Option Out :=
 (sAsg (eQ (qOp fAdd (qOp fPeekU (kVar 0) (qC (.int 2))) (qC (.int 1)))) (gIx (pVar 0) (qC (.int 2)) (pVarPut 0)))
def b_law_draw_2 : GK.Env → Option Out :=
 (sAsg (eQ (qOp fAdd (qOp fMod (qCallB fInt (aCons (qOp fAdd (qOp fDiv (qOp fPeekU (kVar 0) (qC (.int 1))) (qC (.int 16))) (qOp fMul (qC (.int 7919)) (qOp fPeekU (kVar 0) (qC (.int 2))))) aNil)) (qC (.int 65521))) (qC (.int 3)))) (gSet 3))
def b_law_draw_3 : GK.Env → Option Out :=
 (sAsg (eQ (qOp fMod (qCallB fInt (aCons (qOp fAdd (qOp fAdd (qOp fMul (qOp fPeekU (kVar 0) (qC (.int 1))) (kVar 3)) (qOp fMul (qC (.int 40961)) (qOp fPeekU (kVar 0) (qC (.int 2))))) (qC (.int 17))) aNil)) (qC (.int 2147483549)))) (gIx (pVar 0) (qC (.int 1)) (pVarPut 0)))
def b_law_draw_4 : GK.Env → Option Out :=
 (sRet (eQ (qOp fMod (qCallB fInt (aCons (qOp fDiv (qOp fPeekU (kVar 0) (qC (.int 1))) (qC (.int 1024))) aNil)) (kVar 1))))
def b_law_draw : GK.Env → Option Out :=
 (sSeq b_law_draw_0 (sSeq b_law_draw_1 (sSeq b_law_draw_2 (sSeq b_law_draw_3 b_law_draw_4))))
def f_law_draw : List T → Option (T × List T) := mkFn 2 4 pin_law_draw b_law_draw
theorem sc_law_draw : FnScope ["_law_source_here", "_law_many", "_law_figure", "_law_step"] ["_law_source_here", "_law_many"] (defScope s_law_draw) := ⟨rfl, rfl, rfl, by decide +kernel, rfl, by decide +kernel, by decide +kernel⟩
theorem ok_law_draw {f : Addr} {fd : FuncData} (F : FunX K "_law_draw" "_law_draw" s_law_draw f fd) (Tx : Txt K mg) : FnG P w K mg base 1 f fd ["_law_source_here", "_law_many"] f_law_draw := by
  refine fn_ok F sc_law_draw (pin := pin_law_draw) (b := b_law_draw) fun cdv A outer s H hr hgd => ?_
  exact ⟨_, (ses_cons (se_if (TE'.eff (te_cmp (ce_op op_gt ov_gt (ke_item (hu_of hr) (ke_var 0 (pv 0)) (QE.k qe_int)) (QE.k qe_int))))
 (ses_cons (se_asg (QE.eff (qe_blt call_divmod cp_divmod Tx.z_divmod b_divmod (ka_cons (ke_item (hu_of hr) (ke_var 0 (pv 0)) (QE.k qe_int)) (ka_cons (ke_var 1 (pv 1)) ka_nil)))) (ge_tup (by rfl) (gse_cons (ge_ix (hu_of hr) (pl_var 0 (pv 0)) (QE.k qe_int) (by intro _; rfl)) (gse_cons (ge_name (pg_name (i := 2) sc_law_draw.nd (by rfl) (by first | exact Or.inl rfl | exact Or.inr rfl)) (by rfl)) gse_nil))))
 (ses_one (se_ret (QE.eff (qe_var 2 (pv 2))))))
 ses_nil)
 (ses_cons (se_asg (QE.eff (qe_bin op_addU ov_addU (ke_item (hu_of hr) (ke_var 0 (pv 0)) (QE.k qe_int)) (QE.k qe_int))) (ge_ix (hu_of hr) (pl_var 0 (pv 0)) (QE.k qe_int) (by intro _; rfl)))
 (ses_cons (se_asg (QE.eff (qe_bin op_addU ov_addU (QE.k (qe_bin op_mod ov_mod (QE.k (qe_bty (call_int1.or call_int_str) cp_int Tx.z_int b_int (ka_cons (QE.k (qe_bin op_addU ov_addU (QE.k (qe_bin op_fdiv ov_div (ke_item (hu_of hr) (ke_var 0 (pv 0)) (QE.k qe_int)) (QE.k qe_int))) (QE.k (qe_bin op_mulU ov_mulU (QE.k qe_int) (ke_item (hu_of hr) (ke_var 0 (pv 0)) (QE.k qe_int)))))) ka_nil))) (QE.k qe_int))) (QE.k qe_int))) (ge_name (pg_name (i := 3) sc_law_draw.nd (by rfl) (by first | exact Or.inl rfl | exact Or.inr rfl)) (by rfl)))
 (ses_cons (se_asg (QE.eff (qe_bin op_mod ov_mod (QE.k (qe_bty (call_int1.or call_int_str) cp_int Tx.z_int b_int (ka_cons (QE.k (qe_bin op_addU ov_addU (QE.k (qe_bin op_addU ov_addU (QE.k (qe_bin op_mulU ov_mulU (ke_item (hu_of hr) (ke_var 0 (pv 0)) (QE.k qe_int)) (ke_var 3 (pv 3)))) (QE.k (qe_bin op_mulU ov_mulU (QE.k qe_int) (ke_item (hu_of hr) (ke_var 0 (pv 0)) (QE.k qe_int)))))) (QE.k qe_int))) ka_nil))) (QE.k qe_int))) (ge_ix (hu_of hr) (pl_var 0 (pv 0)) (QE.k qe_int) (by intro _; rfl)))
 (ses_one (se_ret (QE.eff (qe_bin op_mod ov_mod (QE.k (qe_bty (call_int1.or call_int_str) cp_int Tx.z_int b_int (ka_cons (QE.k (qe_bin op_fdiv ov_div (ke_item (hu_of hr) (ke_var 0 (pv 0)) (QE.k qe_int)) (QE.k qe_int))) ka_nil))) (ke_var 1 (pv 1))))))))))⟩

abbrev s_law_plan : Stmt := top 38
def pin_law_plan : Nat → Bool := fun i => ([0, 1, 2, 3] : List Nat).contains i
def b_law_plan_0 : GK.Env → Option Out :=
 (sAsg (eQ (qC (.str [97, 98, 99, 100, 101, 102, 103, 104, 105, 106, 107, 108, 109, 110, 111, 112, 113, 114, 115, 116, 117, 118, 119, 120, 121, 122]))) (gSet 4))
def b_law_plan_1 : GK.Env → Option Out :=
 (sAsg (eJoin (qC (.str [])) (eSetSort (eLc [10] (eRng (eaCons (eOp fAdd (eQ (qC (.int 1))) (eCall f_law_draw (lLent 0 (lVal (eQ (qVar 1)) lNil)))) (eaQ aNil))) (gSet 10) cYes (eOp fIx (eQ (qVar 4)) (eCall f_law_draw (lLent 0 (lVal (eQ (qC (.int 26))) lNil))))))) (gSet 5))
def b_law_plan_2 : GK.Env → Option Out :=
 (sAsg (eCallB fTuple (eaCons (eLc [11] (iQ (qWalk (qVar 5))) (gSet 11) cYes (eCall f_law_draw (lLent 0 (lVal (eQ (qC (.int 10))) lNil)))) (eaQ aNil))) (gSet 6))
def b_law_plan_3 : GK.Env → Option Out :=
 (sPar [7, 8] (eaQ (aCons (qCall f_law_bars (aCons (qVar 5) (aCons (qVar 2) aNil))) (aCons (qLst aNil) aNil))))
def b_law_plan_4 : GK.Env → Option Out :=
 (sFor (eRng (eaCons (eCallB fMin (eaCons (eCall f_law_draw (lLent 0 (lVal (eQ (qFz (qOp fAdd (kVar 3) (qC (.int 1))))) lNil))) (eaCons (eQ (qCallB fLen (aCons (kVar 7) aNil))) (eaQ aNil)))) (eaQ aNil))) (gSet 9)
 (sExpr (eAppV 8 (ePopV 7 (eCall f_law_draw (lLent 0 (lVal (eQ (qCallB fLen (aCons (kVar 7) aNil))) lNil)))))))
def b_law_plan_5 : GK.Env → Option Out :=
 (sRet (eQ (qTup (aCons (qVar 5) (aCons (qVar 6) (aCons (qCallB fTuple (aCons (qCallB fSortTx (aCons (kVar 8) aNil)) aNil)) aNil))))))
def b_law_plan : GK.Env → Option Out :=
 (sSeq b_law_plan_0 (sSeq b_law_plan_1 (sSeq b_law_plan_2 (sSeq b_law_plan_3 (sSeq b_law_plan_4 b_law_plan_5)))))
def f_law_plan : List T → Option (T × List T) := mkFn 4 12 pin_law_plan b_law_plan
theorem sc_law_plan : FnScope ["_law_source_here", "_law_most", "_law_far", "_law_lots_here", "_law_small", "_law_letters", "_law_prices", "_law_pool", "_law_bans", "_law_turn", "_law_k", "_law_letter"] ["_law_source_here", "_law_most", "_law_far", "_law_lots_here"] (defScope s_law_plan) := ⟨rfl, rfl, rfl, by decide +kernel, rfl, by decide +kernel, by decide +kernel⟩
theorem ok_law_plan {f : Addr} {fd : FuncData} (F : FunX K "_law_plan" "_law_plan" s_law_plan f fd) (Tx : Txt K mg) (h_law_draw : Has P w K mg base 1 "_law_draw" f_law_draw) (h_law_bars : Has P w K mg base 1 "_law_bars" f_law_bars) : FnG P w K mg base 2 f fd ["_law_source_here", "_law_most", "_law_far", "_law_lots_here"] f_law_plan := by
  refine fn_ok F sc_law_plan (pin := pin_law_plan) (b := b_law_plan) fun cdv A outer s H hr hgd => ?_
  exact ⟨_, (ses_cons (se_asg (QE.eff (qe_str (l := [97, 98, 99, 100, 101, 102, 103, 104, 105, 106, 107, 108, 109, 110, 111, 112, 113, 114, 115, 116, 117, 118, 119, 120, 121, 122]) (by decide +kernel))) (ge_name (pg_name (i := 4) sc_law_plan.nd (by rfl) (by first | exact Or.inl rfl | exact Or.inr rfl)) (by rfl)))
 (ses_cons (se_asg (ee_join (QE.k (qe_str (l := []) (by decide +kernel))) (ee_setSort (by rfl) (by rfl) Tx.z_sorted (by rfl) Tx.z_set (ee_lc (by rfl) sc_law_plan.nd (ie_rng1 (by rfl) Tx.z_range (ea_cons (ee_bin op_addU ov_addU (QE.eff qe_int) (ee_has (y := "_law_draw") h_law_draw hr (by decide) hgd (el_lent 0 (pv 0) (el_val (QE.eff (qe_var 1 (pv 1))) el_nil)))) (QA.eff qa_nil)) (elen_cons (elen_q fun _ _ e => len_nil e))) (blkOk_by (own := [(Str.ofString "_law_k", 10)]) (by show blkC ["_law_source_here", "_law_most", "_law_far", "_law_lots_here", "_law_small", "_law_letters", "_law_prices", "_law_pool", "_law_bans", "_law_turn", "_law_k", "_law_letter"] (defScope s_law_plan) _ _ = true; decide +kernel)) (fun _ _ _ _ _ => ⟨_, (gq_name (pg_name (i := 10) sc_law_plan.nd (by rfl) (by first | exact Or.inl rfl | exact Or.inr rfl)) (by rfl))⟩) (fun _ _ _ _ _ => ⟨_, ts_nil⟩) (fun _ _ _ _ _ => ⟨_, (ee_item (QE.eff (qe_var 4 (pv 4))) (ee_has (y := "_law_draw") h_law_draw hr (by decide) hgd (el_lent 0 (pv 0) (el_val (QE.eff qe_int) el_nil))))⟩)))) (ge_name (pg_name (i := 5) sc_law_plan.nd (by rfl) (by first | exact Or.inl rfl | exact Or.inr rfl)) (by rfl)))
 (ses_cons (se_asg (ee_bty call_tuple_of cp_tuple Tx.z_tuple b_tuple (ea_cons (ee_lc (by rfl) sc_law_plan.nd (IQ.toE (iq_any (qe_var 5 (pv 5)))) (blkOk_by (own := [(Str.ofString "_law_letter", 11)]) (by show blkC ["_law_source_here", "_law_most", "_law_far", "_law_lots_here", "_law_small", "_law_letters", "_law_prices", "_law_pool", "_law_bans", "_law_turn", "_law_k", "_law_letter"] (defScope s_law_plan) _ _ = true; decide +kernel)) (fun _ _ _ _ _ => ⟨_, (gq_name (pg_name (i := 11) sc_law_plan.nd (by rfl) (by first | exact Or.inl rfl | exact Or.inr rfl)) (by rfl))⟩) (fun _ _ _ _ _ => ⟨_, ts_nil⟩) (fun _ _ _ _ _ => ⟨_, (ee_has (y := "_law_draw") h_law_draw hr (by decide) hgd (el_lent 0 (pv 0) (el_val (QE.eff qe_int) el_nil)))⟩)) (QA.eff qa_nil))) (ge_name (pg_name (i := 6) sc_law_plan.nd (by rfl) (by first | exact Or.inl rfl | exact Or.inr rfl)) (by rfl)))
 (ses_cons (se_par (i := 7) (j := 8) (by rfl) sc_law_plan.nd (by rfl) (by rfl) (by decide) (by rfl) (by rfl) (QA.eff (qa_cons (qe_has (y := "_law_bars") h_law_bars hr (by decide) hgd (qa_cons (qe_var 5 (pv 5)) (qa_cons (qe_var 2 (pv 2)) qa_nil))) (qa_cons (qe_lst qa_nil) qa_nil))) (by rfl) (by rfl) (by rfl))
 (ses_cons (se_for PassesOwn.never (by rfl) (ie_rng1 (by rfl) Tx.z_range (ea_cons (ee_blt ((call_min2 (by rfl)).or (cr_min (by rfl))) cp_min Tx.z_min b_min (ea_cons (ee_has (y := "_law_draw") h_law_draw hr (by decide) hgd (el_lent 0 (pv 0) (el_val (QE.eff (qe_fz (qe_bin op_addU ov_addU (ke_var 3 (pv 3)) (QE.k qe_int)))) el_nil))) (ea_cons (QE.eff (qe_blt (call_len.or call_lenD) cp_len Tx.z_len b_len (ka_cons (ke_var 7 (pv 7)) ka_nil))) (QA.eff qa_nil)))) (QA.eff qa_nil)) (elen_cons (elen_q fun _ _ e => len_nil e))) (ge_name (pg_name (i := 9) sc_law_plan.nd (by rfl) (by first | exact Or.inl rfl | exact Or.inr rfl)) (by rfl))
 (ses_one (se_expr (ee_appV 8 (pv 8) (ee_popV 7 (pv 7) (ee_has (y := "_law_draw") h_law_draw hr (by decide) hgd (el_lent 0 (pv 0) (el_val (QE.eff (qe_blt (call_len.or call_lenD) cp_len Tx.z_len b_len (ka_cons (ke_var 7 (pv 7)) ka_nil))) el_nil))))))))
 (ses_one (se_ret (QE.eff (qe_tup (qa_cons (qe_var 5 (pv 5)) (qa_cons (qe_var 6 (pv 6)) (qa_cons (qe_bty call_tuple_of cp_tuple Tx.z_tuple b_tuple (ka_cons (QE.k (qe_blt (cr_sortedI.or (call_sortTx (by rfl))) cp_sortTx Tx.z_sorted b_sorted (ka_cons (ke_var 8 (pv 8)) ka_nil))) ka_nil)) qa_nil))))))))))))⟩

abbrev s_law_lots : Stmt := top 47
def pin_law_lots : Nat → Bool := fun i => ([0, 1] : List Nat).contains i
def b_law_lots_0 : GK.Env → Option Out :=
 (sPar [2, 3] (eaCons (eCall f_law_bars (lVal (eQ (qVar 1)) (lVal (eFz (eOp fAdd (eQ (qC (.int 1))) (eCall f_law_draw (lLent 0 (lVal (eQ (qC (.int 5))) lNil))))) lNil))) (eaCons (eQ (qLst aNil)) (eaQ aNil))))
def b_law_lots_1 : GK.Env → Option Out :=
 (sFor (eRng (eaCons (eCallB fMin (eaCons (eQ (qCallB fLen (aCons (kVar 2) aNil))) (eaCons (eCall f_law_draw (lLent 0 (lVal (eQ (qC (.int 9))) lNil))) (eaQ aNil)))) (eaQ aNil))) (gSet 4)
 (sExpr (eAppV 3 (ePopV 2 (eCall f_law_draw (lLent 0 (lVal (eQ (qCallB fLen (aCons (kVar 2) aNil))) lNil)))))))
def b_law_lots_2 : GK.Env → Option Out :=
 (sRet (eQ (qCallB fTuple (aCons (qCallB fSortTx (aCons (kVar 3) aNil)) aNil))))
def b_law_lots : GK.Env → Option Out :=
 (sSeq b_law_lots_0 (sSeq b_law_lots_1 b_law_lots_2))
def f_law_lots : List T → Option (T × List T) := mkFn 2 5 pin_law_lots b_law_lots
theorem sc_law_lots : FnScope ["_law_source_here", "_law_letters", "_law_pool", "_law_bans", "_law_turn"] ["_law_source_here", "_law_letters"] (defScope s_law_lots) := ⟨rfl, rfl, rfl, by decide +kernel, rfl, by decide +kernel, by decide +kernel⟩
theorem ok_law_lots {f : Addr} {fd : FuncData} (F : FunX K "_law_lots" "_law_lots" s_law_lots f fd) (Tx : Txt K mg) (h_law_bars : Has P w K mg base 1 "_law_bars" f_law_bars) (h_law_draw : Has P w K mg base 1 "_law_draw" f_law_draw) : FnG P w K mg base 2 f fd ["_law_source_here", "_law_letters"] f_law_lots := by
  refine fn_ok F sc_law_lots (pin := pin_law_lots) (b := b_law_lots) fun cdv A outer s H hr hgd => ?_
  exact ⟨_, (ses_cons (se_par (i := 2) (j := 3) (by rfl) sc_law_lots.nd (by rfl) (by rfl) (by decide) (by rfl) (by rfl) (ea_cons (ee_has (y := "_law_bars") h_law_bars hr (by decide) hgd (el_val (QE.eff (qe_var 1 (pv 1))) (el_val (ee_fz (ee_bin op_addU ov_addU (QE.eff qe_int) (ee_has (y := "_law_draw") h_law_draw hr (by decide) hgd (el_lent 0 (pv 0) (el_val (QE.eff qe_int) el_nil))))) el_nil))) (ea_cons (QE.eff (qe_lst qa_nil)) (QA.eff qa_nil))) (by rfl) (by rfl) (by rfl))
 (ses_cons (se_for PassesOwn.never (by rfl) (ie_rng1 (by rfl) Tx.z_range (ea_cons (ee_blt ((call_min2 (by rfl)).or (cr_min (by rfl))) cp_min Tx.z_min b_min (ea_cons (QE.eff (qe_blt (call_len.or call_lenD) cp_len Tx.z_len b_len (ka_cons (ke_var 2 (pv 2)) ka_nil))) (ea_cons (ee_has (y := "_law_draw") h_law_draw hr (by decide) hgd (el_lent 0 (pv 0) (el_val (QE.eff qe_int) el_nil))) (QA.eff qa_nil)))) (QA.eff qa_nil)) (elen_cons (elen_q fun _ _ e => len_nil e))) (ge_name (pg_name (i := 4) sc_law_lots.nd (by rfl) (by first | exact Or.inl rfl | exact Or.inr rfl)) (by rfl))
 (ses_one (se_expr (ee_appV 3 (pv 3) (ee_popV 2 (pv 2) (ee_has (y := "_law_draw") h_law_draw hr (by decide) hgd (el_lent 0 (pv 0) (el_val (QE.eff (qe_blt (call_len.or call_lenD) cp_len Tx.z_len b_len (ka_cons (ke_var 2 (pv 2)) ka_nil))) el_nil))))))))
 (ses_one (se_ret (QE.eff (qe_bty call_tuple_of cp_tuple Tx.z_tuple b_tuple (ka_cons (QE.k (qe_blt (cr_sortedI.or (call_sortTx (by rfl))) cp_sortTx Tx.z_sorted b_sorted (ka_cons (ke_var 3 (pv 3)) ka_nil))) ka_nil)))))))⟩

abbrev s_words_behind : Stmt := top 18
def pin_words_behind : Nat → Bool := fun i => ([0, 1] : List Nat).contains i
def b_words_behind_0 : GK.Env → Option Out :=
 (sAsg (eQ (qFz (qOp fSplit (kVar 0) (qC (.str [32]))))) (gSet 2))
def b_words_behind_1 : GK.Env → Option Out :=
 (sRet (eQ (qIf (tOfB (qOp cEq (qOp fPeekU (kVar 2) (qC (.int 0))) (kVar 1))) (qSl (kVar 2) (pSome (qC (.int 1))) pNo) (qC .non))))
def b_words_behind : GK.Env → Option Out :=
 (sSeq b_words_behind_0 b_words_behind_1)
def f_words_behind : List T → Option (T × List T) := mkFn 2 3 pin_words_behind b_words_behind
theorem sc_words_behind : FnScope ["line", "head", "words"] ["line", "head"] (defScope s_words_behind) := ⟨rfl, rfl, rfl, by decide +kernel, rfl, by decide +kernel, by decide +kernel⟩
theorem ok_words_behind {f : Addr} {fd : FuncData} (F : FunX K "words_behind" "words_behind" s_words_behind f fd) (Tx : Txt K mg) : FnG P w K mg base 1 f fd ["line", "head"] f_words_behind := by
  refine fn_ok F sc_words_behind (pin := pin_words_behind) (b := b_words_behind) fun cdv A outer s H hr hgd => ?_
  exact ⟨_, (ses_cons (se_asg (QE.eff (qe_fz (qe_split (ke_var 0 (pv 0)) (QE.k (qe_str (l := [32]) (by decide +kernel)))))) (ge_name (pg_name (i := 2) sc_words_behind.nd (by rfl) (by first | exact Or.inl rfl | exact Or.inr rfl)) (by rfl)))
 (ses_one (se_ret (QE.eff (qe_if (te_cmp (ce_op (op_eqU hr.units) ov_eqU (ke_item (hu_of hr) (ke_var 2 (pv 2)) (QE.k qe_int)) (ke_var 1 (pv 1)))) (qe_slice (ke_var 2 (pv 2)) (part_some (QE.k qe_int)) part_no) qe_non)))))⟩

abbrev s_is_rising : Stmt := top 15
def pin_is_rising : Nat → Bool := fun i => ([0] : List Nat).contains i
def b_is_rising_0 : GK.Env → Option Out :=
 (sRet (eQ (qCallB fAll (aCons (qLc [1] (qRng (aCons (qOp fSub (qCallB fLen (aCons (kVar 0) aNil)) (qC (.int 1))) aNil)) (gSet 1) cYes (qOp cLt (qOp fPeekU (kVar 0) (kVar 1)) (qOp fPeekU (kVar 0) (qOp fAdd (kVar 1) (qC (.int 1)))))) aNil))))
def b_is_rising : GK.Env → Option Out :=
 b_is_rising_0
def f_is_rising : List T → Option (T × List T) := mkFn 1 2 pin_is_rising b_is_rising
theorem sc_is_rising : FnScope ["words", "place"] ["words"] (defScope s_is_rising) := ⟨rfl, rfl, rfl, by decide +kernel, rfl, by decide +kernel, by decide +kernel⟩
theorem ok_is_rising {f : Addr} {fd : FuncData} (F : FunX K "is_rising" "is_rising" s_is_rising f fd) (Tx : Txt K mg) : FnG P w K mg base 1 f fd ["words"] f_is_rising := by
  refine fn_ok F sc_is_rising (pin := pin_is_rising) (b := b_is_rising) fun cdv A outer s H hr hgd => ?_
  exact ⟨_, (ses_one (se_ret (QE.eff (qe_blt (cr_all (by rfl)) cp_all Tx.z_all b_all (ka_cons (QE.k (qe_lc (by rfl) sc_is_rising.nd (IQ.toK (iq_rng1 (by rfl) Tx.z_range (qa_cons (qe_bin op_sub ov_sub (QE.k (qe_blt (call_len.or call_lenD) cp_len Tx.z_len b_len (ka_cons (ke_var 0 (pv 0)) ka_nil))) (QE.k qe_int)) qa_nil) (len_cons fun _ _ e => len_nil e))) (blkOk_by (own := [(Str.ofString "place", 1)]) (by show blkC ["words", "place"] (defScope s_is_rising) _ _ = true; decide +kernel)) (fun _ _ _ _ _ => ⟨_, (gq_name (pg_name (i := 1) sc_is_rising.nd (by rfl) (by first | exact Or.inl rfl | exact Or.inr rfl)) (by rfl))⟩) (fun _ _ _ _ _ => ⟨_, ts_nil⟩) (fun _ _ _ _ _ => ⟨_, (qe_cmp (ce_op op_ltU ov_ltU (ke_item (hu_of hr) (ke_var 0 (pv 0)) (ke_var 1 (pv 1))) (ke_item (hu_of hr) (ke_var 0 (pv 0)) (QE.k (qe_bin op_addU ov_addU (ke_var 1 (pv 1)) (QE.k qe_int))))))⟩))) ka_nil)))))⟩

abbrev s_is_kind_word : Stmt := top 16
def pin_is_kind_word : Nat → Bool := fun i => ([0] : List Nat).contains i
def b_is_kind_word_0 : GK.Env → Option Out :=
 (sRet (eQ (qAnd (qOp cEq (qCallB fLen (aCons (kVar 0) aNil)) (qC (.int 2))) (qAnd (qOp (cIn false) (qOp fPeekU (kVar 0) (qC (.int 0))) (qC (.str [97, 98, 99, 100, 101, 102, 103, 104, 105, 106, 107, 108, 109, 110, 111, 112, 113, 114, 115, 116, 117, 118, 119, 120, 121, 122]))) (qOp (cIn false) (qOp fPeekU (kVar 0) (qC (.int 1))) (qC (.str [48, 49, 50, 51, 52, 53, 54, 55, 56, 57])))))))
def b_is_kind_word : GK.Env → Option Out :=
 b_is_kind_word_0
def f_is_kind_word : List T → Option (T × List T) := mkFn 1 1 pin_is_kind_word b_is_kind_word
theorem sc_is_kind_word : FnScope ["word"] ["word"] (defScope s_is_kind_word) := ⟨rfl, rfl, rfl, by decide +kernel, rfl, by decide +kernel, by decide +kernel⟩
theorem ok_is_kind_word {f : Addr} {fd : FuncData} (F : FunX K "is_kind_word" "is_kind_word" s_is_kind_word f fd) (Tx : Txt K mg) : FnG P w K mg base 1 f fd ["word"] f_is_kind_word := by
  refine fn_ok F sc_is_kind_word (pin := pin_is_kind_word) (b := b_is_kind_word) fun cdv A outer s H hr hgd => ?_
  exact ⟨_, (ses_one (se_ret (QE.eff (qe_and (qe_cmp (ce_op (op_eqU hr.units) ov_eqU (QE.k (qe_blt (call_len.or call_lenD) cp_len Tx.z_len b_len (ka_cons (ke_var 0 (pv 0)) ka_nil))) (QE.k qe_int))) (qe_and (qe_cmp (ce_in (hu65 hr) (ke_item (hu_of hr) (ke_var 0 (pv 0)) (QE.k qe_int)) (QE.k (qe_gS (l := [97, 98, 99, 100, 101, 102, 103, 104, 105, 106, 107, 108, 109, 110, 111, 112, 113, 114, 115, 116, 117, 118, 119, 120, 121, 122]) Tx.c_LETTERS)))) (qe_one (qe_cmp (ce_in (hu65 hr) (ke_item (hu_of hr) (ke_var 0 (pv 0)) (QE.k qe_int)) (QE.k (qe_gS (l := [48, 49, 50, 51, 52, 53, 54, 55, 56, 57]) Tx.c_DIGITS))))))))))⟩

abbrev s_read_kinds : Stmt := top 19
def pin_read_kinds : Nat → Bool := fun i => ([0] : List Nat).contains i
def b_read_kinds_0 : GK.Env → Option Out :=
 (sAsg (eQ (qFz (qCall f_words_behind (aCons (qVar 0) (aCons (qC (.str [107, 105, 110, 100, 115])) aNil))))) (gSet 1))
def b_read_kinds_1 : GK.Env → Option Out :=
 (sIf (etQ (tOrC (tOfB (qOp cIs (kVar 1) (qC .non))) (tOrC (tNotC (tOfB (qChain cLe cLe (qC (.int 1)) (qCallB fLen (aCons (kVar 1) aNil)) (qC (.int 4))))) (tNotC (tTruth (qCallB fAll (aCons (qLc [3] (qWalk (qVar 1)) (gSet 3) cYes (qCall f_is_kind_word (aCons (qVar 3) aNil))) aNil)))))))
 (sRet (eQ (qC .non)))
 sNext)
def b_read_kinds_2 : GK.Env → Option Out :=
 (sAsg (eQ (qOp fJoin (qC (.str [])) (qLc [3] (qWalk (qVar 1)) (gSet 3) cYes (qOp fItem (kVar 3) (qC (.int 0)))))) (gSet 2))
def b_read_kinds_3 : GK.Env → Option Out :=
 (sRet (eQ (qIf (tTruth (qCall f_is_rising (aCons (qVar 2) aNil))) (qTup (aCons (qVar 2) (aCons (qCallB fTuple (aCons (qLc [3] (qWalk (qVar 1)) (gSet 3) cYes (qCallB fInt (aCons (qOp fPeekU (kVar 3) (qC (.int 1))) aNil))) aNil)) aNil))) (qC .non))))
def b_read_kinds : GK.Env → Option Out :=
 (sSeq b_read_kinds_0 (sSeq b_read_kinds_1 (sSeq b_read_kinds_2 b_read_kinds_3)))
def f_read_kinds : List T → Option (T × List T) := mkFn 1 4 pin_read_kinds b_read_kinds
theorem sc_read_kinds : FnScope ["line", "words", "kinds", "word"] ["line"] (defScope s_read_kinds) := ⟨rfl, rfl, rfl, by decide +kernel, rfl, by decide +kernel, by decide +kernel⟩
theorem ok_read_kinds {f : Addr} {fd : FuncData} (F : FunX K "read_kinds" "read_kinds" s_read_kinds f fd) (Tx : Txt K mg) (h_words_behind : Has P w K mg base 1 "words_behind" f_words_behind) (h_is_kind_word : Has P w K mg base 1 "is_kind_word" f_is_kind_word) (h_is_rising : Has P w K mg base 1 "is_rising" f_is_rising) : FnG P w K mg base 2 f fd ["line"] f_read_kinds := by
  refine fn_ok F sc_read_kinds (pin := pin_read_kinds) (b := b_read_kinds) fun cdv A outer s H hr hgd => ?_
  exact ⟨_, (ses_cons (se_asg (QE.eff (qe_fz (qe_has (y := "words_behind") h_words_behind hr (by decide) hgd (qa_cons (qe_var 0 (pv 0)) (qa_cons (qe_str (l := [107, 105, 110, 100, 115]) (by decide +kernel)) qa_nil))))) (ge_name (pg_name (i := 1) sc_read_kinds.nd (by rfl) (by first | exact Or.inl rfl | exact Or.inr rfl)) (by rfl)))
 (ses_cons (se_if (TE'.eff (WE.asT (we_or (te_cmp (ce_op op_isN ov_is (ke_var 1 (pv 1)) (QE.k qe_non))) (we_or (te_not (te_chain op_le ov_le op_le ov_le (QE.k qe_int) (QE.k (qe_blt (call_len.or call_lenD) cp_len Tx.z_len b_len (ka_cons (ke_var 1 (pv 1)) ka_nil))) (QE.k (qe_gI Tx.c_MOST_KINDS)))) (we_or1 (te_not (te_truth (QE.k (qe_blt (cr_all (by rfl)) cp_all Tx.z_all b_all (ka_cons (QE.k (qe_lc (by rfl) sc_read_kinds.nd (IQ.toK (iq_any (qe_var 1 (pv 1)))) (blkOk_by (own := [(Str.ofString "word", 3)]) (by show blkC ["line", "words", "kinds", "word"] (defScope s_read_kinds) _ _ = true; decide +kernel)) (fun _ _ _ _ _ => ⟨_, (gq_name (pg_name (i := 3) sc_read_kinds.nd (by rfl) (by first | exact Or.inl rfl | exact Or.inr rfl)) (by rfl))⟩) (fun _ _ _ _ _ => ⟨_, ts_nil⟩) (fun _ _ _ _ _ => ⟨_, (qe_has (y := "is_kind_word") h_is_kind_word hr (by decide) hgd (qa_cons (qe_var 3 (pv 3)) qa_nil))⟩))) ka_nil))))))))))
 (ses_one (se_ret (QE.eff qe_non)))
 ses_nil)
 (ses_cons (se_asg (QE.eff (qe_join (QE.k (qe_str (l := []) (by decide +kernel))) (QE.k (qe_lc (by rfl) sc_read_kinds.nd (IQ.toK (iq_any (qe_var 1 (pv 1)))) (blkOk_by (own := [(Str.ofString "word", 3)]) (by show blkC ["line", "words", "kinds", "word"] (defScope s_read_kinds) _ _ = true; decide +kernel)) (fun _ _ _ _ _ => ⟨_, (gq_name (pg_name (i := 3) sc_read_kinds.nd (by rfl) (by first | exact Or.inl rfl | exact Or.inr rfl)) (by rfl))⟩) (fun _ _ _ _ _ => ⟨_, ts_nil⟩) (fun _ _ _ _ _ => ⟨_, (qe_item (hu_of hr) (ke_var 3 (pv 3)) (QE.k qe_int))⟩))))) (ge_name (pg_name (i := 2) sc_read_kinds.nd (by rfl) (by first | exact Or.inl rfl | exact Or.inr rfl)) (by rfl)))
 (ses_one (se_ret (QE.eff (qe_if (te_truth (QE.k (qe_has (y := "is_rising") h_is_rising hr (by decide) hgd (qa_cons (qe_var 2 (pv 2)) qa_nil)))) (qe_tup (qa_cons (qe_var 2 (pv 2)) (qa_cons (qe_bty call_tuple_of cp_tuple Tx.z_tuple b_tuple (ka_cons (QE.k (qe_lc (by rfl) sc_read_kinds.nd (IQ.toK (iq_any (qe_var 1 (pv 1)))) (blkOk_by (own := [(Str.ofString "word", 3)]) (by show blkC ["line", "words", "kinds", "word"] (defScope s_read_kinds) _ _ = true; decide +kernel)) (fun _ _ _ _ _ => ⟨_, (gq_name (pg_name (i := 3) sc_read_kinds.nd (by rfl) (by first | exact Or.inl rfl | exact Or.inr rfl)) (by rfl))⟩) (fun _ _ _ _ _ => ⟨_, ts_nil⟩) (fun _ _ _ _ _ => ⟨_, (qe_bty (call_int1.or call_int_str) cp_int Tx.z_int b_int (ka_cons (ke_item (hu_of hr) (ke_var 3 (pv 3)) (QE.k qe_int)) ka_nil))⟩))) ka_nil)) qa_nil))) qe_non)))))))⟩

abbrev s_is_bar : Stmt := top 17
def pin_is_bar : Nat → Bool := fun i => ([0, 1] : List Nat).contains i
def b_is_bar_0 : GK.Env → Option Out :=
 (sIf (etQ (tOrC (tNotC (tTruth (qUn fIsStr (kVar 1)))) (tOfB (qOp cNe (qCallB fLen (aCons (kVar 1) aNil)) (qC (.int 3))))))
 (sRet (eQ (qC (.bl false))))
 sNext)
def b_is_bar_1 : GK.Env → Option Out :=
 (sRet (eQ (qAnd (qOp (cIn false) (qOp fPeekU (kVar 1) (qC (.int 0))) (kVar 0)) (qAnd (qOp (cIn false) (qOp fPeekU (kVar 1) (qC (.int 1))) (kVar 0)) (qOp (cIn false) (qOp fPeekU (kVar 1) (qC (.int 2))) (qC (.str [49, 50, 51, 52, 53])))))))
def b_is_bar : GK.Env → Option Out :=
 (sSeq b_is_bar_0 b_is_bar_1)
def f_is_bar : List T → Option (T × List T) := mkFn 2 2 pin_is_bar b_is_bar
theorem sc_is_bar : FnScope ["kinds", "value"] ["kinds", "value"] (defScope s_is_bar) := ⟨rfl, rfl, rfl, by decide +kernel, rfl, by decide +kernel, by decide +kernel⟩
theorem ok_is_bar {f : Addr} {fd : FuncData} (F : FunX K "is_bar" "is_bar" s_is_bar f fd) (Tx : Txt K mg) : FnG P w K mg base 1 f fd ["kinds", "value"] f_is_bar := by
  refine fn_ok F sc_is_bar (pin := pin_is_bar) (b := b_is_bar) fun cdv A outer s H hr hgd => ?_
  exact ⟨_, (ses_cons (se_if (TE'.eff (WE.asT (we_or (te_not (te_truth (QE.k (qe_isStr (by rfl) Tx.z_isinstance (by rfl) Tx.z_str (ke_var 1 (pv 1)))))) (we_or1 (te_cmp (ce_op (op_neU hr.units) ov_neU (QE.k (qe_blt (call_len.or call_lenD) cp_len Tx.z_len b_len (ka_cons (ke_var 1 (pv 1)) ka_nil))) (QE.k qe_int)))))))
 (ses_one (se_ret (QE.eff qe_bl)))
 ses_nil)
 (ses_one (se_ret (QE.eff (qe_and (qe_cmp (ce_in (hu65 hr) (ke_item (hu_of hr) (ke_var 1 (pv 1)) (QE.k qe_int)) (ke_var 0 (pv 0)))) (qe_and (qe_cmp (ce_in (hu65 hr) (ke_item (hu_of hr) (ke_var 1 (pv 1)) (QE.k qe_int)) (ke_var 0 (pv 0)))) (qe_one (qe_cmp (ce_in (hu65 hr) (ke_item (hu_of hr) (ke_var 1 (pv 1)) (QE.k qe_int)) (QE.k (qe_gS (l := [49, 50, 51, 52, 53]) Tx.c_DISTANCES)))))))))))⟩

abbrev s_read_bars : Stmt := top 20
def pin_read_bars : Nat → Bool := fun i => ([0, 1] : List Nat).contains i
def b_read_bars_0 : GK.Env → Option Out :=
 (sAsg (eQ (qFz (qCall f_words_behind (aCons (qVar 1) (aCons (qC (.str [98, 97, 114, 115])) aNil))))) (gSet 2))
def b_read_bars_1 : GK.Env → Option Out :=
 (sIf (etQ (tOrC (tOfB (qOp cIs (kVar 2) (qC .non))) (tOrC (tOfB (qOp cGt (qCallB fLen (aCons (kVar 2) aNil)) (qC (.int 40)))) (tNotC (tTruth (qCallB fAll (aCons (qLc [3] (qWalk (qVar 2)) (gSet 3) cYes (qCall f_is_bar (aCons (qVar 0) (aCons (qVar 3) aNil)))) aNil)))))))
 (sRet (eQ (qC .non)))
 sNext)
def b_read_bars_2 : GK.Env → Option Out :=
 (sRet (eQ (qIf (tTruth (qCall f_is_rising (aCons (qVar 2) aNil))) (qCallB fTuple (aCons (kVar 2) aNil)) (qC .non))))
def b_read_bars : GK.Env → Option Out :=
 (sSeq b_read_bars_0 (sSeq b_read_bars_1 b_read_bars_2))
def f_read_bars : List T → Option (T × List T) := mkFn 2 4 pin_read_bars b_read_bars
theorem sc_read_bars : FnScope ["kinds", "line", "words", "word"] ["kinds", "line"] (defScope s_read_bars) := ⟨rfl, rfl, rfl, by decide +kernel, rfl, by decide +kernel, by decide +kernel⟩
theorem ok_read_bars {f : Addr} {fd : FuncData} (F : FunX K "read_bars" "read_bars" s_read_bars f fd) (Tx : Txt K mg) (h_words_behind : Has P w K mg base 1 "words_behind" f_words_behind) (h_is_bar : Has P w K mg base 1 "is_bar" f_is_bar) (h_is_rising : Has P w K mg base 1 "is_rising" f_is_rising) : FnG P w K mg base 2 f fd ["kinds", "line"] f_read_bars := by
  refine fn_ok F sc_read_bars (pin := pin_read_bars) (b := b_read_bars) fun cdv A outer s H hr hgd => ?_
  exact ⟨_, (ses_cons (se_asg (QE.eff (qe_fz (qe_has (y := "words_behind") h_words_behind hr (by decide) hgd (qa_cons (qe_var 1 (pv 1)) (qa_cons (qe_str (l := [98, 97, 114, 115]) (by decide +kernel)) qa_nil))))) (ge_name (pg_name (i := 2) sc_read_bars.nd (by rfl) (by first | exact Or.inl rfl | exact Or.inr rfl)) (by rfl)))
 (ses_cons (se_if (TE'.eff (WE.asT (we_or (te_cmp (ce_op op_isN ov_is (ke_var 2 (pv 2)) (QE.k qe_non))) (we_or (te_cmp (ce_op op_gt ov_gt (QE.k (qe_blt (call_len.or call_lenD) cp_len Tx.z_len b_len (ka_cons (ke_var 2 (pv 2)) ka_nil))) (QE.k (qe_gI Tx.c_MOST_BARS)))) (we_or1 (te_not (te_truth (QE.k (qe_blt (cr_all (by rfl)) cp_all Tx.z_all b_all (ka_cons (QE.k (qe_lc (by rfl) sc_read_bars.nd (IQ.toK (iq_any (qe_var 2 (pv 2)))) (blkOk_by (own := [(Str.ofString "word", 3)]) (by show blkC ["kinds", "line", "words", "word"] (defScope s_read_bars) _ _ = true; decide +kernel)) (fun _ _ _ _ _ => ⟨_, (gq_name (pg_name (i := 3) sc_read_bars.nd (by rfl) (by first | exact Or.inl rfl | exact Or.inr rfl)) (by rfl))⟩) (fun _ _ _ _ _ => ⟨_, ts_nil⟩) (fun _ _ _ _ _ => ⟨_, (qe_has (y := "is_bar") h_is_bar hr (by decide) hgd (qa_cons (qe_var 0 (pv 0)) (qa_cons (qe_var 3 (pv 3)) qa_nil)))⟩))) ka_nil))))))))))
 (ses_one (se_ret (QE.eff qe_non)))
 ses_nil)
 (ses_one (se_ret (QE.eff (qe_if (te_truth (QE.k (qe_has (y := "is_rising") h_is_rising hr (by decide) hgd (qa_cons (qe_var 2 (pv 2)) qa_nil)))) (qe_bty call_tuple_of cp_tuple Tx.z_tuple b_tuple (ka_cons (ke_var 2 (pv 2)) ka_nil)) qe_non))))))⟩

abbrev s_read_text : Stmt := top 21
def pin_read_text : Nat → Bool := fun i => ([0] : List Nat).contains i
def b_read_text_0 : GK.Env → Option Out :=
 (sIf (etQ (tNotC (tTruth (qUn fIsStr (kVar 0)))))
 (sRet (eQ (qC .non)))
 sNext)
def b_read_text_1 : GK.Env → Option Out :=
 (sAsg (eQ (qFz (qOp fSplit (kVar 0) (qC (.str [10]))))) (gSet 1))
def b_read_text_2 : GK.Env → Option Out :=
 (sIf (etQ (tOfB (qOp cNe (qCallB fLen (aCons (kVar 1) aNil)) (qC (.int 2)))))
 (sRet (eQ (qC .non)))
 sNext)
def b_read_text_3 : GK.Env → Option Out :=
 (sAsg (eQ (qFz (qCall f_read_kinds (aCons (qOp fItem (kVar 1) (qC (.int 0))) aNil)))) (gSet 2))
def b_read_text_4 : GK.Env → Option Out :=
 (sIf (etQ (tOfB (qOp cIs (kVar 2) (qC .non))))
 (sRet (eQ (qC .non)))
 sNext)
def b_read_text_5 : GK.Env → Option Out :=
 (sAsg (eQ (qFz (qCall f_read_bars (aCons (qOp fItem (kVar 2) (qC (.int 0))) (aCons (qOp fItem (kVar 1) (qC (.int 1))) aNil))))) (gSet 3))
def b_read_text_6 : GK.Env → Option Out :=
 (sRet (eQ (qIf (tOfB (qOp cIs (kVar 3) (qC .non))) (qC .non) (qTup (aCons (qOp fItem (kVar 2) (qC (.int 0))) (aCons (qOp fItem (kVar 2) (qC (.int 1))) (aCons (qVar 3) aNil)))))))
def b_read_text : GK.Env → Option Out :=
 (sSeq b_read_text_0 (sSeq b_read_text_1 (sSeq b_read_text_2 (sSeq b_read_text_3 (sSeq b_read_text_4 (sSeq b_read_text_5 b_read_text_6))))))
def f_read_text : List T → Option (T × List T) := mkFn 1 4 pin_read_text b_read_text
theorem sc_read_text : FnScope ["text", "lines", "told", "bars"] ["text"] (defScope s_read_text) := ⟨rfl, rfl, rfl, by decide +kernel, rfl, by decide +kernel, by decide +kernel⟩
theorem ok_read_text {f : Addr} {fd : FuncData} (F : FunX K "read_text" "read_text" s_read_text f fd) (Tx : Txt K mg) (h_read_kinds : Has P w K mg base 2 "read_kinds" f_read_kinds) (h_read_bars : Has P w K mg base 2 "read_bars" f_read_bars) : FnG P w K mg base 3 f fd ["text"] f_read_text := by
  refine fn_ok F sc_read_text (pin := pin_read_text) (b := b_read_text) fun cdv A outer s H hr hgd => ?_
  exact ⟨_, (ses_cons (se_if (TE'.eff (te_not (te_truth (QE.k (qe_isStr (by rfl) Tx.z_isinstance (by rfl) Tx.z_str (ke_var 0 (pv 0)))))))
 (ses_one (se_ret (QE.eff qe_non)))
 ses_nil)
 (ses_cons (se_asg (QE.eff (qe_fz (qe_split (ke_var 0 (pv 0)) (QE.k (qe_str (l := [10]) (by decide +kernel)))))) (ge_name (pg_name (i := 1) sc_read_text.nd (by rfl) (by first | exact Or.inl rfl | exact Or.inr rfl)) (by rfl)))
 (ses_cons (se_if (TE'.eff (te_cmp (ce_op (op_neU hr.units) ov_neU (QE.k (qe_blt (call_len.or call_lenD) cp_len Tx.z_len b_len (ka_cons (ke_var 1 (pv 1)) ka_nil))) (QE.k qe_int))))
 (ses_one (se_ret (QE.eff qe_non)))
 ses_nil)
 (ses_cons (se_asg (QE.eff (qe_fz (qe_has (y := "read_kinds") h_read_kinds hr (by decide) hgd (qa_cons (qe_item (hu_of hr) (ke_var 1 (pv 1)) (QE.k qe_int)) qa_nil)))) (ge_name (pg_name (i := 2) sc_read_text.nd (by rfl) (by first | exact Or.inl rfl | exact Or.inr rfl)) (by rfl)))
 (ses_cons (se_if (TE'.eff (te_cmp (ce_op op_isN ov_is (ke_var 2 (pv 2)) (QE.k qe_non))))
 (ses_one (se_ret (QE.eff qe_non)))
 ses_nil)
 (ses_cons (se_asg (QE.eff (qe_fz (qe_has (y := "read_bars") h_read_bars hr (by decide) hgd (qa_cons (qe_item (hu_of hr) (ke_var 2 (pv 2)) (QE.k qe_int)) (qa_cons (qe_item (hu_of hr) (ke_var 1 (pv 1)) (QE.k qe_int)) qa_nil))))) (ge_name (pg_name (i := 3) sc_read_text.nd (by rfl) (by first | exact Or.inl rfl | exact Or.inr rfl)) (by rfl)))
 (ses_one (se_ret (QE.eff (qe_if (te_cmp (ce_op op_isN ov_is (ke_var 3 (pv 3)) (QE.k qe_non))) qe_non (qe_tup (qa_cons (qe_item (hu_of hr) (ke_var 2 (pv 2)) (QE.k qe_int)) (qa_cons (qe_item (hu_of hr) (ke_var 2 (pv 2)) (QE.k qe_int)) (qa_cons (qe_var 3 (pv 3)) qa_nil))))))))))))))⟩

abbrev s_Rule_init : Stmt := inClass (top 23) 0
def pin_Rule_init : Nat → Bool := fun i => ([0, 1] : List Nat).contains i
def b_Rule_init_0 : GK.Env → Option Out :=
 (sAsg (eQ (qFz (qCall f_read_text (aCons (qVar 1) aNil)))) (gSet 2))
def b_Rule_init_1 : GK.Env → Option Out :=
 (sIf (etQ (tOfB (qOp cIs (kVar 2) (qC .non))))
 sNever
 sNext)
def b_Rule_init_2 : GK.Env → Option Out :=
 (sAsg (eQ (qVar 1)) (gAttr AF "text" (pVar 0) (pVarPut 0)))
def b_Rule_init_3 : GK.Env → Option Out :=
 (sAsg (eQ (qVar 2)) (gUn (gConsC (gAttr AF "kinds" (pVar 0) (pVarPut 0)) (gConsC (gAttr AF "worths" (pVar 0) (pVarPut 0)) (gConsC (gAttr AF "bars" (pVar 0) (pVarPut 0)) gNilC)))))
def b_Rule_init_4 : GK.Env → Option Out :=
 (sAsg (eQ (qCallB fTuple (aCons (qLc [6] (qWalk (qFld AF "bars" (kVar 0))) (gSet 6) cYes (qTup (aCons (qOp fItem (kVar 6) (qC (.int 0))) (aCons (qOp fItem (kVar 6) (qC (.int 1))) (aCons (qCallB fInt (aCons (qOp fPeekU (kVar 6) (qC (.int 2))) aNil)) aNil))))) aNil))) (gAttr AF "triples" (pVar 0) (pVarPut 0)))
def b_Rule_init_5 : GK.Env → Option Out :=
 (sAsg (eQ (qCallB fMax (aCons (qLst (aCons (qC (.int 1)) (aStar (qLc [3, 4, 5] (qWalk (qFld AF "triples" (kVar 0))) (gUn (gConsC (gSet 3) (gConsC (gSet 4) (gConsC (gSet 5) gNilC)))) cYes (qVar 5)) aNil))) aNil))) (gAttr AF "reach" (pVar 0) (pVarPut 0)))
def b_Rule_init_6 : GK.Env → Option Out :=
 (sAsg (eQ (qFz (qCallB fDictZ (aCons (kFld AF "kinds" (kVar 0)) (aCons (kFld AF "worths" (kVar 0)) aNil))))) (gAttr AF "worth_of" (pVar 0) (pVarPut 0)))
def b_Rule_init_7 : GK.Env → Option Out :=
 (sAsg (eQ (qDc [7] (qWalk (qFld AF "kinds" (kVar 0))) (gSet 7) cYes (qVar 7) (qLst aNil))) (gAttr AF "behind" (pVar 0) (pVarPut 0)))
def b_Rule_init_8 : GK.Env → Option Out :=
 (sFor (iQ (qWalk (qFld AF "triples" (kVar 0)))) (gUn (gConsC (gSet 3) (gConsC (gSet 4) (gConsC (gSet 5) gNilC))))
 (sExpr (eAppend (pIx (pFld AF "behind" (pVar 0)) (kVar 4)) (pIxPut (pFld AF "behind" (pVar 0)) (kVar 4) (pFldPut "behind" (pVar 0) (pVarPut 0))) (qTup (aCons (qVar 3) (aCons (qVar 5) aNil))))))
def b_Rule_init : GK.Env → Option Out :=
 (sSeq b_Rule_init_0 (sSeq b_Rule_init_1 (sSeq b_Rule_init_2 (sSeq b_Rule_init_3 (sSeq b_Rule_init_4 (sSeq b_Rule_init_5 (sSeq b_Rule_init_6 (sSeq b_Rule_init_7 b_Rule_init_8))))))))
def f_Rule_init : List T → Option (T × List T) := mkFn 2 8 pin_Rule_init b_Rule_init
theorem sc_Rule_init : FnScope ["self", "text", "told", "first", "second", "distance", "bar", "kind"] ["self", "text"] (defScope s_Rule_init) := ⟨rfl, rfl, rfl, by decide +kernel, rfl, by decide +kernel, by decide +kernel⟩
theorem ok_Rule_init {f : Addr} {fd : FuncData} (F : FunX K "__init__" "Rule.__init__" s_Rule_init f fd) (Tx : Txt K mg) (h_read_text : Has P w K mg base 3 "read_text" f_read_text) : FnG P w K mg base 4 f fd ["self", "text"] f_Rule_init := by
  refine fn_ok F sc_Rule_init (pin := pin_Rule_init) (b := b_Rule_init) fun cdv A outer s H hr hgd => ?_
  exact ⟨_, (ses_cons (se_asg (QE.eff (qe_fz (qe_has (y := "read_text") h_read_text hr (by decide) hgd (qa_cons (qe_var 1 (pv 1)) qa_nil)))) (ge_name (pg_name (i := 2) sc_Rule_init.nd (by rfl) (by first | exact Or.inl rfl | exact Or.inr rfl)) (by rfl)))
 (ses_cons (se_if (TE'.eff (te_cmp (ce_op op_isN ov_is (ke_var 2 (pv 2)) (QE.k qe_non))))
 (ses_one se_never)
 ses_nil)
 (ses_cons (se_asg (QE.eff (qe_var 1 (pv 1))) (ge_attr (f := "text") Tx.cls (pl_var 0 (pv 0)) (by intro _; rfl)))
 (ses_cons (se_asg (QE.eff (qe_var 2 (pv 2))) (ge_tup (by rfl) (gse_cons (ge_attr (f := "kinds") Tx.cls (pl_var 0 (pv 0)) (by intro _; rfl)) (gse_cons (ge_attr (f := "worths") Tx.cls (pl_var 0 (pv 0)) (by intro _; rfl)) (gse_cons (ge_attr (f := "bars") Tx.cls (pl_var 0 (pv 0)) (by intro _; rfl)) gse_nil)))))
 (ses_cons (se_asg (QE.eff (qe_bty call_tuple_of cp_tuple Tx.z_tuple b_tuple (ka_cons (QE.k (qe_lc (by rfl) sc_Rule_init.nd (IQ.toK (iq_any (qe_fld (f := "bars") Tx.cls (ke_var 0 (pv 0))))) (blkOk_by (own := [(Str.ofString "bar", 6)]) (by show blkC ["self", "text", "told", "first", "second", "distance", "bar", "kind"] (defScope s_Rule_init) _ _ = true; decide +kernel)) (fun _ _ _ _ _ => ⟨_, (gq_name (pg_name (i := 6) sc_Rule_init.nd (by rfl) (by first | exact Or.inl rfl | exact Or.inr rfl)) (by rfl))⟩) (fun _ _ _ _ _ => ⟨_, ts_nil⟩) (fun _ _ _ _ _ => ⟨_, (qe_tup (qa_cons (qe_item (hu_of hr) (ke_var 6 (pv 6)) (QE.k qe_int)) (qa_cons (qe_item (hu_of hr) (ke_var 6 (pv 6)) (QE.k qe_int)) (qa_cons (qe_bty (call_int1.or call_int_str) cp_int Tx.z_int b_int (ka_cons (ke_item (hu_of hr) (ke_var 6 (pv 6)) (QE.k qe_int)) ka_nil)) qa_nil))))⟩))) ka_nil))) (ge_attr (f := "triples") Tx.cls (pl_var 0 (pv 0)) (by intro _; rfl)))
 (ses_cons (se_asg (QE.eff (qe_blt ((call_max2 (by rfl)).or (cr_max (by rfl))) cp_max Tx.z_max b_max (ka_cons (QE.k (qe_lst (qa_cons qe_int (qa_star (QE.k (qe_lc (by rfl) sc_Rule_init.nd (IQ.toK (iq_any (qe_fld (f := "triples") Tx.cls (ke_var 0 (pv 0))))) (blkOk_by (own := [(Str.ofString "first", 3), (Str.ofString "second", 4), (Str.ofString "distance", 5)]) (by show blkC ["self", "text", "told", "first", "second", "distance", "bar", "kind"] (defScope s_Rule_init) _ _ = true; decide +kernel)) (fun _ _ _ _ _ => ⟨_, (gq_tup (by rfl) (gqs_cons (gq_name (pg_name (i := 3) sc_Rule_init.nd (by rfl) (by first | exact Or.inl rfl | exact Or.inr rfl)) (by rfl)) (gqs_cons (gq_name (pg_name (i := 4) sc_Rule_init.nd (by rfl) (by first | exact Or.inl rfl | exact Or.inr rfl)) (by rfl)) (gqs_cons (gq_name (pg_name (i := 5) sc_Rule_init.nd (by rfl) (by first | exact Or.inl rfl | exact Or.inr rfl)) (by rfl)) gqs_nil))))⟩) (fun _ _ _ _ _ => ⟨_, ts_nil⟩) (fun _ _ _ _ _ => ⟨_, (qe_var 5 (pv 5))⟩))) qa_nil)))) ka_nil))) (ge_attr (f := "reach") Tx.cls (pl_var 0 (pv 0)) (by intro _; rfl)))
 (ses_cons (se_asg (QE.eff (qe_fz (qe_dictZ (by rfl) (by rfl) Tx.z_dict (by rfl) Tx.z_zip (ka_cons (ke_fld (f := "kinds") Tx.cls (ke_var 0 (pv 0))) (ka_cons (ke_fld (f := "worths") Tx.cls (ke_var 0 (pv 0))) ka_nil))))) (ge_attr (f := "worth_of") Tx.cls (pl_var 0 (pv 0)) (by intro _; rfl)))
 (ses_cons (se_asg (QE.eff (qe_dc (by rfl) sc_Rule_init.nd (IQ.toK (iq_any (qe_fld (f := "kinds") Tx.cls (ke_var 0 (pv 0))))) (blkOk_by (own := [(Str.ofString "kind", 7)]) (by show blkC ["self", "text", "told", "first", "second", "distance", "bar", "kind"] (defScope s_Rule_init) _ _ = true; decide +kernel)) (fun _ _ _ _ _ => ⟨_, (gq_name (pg_name (i := 7) sc_Rule_init.nd (by rfl) (by first | exact Or.inl rfl | exact Or.inr rfl)) (by rfl))⟩) (fun _ _ _ _ _ => ⟨_, ts_nil⟩) (fun _ _ _ _ _ => ⟨_, (qe_var 7 (pv 7))⟩) (fun _ _ _ _ _ => ⟨_, (qe_lst qa_nil)⟩))) (ge_attr (f := "behind") Tx.cls (pl_var 0 (pv 0)) (by intro _; rfl)))
 (ses_one (se_for PassesOwn.never (by rfl) (IQ.toE (iq_any (qe_fld (f := "triples") Tx.cls (ke_var 0 (pv 0))))) (ge_tup (by rfl) (gse_cons (ge_name (pg_name (i := 3) sc_Rule_init.nd (by rfl) (by first | exact Or.inl rfl | exact Or.inr rfl)) (by rfl)) (gse_cons (ge_name (pg_name (i := 4) sc_Rule_init.nd (by rfl) (by first | exact Or.inl rfl | exact Or.inr rfl)) (by rfl)) (gse_cons (ge_name (pg_name (i := 5) sc_Rule_init.nd (by rfl) (by first | exact Or.inl rfl | exact Or.inr rfl)) (by rfl)) gse_nil))))
 (ses_one (se_expr (ee_append (pl_ix (hu_of hr) (pl_fld (f := "behind") Tx.cls (pl_var 0 (pv 0))) (ke_var 4 (pv 4))) (qe_tup (qa_cons (qe_var 3 (pv 3)) (qa_cons (qe_var 5 (pv 5)) qa_nil))))))))))))))))⟩

abbrev s_text_with : Stmt := top 22
def pin_text_with : Nat → Bool := fun i => ([0, 1, 2] : List Nat).contains i
def b_text_with_0 : GK.Env → Option Out :=
 (sAsg (eQ (qFz (qLst (aCons (qC (.str [107, 105, 110, 100, 115])) (aStar (qLc [4, 5] (qZip (aCons (kVar 0) (aCons (kVar 1) aNil))) (gUn (gConsC (gSet 4) (gConsC (gSet 5) gNilC))) cYes (qOp fAdd (kVar 4) (qCallB fStr (aCons (kVar 5) aNil)))) aNil))))) (gSet 3))
def b_text_with_1 : GK.Env → Option Out :=
 (sRet (eQ (qOp fAdd (qOp fAdd (qOp fJoin (qC (.str [32])) (kVar 3)) (qC (.str [10]))) (qOp fJoin (qC (.str [32])) (qLst (aCons (qC (.str [98, 97, 114, 115])) (aStar (qCallB fSortTx (aCons (kVar 2) aNil)) aNil)))))))
def b_text_with : GK.Env → Option Out :=
 (sSeq b_text_with_0 b_text_with_1)
def f_text_with : List T → Option (T × List T) := mkFn 3 6 pin_text_with b_text_with
theorem sc_text_with : FnScope ["kinds", "worths", "bars", "first", "kind", "worth"] ["kinds", "worths", "bars"] (defScope s_text_with) := ⟨rfl, rfl, rfl, by decide +kernel, rfl, by decide +kernel, by decide +kernel⟩
theorem ok_text_with {f : Addr} {fd : FuncData} (F : FunX K "text_with" "text_with" s_text_with f fd) (Tx : Txt K mg) : FnG P w K mg base 1 f fd ["kinds", "worths", "bars"] f_text_with := by
  refine fn_ok F sc_text_with (pin := pin_text_with) (b := b_text_with) fun cdv A outer s H hr hgd => ?_
  exact ⟨_, (ses_cons (se_asg (QE.eff (qe_fz (qe_lst (qa_cons (qe_str (l := [107, 105, 110, 100, 115]) (by decide +kernel)) (qa_star (QE.k (qe_lc (by rfl) sc_text_with.nd (IQ.toK (iq_zip (by rfl) Tx.z_zip (ka_cons (ke_var 0 (pv 0)) (ka_cons (ke_var 1 (pv 1)) ka_nil)))) (blkOk_by (own := [(Str.ofString "kind", 4), (Str.ofString "worth", 5)]) (by show blkC ["kinds", "worths", "bars", "first", "kind", "worth"] (defScope s_text_with) _ _ = true; decide +kernel)) (fun _ _ _ _ _ => ⟨_, (gq_tup (by rfl) (gqs_cons (gq_name (pg_name (i := 4) sc_text_with.nd (by rfl) (by first | exact Or.inl rfl | exact Or.inr rfl)) (by rfl)) (gqs_cons (gq_name (pg_name (i := 5) sc_text_with.nd (by rfl) (by first | exact Or.inl rfl | exact Or.inr rfl)) (by rfl)) gqs_nil)))⟩) (fun _ _ _ _ _ => ⟨_, ts_nil⟩) (fun _ _ _ _ _ => ⟨_, (qe_bin op_addU ov_addU (ke_var 4 (pv 4)) (QE.k (qe_bty (call_str_int.or SkE.call_str_str) cp_str Tx.z_str b_str (ka_cons (ke_var 5 (pv 5)) ka_nil))))⟩))) qa_nil))))) (ge_name (pg_name (i := 3) sc_text_with.nd (by rfl) (by first | exact Or.inl rfl | exact Or.inr rfl)) (by rfl)))
 (ses_one (se_ret (QE.eff (qe_bin op_addU ov_addU (QE.k (qe_bin op_addU ov_addU (QE.k (qe_join (QE.k (qe_str (l := [32]) (by decide +kernel))) (ke_var 3 (pv 3)))) (QE.k (qe_str (l := [10]) (by decide +kernel))))) (QE.k (qe_join (QE.k (qe_str (l := [32]) (by decide +kernel))) (QE.k (qe_lst (qa_cons (qe_str (l := [98, 97, 114, 115]) (by decide +kernel)) (qa_star (QE.k (qe_blt (cr_sortedI.or (call_sortTx (by rfl))) cp_sortTx Tx.z_sorted b_sorted (ka_cons (ke_var 2 (pv 2)) ka_nil))) qa_nil)))))))))))⟩

abbrev s_Rule_bar : Stmt := inClass (top 23) 3
def pin_Rule_bar : Nat → Bool := fun i => ([0, 1] : List Nat).contains i
def b_Rule_bar_0 : GK.Env → Option Out :=
 (sIf (etQ (tOrC (tNotC (tTruth (qCall f_is_bar (aCons (qFld AF "kinds" (kVar 0)) (aCons (qVar 1) aNil))))) (tOrC (tOfB (qOp (cIn false) (kVar 1) (kFld AF "bars" (kVar 0)))) (tOfB (qOp cEq (qCallB fLen (aCons (kFld AF "bars" (kVar 0)) aNil)) (qC (.int 40)))))))
 sNever
 sNext)
def b_Rule_bar_1 : GK.Env → Option Out :=
 (sRet (eQ (qCall (mkMake "Rule" f_Rule_init) (aCons (qFz (qCall f_text_with (aCons (qFld AF "kinds" (kVar 0)) (aCons (qFld AF "worths" (kVar 0)) (aCons (qFz (qLst (aStar (kFld AF "bars" (kVar 0)) (aCons (qVar 1) aNil)))) aNil))))) aNil))))
def b_Rule_bar : GK.Env → Option Out :=
 (sSeq b_Rule_bar_0 b_Rule_bar_1)
def f_Rule_bar : List T → Option (T × List T) := mkFn 2 2 pin_Rule_bar b_Rule_bar
theorem sc_Rule_bar : FnScope ["self", "bar"] ["self", "bar"] (defScope s_Rule_bar) := ⟨rfl, rfl, rfl, by decide +kernel, rfl, by decide +kernel, by decide +kernel⟩
theorem ok_Rule_bar {f : Addr} {fd : FuncData} (F : FunX K "bar" "Rule.bar" s_Rule_bar f fd) (Tx : Txt K mg) (h_is_bar : Has P w K mg base 1 "is_bar" f_is_bar) (h_Rule_init : HasC P w K mg base 4 "Rule" f_Rule_init) (h_text_with : Has P w K mg base 1 "text_with" f_text_with) : FnG P w K mg base 6 f fd ["self", "bar"] f_Rule_bar := by
  refine fn_ok F sc_Rule_bar (pin := pin_Rule_bar) (b := b_Rule_bar) fun cdv A outer s H hr hgd => ?_
  exact ⟨_, (ses_cons (se_if (TE'.eff (WE.asT (we_or (te_not (te_truth (QE.k (qe_has (y := "is_bar") h_is_bar hr (by decide) hgd (qa_cons (qe_fld (f := "kinds") Tx.cls (ke_var 0 (pv 0))) (qa_cons (qe_var 1 (pv 1)) qa_nil)))))) (we_or (te_cmp (ce_in (hu65 hr) (ke_var 1 (pv 1)) (ke_fld (f := "bars") Tx.cls (ke_var 0 (pv 0))))) (we_or1 (te_cmp (ce_op (op_eqU hr.units) ov_eqU (QE.k (qe_blt (call_len.or call_lenD) cp_len Tx.z_len b_len (ka_cons (ke_fld (f := "bars") Tx.cls (ke_var 0 (pv 0))) ka_nil))) (QE.k (qe_gI Tx.c_MOST_BARS)))))))))
 (ses_one se_never)
 ses_nil)
 (ses_one (se_ret (QE.eff (qe_hasC (y := "Rule") h_Rule_init hr (by decide) hgd (qa_cons (qe_fz (qe_has (y := "text_with") h_text_with hr (by decide) hgd (qa_cons (qe_fld (f := "kinds") Tx.cls (ke_var 0 (pv 0))) (qa_cons (qe_fld (f := "worths") Tx.cls (ke_var 0 (pv 0))) (qa_cons (qe_fz (qe_lst (qa_star (ke_fld (f := "bars") Tx.cls (ke_var 0 (pv 0))) (qa_cons (qe_var 1 (pv 1)) qa_nil)))) qa_nil))))) qa_nil))))))⟩

abbrev s_law_text : Stmt := top 39
def pin_law_text : Nat → Bool := fun i => ([0] : List Nat).contains i
def b_law_text_0 : GK.Env → Option Out :=
 (sAsg (eQ (qVar 0)) (gUn (gConsC (gSet 1) (gConsC (gSet 2) (gConsC (gSet 3) gNilC)))))
def b_law_text_1 : GK.Env → Option Out :=
 (sAsg (eQ (qFz (qLc [5] (qRng (aCons (qCallB fLen (aCons (kVar 1) aNil)) aNil)) (gSet 5) cYes (qOp fAdd (qOp fPeekU (kVar 1) (kVar 5)) (qCallB fStr (aCons (qOp fPeekU (kVar 2) (kVar 5)) aNil)))))) (gSet 4))
def b_law_text_2 : GK.Env → Option Out :=
 (sRet (eQ (qOp fAdd (qOp fAdd (qOp fJoin (qC (.str [32])) (qOp fAdd (qLst (aCons (qC (.str [107, 105, 110, 100, 115])) aNil)) (kVar 4))) (qC (.str [10]))) (qOp fJoin (qC (.str [32])) (qOp fAdd (qLst (aCons (qC (.str [98, 97, 114, 115])) aNil)) (qCallB fListU (aCons (kVar 3) aNil)))))))
def b_law_text : GK.Env → Option Out :=
 (sSeq b_law_text_0 (sSeq b_law_text_1 b_law_text_2))
def f_law_text : List T → Option (T × List T) := mkFn 1 6 pin_law_text b_law_text
theorem sc_law_text : FnScope ["_law_plan_here", "_law_letters", "_law_prices", "_law_bans", "_law_words", "_law_k"] ["_law_plan_here"] (defScope s_law_text) := ⟨rfl, rfl, rfl, by decide +kernel, rfl, by decide +kernel, by decide +kernel⟩
theorem ok_law_text {f : Addr} {fd : FuncData} (F : FunX K "_law_text" "_law_text" s_law_text f fd) (Tx : Txt K mg) : FnG P w K mg base 1 f fd ["_law_plan_here"] f_law_text := by
  refine fn_ok F sc_law_text (pin := pin_law_text) (b := b_law_text) fun cdv A outer s H hr hgd => ?_
  exact ⟨_, (ses_cons (se_asg (QE.eff (qe_var 0 (pv 0))) (ge_tup (by rfl) (gse_cons (ge_name (pg_name (i := 1) sc_law_text.nd (by rfl) (by first | exact Or.inl rfl | exact Or.inr rfl)) (by rfl)) (gse_cons (ge_name (pg_name (i := 2) sc_law_text.nd (by rfl) (by first | exact Or.inl rfl | exact Or.inr rfl)) (by rfl)) (gse_cons (ge_name (pg_name (i := 3) sc_law_text.nd (by rfl) (by first | exact Or.inl rfl | exact Or.inr rfl)) (by rfl)) gse_nil)))))
 (ses_cons (se_setLcF (i := 4) (by rfl) sc_law_text.nd (by rfl) (by rfl) (sw_true (by rfl) (by rfl) (by rfl) (by decide +kernel)) (IQ.toK (iq_rng1 (by rfl) Tx.z_range (qa_cons (qe_blt (call_len.or call_lenD) cp_len Tx.z_len b_len (ka_cons (ke_var 1 (pv 1)) ka_nil)) qa_nil) (len_cons fun _ _ e => len_nil e))) (blkOk_by (own := [(Str.ofString "_law_k", 5)]) (by show blkC ["_law_plan_here", "_law_letters", "_law_prices", "_law_bans", "_law_words", "_law_k"] (defScope s_law_text) _ _ = true; decide +kernel)) (fun _ _ _ _ _ => ⟨_, (gq_name (pg_name (i := 5) sc_law_text.nd (by rfl) (by first | exact Or.inl rfl | exact Or.inr rfl)) (by rfl))⟩) (fun _ _ _ _ _ => ⟨_, ts_nil⟩) (fun _ _ _ _ _ => ⟨_, (qe_bin op_addU ov_addU (ke_item (hu_of hr) (ke_var 1 (pv 1)) (ke_var 5 (pv 5))) (QE.k (qe_bty (call_str_int.or SkE.call_str_str) cp_str Tx.z_str b_str (ka_cons (ke_item (hu_of hr) (ke_var 2 (pv 2)) (ke_var 5 (pv 5))) ka_nil))))⟩) (by rfl))
 (ses_one (se_ret (QE.eff (qe_bin op_addU ov_addU (QE.k (qe_bin op_addU ov_addU (QE.k (qe_join (QE.k (qe_str (l := [32]) (by decide +kernel))) (QE.k (qe_bin op_addU ov_addU (QE.k (qe_lst (qa_cons (qe_str (l := [107, 105, 110, 100, 115]) (by decide +kernel)) qa_nil))) (ke_var 4 (pv 4)))))) (QE.k (qe_str (l := [10]) (by decide +kernel))))) (QE.k (qe_join (QE.k (qe_str (l := [32]) (by decide +kernel))) (QE.k (qe_bin op_addU ov_addU (QE.k (qe_lst (qa_cons (qe_str (l := [98, 97, 114, 115]) (by decide +kernel)) qa_nil))) (QE.k (qe_bty (call_list_of.or (call_listStr (by rfl))) (cp_listU cp_list) Tx.z_list b_list (ka_cons (ke_var 3 (pv 3)) ka_nil)))))))))))))⟩

abbrev s_law_added : Stmt := top 45
def pin_law_added : Nat → Bool := fun i => ([0, 1] : List Nat).contains i
def b_law_added_0 : GK.Env → Option Out :=
 (sAsg (eQ (qFz (qCall (mkMake "Rule" f_Rule_init) (aCons (qFz (qCall f_law_text (aCons (qVar 0) aNil))) aNil)))) (gSet 2))
def b_law_added_1 : GK.Env → Option Out :=
 (sFor (iQ (qWalk (qVar 1))) (gSet 3)
 (sIf (etQ (tOfB (qOp (cIn true) (kVar 3) (kFld AF "bars" (kVar 2)))))
 (sAsg (eQ (qFz (qMeth "Rule" "bar" f_Rule_bar (qVar 2) (aCons (qVar 3) aNil)))) (gSet 2))
 sNext))
def b_law_added_2 : GK.Env → Option Out :=
 (sRet (eQ (qVar 2)))
def b_law_added : GK.Env → Option Out :=
 (sSeq b_law_added_0 (sSeq b_law_added_1 b_law_added_2))
def f_law_added : List T → Option (T × List T) := mkFn 2 4 pin_law_added b_law_added
theorem sc_law_added : FnScope ["_law_plan_here", "_law_more", "_law_found", "_law_ban"] ["_law_plan_here", "_law_more"] (defScope s_law_added) := ⟨rfl, rfl, rfl, by decide +kernel, rfl, by decide +kernel, by decide +kernel⟩
theorem ok_law_added {f : Addr} {fd : FuncData} (F : FunX K "_law_added" "_law_added" s_law_added f fd) (Tx : Txt K mg) (h_Rule_init : HasC P w K mg base 4 "Rule" f_Rule_init) (h_law_text : Has P w K mg base 1 "_law_text" f_law_text) (h_m_Rule_bar : HasM P w K mg base 6 "Rule" "bar" f_Rule_bar) : FnG P w K mg base 7 f fd ["_law_plan_here", "_law_more"] f_law_added := by
  refine fn_ok F sc_law_added (pin := pin_law_added) (b := b_law_added) fun cdv A outer s H hr hgd => ?_
  exact ⟨_, (ses_cons (se_asg (QE.eff (qe_fz (qe_hasC (y := "Rule") h_Rule_init hr (by decide) hgd (qa_cons (qe_fz (qe_has (y := "_law_text") h_law_text hr (by decide) hgd (qa_cons (qe_var 0 (pv 0)) qa_nil))) qa_nil)))) (ge_name (pg_name (i := 2) sc_law_added.nd (by rfl) (by first | exact Or.inl rfl | exact Or.inr rfl)) (by rfl)))
 (ses_cons (se_for PassesOwn.never (by rfl) (IQ.toE (iq_any (qe_var 1 (pv 1)))) (ge_name (pg_name (i := 3) sc_law_added.nd (by rfl) (by first | exact Or.inl rfl | exact Or.inr rfl)) (by rfl))
 (ses_one (se_if (TE'.eff (te_cmp (ce_notIn (hu65 hr) (ke_var 3 (pv 3)) (ke_fld (f := "bars") Tx.cls (ke_var 2 (pv 2))))))
 (ses_one (se_asg (QE.eff (qe_fz (qe_ex (qe_meth (c := "Rule") (m := "bar") h_m_Rule_bar hr (by decide) hgd (qe_var 2 (pv 2)) (qa_cons (qe_var 3 (pv 3)) qa_nil))))) (ge_name (pg_name (i := 2) sc_law_added.nd (by rfl) (by first | exact Or.inl rfl | exact Or.inr rfl)) (by rfl))))
 ses_nil)))
 (ses_one (se_ret (QE.eff (qe_var 2 (pv 2)))))))⟩

abbrev s_law_broken : Stmt := top 40
def pin_law_broken : Nat → Bool := fun i => ([0, 1, 2] : List Nat).contains i
def b_law_broken_0 : GK.Env → Option Out :=
 (sFor (iQ (qRng (aCons (qC (.int 1)) (aCons (qOp fAdd (qCallB fMin (aCons (qC (.int 5)) (aCons (kVar 2) aNil))) (qC (.int 1))) aNil)))) (gSet 3)
 (sIf (etQ (tOfB (qOp (cIn false) (qOp fAdd (qOp fAdd (qOp fPeekU (kVar 1) (qOp fSub (kVar 2) (kVar 3))) (qOp fPeekU (kVar 1) (kVar 2))) (qCallB fStr (aCons (kVar 3) aNil))) (kVar 0))))
 (sRet (eQ (qC (.bl true))))
 sNext))
def b_law_broken_1 : GK.Env → Option Out :=
 (sRet (eQ (qC (.bl false))))
def b_law_broken : GK.Env → Option Out :=
 (sSeq b_law_broken_0 b_law_broken_1)
def f_law_broken : List T → Option (T × List T) := mkFn 3 4 pin_law_broken b_law_broken
theorem sc_law_broken : FnScope ["_law_bans", "_law_string_here", "_law_place", "_law_far"] ["_law_bans", "_law_string_here", "_law_place"] (defScope s_law_broken) := ⟨rfl, rfl, rfl, by decide +kernel, rfl, by decide +kernel, by decide +kernel⟩
theorem ok_law_broken {f : Addr} {fd : FuncData} (F : FunX K "_law_broken" "_law_broken" s_law_broken f fd) (Tx : Txt K mg) : FnG P w K mg base 1 f fd ["_law_bans", "_law_string_here", "_law_place"] f_law_broken := by
  refine fn_ok F sc_law_broken (pin := pin_law_broken) (b := b_law_broken) fun cdv A outer s H hr hgd => ?_
  exact ⟨_, (ses_cons (se_for PassesOwn.never (by rfl) (IQ.toE (iq_rng2 (by rfl) Tx.z_range (qa_cons qe_int (qa_cons (qe_bin op_addU ov_addU (QE.k (qe_blt ((call_min2 (by rfl)).or (cr_min (by rfl))) cp_min Tx.z_min b_min (ka_cons (QE.k qe_int) (ka_cons (ke_var 2 (pv 2)) ka_nil)))) (QE.k qe_int)) qa_nil)) (len_cons (len_cons fun _ _ e => len_nil e)))) (ge_name (pg_name (i := 3) sc_law_broken.nd (by rfl) (by first | exact Or.inl rfl | exact Or.inr rfl)) (by rfl))
 (ses_one (se_if (TE'.eff (te_cmp (ce_in (hu65 hr) (QE.k (qe_bin op_addU ov_addU (QE.k (qe_bin op_addU ov_addU (ke_item (hu_of hr) (ke_var 1 (pv 1)) (QE.k (qe_bin op_sub ov_sub (ke_var 2 (pv 2)) (ke_var 3 (pv 3))))) (ke_item (hu_of hr) (ke_var 1 (pv 1)) (ke_var 2 (pv 2))))) (QE.k (qe_bty (call_str_int.or SkE.call_str_str) cp_str Tx.z_str b_str (ka_cons (ke_var 3 (pv 3)) ka_nil))))) (ke_var 0 (pv 0)))))
 (ses_one (se_ret (QE.eff qe_bl)))
 ses_nil)))
 (ses_one (se_ret (QE.eff qe_bl))))⟩

abbrev s_law_string : Stmt := top 43
def pin_law_string : Nat → Bool := fun i => ([0, 1, 2, 3] : List Nat).contains i
def b_law_string_2_0 : GK.Env → Option Out :=
 (sAsg (eQ (qFz (qSl (kVar 6) (pSome (qUn fNeg (qC (.int 5)))) pNo))) (gSet 10))
def b_law_string_2_1 : GK.Env → Option Out :=
 (sAsg (eQ (qFz (qLc [13] (qWalk (qVar 4)) (gSet 13) (tNotC (tTruth (qCall f_law_broken (aCons (qVar 5) (aCons (qFz (qOp fAdd (kVar 10) (kVar 13))) (aCons (qCallB fLen (aCons (kVar 10) aNil)) aNil)))))) (qVar 13)))) (gSet 11))
def b_law_string_2_2 : GK.Env → Option Out :=
 (sIf (etAnd (etQ (tTruth (kVar 8))) (etOr (etQ (tOfB (qOp cEq (kVar 11) (qLst aNil)))) (etB (eOp cEq (eCall f_law_draw (lLent 0 (lVal (eQ (qC (.int 7))) lNil))) (eQ (qC (.int 0)))))))
 (sAsg (eQ (qFz (qCallB fListU (aCons (kVar 4) aNil)))) (gSet 11))
 sNext)
def b_law_string_2_3 : GK.Env → Option Out :=
 (sIf (etQ (tOfB (qOp cEq (kVar 11) (qLst aNil))))
 sBreak
 sNext)
def b_law_string_2_4 : GK.Env → Option Out :=
 (sAsg (eFz (eOp fAdd (eQ (qVar 6)) (eOp fIx (eQ (qVar 11)) (eCall f_law_draw (lLent 0 (lVal (eQ (qCallB fLen (aCons (kVar 11) aNil))) lNil)))))) (gSet 6))
def b_law_string_0 : GK.Env → Option Out :=
 (sUnp [4, 5, 6] (eaQ (aCons (qOp fItem (kVar 1) (qC (.int 0))) (aCons (qOp fItem (kVar 1) (qC (.int 2))) (aCons (qC (.str [])) aNil)))))
def b_law_string_1 : GK.Env → Option Out :=
 (sPar [7, 8] (eaCons (eAnd (eQ (qOp cGt (kVar 3) (qC (.int 0)))) (eOp cEq (eCall f_law_draw (lLent 0 (lVal (eQ (qC (.int 5))) lNil))) (eQ (qC (.int 0))))) (eaCons (eOp cEq (eCall f_law_draw (lLent 0 (lVal (eQ (qC (.int 3))) lNil))) (eQ (qC (.int 0)))) (eaQ aNil))))
def b_law_string_2 : GK.Env → Option Out :=
 (sFor (eRng (eaCons (eCall f_law_draw (lLent 0 (lVal (eQ (qFz (qOp fAdd (kVar 2) (qC (.int 1))))) lNil))) (eaQ aNil))) (gSet 9)
 (sSeq b_law_string_2_0
 (sSeq b_law_string_2_1
 (sSeq b_law_string_2_2
 (sSeq b_law_string_2_3
 b_law_string_2_4)))))
def b_law_string_3 : GK.Env → Option Out :=
 (sIf (etQ (tAndC (tTruth (kVar 7)) (tOfB (qOp cNe (kVar 6) (qC (.str []))))))
 (sSeq (sAsg (eFz (eOp fAdd (eQ (qC (.int 1))) (eCall f_law_draw (lLent 0 (lVal (eQ (qVar 3)) lNil))))) (gSet 12))
 (sAsg (eQ (qFz (qSl (qOp fMul (kVar 6) (qOp fAdd (qOp fDiv (kVar 12) (qCallB fLen (aCons (kVar 6) aNil))) (qC (.int 1)))) pNo (pSome (kVar 12))))) (gSet 6)))
 sNext)
def b_law_string_4 : GK.Env → Option Out :=
 (sRet (eQ (qVar 6)))
def b_law_string : GK.Env → Option Out :=
 (sSeq b_law_string_0 (sSeq b_law_string_1 (sSeq b_law_string_2 (sSeq b_law_string_3 b_law_string_4))))
def f_law_string : List T → Option (T × List T) := mkFn 4 14 pin_law_string b_law_string
theorem sc_law_string : FnScope ["_law_source_here", "_law_plan_here", "_law_most", "_law_longest", "_law_letters", "_law_bans", "_law_found", "_law_many_times", "_law_slips", "_law_k", "_law_ahead", "_law_some", "_law_size", "_law_letter"] ["_law_source_here", "_law_plan_here", "_law_most", "_law_longest"] (defScope s_law_string) := ⟨rfl, rfl, rfl, by decide +kernel, rfl, by decide +kernel, by decide +kernel⟩
theorem ok_law_string {f : Addr} {fd : FuncData} (F : FunX K "_law_string" "_law_string" s_law_string f fd) (Tx : Txt K mg) (h_law_draw : Has P w K mg base 1 "_law_draw" f_law_draw) (h_law_broken : Has P w K mg base 1 "_law_broken" f_law_broken) : FnG P w K mg base 2 f fd ["_law_source_here", "_law_plan_here", "_law_most", "_law_longest"] f_law_string := by
  refine fn_ok F sc_law_string (pin := pin_law_string) (b := b_law_string) fun cdv A outer s H hr hgd => ?_
  exact ⟨_, (ses_cons (se_unp (is := [4, 5, 6]) (by rfl) (nm_cons (pg_name (i := 4) sc_law_string.nd (by rfl) (by first | exact Or.inl rfl | exact Or.inr rfl)) (nm_cons (pg_name (i := 5) sc_law_string.nd (by rfl) (by first | exact Or.inl rfl | exact Or.inr rfl)) (nm_cons (pg_name (i := 6) sc_law_string.nd (by rfl) (by first | exact Or.inl rfl | exact Or.inr rfl)) nm_nil))) (QA.eff (qa_cons (qe_item (hu_of hr) (ke_var 1 (pv 1)) (QE.k qe_int)) (qa_cons (qe_item (hu_of hr) (ke_var 1 (pv 1)) (QE.k qe_int)) (qa_cons (qe_str (l := []) (by decide +kernel)) qa_nil)))) (by decide))
 (ses_cons (se_par (i := 7) (j := 8) (by rfl) sc_law_string.nd (by rfl) (by rfl) (by decide) (by rfl) (by rfl) (ea_cons (ee_and (QE.eff (qe_cmp (ce_op op_gt ov_gt (ke_var 3 (pv 3)) (QE.k qe_int)))) (ee_one (ee_cmp (op_eqU hr.units) ov_eqU (ee_has (y := "_law_draw") h_law_draw hr (by decide) hgd (el_lent 0 (pv 0) (el_val (QE.eff qe_int) el_nil))) (QE.eff qe_int)))) (ea_cons (ee_cmp (op_eqU hr.units) ov_eqU (ee_has (y := "_law_draw") h_law_draw hr (by decide) hgd (el_lent 0 (pv 0) (el_val (QE.eff qe_int) el_nil))) (QE.eff qe_int)) (QA.eff qa_nil))) (by rfl) (by rfl) (by rfl))
 (ses_cons (se_for PassesOwn.never (by rfl) (ie_rng1 (by rfl) Tx.z_range (ea_cons (ee_has (y := "_law_draw") h_law_draw hr (by decide) hgd (el_lent 0 (pv 0) (el_val (QE.eff (qe_fz (qe_bin op_addU ov_addU (ke_var 2 (pv 2)) (QE.k qe_int)))) el_nil))) (QA.eff qa_nil)) (elen_cons (elen_q fun _ _ e => len_nil e))) (ge_name (pg_name (i := 9) sc_law_string.nd (by rfl) (by first | exact Or.inl rfl | exact Or.inr rfl)) (by rfl))
 (ses_cons (se_asg (QE.eff (qe_fz (qe_slice (ke_var 6 (pv 6)) (part_some (QE.k (qe_una un_neg uv_neg (QE.k qe_int)))) part_no))) (ge_name (pg_name (i := 10) sc_law_string.nd (by rfl) (by first | exact Or.inl rfl | exact Or.inr rfl)) (by rfl)))
 (ses_cons (se_setLcF (i := 11) (by rfl) sc_law_string.nd (by rfl) (by rfl) (sw_true (by rfl) (by rfl) (by rfl) (by decide +kernel)) (IQ.toK (iq_any (qe_var 4 (pv 4)))) (blkOk_by (own := [(Str.ofString "_law_letter", 13)]) (by show blkC ["_law_source_here", "_law_plan_here", "_law_most", "_law_longest", "_law_letters", "_law_bans", "_law_found", "_law_many_times", "_law_slips", "_law_k", "_law_ahead", "_law_some", "_law_size", "_law_letter"] (defScope s_law_string) _ _ = true; decide +kernel)) (fun _ _ _ _ _ => ⟨_, (gq_name (pg_name (i := 13) sc_law_string.nd (by rfl) (by first | exact Or.inl rfl | exact Or.inr rfl)) (by rfl))⟩) (fun _ _ _ _ _ => ⟨_, (ts_one (te_not (te_truth (QE.k (qe_has (y := "_law_broken") h_law_broken hr (by decide) hgd (qa_cons (qe_var 5 (pv 5)) (qa_cons (qe_fz (qe_bin op_addU ov_addU (ke_var 10 (pv 10)) (ke_var 13 (pv 13)))) (qa_cons (qe_blt (call_len.or call_lenD) cp_len Tx.z_len b_len (ka_cons (ke_var 10 (pv 10)) ka_nil)) qa_nil))))))))⟩) (fun _ _ _ _ _ => ⟨_, (qe_var 13 (pv 13))⟩) (by rfl))
 (ses_cons (se_if (EW.asT (ew_and (TE'.eff (te_truth (ke_var 8 (pv 8)))) (ew_and1 (EW.asT (ew_or (TE'.eff (te_cmp (ce_op (op_eqU hr.units) ov_eqU (ke_var 11 (pv 11)) (QE.k (qe_lst qa_nil))))) (ew_or1 (et_cmp (op_eqU hr.units) ov_eqU (ee_has (y := "_law_draw") h_law_draw hr (by decide) hgd (el_lent 0 (pv 0) (el_val (QE.eff qe_int) el_nil))) (QE.eff qe_int))))))))
 (ses_one (se_asg (QE.eff (qe_fz (qe_bty (call_list_of.or (call_listStr (by rfl))) (cp_listU cp_list) Tx.z_list b_list (ka_cons (ke_var 4 (pv 4)) ka_nil)))) (ge_name (pg_name (i := 11) sc_law_string.nd (by rfl) (by first | exact Or.inl rfl | exact Or.inr rfl)) (by rfl))))
 ses_nil)
 (ses_cons (se_if (TE'.eff (te_cmp (ce_op (op_eqU hr.units) ov_eqU (ke_var 11 (pv 11)) (QE.k (qe_lst qa_nil)))))
 (ses_one se_break)
 ses_nil)
 (ses_one (se_asg (ee_fz (ee_bin op_addU ov_addU (QE.eff (qe_var 6 (pv 6))) (ee_item (QE.eff (qe_var 11 (pv 11))) (ee_has (y := "_law_draw") h_law_draw hr (by decide) hgd (el_lent 0 (pv 0) (el_val (QE.eff (qe_blt (call_len.or call_lenD) cp_len Tx.z_len b_len (ka_cons (ke_var 11 (pv 11)) ka_nil))) el_nil)))))) (ge_name (pg_name (i := 6) sc_law_string.nd (by rfl) (by first | exact Or.inl rfl | exact Or.inr rfl)) (by rfl)))))))))
 (ses_cons (se_if (TE'.eff (WE.asT (we_and (te_truth (ke_var 7 (pv 7))) (we_and1 (te_cmp (ce_op (op_neU hr.units) ov_neU (ke_var 6 (pv 6)) (QE.k (qe_str (l := []) (by decide +kernel)))))))))
 (ses_cons (se_asg (ee_fz (ee_bin op_addU ov_addU (QE.eff qe_int) (ee_has (y := "_law_draw") h_law_draw hr (by decide) hgd (el_lent 0 (pv 0) (el_val (QE.eff (qe_var 3 (pv 3))) el_nil))))) (ge_name (pg_name (i := 12) sc_law_string.nd (by rfl) (by first | exact Or.inl rfl | exact Or.inr rfl)) (by rfl)))
 (ses_one (se_asg (QE.eff (qe_fz (qe_slice (QE.k (qe_bin op_mulU ov_mulU (ke_var 6 (pv 6)) (QE.k (qe_bin op_addU ov_addU (QE.k (qe_bin op_fdiv ov_div (ke_var 12 (pv 12)) (QE.k (qe_blt (call_len.or call_lenD) cp_len Tx.z_len b_len (ka_cons (ke_var 6 (pv 6)) ka_nil))))) (QE.k qe_int))))) part_no (part_some (ke_var 12 (pv 12)))))) (ge_name (pg_name (i := 6) sc_law_string.nd (by rfl) (by first | exact Or.inl rfl | exact Or.inr rfl)) (by rfl)))))
 ses_nil)
 (ses_one (se_ret (QE.eff (qe_var 6 (pv 6)))))))))⟩

abbrev s_law_circles : Stmt := top 42
def pin_law_circles : Nat → Bool := fun i => ([0, 1] : List Nat).contains i
def b_law_circles_0 : GK.Env → Option Out :=
 (sAsg (eQ (qCallB fLen (aCons (kVar 1) aNil))) (gSet 2))
def b_law_circles_1 : GK.Env → Option Out :=
 (sFor (iQ (qRng (aCons (qVar 2) aNil))) (gSet 3)
 (sFor (iQ (qRng (aCons (qC (.int 1)) (aCons (qC (.int 6)) aNil)))) (gSet 4)
 (sIf (etQ (tOfB (qOp (cIn false) (qOp fAdd (qOp fAdd (qOp fPeekU (kVar 1) (kVar 3)) (qOp fPeekU (kVar 1) (qOp fMod (qCallB fInt (aCons (qOp fAdd (kVar 3) (kVar 4)) aNil)) (kVar 2)))) (qCallB fStr (aCons (kVar 4) aNil))) (kVar 0))))
 (sRet (eQ (qC (.bl false))))
 sNext)))
def b_law_circles_2 : GK.Env → Option Out :=
 (sRet (eQ (qC (.bl true))))
def b_law_circles : GK.Env → Option Out :=
 (sSeq b_law_circles_0 (sSeq b_law_circles_1 b_law_circles_2))
def f_law_circles : List T → Option (T × List T) := mkFn 2 5 pin_law_circles b_law_circles
theorem sc_law_circles : FnScope ["_law_bans", "_law_circle", "_law_size", "_law_place", "_law_far"] ["_law_bans", "_law_circle"] (defScope s_law_circles) := ⟨rfl, rfl, rfl, by decide +kernel, rfl, by decide +kernel, by decide +kernel⟩
theorem ok_law_circles {f : Addr} {fd : FuncData} (F : FunX K "_law_circles" "_law_circles" s_law_circles f fd) (Tx : Txt K mg) : FnG P w K mg base 1 f fd ["_law_bans", "_law_circle"] f_law_circles := by
  refine fn_ok F sc_law_circles (pin := pin_law_circles) (b := b_law_circles) fun cdv A outer s H hr hgd => ?_
  exact ⟨_, (ses_cons (se_asg (QE.eff (qe_blt (call_len.or call_lenD) cp_len Tx.z_len b_len (ka_cons (ke_var 1 (pv 1)) ka_nil))) (ge_name (pg_name (i := 2) sc_law_circles.nd (by rfl) (by first | exact Or.inl rfl | exact Or.inr rfl)) (by rfl)))
 (ses_cons (se_for PassesOwn.never (by rfl) (IQ.toE (iq_rng1 (by rfl) Tx.z_range (qa_cons (qe_var 2 (pv 2)) qa_nil) (len_cons fun _ _ e => len_nil e))) (ge_name (pg_name (i := 3) sc_law_circles.nd (by rfl) (by first | exact Or.inl rfl | exact Or.inr rfl)) (by rfl))
 (ses_one (se_for PassesOwn.never (by rfl) (IQ.toE (iq_rng2 (by rfl) Tx.z_range (qa_cons qe_int (qa_cons qe_int qa_nil)) (len_cons (len_cons fun _ _ e => len_nil e)))) (ge_name (pg_name (i := 4) sc_law_circles.nd (by rfl) (by first | exact Or.inl rfl | exact Or.inr rfl)) (by rfl))
 (ses_one (se_if (TE'.eff (te_cmp (ce_in (hu65 hr) (QE.k (qe_bin op_addU ov_addU (QE.k (qe_bin op_addU ov_addU (ke_item (hu_of hr) (ke_var 1 (pv 1)) (ke_var 3 (pv 3))) (ke_item (hu_of hr) (ke_var 1 (pv 1)) (QE.k (qe_bin op_mod ov_mod (QE.k (qe_bty (call_int1.or call_int_str) cp_int Tx.z_int b_int (ka_cons (QE.k (qe_bin op_addU ov_addU (ke_var 3 (pv 3)) (ke_var 4 (pv 4)))) ka_nil))) (ke_var 2 (pv 2))))))) (QE.k (qe_bty (call_str_int.or SkE.call_str_str) cp_str Tx.z_str b_str (ka_cons (ke_var 4 (pv 4)) ka_nil))))) (ke_var 0 (pv 0)))))
 (ses_one (se_ret (QE.eff qe_bl)))
 ses_nil)))))
 (ses_one (se_ret (QE.eff qe_bl)))))⟩

abbrev s_law_ring : Stmt := top 44
def pin_law_ring : Nat → Bool := fun i => ([0, 1, 2] : List Nat).contains i
def b_law_ring_1_0 : GK.Env → Option Out :=
 (sAsg (eFz (eCall f_law_string (lLent 0 (lVal (eQ (qVar 1)) (lVal (eQ (qVar 2)) (lVal (eQ (qC (.int 0))) lNil)))))) (gSet 5))
def b_law_ring_1_1 : GK.Env → Option Out :=
 (sIf (etQ (tOfB (qOp cNe (kVar 5) (qC (.str [])))))
 (sAsg (eQ (qVar 5)) (gSet 3))
 sNext)
def b_law_ring_1_2 : GK.Env → Option Out :=
 (sIf (etQ (tTruth (qCall f_law_circles (aCons (qOp fItem (kVar 1) (qC (.int 2))) (aCons (qVar 3) aNil)))))
 sBreak
 sNext)
def b_law_ring_0 : GK.Env → Option Out :=
 (sAsg (eOp fIx (eQ (qOp fItem (kVar 1) (qC (.int 0)))) (eCall f_law_draw (lLent 0 (lVal (eQ (qCallB fLen (aCons (qOp fPeekU (kVar 1) (qC (.int 0))) aNil))) lNil)))) (gSet 3))
def b_law_ring_1 : GK.Env → Option Out :=
 (sFor (iQ (qRng (aCons (qC (.int 4)) aNil))) (gSet 4)
 (sSeq b_law_ring_1_0
 (sSeq b_law_ring_1_1
 b_law_ring_1_2)))
def b_law_ring_2 : GK.Env → Option Out :=
 (sRet (eQ (qVar 3)))
def b_law_ring : GK.Env → Option Out :=
 (sSeq b_law_ring_0 (sSeq b_law_ring_1 b_law_ring_2))
def f_law_ring : List T → Option (T × List T) := mkFn 3 6 pin_law_ring b_law_ring
theorem sc_law_ring : FnScope ["_law_source_here", "_law_plan_here", "_law_most", "_law_found", "_law_turn", "_law_string_here"] ["_law_source_here", "_law_plan_here", "_law_most"] (defScope s_law_ring) := ⟨rfl, rfl, rfl, by decide +kernel, rfl, by decide +kernel, by decide +kernel⟩
theorem ok_law_ring {f : Addr} {fd : FuncData} (F : FunX K "_law_ring" "_law_ring" s_law_ring f fd) (Tx : Txt K mg) (h_law_draw : Has P w K mg base 1 "_law_draw" f_law_draw) (h_law_string : Has P w K mg base 2 "_law_string" f_law_string) (h_law_circles : Has P w K mg base 1 "_law_circles" f_law_circles) : FnG P w K mg base 3 f fd ["_law_source_here", "_law_plan_here", "_law_most"] f_law_ring := by
  refine fn_ok F sc_law_ring (pin := pin_law_ring) (b := b_law_ring) fun cdv A outer s H hr hgd => ?_
  exact ⟨_, (ses_cons (se_asg (ee_item (QE.eff (qe_item (hu_of hr) (ke_var 1 (pv 1)) (QE.k qe_int))) (ee_has (y := "_law_draw") h_law_draw hr (by decide) hgd (el_lent 0 (pv 0) (el_val (QE.eff (qe_blt (call_len.or call_lenD) cp_len Tx.z_len b_len (ka_cons (ke_item (hu_of hr) (ke_var 1 (pv 1)) (QE.k qe_int)) ka_nil))) el_nil)))) (ge_name (pg_name (i := 3) sc_law_ring.nd (by rfl) (by first | exact Or.inl rfl | exact Or.inr rfl)) (by rfl)))
 (ses_cons (se_for PassesOwn.never (by rfl) (IQ.toE (iq_rng1 (by rfl) Tx.z_range (qa_cons qe_int qa_nil) (len_cons fun _ _ e => len_nil e))) (ge_name (pg_name (i := 4) sc_law_ring.nd (by rfl) (by first | exact Or.inl rfl | exact Or.inr rfl)) (by rfl))
 (ses_cons (se_asg (ee_fz (ee_has (y := "_law_string") h_law_string hr (by decide) hgd (el_lent 0 (pv 0) (el_val (QE.eff (qe_var 1 (pv 1))) (el_val (QE.eff (qe_var 2 (pv 2))) (el_val (QE.eff qe_int) el_nil)))))) (ge_name (pg_name (i := 5) sc_law_ring.nd (by rfl) (by first | exact Or.inl rfl | exact Or.inr rfl)) (by rfl)))
 (ses_cons (se_if (TE'.eff (te_cmp (ce_op (op_neU hr.units) ov_neU (ke_var 5 (pv 5)) (QE.k (qe_str (l := []) (by decide +kernel))))))
 (ses_one (se_asg (QE.eff (qe_var 5 (pv 5))) (ge_name (pg_name (i := 3) sc_law_ring.nd (by rfl) (by first | exact Or.inl rfl | exact Or.inr rfl)) (by rfl))))
 ses_nil)
 (ses_one (se_if (TE'.eff (te_truth (QE.k (qe_has (y := "_law_circles") h_law_circles hr (by decide) hgd (qa_cons (qe_item (hu_of hr) (ke_var 1 (pv 1)) (QE.k qe_int)) (qa_cons (qe_var 3 (pv 3)) qa_nil))))))
 (ses_one se_break)
 ses_nil)))))
 (ses_one (se_ret (QE.eff (qe_var 3 (pv 3)))))))⟩

abbrev s_check_rule : Stmt := top 24
def pin_check_rule : Nat → Bool := fun i => ([0] : List Nat).contains i
def b_check_rule_0 : GK.Env → Option Out :=
 (sIf (etQ (tNotC (tTruth (qUn (fIsOwn "Rule") (kVar 0)))))
 sNever
 sNext)
def b_check_rule : GK.Env → Option Out :=
 b_check_rule_0
def f_check_rule : List T → Option (T × List T) := mkFn 1 1 pin_check_rule b_check_rule
theorem sc_check_rule : FnScope ["value"] ["value"] (defScope s_check_rule) := ⟨rfl, rfl, rfl, by decide +kernel, rfl, by decide +kernel, by decide +kernel⟩
theorem ok_check_rule {f : Addr} {fd : FuncData} (F : FunX K "check_rule" "check_rule" s_check_rule f fd) (Tx : Txt K mg) : FnG P w K mg base 1 f fd ["value"] f_check_rule := by
  refine fn_ok F sc_check_rule (pin := pin_check_rule) (b := b_check_rule) fun cdv A outer s H hr hgd => ?_
  obtain ⟨C_Rule, m_Rule, o_Rule⟩ := Tx.oc_Rule
  exact ⟨_, (ses_one (se_if (TE'.eff (te_not (te_truth (QE.k (qe_isOwn (y := "Rule") (by rfl) Tx.z_isinstance (by rfl) m_Rule o_Rule (ke_var 0 (pv 0)))))))
 (ses_one se_never)
 ses_nil))⟩

abbrev s_is_row : Stmt := top 26
def pin_is_row : Nat → Bool := fun i => ([0, 1] : List Nat).contains i
def b_is_row_0 : GK.Env → Option Out :=
 (sRet (eQ (qAnd (qUn fIsStr (kVar 1)) (qCallB fAll (aCons (qLc [2] (qWalk (qVar 1)) (gSet 2) cYes (qOp (cIn false) (kVar 2) (kFld AF "worth_of" (kVar 0)))) aNil)))))
def b_is_row : GK.Env → Option Out :=
 b_is_row_0
def f_is_row : List T → Option (T × List T) := mkFn 2 3 pin_is_row b_is_row
theorem sc_is_row : FnScope ["rule", "value", "kind"] ["rule", "value"] (defScope s_is_row) := ⟨rfl, rfl, rfl, by decide +kernel, rfl, by decide +kernel, by decide +kernel⟩
theorem ok_is_row {f : Addr} {fd : FuncData} (F : FunX K "is_row" "is_row" s_is_row f fd) (Tx : Txt K mg) : FnG P w K mg base 1 f fd ["rule", "value"] f_is_row := by
  refine fn_ok F sc_is_row (pin := pin_is_row) (b := b_is_row) fun cdv A outer s H hr hgd => ?_
  exact ⟨_, (ses_one (se_ret (QE.eff (qe_and (qe_isStr (by rfl) Tx.z_isinstance (by rfl) Tx.z_str (ke_var 1 (pv 1))) (qe_one (qe_blt (cr_all (by rfl)) cp_all Tx.z_all b_all (ka_cons (QE.k (qe_lc (by rfl) sc_is_row.nd (IQ.toK (iq_any (qe_var 1 (pv 1)))) (blkOk_by (own := [(Str.ofString "kind", 2)]) (by show blkC ["rule", "value", "kind"] (defScope s_is_row) _ _ = true; decide +kernel)) (fun _ _ _ _ _ => ⟨_, (gq_name (pg_name (i := 2) sc_is_row.nd (by rfl) (by first | exact Or.inl rfl | exact Or.inr rfl)) (by rfl))⟩) (fun _ _ _ _ _ => ⟨_, ts_nil⟩) (fun _ _ _ _ _ => ⟨_, (qe_cmp (ce_in (hu65 hr) (ke_var 2 (pv 2)) (ke_fld (f := "worth_of") Tx.cls (ke_var 0 (pv 0)))))⟩))) ka_nil)))))))⟩

abbrev s_check_row : Stmt := top 27
def pin_check_row : Nat → Bool := fun i => ([0, 1] : List Nat).contains i
def b_check_row_0 : GK.Env → Option Out :=
 (sIf (etQ (tOrC (tNotC (tTruth (qUn fIsStr (kVar 1)))) (tOrC (tOfB (qOp cGt (qCallB fLen (aCons (kVar 1) aNil)) (qC (.int 1000)))) (tNotC (tTruth (qCall f_is_row (aCons (qVar 0) (aCons (qVar 1) aNil))))))))
 sNever
 sNext)
def b_check_row : GK.Env → Option Out :=
 b_check_row_0
def f_check_row : List T → Option (T × List T) := mkFn 2 2 pin_check_row b_check_row
theorem sc_check_row : FnScope ["rule", "value"] ["rule", "value"] (defScope s_check_row) := ⟨rfl, rfl, rfl, by decide +kernel, rfl, by decide +kernel, by decide +kernel⟩
theorem ok_check_row {f : Addr} {fd : FuncData} (F : FunX K "check_row" "check_row" s_check_row f fd) (Tx : Txt K mg) (h_is_row : Has P w K mg base 1 "is_row" f_is_row) : FnG P w K mg base 2 f fd ["rule", "value"] f_check_row := by
  refine fn_ok F sc_check_row (pin := pin_check_row) (b := b_check_row) fun cdv A outer s H hr hgd => ?_
  exact ⟨_, (ses_one (se_if (TE'.eff (WE.asT (we_or (te_not (te_truth (QE.k (qe_isStr (by rfl) Tx.z_isinstance (by rfl) Tx.z_str (ke_var 1 (pv 1)))))) (we_or (te_cmp (ce_op op_gt ov_gt (QE.k (qe_blt (call_len.or call_lenD) cp_len Tx.z_len b_len (ka_cons (ke_var 1 (pv 1)) ka_nil))) (QE.k (qe_gI Tx.c_MOST_PLACES)))) (we_or1 (te_not (te_truth (QE.k (qe_has (y := "is_row") h_is_row hr (by decide) hgd (qa_cons (qe_var 0 (pv 0)) (qa_cons (qe_var 1 (pv 1)) qa_nil)))))))))))
 (ses_one se_never)
 ses_nil))⟩

abbrev s_is_kept : Stmt := top 29
def pin_is_kept : Nat → Bool := fun i => ([0, 1] : List Nat).contains i
def b_is_kept_0 : GK.Env → Option Out :=
 (sFor (iQ (qWalk (qFld AF "triples" (kVar 0)))) (gUn (gConsC (gSet 2) (gConsC (gSet 3) (gConsC (gSet 4) gNilC))))
 (sFor (iQ (qRng (aCons (qVar 4) (aCons (qCallB fLen (aCons (kVar 1) aNil)) aNil)))) (gSet 5)
 (sIf (etQ (tAndC (tOfB (qOp cEq (qOp fPeekU (kVar 1) (kVar 5)) (kVar 3))) (tOfB (qOp cEq (qOp fPeekU (kVar 1) (qOp fSub (kVar 5) (kVar 4))) (kVar 2)))))
 (sRet (eQ (qC (.bl false))))
 sNext)))
def b_is_kept_1 : GK.Env → Option Out :=
 (sRet (eQ (qC (.bl true))))
def b_is_kept : GK.Env → Option Out :=
 (sSeq b_is_kept_0 b_is_kept_1)
def f_is_kept : List T → Option (T × List T) := mkFn 2 6 pin_is_kept b_is_kept
theorem sc_is_kept : FnScope ["rule", "row", "first", "second", "distance", "place"] ["rule", "row"] (defScope s_is_kept) := ⟨rfl, rfl, rfl, by decide +kernel, rfl, by decide +kernel, by decide +kernel⟩
theorem ok_is_kept {f : Addr} {fd : FuncData} (F : FunX K "is_kept" "is_kept" s_is_kept f fd) (Tx : Txt K mg) : FnG P w K mg base 1 f fd ["rule", "row"] f_is_kept := by
  refine fn_ok F sc_is_kept (pin := pin_is_kept) (b := b_is_kept) fun cdv A outer s H hr hgd => ?_
  exact ⟨_, (ses_cons (se_for PassesOwn.never (by rfl) (IQ.toE (iq_any (qe_fld (f := "triples") Tx.cls (ke_var 0 (pv 0))))) (ge_tup (by rfl) (gse_cons (ge_name (pg_name (i := 2) sc_is_kept.nd (by rfl) (by first | exact Or.inl rfl | exact Or.inr rfl)) (by rfl)) (gse_cons (ge_name (pg_name (i := 3) sc_is_kept.nd (by rfl) (by first | exact Or.inl rfl | exact Or.inr rfl)) (by rfl)) (gse_cons (ge_name (pg_name (i := 4) sc_is_kept.nd (by rfl) (by first | exact Or.inl rfl | exact Or.inr rfl)) (by rfl)) gse_nil))))
 (ses_one (se_for PassesOwn.never (by rfl) (IQ.toE (iq_rng2 (by rfl) Tx.z_range (qa_cons (qe_var 4 (pv 4)) (qa_cons (qe_blt (call_len.or call_lenD) cp_len Tx.z_len b_len (ka_cons (ke_var 1 (pv 1)) ka_nil)) qa_nil)) (len_cons (len_cons fun _ _ e => len_nil e)))) (ge_name (pg_name (i := 5) sc_is_kept.nd (by rfl) (by first | exact Or.inl rfl | exact Or.inr rfl)) (by rfl))
 (ses_one (se_if (TE'.eff (WE.asT (we_and (te_cmp (ce_op (op_eqU hr.units) ov_eqU (ke_item (hu_of hr) (ke_var 1 (pv 1)) (ke_var 5 (pv 5))) (ke_var 3 (pv 3)))) (we_and1 (te_cmp (ce_op (op_eqU hr.units) ov_eqU (ke_item (hu_of hr) (ke_var 1 (pv 1)) (QE.k (qe_bin op_sub ov_sub (ke_var 5 (pv 5)) (ke_var 4 (pv 4))))) (ke_var 2 (pv 2))))))))
 (ses_one (se_ret (QE.eff qe_bl)))
 ses_nil)))))
 (ses_one (se_ret (QE.eff qe_bl))))⟩

abbrev s_kept : Stmt := top 31
def pin_kept : Nat → Bool := fun i => ([0, 1] : List Nat).contains i
def b_kept_0 : GK.Env → Option Out :=
 (sExpr (eQ (qCall f_check_rule (aCons (qVar 0) aNil))))
def b_kept_1 : GK.Env → Option Out :=
 (sExpr (eQ (qCall f_check_row (aCons (qVar 0) (aCons (qVar 1) aNil)))))
def b_kept_2 : GK.Env → Option Out :=
 (sRet (eQ (qCall f_is_kept (aCons (qVar 0) (aCons (qVar 1) aNil)))))
def b_kept : GK.Env → Option Out :=
 (sSeq b_kept_0 (sSeq b_kept_1 b_kept_2))
def f_kept : List T → Option (T × List T) := mkFn 2 2 pin_kept b_kept
theorem sc_kept : FnScope ["rule", "row"] ["rule", "row"] (defScope s_kept) := ⟨rfl, rfl, rfl, by decide +kernel, rfl, by decide +kernel, by decide +kernel⟩
theorem ok_kept {f : Addr} {fd : FuncData} (F : FunX K "kept" "kept" s_kept f fd) (Tx : Txt K mg) (h_check_rule : Has P w K mg base 1 "check_rule" f_check_rule) (h_check_row : Has P w K mg base 2 "check_row" f_check_row) (h_is_kept : Has P w K mg base 1 "is_kept" f_is_kept) : FnG P w K mg base 3 f fd ["rule", "row"] f_kept := by
  refine fn_ok F sc_kept (pin := pin_kept) (b := b_kept) fun cdv A outer s H hr hgd => ?_
  exact ⟨_, (ses_cons (se_expr (QE.eff (qe_has (y := "check_rule") h_check_rule hr (by decide) hgd (qa_cons (qe_var 0 (pv 0)) qa_nil))))
 (ses_cons (se_expr (QE.eff (qe_has (y := "check_row") h_check_row hr (by decide) hgd (qa_cons (qe_var 0 (pv 0)) (qa_cons (qe_var 1 (pv 1)) qa_nil)))))
 (ses_one (se_ret (QE.eff (qe_has (y := "is_kept") h_is_kept hr (by decide) hgd (qa_cons (qe_var 0 (pv 0)) (qa_cons (qe_var 1 (pv 1)) qa_nil))))))))⟩

abbrev s_check_ring : Stmt := top 28
def pin_check_ring : Nat → Bool := fun i => ([0, 1] : List Nat).contains i
def b_check_ring_0 : GK.Env → Option Out :=
 (sExpr (eQ (qCall f_check_row (aCons (qVar 0) (aCons (qVar 1) aNil)))))
def b_check_ring_1 : GK.Env → Option Out :=
 (sIf (etQ (tOfB (qOp cEq (kVar 1) (qC (.str [])))))
 sNever
 sNext)
def b_check_ring : GK.Env → Option Out :=
 (sSeq b_check_ring_0 b_check_ring_1)
def f_check_ring : List T → Option (T × List T) := mkFn 2 2 pin_check_ring b_check_ring
theorem sc_check_ring : FnScope ["rule", "value"] ["rule", "value"] (defScope s_check_ring) := ⟨rfl, rfl, rfl, by decide +kernel, rfl, by decide +kernel, by decide +kernel⟩
theorem ok_check_ring {f : Addr} {fd : FuncData} (F : FunX K "check_ring" "check_ring" s_check_ring f fd) (Tx : Txt K mg) (h_check_row : Has P w K mg base 2 "check_row" f_check_row) : FnG P w K mg base 3 f fd ["rule", "value"] f_check_ring := by
  refine fn_ok F sc_check_ring (pin := pin_check_ring) (b := b_check_ring) fun cdv A outer s H hr hgd => ?_
  exact ⟨_, (ses_cons (se_expr (QE.eff (qe_has (y := "check_row") h_check_row hr (by decide) hgd (qa_cons (qe_var 0 (pv 0)) (qa_cons (qe_var 1 (pv 1)) qa_nil)))))
 (ses_one (se_if (TE'.eff (te_cmp (ce_op (op_eqU hr.units) ov_eqU (ke_var 1 (pv 1)) (QE.k (qe_str (l := []) (by decide +kernel))))))
 (ses_one se_never)
 ses_nil)))⟩

abbrev s_is_kept_ring : Stmt := top 30
def pin_is_kept_ring : Nat → Bool := fun i => ([0, 1] : List Nat).contains i
def b_is_kept_ring_0 : GK.Env → Option Out :=
 (sAsg (eQ (qCallB fLen (aCons (kVar 1) aNil))) (gSet 2))
def b_is_kept_ring_1 : GK.Env → Option Out :=
 (sFor (iQ (qWalk (qFld AF "triples" (kVar 0)))) (gUn (gConsC (gSet 3) (gConsC (gSet 4) (gConsC (gSet 5) gNilC))))
 (sFor (iQ (qRng (aCons (qVar 2) aNil))) (gSet 6)
 (sIf (etQ (tAndC (tOfB (qOp cEq (qOp fPeekU (kVar 1) (kVar 6)) (kVar 3))) (tOfB (qOp cEq (qOp fPeekU (kVar 1) (qOp fMod (qCallB fInt (aCons (qOp fAdd (kVar 6) (kVar 5)) aNil)) (kVar 2))) (kVar 4)))))
 (sRet (eQ (qC (.bl false))))
 sNext)))
def b_is_kept_ring_2 : GK.Env → Option Out :=
 (sRet (eQ (qC (.bl true))))
def b_is_kept_ring : GK.Env → Option Out :=
 (sSeq b_is_kept_ring_0 (sSeq b_is_kept_ring_1 b_is_kept_ring_2))
def f_is_kept_ring : List T → Option (T × List T) := mkFn 2 7 pin_is_kept_ring b_is_kept_ring
theorem sc_is_kept_ring : FnScope ["rule", "ring", "many", "first", "second", "distance", "place"] ["rule", "ring"] (defScope s_is_kept_ring) := ⟨rfl, rfl, rfl, by decide +kernel, rfl, by decide +kernel, by decide +kernel⟩
theorem ok_is_kept_ring {f : Addr} {fd : FuncData} (F : FunX K "is_kept_ring" "is_kept_ring" s_is_kept_ring f fd) (Tx : Txt K mg) : FnG P w K mg base 1 f fd ["rule", "ring"] f_is_kept_ring := by
  refine fn_ok F sc_is_kept_ring (pin := pin_is_kept_ring) (b := b_is_kept_ring) fun cdv A outer s H hr hgd => ?_
  exact ⟨_, (ses_cons (se_asg (QE.eff (qe_blt (call_len.or call_lenD) cp_len Tx.z_len b_len (ka_cons (ke_var 1 (pv 1)) ka_nil))) (ge_name (pg_name (i := 2) sc_is_kept_ring.nd (by rfl) (by first | exact Or.inl rfl | exact Or.inr rfl)) (by rfl)))
 (ses_cons (se_for PassesOwn.never (by rfl) (IQ.toE (iq_any (qe_fld (f := "triples") Tx.cls (ke_var 0 (pv 0))))) (ge_tup (by rfl) (gse_cons (ge_name (pg_name (i := 3) sc_is_kept_ring.nd (by rfl) (by first | exact Or.inl rfl | exact Or.inr rfl)) (by rfl)) (gse_cons (ge_name (pg_name (i := 4) sc_is_kept_ring.nd (by rfl) (by first | exact Or.inl rfl | exact Or.inr rfl)) (by rfl)) (gse_cons (ge_name (pg_name (i := 5) sc_is_kept_ring.nd (by rfl) (by first | exact Or.inl rfl | exact Or.inr rfl)) (by rfl)) gse_nil))))
 (ses_one (se_for PassesOwn.never (by rfl) (IQ.toE (iq_rng1 (by rfl) Tx.z_range (qa_cons (qe_var 2 (pv 2)) qa_nil) (len_cons fun _ _ e => len_nil e))) (ge_name (pg_name (i := 6) sc_is_kept_ring.nd (by rfl) (by first | exact Or.inl rfl | exact Or.inr rfl)) (by rfl))
 (ses_one (se_if (TE'.eff (WE.asT (we_and (te_cmp (ce_op (op_eqU hr.units) ov_eqU (ke_item (hu_of hr) (ke_var 1 (pv 1)) (ke_var 6 (pv 6))) (ke_var 3 (pv 3)))) (we_and1 (te_cmp (ce_op (op_eqU hr.units) ov_eqU (ke_item (hu_of hr) (ke_var 1 (pv 1)) (QE.k (qe_bin op_mod ov_mod (QE.k (qe_bty (call_int1.or call_int_str) cp_int Tx.z_int b_int (ka_cons (QE.k (qe_bin op_addU ov_addU (ke_var 6 (pv 6)) (ke_var 5 (pv 5)))) ka_nil))) (ke_var 2 (pv 2))))) (ke_var 4 (pv 4))))))))
 (ses_one (se_ret (QE.eff qe_bl)))
 ses_nil)))))
 (ses_one (se_ret (QE.eff qe_bl)))))⟩

abbrev s_ring_kept : Stmt := top 32
def pin_ring_kept : Nat → Bool := fun i => ([0, 1] : List Nat).contains i
def b_ring_kept_0 : GK.Env → Option Out :=
 (sExpr (eQ (qCall f_check_rule (aCons (qVar 0) aNil))))
def b_ring_kept_1 : GK.Env → Option Out :=
 (sExpr (eQ (qCall f_check_ring (aCons (qVar 0) (aCons (qVar 1) aNil)))))
def b_ring_kept_2 : GK.Env → Option Out :=
 (sRet (eQ (qCall f_is_kept_ring (aCons (qVar 0) (aCons (qVar 1) aNil)))))
def b_ring_kept : GK.Env → Option Out :=
 (sSeq b_ring_kept_0 (sSeq b_ring_kept_1 b_ring_kept_2))
def f_ring_kept : List T → Option (T × List T) := mkFn 2 2 pin_ring_kept b_ring_kept
theorem sc_ring_kept : FnScope ["rule", "ring"] ["rule", "ring"] (defScope s_ring_kept) := ⟨rfl, rfl, rfl, by decide +kernel, rfl, by decide +kernel, by decide +kernel⟩
theorem ok_ring_kept {f : Addr} {fd : FuncData} (F : FunX K "ring_kept" "ring_kept" s_ring_kept f fd) (Tx : Txt K mg) (h_check_rule : Has P w K mg base 1 "check_rule" f_check_rule) (h_check_ring : Has P w K mg base 3 "check_ring" f_check_ring) (h_is_kept_ring : Has P w K mg base 1 "is_kept_ring" f_is_kept_ring) : FnG P w K mg base 4 f fd ["rule", "ring"] f_ring_kept := by
  refine fn_ok F sc_ring_kept (pin := pin_ring_kept) (b := b_ring_kept) fun cdv A outer s H hr hgd => ?_
  exact ⟨_, (ses_cons (se_expr (QE.eff (qe_has (y := "check_rule") h_check_rule hr (by decide) hgd (qa_cons (qe_var 0 (pv 0)) qa_nil))))
 (ses_cons (se_expr (QE.eff (qe_has (y := "check_ring") h_check_ring hr (by decide) hgd (qa_cons (qe_var 0 (pv 0)) (qa_cons (qe_var 1 (pv 1)) qa_nil)))))
 (ses_one (se_ret (QE.eff (qe_has (y := "is_kept_ring") h_is_kept_ring hr (by decide) hgd (qa_cons (qe_var 0 (pv 0)) (qa_cons (qe_var 1 (pv 1)) qa_nil))))))))⟩

abbrev s_breach : Stmt := top 33
def pin_breach : Nat → Bool := fun i => ([0, 1] : List Nat).contains i
def b_breach_2_0 : GK.Env → Option Out :=
 (sAsg (eQ (qFz (qOp fAdd (qOp fAdd (qOp fPeekU (kVar 1) (qOp fSub (kVar 2) (kVar 3))) (qOp fPeekU (kVar 1) (kVar 2))) (qCallB fStr (aCons (kVar 3) aNil))))) (gSet 4))
def b_breach_2_1 : GK.Env → Option Out :=
 (sIf (etQ (tOfB (qOp (cIn false) (kVar 4) (kFld AF "bars" (kVar 0)))))
 (sRet (eQ (qTup (aCons (qVar 4) (aCons (qOp fSub (kVar 2) (kVar 3)) (aCons (qVar 2) aNil))))))
 sNext)
def b_breach_0 : GK.Env → Option Out :=
 (sExpr (eQ (qCall f_check_rule (aCons (qVar 0) aNil))))
def b_breach_1 : GK.Env → Option Out :=
 (sExpr (eQ (qCall f_check_row (aCons (qVar 0) (aCons (qVar 1) aNil)))))
def b_breach_2 : GK.Env → Option Out :=
 (sFor (iQ (qRng (aCons (qCallB fLen (aCons (kVar 1) aNil)) aNil))) (gSet 2)
 (sFor (iQ (qRng (aCons (qC (.int 1)) (aCons (qOp fAdd (qCallB fMin (aCons (qC (.int 5)) (aCons (kVar 2) aNil))) (qC (.int 1))) aNil)))) (gSet 3)
 (sSeq b_breach_2_0
 b_breach_2_1)))
def b_breach_3 : GK.Env → Option Out :=
 (sRet (eQ (qC .non)))
def b_breach : GK.Env → Option Out :=
 (sSeq b_breach_0 (sSeq b_breach_1 (sSeq b_breach_2 b_breach_3)))
def f_breach : List T → Option (T × List T) := mkFn 2 5 pin_breach b_breach
theorem sc_breach : FnScope ["rule", "row", "second", "distance", "bar"] ["rule", "row"] (defScope s_breach) := ⟨rfl, rfl, rfl, by decide +kernel, rfl, by decide +kernel, by decide +kernel⟩
theorem ok_breach {f : Addr} {fd : FuncData} (F : FunX K "breach" "breach" s_breach f fd) (Tx : Txt K mg) (h_check_rule : Has P w K mg base 1 "check_rule" f_check_rule) (h_check_row : Has P w K mg base 2 "check_row" f_check_row) : FnG P w K mg base 3 f fd ["rule", "row"] f_breach := by
  refine fn_ok F sc_breach (pin := pin_breach) (b := b_breach) fun cdv A outer s H hr hgd => ?_
  exact ⟨_, (ses_cons (se_expr (QE.eff (qe_has (y := "check_rule") h_check_rule hr (by decide) hgd (qa_cons (qe_var 0 (pv 0)) qa_nil))))
 (ses_cons (se_expr (QE.eff (qe_has (y := "check_row") h_check_row hr (by decide) hgd (qa_cons (qe_var 0 (pv 0)) (qa_cons (qe_var 1 (pv 1)) qa_nil)))))
 (ses_cons (se_for PassesOwn.never (by rfl) (IQ.toE (iq_rng1 (by rfl) Tx.z_range (qa_cons (qe_blt (call_len.or call_lenD) cp_len Tx.z_len b_len (ka_cons (ke_var 1 (pv 1)) ka_nil)) qa_nil) (len_cons fun _ _ e => len_nil e))) (ge_name (pg_name (i := 2) sc_breach.nd (by rfl) (by first | exact Or.inl rfl | exact Or.inr rfl)) (by rfl))
 (ses_one (se_for PassesOwn.never (by rfl) (IQ.toE (iq_rng2 (by rfl) Tx.z_range (qa_cons qe_int (qa_cons (qe_bin op_addU ov_addU (QE.k (qe_blt ((call_min2 (by rfl)).or (cr_min (by rfl))) cp_min Tx.z_min b_min (ka_cons (QE.k (qe_gI Tx.c_MOST_DISTANCE)) (ka_cons (ke_var 2 (pv 2)) ka_nil)))) (QE.k qe_int)) qa_nil)) (len_cons (len_cons fun _ _ e => len_nil e)))) (ge_name (pg_name (i := 3) sc_breach.nd (by rfl) (by first | exact Or.inl rfl | exact Or.inr rfl)) (by rfl))
 (ses_cons (se_asg (QE.eff (qe_fz (qe_bin op_addU ov_addU (QE.k (qe_bin op_addU ov_addU (ke_item (hu_of hr) (ke_var 1 (pv 1)) (QE.k (qe_bin op_sub ov_sub (ke_var 2 (pv 2)) (ke_var 3 (pv 3))))) (ke_item (hu_of hr) (ke_var 1 (pv 1)) (ke_var 2 (pv 2))))) (QE.k (qe_bty (call_str_int.or SkE.call_str_str) cp_str Tx.z_str b_str (ka_cons (ke_var 3 (pv 3)) ka_nil)))))) (ge_name (pg_name (i := 4) sc_breach.nd (by rfl) (by first | exact Or.inl rfl | exact Or.inr rfl)) (by rfl)))
 (ses_one (se_if (TE'.eff (te_cmp (ce_in (hu65 hr) (ke_var 4 (pv 4)) (ke_fld (f := "bars") Tx.cls (ke_var 0 (pv 0))))))
 (ses_one (se_ret (QE.eff (qe_tup (qa_cons (qe_var 4 (pv 4)) (qa_cons (qe_bin op_sub ov_sub (ke_var 2 (pv 2)) (ke_var 3 (pv 3))) (qa_cons (qe_var 2 (pv 2)) qa_nil)))))))
 ses_nil))))))
 (ses_one (se_ret (QE.eff qe_non))))))⟩

abbrev s_law_earlier : Stmt := top 46
def pin_law_earlier : Nat → Bool := fun i => ([0, 1] : List Nat).contains i
def b_law_earlier_0 : GK.Env → Option Out :=
 (sIf (etQ (tOrC (tOfB (qOp cIs (kVar 0) (qC .non))) (tOfB (qOp cIs (kVar 1) (qC .non)))))
 (sRet (eQ (qIf (tOfB (qOp cIs (kVar 0) (qC .non))) (qVar 1) (qVar 0))))
 sNext)
def b_law_earlier_1 : GK.Env → Option Out :=
 (sRet (eQ (qIf (tOfB (qOp cLeT (qTup (aCons (qOp fItem (kVar 0) (qC (.int 2))) (aCons (qOp fSub (qC (.int 0)) (qOp fPeekU (kVar 0) (qC (.int 1)))) aNil))) (qTup (aCons (qOp fItem (kVar 1) (qC (.int 2))) (aCons (qOp fSub (qC (.int 0)) (qOp fPeekU (kVar 1) (qC (.int 1)))) aNil))))) (qVar 0) (qVar 1))))
def b_law_earlier : GK.Env → Option Out :=
 (sSeq b_law_earlier_0 b_law_earlier_1)
def f_law_earlier : List T → Option (T × List T) := mkFn 2 2 pin_law_earlier b_law_earlier
theorem sc_law_earlier : FnScope ["_law_left", "_law_right_here"] ["_law_left", "_law_right_here"] (defScope s_law_earlier) := ⟨rfl, rfl, rfl, by decide +kernel, rfl, by decide +kernel, by decide +kernel⟩
theorem ok_law_earlier {f : Addr} {fd : FuncData} (F : FunX K "_law_earlier" "_law_earlier" s_law_earlier f fd) (Tx : Txt K mg) : FnG P w K mg base 1 f fd ["_law_left", "_law_right_here"] f_law_earlier := by
  refine fn_ok F sc_law_earlier (pin := pin_law_earlier) (b := b_law_earlier) fun cdv A outer s H hr hgd => ?_
  exact ⟨_, (ses_cons (se_if (TE'.eff (WE.asT (we_or (te_cmp (ce_op op_isN ov_is (ke_var 0 (pv 0)) (QE.k qe_non))) (we_or1 (te_cmp (ce_op op_isN ov_is (ke_var 1 (pv 1)) (QE.k qe_non)))))))
 (ses_one (se_ret (QE.eff (qe_if (te_cmp (ce_op op_isN ov_is (ke_var 0 (pv 0)) (QE.k qe_non))) (qe_var 1 (pv 1)) (qe_var 0 (pv 0))))))
 ses_nil)
 (ses_one (se_ret (QE.eff (qe_if (te_cmp (ce_op (op_leT hr.units0) ov_leT (QE.k (qe_tup (qa_cons (qe_item (hu_of hr) (ke_var 0 (pv 0)) (QE.k qe_int)) (qa_cons (qe_bin op_sub ov_sub (QE.k qe_int) (ke_item (hu_of hr) (ke_var 0 (pv 0)) (QE.k qe_int))) qa_nil)))) (QE.k (qe_tup (qa_cons (qe_item (hu_of hr) (ke_var 1 (pv 1)) (QE.k qe_int)) (qa_cons (qe_bin op_sub ov_sub (QE.k qe_int) (ke_item (hu_of hr) (ke_var 1 (pv 1)) (QE.k qe_int))) qa_nil)))))) (qe_var 0 (pv 0)) (qe_var 1 (pv 1)))))))⟩

abbrev s_law_right : Stmt := top 48
def pin_law_right : Nat → Bool := fun i => ([0] : List Nat).contains i
def b_law_right_8_0 : GK.Env → Option Out :=
 (sAsg (eOp fIx (eQ (qVar 6)) (eCall f_law_draw (lLent 0 (lVal (eQ (qC (.int 3))) lNil)))) (gSet 13))
def b_law_right_8_1 : GK.Env → Option Out :=
 (sPar [14, 15] (eaCons (eFz (eCall f_law_string (lLent 0 (lVal (eQ (qVar 13)) (lVal (eQ (qC (.int 30))) (lVal (eQ (qC (.int 0))) lNil)))))) (eaCons (eFz (eCall f_law_ring (lLent 0 (lVal (eQ (qVar 13)) (lVal (eQ (qC (.int 12))) lNil))))) (eaQ aNil))))
def b_law_right_8_2 : GK.Env → Option Out :=
 (sIf (etQ (tOfB (qOp cNe (qCall f_kept (aCons (qVar 10) (aCons (qVar 14) aNil))) (qAnd (qCall f_kept (aCons (qVar 8) (aCons (qVar 14) aNil))) (qCall f_kept (aCons (qVar 9) (aCons (qVar 14) aNil)))))))
 (sRet (eQ (qC (.bl false))))
 sNext)
def b_law_right_8_3 : GK.Env → Option Out :=
 (sIf (etQ (tOfB (qOp cNe (qCallB fRepr (aCons (qCall f_breach (aCons (qVar 10) (aCons (qVar 14) aNil))) aNil)) (qCallB fRepr (aCons (qCall f_law_earlier (aCons (qFz (qCall f_breach (aCons (qVar 8) (aCons (qVar 14) aNil)))) (aCons (qFz (qCall f_breach (aCons (qVar 9) (aCons (qVar 14) aNil)))) aNil))) aNil)))))
 (sRet (eQ (qC (.bl false))))
 sNext)
def b_law_right_8_4 : GK.Env → Option Out :=
 (sIf (etQ (tOfB (qOp cNe (qCall f_ring_kept (aCons (qVar 10) (aCons (qVar 15) aNil))) (qAnd (qCall f_ring_kept (aCons (qVar 8) (aCons (qVar 15) aNil))) (qCall f_ring_kept (aCons (qVar 9) (aCons (qVar 15) aNil)))))))
 (sRet (eQ (qC (.bl false))))
 sNext)
def b_law_right_0 : GK.Env → Option Out :=
 (sAsg (eFz (eCall f_law_plan (lLent 0 (lVal (eQ (qC (.int 4))) (lVal (eQ (qC (.int 5))) (lVal (eQ (qC (.int 8))) lNil)))))) (gUn (gConsC (gSet 1) (gConsC (gSet 2) (gConsC (gSet 3) gNilC)))))
def b_law_right_1 : GK.Env → Option Out :=
 (sAsg (eFz (eCall f_law_lots (lLent 0 (lVal (eQ (qVar 1)) lNil)))) (gSet 4))
def b_law_right_2 : GK.Env → Option Out :=
 (sAsg (eCallB fTuple (eaCons (eLc [16] (iQ (qWalk (qVar 1))) (gSet 16) cYes (eCall f_law_draw (lLent 0 (lVal (eQ (qC (.int 10))) lNil)))) (eaQ aNil))) (gSet 5))
def b_law_right_3 : GK.Env → Option Out :=
 (sAsg (eQ (qFz (qLst (aCons (qTup (aCons (qVar 1) (aCons (qVar 2) (aCons (qVar 3) aNil)))) (aCons (qTup (aCons (qVar 1) (aCons (qVar 5) (aCons (qVar 4) aNil)))) (aCons (qTup (aCons (qVar 1) (aCons (qVar 2) (aCons (qCallB fTuple (aCons (qUn fSetSortT (qOp fAdd (kVar 3) (kVar 4))) aNil)) aNil)))) aNil)))))) (gSet 6))
def b_law_right_4 : GK.Env → Option Out :=
 (sAsg (eQ (qFz (qLc [17] (qWalk (qVar 6)) (gSet 17) cYes (qCall (mkMake "Rule" f_Rule_init) (aCons (qFz (qCall f_law_text (aCons (qVar 17) aNil))) aNil))))) (gSet 7))
def b_law_right_5 : GK.Env → Option Out :=
 (sAsg (eQ (qVar 7)) (gUnU (gConsC (gSet 8) (gConsC (gSet 9) (gConsC (gSet 10) gNilC)))))
def b_law_right_6 : GK.Env → Option Out :=
 (sAsg (eQ (qFz (qCall f_law_added (aCons (qOp fItem (kVar 6) (qC (.int 0))) (aCons (qVar 4) aNil))))) (gSet 11))
def b_law_right_7 : GK.Env → Option Out :=
 (sIf (etQ (tOrC (tOfB (qOp (cNeO "Rule" f_Rule_eq) (kVar 11) (kVar 10))) (tOrC (tOfB (qOp cNe (qCallB fRepr (aCons (kFld AF "text" (kVar 11)) aNil)) (qCallB fRepr (aCons (kFld AF "text" (kVar 10)) aNil)))) (tOfB (qOp cNe (kFld AF "reach" (kVar 10)) (qCallB fMax (aCons (kFld AF "reach" (kVar 8)) (aCons (kFld AF "reach" (kVar 9)) aNil))))))))
 (sRet (eQ (qC (.bl false))))
 sNext)
def b_law_right_8 : GK.Env → Option Out :=
 (sFor (iQ (qRng (aCons (qC (.int 3)) aNil))) (gSet 12)
 (sSeq b_law_right_8_0
 (sSeq b_law_right_8_1
 (sSeq b_law_right_8_2
 (sSeq b_law_right_8_3
 b_law_right_8_4)))))
def b_law_right_9 : GK.Env → Option Out :=
 (sRet (eQ (qC (.bl true))))
def b_law_right : GK.Env → Option Out :=
 (sSeq b_law_right_0 (sSeq b_law_right_1 (sSeq b_law_right_2 (sSeq b_law_right_3 (sSeq b_law_right_4 (sSeq b_law_right_5 (sSeq b_law_right_6 (sSeq b_law_right_7 (sSeq b_law_right_8 b_law_right_9)))))))))
def f_law_right : List T → Option (T × List T) := mkFn 1 18 pin_law_right b_law_right
theorem sc_law_right : FnScope ["_law_source_here", "_law_letters", "_law_prices", "_law_bans", "_law_more", "_law_dear", "_law_plans", "_law_rules_here", "_law_mine", "_law_its", "_law_both", "_law_made", "_law_turn", "_law_drawn", "_law_string_here", "_law_circle", "_law_letter", "_law_plan_here"] ["_law_source_here"] (defScope s_law_right) := ⟨rfl, rfl, rfl, by decide +kernel, rfl, by decide +kernel, by decide +kernel⟩
theorem ok_law_right {f : Addr} {fd : FuncData} (F : FunX K "_law_right" "_law_right" s_law_right f fd) (Tx : Txt K mg) (h_law_plan : Has P w K mg base 2 "_law_plan" f_law_plan) (h_law_lots : Has P w K mg base 2 "_law_lots" f_law_lots) (h_law_draw : Has P w K mg base 1 "_law_draw" f_law_draw) (h_Rule_init : HasC P w K mg base 4 "Rule" f_Rule_init) (h_law_text : Has P w K mg base 1 "_law_text" f_law_text) (h_law_added : Has P w K mg base 7 "_law_added" f_law_added) (h_e_Rule_eq : HasE P w K mg base 1 "Rule" f_Rule_eq) (h_law_ring : Has P w K mg base 3 "_law_ring" f_law_ring) (h_law_string : Has P w K mg base 2 "_law_string" f_law_string) (h_kept : Has P w K mg base 3 "kept" f_kept) (h_breach : Has P w K mg base 3 "breach" f_breach) (h_law_earlier : Has P w K mg base 1 "_law_earlier" f_law_earlier) (h_ring_kept : Has P w K mg base 4 "ring_kept" f_ring_kept) : FnG P w K mg base 8 f fd ["_law_source_here"] f_law_right := by
  refine fn_ok F sc_law_right (pin := pin_law_right) (b := b_law_right) fun cdv A outer s H hr hgd => ?_
  exact ⟨_, (ses_cons (se_asg (ee_fz (ee_has (y := "_law_plan") h_law_plan hr (by decide) hgd (el_lent 0 (pv 0) (el_val (QE.eff qe_int) (el_val (QE.eff qe_int) (el_val (QE.eff qe_int) el_nil)))))) (ge_tup (by rfl) (gse_cons (ge_name (pg_name (i := 1) sc_law_right.nd (by rfl) (by first | exact Or.inl rfl | exact Or.inr rfl)) (by rfl)) (gse_cons (ge_name (pg_name (i := 2) sc_law_right.nd (by rfl) (by first | exact Or.inl rfl | exact Or.inr rfl)) (by rfl)) (gse_cons (ge_name (pg_name (i := 3) sc_law_right.nd (by rfl) (by first | exact Or.inl rfl | exact Or.inr rfl)) (by rfl)) gse_nil)))))
 (ses_cons (se_asg (ee_fz (ee_has (y := "_law_lots") h_law_lots hr (by decide) hgd (el_lent 0 (pv 0) (el_val (QE.eff (qe_var 1 (pv 1))) el_nil)))) (ge_name (pg_name (i := 4) sc_law_right.nd (by rfl) (by first | exact Or.inl rfl | exact Or.inr rfl)) (by rfl)))
 (ses_cons (se_asg (ee_bty call_tuple_of cp_tuple Tx.z_tuple b_tuple (ea_cons (ee_lc (by rfl) sc_law_right.nd (IQ.toE (iq_any (qe_var 1 (pv 1)))) (blkOk_by (own := [(Str.ofString "_law_letter", 16)]) (by show blkC ["_law_source_here", "_law_letters", "_law_prices", "_law_bans", "_law_more", "_law_dear", "_law_plans", "_law_rules_here", "_law_mine", "_law_its", "_law_both", "_law_made", "_law_turn", "_law_drawn", "_law_string_here", "_law_circle", "_law_letter", "_law_plan_here"] (defScope s_law_right) _ _ = true; decide +kernel)) (fun _ _ _ _ _ => ⟨_, (gq_name (pg_name (i := 16) sc_law_right.nd (by rfl) (by first | exact Or.inl rfl | exact Or.inr rfl)) (by rfl))⟩) (fun _ _ _ _ _ => ⟨_, ts_nil⟩) (fun _ _ _ _ _ => ⟨_, (ee_has (y := "_law_draw") h_law_draw hr (by decide) hgd (el_lent 0 (pv 0) (el_val (QE.eff qe_int) el_nil)))⟩)) (QA.eff qa_nil))) (ge_name (pg_name (i := 5) sc_law_right.nd (by rfl) (by first | exact Or.inl rfl | exact Or.inr rfl)) (by rfl)))
 (ses_cons (se_asg (QE.eff (qe_fz (qe_lst (qa_cons (qe_tup (qa_cons (qe_var 1 (pv 1)) (qa_cons (qe_var 2 (pv 2)) (qa_cons (qe_var 3 (pv 3)) qa_nil)))) (qa_cons (qe_tup (qa_cons (qe_var 1 (pv 1)) (qa_cons (qe_var 5 (pv 5)) (qa_cons (qe_var 4 (pv 4)) qa_nil)))) (qa_cons (qe_tup (qa_cons (qe_var 1 (pv 1)) (qa_cons (qe_var 2 (pv 2)) (qa_cons (qe_bty call_tuple_of cp_tuple Tx.z_tuple b_tuple (ka_cons (QE.k (qe_setSortT (by rfl) (by rfl) Tx.z_sorted (by rfl) Tx.z_set (QE.k (qe_bin op_addU ov_addU (ke_var 3 (pv 3)) (ke_var 4 (pv 4)))))) ka_nil)) qa_nil)))) qa_nil)))))) (ge_name (pg_name (i := 6) sc_law_right.nd (by rfl) (by first | exact Or.inl rfl | exact Or.inr rfl)) (by rfl)))
 (ses_cons (se_setLcF (i := 7) (by rfl) sc_law_right.nd (by rfl) (by rfl) (sw_true (by rfl) (by rfl) (by rfl) (by decide +kernel)) (IQ.toK (iq_any (qe_var 6 (pv 6)))) (blkOk_by (own := [(Str.ofString "_law_plan_here", 17)]) (by show blkC ["_law_source_here", "_law_letters", "_law_prices", "_law_bans", "_law_more", "_law_dear", "_law_plans", "_law_rules_here", "_law_mine", "_law_its", "_law_both", "_law_made", "_law_turn", "_law_drawn", "_law_string_here", "_law_circle", "_law_letter", "_law_plan_here"] (defScope s_law_right) _ _ = true; decide +kernel)) (fun _ _ _ _ _ => ⟨_, (gq_name (pg_name (i := 17) sc_law_right.nd (by rfl) (by first | exact Or.inl rfl | exact Or.inr rfl)) (by rfl))⟩) (fun _ _ _ _ _ => ⟨_, ts_nil⟩) (fun _ _ _ _ _ => ⟨_, (qe_hasC (y := "Rule") h_Rule_init hr (by decide) hgd (qa_cons (qe_fz (qe_has (y := "_law_text") h_law_text hr (by decide) hgd (qa_cons (qe_var 17 (pv 17)) qa_nil))) qa_nil))⟩) (by rfl))
 (ses_cons (se_asg (QE.eff (qe_var 7 (pv 7))) (ge_tupU (by rfl) (gse_cons (ge_name (pg_name (i := 8) sc_law_right.nd (by rfl) (by first | exact Or.inl rfl | exact Or.inr rfl)) (by rfl)) (gse_cons (ge_name (pg_name (i := 9) sc_law_right.nd (by rfl) (by first | exact Or.inl rfl | exact Or.inr rfl)) (by rfl)) (gse_cons (ge_name (pg_name (i := 10) sc_law_right.nd (by rfl) (by first | exact Or.inl rfl | exact Or.inr rfl)) (by rfl)) gse_nil)))))
 (ses_cons (se_asg (QE.eff (qe_fz (qe_has (y := "_law_added") h_law_added hr (by decide) hgd (qa_cons (qe_item (hu_of hr) (ke_var 6 (pv 6)) (QE.k qe_int)) (qa_cons (qe_var 4 (pv 4)) qa_nil))))) (ge_name (pg_name (i := 11) sc_law_right.nd (by rfl) (by first | exact Or.inl rfl | exact Or.inr rfl)) (by rfl)))
 (ses_cons (se_if (TE'.eff (WE.asT (we_or (te_cmp (ce_op (op_neO h_e_Rule_eq hr (by decide) hgd) ov_neO (ke_var 11 (pv 11)) (ke_var 10 (pv 10)))) (we_or (te_cmp (ce_op (op_neU hr.units) ov_neU (QE.k (qe_blt (call_repr hgd (hu65 hr)) cp_repr Tx.z_repr b_repr (ka_cons (ke_fld (f := "text") Tx.cls (ke_var 11 (pv 11))) ka_nil))) (QE.k (qe_blt (call_repr hgd (hu65 hr)) cp_repr Tx.z_repr b_repr (ka_cons (ke_fld (f := "text") Tx.cls (ke_var 10 (pv 10))) ka_nil))))) (we_or1 (te_cmp (ce_op (op_neU hr.units) ov_neU (ke_fld (f := "reach") Tx.cls (ke_var 10 (pv 10))) (QE.k (qe_blt ((call_max2 (by rfl)).or (cr_max (by rfl))) cp_max Tx.z_max b_max (ka_cons (ke_fld (f := "reach") Tx.cls (ke_var 8 (pv 8))) (ka_cons (ke_fld (f := "reach") Tx.cls (ke_var 9 (pv 9))) ka_nil)))))))))))
 (ses_one (se_ret (QE.eff qe_bl)))
 ses_nil)
 (ses_cons (se_for PassesOwn.never (by rfl) (IQ.toE (iq_rng1 (by rfl) Tx.z_range (qa_cons qe_int qa_nil) (len_cons fun _ _ e => len_nil e))) (ge_name (pg_name (i := 12) sc_law_right.nd (by rfl) (by first | exact Or.inl rfl | exact Or.inr rfl)) (by rfl))
 (ses_cons (se_asg (ee_item (QE.eff (qe_var 6 (pv 6))) (ee_has (y := "_law_draw") h_law_draw hr (by decide) hgd (el_lent 0 (pv 0) (el_val (QE.eff qe_int) el_nil)))) (ge_name (pg_name (i := 13) sc_law_right.nd (by rfl) (by first | exact Or.inl rfl | exact Or.inr rfl)) (by rfl)))
 (ses_cons (se_par (i := 14) (j := 15) (by rfl) sc_law_right.nd (by rfl) (by rfl) (by decide) (by rfl) (by rfl) (ea_cons (ee_fz (ee_has (y := "_law_string") h_law_string hr (by decide) hgd (el_lent 0 (pv 0) (el_val (QE.eff (qe_var 13 (pv 13))) (el_val (QE.eff qe_int) (el_val (QE.eff qe_int) el_nil)))))) (ea_cons (ee_fz (ee_has (y := "_law_ring") h_law_ring hr (by decide) hgd (el_lent 0 (pv 0) (el_val (QE.eff (qe_var 13 (pv 13))) (el_val (QE.eff qe_int) el_nil))))) (QA.eff qa_nil))) (by rfl) (by rfl) (by rfl))
 (ses_cons (se_if (TE'.eff (te_cmp (ce_op (op_neU hr.units) ov_neU (QE.k (qe_has (y := "kept") h_kept hr (by decide) hgd (qa_cons (qe_var 10 (pv 10)) (qa_cons (qe_var 14 (pv 14)) qa_nil)))) (QE.k (qe_and (qe_has (y := "kept") h_kept hr (by decide) hgd (qa_cons (qe_var 8 (pv 8)) (qa_cons (qe_var 14 (pv 14)) qa_nil))) (qe_one (qe_has (y := "kept") h_kept hr (by decide) hgd (qa_cons (qe_var 9 (pv 9)) (qa_cons (qe_var 14 (pv 14)) qa_nil)))))))))
 (ses_one (se_ret (QE.eff qe_bl)))
 ses_nil)
 (ses_cons (se_if (TE'.eff (te_cmp (ce_op (op_neU hr.units) ov_neU (QE.k (qe_blt (call_repr hgd (hu65 hr)) cp_repr Tx.z_repr b_repr (ka_cons (QE.k (qe_has (y := "breach") h_breach hr (by decide) hgd (qa_cons (qe_var 10 (pv 10)) (qa_cons (qe_var 14 (pv 14)) qa_nil)))) ka_nil))) (QE.k (qe_blt (call_repr hgd (hu65 hr)) cp_repr Tx.z_repr b_repr (ka_cons (QE.k (qe_has (y := "_law_earlier") h_law_earlier hr (by decide) hgd (qa_cons (qe_fz (qe_has (y := "breach") h_breach hr (by decide) hgd (qa_cons (qe_var 8 (pv 8)) (qa_cons (qe_var 14 (pv 14)) qa_nil)))) (qa_cons (qe_fz (qe_has (y := "breach") h_breach hr (by decide) hgd (qa_cons (qe_var 9 (pv 9)) (qa_cons (qe_var 14 (pv 14)) qa_nil)))) qa_nil)))) ka_nil))))))
 (ses_one (se_ret (QE.eff qe_bl)))
 ses_nil)
 (ses_one (se_if (TE'.eff (te_cmp (ce_op (op_neU hr.units) ov_neU (QE.k (qe_has (y := "ring_kept") h_ring_kept hr (by decide) hgd (qa_cons (qe_var 10 (pv 10)) (qa_cons (qe_var 15 (pv 15)) qa_nil)))) (QE.k (qe_and (qe_has (y := "ring_kept") h_ring_kept hr (by decide) hgd (qa_cons (qe_var 8 (pv 8)) (qa_cons (qe_var 15 (pv 15)) qa_nil))) (qe_one (qe_has (y := "ring_kept") h_ring_kept hr (by decide) hgd (qa_cons (qe_var 9 (pv 9)) (qa_cons (qe_var 15 (pv 15)) qa_nil)))))))))
 (ses_one (se_ret (QE.eff qe_bl)))
 ses_nil)))))))
 (ses_one (se_ret (QE.eff qe_bl))))))))))))⟩

abbrev s_law_source : Stmt := top 35
def pin_law_source : Nat → Bool := fun i => ([0, 1] : List Nat).contains i
def b_law_source_0 : GK.Env → Option Out :=
 (sAsg (eQ (qIf (tOfB (qOp cLt (kVar 1) (qCallB fLen (aCons (kVar 0) aNil)))) (qOp fItem (kVar 0) (kVar 1)) (qC (.int 0)))) (gSet 2))
def b_law_source_1 : GK.Env → Option Out :=
 (sAsg (eQ (qOp fAdd (qC (.int 524287)) (qOp fMul (qC (.int 8191)) (kVar 1)))) (gSet 3))
def b_law_source_2 : GK.Env → Option Out :=
 (sFor (iQ (qWalk (qSl (kVar 0) pNo (pSome (qC (.int 6)))))) (gSet 4)
 (sAsg (eQ (qOp fMod (qCallB fInt (aCons (qOp fAdd (qOp fAdd (qOp fMul (kVar 3) (qC (.int 50021))) (qOp fMul (kVar 4) (qC (.int 3)))) (qC (.int 271))) aNil)) (qC (.int 2147483549)))) (gSet 3)))
def b_law_source_3 : GK.Env → Option Out :=
 (sRet (eQ (qLst (aCons (qIf (tOrC (tOfB (qOp cLt (kVar 2) (qC (.int 0)))) (tOfB (qOp cGe (kVar 2) (qOp fPow (qC (.int 10)) (qC (.int 18)))))) (qCallB fAbs (aCons (kVar 2) aNil)) (qC (.int 0))) (aCons (qOp fMod (qCallB fInt (aCons (qOp fAdd (qOp fMul (kVar 3) (qC (.int 61))) (qOp fMul (kVar 2) (kVar 2))) aNil)) (qC (.int 2147483549))) (aCons (qC (.int 0)) aNil))))))
def b_law_source : GK.Env → Option Out :=
 (sSeq b_law_source_0 (sSeq b_law_source_1 (sSeq b_law_source_2 b_law_source_3)))
def f_law_source : List T → Option (T × List T) := mkFn 2 5 pin_law_source b_law_source
theorem sc_law_source : FnScope ["_law_cells", "_law_at", "_law_own", "_law_mixed", "_law_cell"] ["_law_cells", "_law_at"] (defScope s_law_source) := ⟨rfl, rfl, rfl, by decide +kernel, rfl, by decide +kernel, by decide +kernel⟩
theorem ok_law_source {f : Addr} {fd : FuncData} (F : FunX K "_law_source" "_law_source" s_law_source f fd) (Tx : Txt K mg) : FnG P w K mg base 1 f fd ["_law_cells", "_law_at"] f_law_source := by
  refine fn_ok F sc_law_source (pin := pin_law_source) (b := b_law_source) fun cdv A outer s H hr hgd => ?_
  exact ⟨_, (ses_cons (se_asg (QE.eff (qe_if (te_cmp (ce_op op_ltU ov_ltU (ke_var 1 (pv 1)) (QE.k (qe_blt (call_len.or call_lenD) cp_len Tx.z_len b_len (ka_cons (ke_var 0 (pv 0)) ka_nil))))) (qe_item (hu_of hr) (ke_var 0 (pv 0)) (ke_var 1 (pv 1))) qe_int)) (ge_name (pg_name (i := 2) sc_law_source.nd (by rfl) (by first | exact Or.inl rfl | exact Or.inr rfl)) (by rfl)))
 (ses_cons (se_asg (QE.eff (qe_bin op_addU ov_addU (QE.k qe_int) (QE.k (qe_bin op_mulU ov_mulU (QE.k qe_int) (ke_var 1 (pv 1)))))) (ge_name (pg_name (i := 3) sc_law_source.nd (by rfl) (by first | exact Or.inl rfl | exact Or.inr rfl)) (by rfl)))
 (ses_cons (se_for PassesOwn.never (by rfl) (IQ.toE (iq_any (qe_slice (ke_var 0 (pv 0)) part_no (part_some (QE.k qe_int))))) (ge_name (pg_name (i := 4) sc_law_source.nd (by rfl) (by first | exact Or.inl rfl | exact Or.inr rfl)) (by rfl))
 (ses_one (se_asg (QE.eff (qe_bin op_mod ov_mod (QE.k (qe_bty (call_int1.or call_int_str) cp_int Tx.z_int b_int (ka_cons (QE.k (qe_bin op_addU ov_addU (QE.k (qe_bin op_addU ov_addU (QE.k (qe_bin op_mulU ov_mulU (ke_var 3 (pv 3)) (QE.k qe_int))) (QE.k (qe_bin op_mulU ov_mulU (ke_var 4 (pv 4)) (QE.k qe_int))))) (QE.k qe_int))) ka_nil))) (QE.k qe_int))) (ge_name (pg_name (i := 3) sc_law_source.nd (by rfl) (by first | exact Or.inl rfl | exact Or.inr rfl)) (by rfl)))))
 (ses_one (se_ret (QE.eff (qe_lst (qa_cons (qe_if (WE.asT (we_or (te_cmp (ce_op op_ltU ov_ltU (ke_var 2 (pv 2)) (QE.k qe_int))) (we_or1 (te_cmp (ce_op op_ge ov_ge (ke_var 2 (pv 2)) (QE.k (qe_bin op_pow ov_pow (QE.k qe_int) (QE.k qe_int)))))))) (qe_blt call_abs cp_abs Tx.z_abs b_abs (ka_cons (ke_var 2 (pv 2)) ka_nil)) qe_int) (qa_cons (qe_bin op_mod ov_mod (QE.k (qe_bty (call_int1.or call_int_str) cp_int Tx.z_int b_int (ka_cons (QE.k (qe_bin op_addU ov_addU (QE.k (qe_bin op_mulU ov_mulU (ke_var 3 (pv 3)) (QE.k qe_int))) (QE.k (qe_bin op_mulU ov_mulU (ke_var 2 (pv 2)) (ke_var 2 (pv 2)))))) ka_nil))) (QE.k qe_int)) (qa_cons qe_int qa_nil))))))))))⟩

abbrev s_law : Stmt := top 49
def pin_law : Nat → Bool := fun i => ([0] : List Nat).contains i
def b_law_0 : GK.Env → Option Out :=
 (sRet (eQ (qCallB fAll (aCons (qLc [1] (qRng (aCons (qCallB fMax (aCons (qC (.int 2)) (aCons (qCallB fMin (aCons (qCallB fLen (aCons (kVar 0) aNil)) (aCons (qC (.int 3)) aNil))) aNil))) aNil)) (gSet 1) cYes (qCall f_law_right (aCons (qCall f_law_source (aCons (qVar 0) (aCons (qVar 1) aNil))) aNil))) aNil))))
def b_law : GK.Env → Option Out :=
 b_law_0
def f_law : List T → Option (T × List T) := mkFn 1 2 pin_law b_law
theorem sc_law : FnScope ["_law_cells", "_law_at"] ["_law_cells"] (defScope s_law) := ⟨rfl, rfl, rfl, by decide +kernel, rfl, by decide +kernel, by decide +kernel⟩
theorem ok_law {f : Addr} {fd : FuncData} (F : FunX K "law" "law" s_law f fd) (Tx : Txt K mg) (h_law_right : Has P w K mg base 8 "_law_right" f_law_right) (h_law_source : Has P w K mg base 1 "_law_source" f_law_source) : FnG P w K mg base 9 f fd ["_law_cells"] f_law := by
  refine fn_ok F sc_law (pin := pin_law) (b := b_law) fun cdv A outer s H hr hgd => ?_
  exact ⟨_, (ses_one (se_ret (QE.eff (qe_blt (cr_all (by rfl)) cp_all Tx.z_all b_all (ka_cons (QE.k (qe_lc (by rfl) sc_law.nd (IQ.toK (iq_rng1 (by rfl) Tx.z_range (qa_cons (qe_blt ((call_max2 (by rfl)).or (cr_max (by rfl))) cp_max Tx.z_max b_max (ka_cons (QE.k qe_int) (ka_cons (QE.k (qe_blt ((call_min2 (by rfl)).or (cr_min (by rfl))) cp_min Tx.z_min b_min (ka_cons (QE.k (qe_blt (call_len.or call_lenD) cp_len Tx.z_len b_len (ka_cons (ke_var 0 (pv 0)) ka_nil))) (ka_cons (QE.k qe_int) ka_nil)))) ka_nil))) qa_nil) (len_cons fun _ _ e => len_nil e))) (blkOk_by (own := [(Str.ofString "_law_at", 1)]) (by show blkC ["_law_cells", "_law_at"] (defScope s_law) _ _ = true; decide +kernel)) (fun _ _ _ _ _ => ⟨_, (gq_name (pg_name (i := 1) sc_law.nd (by rfl) (by first | exact Or.inl rfl | exact Or.inr rfl)) (by rfl))⟩) (fun _ _ _ _ _ => ⟨_, ts_nil⟩) (fun _ _ _ _ _ => ⟨_, (qe_has (y := "_law_right") h_law_right hr (by decide) hgd (qa_cons (qe_has (y := "_law_source") h_law_source hr (by decide) hgd (qa_cons (qe_var 0 (pv 0)) (qa_cons (qe_var 1 (pv 1)) qa_nil))) qa_nil))⟩))) ka_nil)))))⟩
end

end LW
namespace LW
open GK L2
/-! the plain part: Rule -/
def L26 : List Nat := [97, 98, 99, 100, 101, 102, 103, 104, 105, 106, 107, 108, 109, 110, 111, 112, 113, 114, 115, 116, 117, 118, 119, 120, 121, 122]
def kword (k : Nat × Nat) : List Nat := [k.1, 48 + k.2]
def bword (b : Nat × Nat × Nat) : List Nat := [b.1, b.2.1, 48 + b.2.2]
theorem dig10 {p : Nat} (h : p < 10) : 48 + p ∈ ([48, 49, 50, 51, 52, 53, 54, 55, 56, 57] : List Nat) := by
  have : p = 0 ∨ p = 1 ∨ p = 2 ∨ p = 3 ∨ p = 4 ∨ p = 5 ∨ p = 6 ∨ p = 7 ∨ p = 8 ∨ p = 9 := by omega
  rcases this with h | h | h | h | h | h | h | h | h | h <;> subst h <;> decide
theorem dig5 {d : Nat} (h : 1 ≤ d ∧ d ≤ 5) : 48 + d ∈ ([49, 50, 51, 52, 53] : List Nat) := by
  have : d = 1 ∨ d = 2 ∨ d = 3 ∨ d = 4 ∨ d = 5 := by omega
  rcases this with h | h | h | h | h <;> subst h <;> decide
theorem pk20 (a b : Nat) : fPeekU (.str [a, b]) (.int 0) = some (.str [a]) := by rfl
theorem pk21 (a b : Nat) : fPeekU (.str [a, b]) (.int 1) = some (.str [b]) := by rfl
theorem pk30 (a b c : Nat) : fPeekU (.str [a, b, c]) (.int 0) = some (.str [a]) := by rfl
theorem pk31 (a b c : Nat) : fPeekU (.str [a, b, c]) (.int 1) = some (.str [b]) := by rfl
theorem pk32 (a b c : Nat) : fPeekU (.str [a, b, c]) (.int 2) = some (.str [c]) := by rfl
theorem it20 (a b : Nat) : fItem (.str [a, b]) (.int 0) = some (.str [a]) := by rfl
theorem it30 (a b c : Nat) : fItem (.str [a, b, c]) (.int 0) = some (.str [a]) := by rfl
theorem it31 (a b c : Nat) : fItem (.str [a, b, c]) (.int 1) = some (.str [b]) := by rfl
theorem in_s {c : Nat} {z : List Nat} (h : c ∈ z) : cIn false (.str [c]) (.str z) = some (.bl true) := by
  unfold cIn fIn fIn1
  simp [h]
theorem is_kind_word_fn {k : Nat × Nat} (h1 : k.1 ∈ L26) (h2 : k.2 < 10) : f_is_kind_word [.str (kword k)] = some (.bl true, [.str (kword k)]) := by
  have h3 := in_s (dig10 h2)
  have h4 := in_s h1
  unfold L26 at h4
  refine mkFn_rt (t := .bl true) (env' := [some (.str (kword k))]) rfl ?_ rfl
  simp only [b_is_kind_word, b_is_kind_word_0, sRet, eQ, List.map, List.replicate, List.append_nil, Nat.sub_self]
  simp [qAnd, qOp, qCallB, aCons, aNil, kVar, qC, fLen, kword, cEq, fEq, T.truth, pk20, pk21, h3, h4, maxLen]
theorem is_bar_fn {L : List Nat} {b : Nat × Nat × Nat} (h1 : b.1 ∈ L) (h2 : b.2.1 ∈ L) (h3 : 1 ≤ b.2.2 ∧ b.2.2 ≤ 5) : f_is_bar [.str L, .str (bword b)] = some (.bl true, [.str L, .str (bword b)]) := by
  have h5 := in_s (dig5 h3)
  have h6 := in_s h1
  have h7 := in_s h2
  refine mkFn_rt (t := .bl true) (env' := [some (.str L), some (.str (bword b))]) rfl ?_ rfl
  simp only [b_is_bar, b_is_bar_0, b_is_bar_1, List.map, List.replicate, List.append_nil, Nat.sub_self]
  simp [sSeq, sIf, etQ, tOrC, tNotC, tTruth, qUn, fIsStr, tOfB, sNext, sRet, eQ, qAnd, qOp, qCallB, aCons, aNil, kVar, qC, fLen, bword, cNe, cEq, fEq, T.truth, pk30, pk31, pk32, h5, h6, h7, maxLen]
theorem is_rising_fn {w : T} {n : Nat} {u : Nat → List Nat} (h0 : fLen [w] = some (.int n)) (hn : n ≤ 1000) (h1 : ∀ i : Nat, i < n → fPeekU w (.int i) = some (.str (u i))) (h2 : ∀ i : Nat, i + 1 < n → u i < u (i + 1)) (hs : w.sh = true) :
    f_is_rising [w] = some (.bl true, [w]) := by
  have key : qLc [1] (qRng (aCons (qOp fSub (qCallB fLen (aCons (kVar 0) aNil)) (qC (.int 1))) aNil)) (gSet 1) cYes (qOp cLt (qOp fPeekU (kVar 0) (kVar 1)) (qOp fPeekU (kVar 0) (qOp fAdd (kVar 1) (qC (.int 1))))) [some w, none] = some (.lst true ((rangeT 0 (n - 1)).map fun _ => .bl true)) := by
    refine qLc_map (fun _ => .bl true) (ts := rangeT 0 (n - 1)) ?_ (by simp) (fun t ht => ?_) ?_
    · have e : (((n : Int) - 1).toNat) = n - 1 := by omega
      simp [qRng, aCons, aNil, qOp, qCallB, kVar, h0, qC, fSub, fI0, rng, two62, e]
      omega
    · unfold rangeT at ht
      obtain ⟨i, hi, rfl⟩ := List.mem_map.mp ht
      rw [List.mem_range] at hi
      have a1 := h1 i (by omega)
      have a2 := h1 (i + 1) (by omega)
      have a3 := h2 i (by omega)
      have e0 : ((0 : Int) + (i : Nat)) = (i : Int) := by omega
      rw [e0]
      refine qOp_at (a := .str (u i)) (b := .str (u (i + 1))) ?_ ?_ ?_
      · exact qOp_at (a := w) (b := .int (i : Int)) rfl rfl a1
      · refine qOp_at (a := w) (b := .int ((i + 1 : Nat) : Int)) rfl ?_ a2
        refine qOp_at (a := .int (i : Int)) (b := .int 1) rfl rfl ?_
        rfl
      · simp [cLt, a3]
    · simp [rangeT]
      show n ≤ 16777216 + 1
      omega
  have bk : b_is_rising ([w].map some ++ List.replicate (2 - 1) none) = some (.rt (.bl true) [some w, none]) := by
    refine retQ_at ?_
    exact callB1_at key all_true
  exact mkFn_rt rfl bk (by simp [back, hs, pin_is_rising])
theorem split1 {s c : Nat} {parts : List (List Nat)} (hne : parts ≠ []) (h : ∀ p ∈ parts, c ∉ p) (hc : c < 256) (hl : (TL.joinL [c] parts).length + 2 ≤ 16777216) : fSplit (.str (TL.joinL [c] parts)) (.str [c]) = some (.lst true (parts.map .str)) := by
  show (if c < 256 ∧ (TL.joinL [c] parts).length + 2 ≤ maxLen then some (T.lst true ((TL.spl [c] 0 [] (TL.joinL [c] parts)).map T.str)) else none) = _
  rw [if_pos ⟨hc, hl⟩, TL.spl_join hne h]
theorem words_behind_fn {hd : List Nat} {ws : List (List Nat)} (h : ∀ p ∈ hd :: ws, 32 ∉ p) (hl : (TL.joinL [32] (hd :: ws)).length + 2 ≤ 16777216) :
    f_words_behind [.str (TL.joinL [32] (hd :: ws)), .str hd] = some (.lst true (ws.map .str), [.str (TL.joinL [32] (hd :: ws)), .str hd]) := by
  have e := split1 (s := 0) (c := 32) (parts := hd :: ws) (by simp) h (by decide) hl
  have k0 : b_words_behind_0 [some (.str (TL.joinL [32] (hd :: ws))), some (.str hd), none] = some (.nx [some (.str (TL.joinL [32] (hd :: ws))), some (.str hd), some (.lst false ((hd :: ws).map .str))]) := by
    have e1 : qFz (qOp fSplit (kVar 0) (qC (.str [32]))) [some (.str (TL.joinL [32] (hd :: ws))), some (.str hd), none] = some (.lst false ((hd :: ws).map .str)) := by
      have := qFz_at (qOp_at (f := fSplit) (x := kVar 0) (y := qC (.str [32])) (env := [some (.str (TL.joinL [32] (hd :: ws))), some (.str hd), none]) rfl rfl e)
      rw [this]
      show some (T.lst false (T.fzs _)) = _
      rw [fzs_strs]
    exact asgQ_at e1 (by simp)
  have k1 : b_words_behind_1 [some (.str (TL.joinL [32] (hd :: ws))), some (.str hd), some (.lst false ((hd :: ws).map .str))] = some (.rt (.lst true (ws.map .str)) [some (.str (TL.joinL [32] (hd :: ws))), some (.str hd), some (.lst false ((hd :: ws).map .str))]) := by
    refine retQ_at ?_
    have c1 : tOfB (qOp cEq (qOp fPeekU (kVar 2) (qC (.int 0))) (kVar 1)) [some (.str (TL.joinL [32] (hd :: ws))), some (.str hd), some (.lst false ((hd :: ws).map .str))] = some true := by
      have : qOp cEq (qOp fPeekU (kVar 2) (qC (.int 0))) (kVar 1) [some (.str (TL.joinL [32] (hd :: ws))), some (.str hd), some (.lst false ((hd :: ws).map .str))] = some (.bl true) := by
        refine qOp_at (a := .str hd) (b := .str hd) (qOp_at (a := .lst false ((hd :: ws).map .str)) (b := .int 0) rfl rfl ?_) rfl ?_
        · simp [fPeekU, fPeek, atI, ixN]
        · simp [cEq, fEq]
      unfold tOfB
      rw [this]
    unfold qIf
    rw [c1]
    show qSl _ _ _ _ = _
    simp [qSl, kVar, pSome, qC, pNo, fSl, T.sh, cutL, HT.sIx]
    exact List.take_of_length_le (by simp)
  exact mkFn_rt rfl ((seq_nx k0).trans k1) (by simp [back, T.sh, pin_words_behind])
def KW : List Nat := [107, 105, 110, 100, 115]
def BW : List Nat := [98, 97, 114, 115]
structure KOk (ks : List (Nat × Nat)) : Prop where
  low : ∀ k ∈ ks, k.1 ∈ L26
  dig : ∀ k ∈ ks, k.2 < 10
  ris : (ks.map (·.1)).Pairwise (· < ·)
  one : 1 ≤ ks.length
  few : ks.length ≤ 4
def kline (ks : List (Nat × Nat)) : List Nat := TL.joinL [32] (KW :: ks.map kword)
def kres (ks : List (Nat × Nat)) : T := .tup [.str (ks.map (·.1)), .tup (ks.map fun k => .int k.2)]
theorem l26_97 {c : Nat} (h : c ∈ L26) : 97 ≤ c ∧ c ≤ 122 := by
  have : ∀ c ∈ L26, 97 ≤ c ∧ c ≤ 122 := by decide
  exact this c h
theorem qLc_strs {α : Type} {vs : List Nat} {src : Env → Option (List T)} {i : Nat} {x : Env → Option T} {env : Env} {l : List α} (w : α → T) (g : α → T) (hs : src env = some (l.map w)) (hi : i < env.length) (hx : ∀ a ∈ l, x ((wipeE env vs).set i (some (w a))) = some (g a)) (hl : l.length ≤ 16777216) :
    qLc vs src (gSet i) cYes x env = some (.lst true (l.map g)) := by
  unfold qLc
  rw [hs]
  simp only
  have key : ∀ l : List α, (∀ a ∈ l, x ((wipeE env vs).set i (some (w a))) = some (g a)) → lcGo (gSet i) cYes x (wipeE env vs) (l.map w) = some (l.map g) := by
    intro l
    induction l with
    | nil => intro _; rfl
    | cons a r ih =>
      intro h
      rw [List.map_cons]
      unfold lcGo
      have e : gSet i (w a) (wipeE env vs) = some ((wipeE env vs).set i (some (w a))) := by unfold gSet; rw [if_pos (by rw [wipeE_len]; exact hi)]
      rw [e]
      simp only [List.length_set, if_true, cYes, h a List.mem_cons_self, ih fun a ha => h a (List.mem_cons_of_mem _ ha)]
      rfl
  rw [key l hx]
  simp only [List.length_map]
  rw [if_pos hl]
theorem jl_len (c m : Nat) : ∀ (ws : List (List Nat)), (∀ p ∈ ws, p.length ≤ m) → (TL.joinL [c] ws).length ≤ ws.length * (m + 1)
  | [], _ => by simp [TL.joinL]
  | [p], h => by
    have := h p (by simp)
    simp [TL.joinL]; omega
  | p :: q :: r, h => by
    have h1 := h p (by simp)
    have h2 := jl_len c m (q :: r) fun x hx => h x (List.mem_cons_of_mem _ hx)
    have e : (TL.joinL [c] (p :: q :: r)) = p ++ [c] ++ TL.joinL [c] (q :: r) := by simp [TL.joinL]
    rw [e]
    simp only [List.length_append, List.length_cons, List.length_nil] at h2 ⊢
    have e2 : (r.length + 1 + 1) * (m + 1) = (r.length + 1) * (m + 1) + (m + 1) := by rw [Nat.succ_mul]
    rw [e2]
    omega
theorem jl_sing {α : Type} (f : α → Nat) : ∀ l : List α, TL.joinL [] (l.map fun a => [f a]) = l.map f
  | [] => rfl
  | [a] => rfl
  | a :: b :: r => by
    have := jl_sing f (b :: r)
    simp [TL.joinL] at this ⊢
    exact this
theorem strs_of {α : Type} (f : α → List Nat) (l : List α) : T.strs (l.map fun a => .str (f a)) = some (l.map f) := by
  have := strs_map (l.map f)
  rw [List.map_map] at this
  exact this
theorem peek_s {L : List Nat} {i : Nat} (hi : i < L.length) (hl : L.length ≤ 16777216) : fPeekU (.str L) (.int i) = some (.str [L[i]]) := by
  have e : fItem (.str L) (.int i) = some (.str [L[i]]) := by
    show (if L.length ≤ maxLen then (atI L (i : Int)).map (fun c => T.str [c]) else none) = _
    rw [if_pos hl]
    simp [atI, ixN, hi]
  unfold fPeekU fPeek
  simp [e]
theorem dig_int {p : Nat} (h : p < 10) : fInt [.str [48 + p]] = some (.int p) := by
  show (if decide (48 ≤ 48 + p) && decide (48 + p ≤ 57) then some (T.int (((48 + p : Nat) : Int) - 48)) else none) = _
  rw [if_pos (by simp; omega)]
  congr 2
  omega
theorem read_kinds_fn {ks : List (Nat × Nat)} (h : KOk ks) : f_read_kinds [.str (kline ks)] = some (kres ks, [.str (kline ks)]) := by
  have hfree : ∀ p ∈ KW :: ks.map kword, 32 ∉ p := fun p hp => by
    rcases List.mem_cons.mp hp with rfl | hp
    · decide
    · obtain ⟨k, hk, rfl⟩ := List.mem_map.mp hp
      have := l26_97 (h.low k hk)
      unfold kword
      simp
      omega
  have hlen : (TL.joinL [32] (KW :: ks.map kword)).length + 2 ≤ 16777216 := by
    have e1 := jl_len 32 5 (KW :: ks.map kword) fun p hp => by
      rcases List.mem_cons.mp hp with rfl | hp
      · decide
      · obtain ⟨k, hk, rfl⟩ := List.mem_map.mp hp
        simp [kword]
    have e2 := h.few
    simp at e1
    omega
  have hw := words_behind_fn hfree hlen
  have k0 : b_read_kinds_0 [some (.str (kline ks)), none, none, none] = some (.nx [some (.str (kline ks)), some (.lst false ((ks.map kword).map .str)), none, none]) := by
    refine asgQ_at (t := .lst false ((ks.map kword).map .str)) ?_ (by simp)
    have := qFz_at (qCall2_at (x := qVar 0) (y := qC (.str KW)) (env := [some (.str (kline ks)), none, none, none]) (a := .str (kline ks)) rfl rfl hw)
    rw [show (qFz (qCall f_words_behind (aCons (qVar 0) (aCons (qC (.str [107, 105, 110, 100, 115])) aNil)))) = qFz (qCall f_words_behind (aCons (qVar 0) (aCons (qC (.str KW)) aNil))) from rfl, this]
    show some (T.lst false (T.fzs _)) = _
    rw [fzs_strs]
  have lc0 : qLc [3] (qWalk (qVar 1)) (gSet 3) cYes (qCall f_is_kind_word (aCons (qVar 3) aNil)) [some (.str (kline ks)), some (.lst false ((ks.map kword).map .str)), none, none] = some (.lst true (ks.map fun _ => .bl true)) := by
    refine qLc_strs (fun k => T.str (kword k)) (fun _ => .bl true) ?_ (by simp) (fun k hk => ?_) (by have := h.few; omega)
    · refine walk_at (t := .lst false ((ks.map kword).map .str)) rfl rfl ?_
      show some ((ks.map kword).map T.str) = _
      rw [List.map_map]; rfl
    · exact qCall1_at (a := .str (kword k)) rfl (is_kind_word_fn (h.low k hk) (h.dig k hk))
  have k1 : b_read_kinds_1 [some (.str (kline ks)), some (.lst false ((ks.map kword).map .str)), none, none] = some (.nx [some (.str (kline ks)), some (.lst false ((ks.map kword).map .str)), none, none]) := by
    refine if_f (tOrF (tOfB_at rfl) (tOrF (b := false) ?_ ?_)) rfl
    · refine tNotC_at (b := true) (tOfB_at ?_)
      have e1 := h.one
      have e2 := h.few
      have d1 : decide (1 ≤ (ks.length : Int)) = true := decide_eq_true (by omega)
      have d2 : decide ((ks.length : Int) ≤ 4) = true := decide_eq_true (by omega)
      simp only [qChain, qC, qCallB, aCons, aNil, kVar, fLen, cLe, fB0, List.length_map, d1, d2, List.getElem?_cons_succ, List.getElem?_cons_zero]
    · refine tNotC_at (b := true) (tTruth_at (callB1_at lc0 all_true) rfl)
  have k2 : b_read_kinds_2 [some (.str (kline ks)), some (.lst false ((ks.map kword).map .str)), none, none] = some (.nx [some (.str (kline ks)), some (.lst false ((ks.map kword).map .str)), some (.str (ks.map (·.1))), none]) := by
    refine asgQ_at (i := 2) (t := .str (ks.map (·.1))) (env := [some (.str (kline ks)), some (.lst false ((ks.map kword).map .str)), none, none]) ?_ (by show 2 < 4; decide)
    refine qOp_at (a := .str []) rfl (b := .lst true (ks.map fun k => .str [k.1])) ?_ ?_
    · refine qLc_strs (fun k => T.str (kword k)) (fun k => .str [k.1]) ?_ (by simp) (fun k hk => ?_) (by have := h.few; omega)
      · refine walk_at (t := .lst false ((ks.map kword).map .str)) rfl rfl ?_
        show some ((ks.map kword).map T.str) = _
        rw [List.map_map]; rfl
      · exact qOp_at (a := .str (kword k)) (b := .int 0) rfl rfl (it20 _ _)
    · have e1 := strs_of (fun k : Nat × Nat => [k.1]) ks
      show (match T.strs (ks.map fun k => T.str [k.1]) with | some zs => if (zs.map fun z : List Nat => z.length).sum + zs.length * ([] : List Nat).length ≤ maxLen then some (T.str (TL.joinL [] zs)) else none | none => none) = _
      rw [e1]
      simp only [jl_sing]
      rw [if_pos ?_]
      have e2 := h.few
      have : ∀ l : List (Nat × Nat), (List.map (fun x => x.length) (List.map (fun k : Nat × Nat => [k.1]) l)).sum = l.length := fun l => by
        induction l with
        | nil => rfl
        | cons a r ih => simp at ih ⊢; omega
      rw [this]
      show ks.length + _ * 0 ≤ 16777216
      omega
  have k3 : b_read_kinds_3 [some (.str (kline ks)), some (.lst false ((ks.map kword).map .str)), some (.str (ks.map (·.1))), none] = some (.rt (kres ks) [some (.str (kline ks)), some (.lst false ((ks.map kword).map .str)), some (.str (ks.map (·.1))), none]) := by
    refine retQ_at (qIf_t (tTruth_at (t := .bl true) (qCall1_at (a := .str (ks.map (·.1))) rfl (is_rising_fn (n := ks.length) (u := fun i => [((ks.map (·.1))[i]?).getD 0]) ?_ ?_ ?_ ?_ rfl)) rfl) (qTup2_at (a := .str (ks.map (·.1))) (b := .tup (ks.map fun k => .int k.2)) rfl ?_ ?_ ?_))
    · show (if (ks.map (·.1)).length ≤ maxLen then some (T.int (ks.map (·.1)).length) else none) = _
      have e2 := h.few
      rw [List.length_map, if_pos (show ks.length ≤ 16777216 by omega)]
    · have e2 := h.few; omega
    · intro i hi
      have e : (ks.map (·.1))[i]? = some (ks[i].1) := by rw [List.getElem?_map, List.getElem?_eq_getElem hi]; rfl
      rw [e]
      have e2 := h.few
      have := peek_s (L := ks.map (·.1)) (i := i) (by rw [List.length_map]; exact hi) (by rw [List.length_map]; omega)
      rw [this, List.getElem_map]
      rfl
    · intro i hi
      have b1 : i < (ks.map (·.1)).length := by rw [List.length_map]; omega
      have b2 : i + 1 < (ks.map (·.1)).length := by rw [List.length_map]; omega
      have e1 : (ks.map (·.1))[i]? = some ((ks.map (·.1))[i]'b1) := List.getElem?_eq_getElem b1
      have e2 : (ks.map (·.1))[i + 1]? = some ((ks.map (·.1))[i + 1]'b2) := List.getElem?_eq_getElem b2
      rw [e1, e2]
      have := List.pairwise_iff_getElem.mp h.ris i (i + 1) b1 b2 (Nat.lt_succ_self i)
      exact List.Lex.rel this
    · refine callB1_at (a := .lst true (ks.map fun k => .int k.2)) ?_ ?_
      · refine qLc_strs (fun k => T.str (kword k)) (fun k => .int k.2) ?_ (by show 3 < 4; decide) (fun k hk => ?_) (by have := h.few; omega)
        · refine walk_at (t := .lst false ((ks.map kword).map .str)) rfl rfl ?_
          show some ((ks.map kword).map T.str) = _
          rw [List.map_map]; rfl
        · exact callB1_at (a := .str [48 + k.2]) (qOp_at (a := .str (kword k)) (b := .int 1) rfl rfl (pk21 _ _)) (dig_int (h.dig k hk))
      · show (if (ks.map fun k => T.int k.2).all T.sh then some (T.tup (ks.map fun k => T.int k.2)) else none) = _
        rw [if_pos (by simp [T.sh])]
    · rfl
    · exact T.fz_sh rfl
  exact mkFn_rt rfl ((seq_nx k0).trans ((seq_nx k1).trans ((seq_nx k2).trans k3))) (by simp [back, T.sh, pin_read_kinds])
structure BOk (L : List Nat) (bs : List (Nat × Nat × Nat)) : Prop where
  inL : ∀ c ∈ L, c ∈ L26
  one : ∀ b ∈ bs, b.1 ∈ L
  two : ∀ b ∈ bs, b.2.1 ∈ L
  dis : ∀ b ∈ bs, 1 ≤ b.2.2 ∧ b.2.2 ≤ 5
  ris : (bs.map bword).Pairwise (· < ·)
  few : bs.length ≤ 40
def bline (bs : List (Nat × Nat × Nat)) : List Nat := TL.joinL [32] (BW :: bs.map bword)
def bres (bs : List (Nat × Nat × Nat)) : T := .tup ((bs.map bword).map .str)
theorem peek_l {l : List (List Nat)} {i : Nat} (hi : i < l.length) : fPeekU (.lst false (l.map .str)) (.int i) = some (.str l[i]) := by
  have e : fItem (.lst false (l.map .str)) (.int i) = some (.str l[i]) := by
    show ixT (l.map .str) (i : Int) = _
    simp [ixT, atI, ixN, hi, T.sh]
  unfold fPeekU fPeek
  simp [atI, ixN, hi]
theorem read_bars_fn {L : List Nat} {bs : List (Nat × Nat × Nat)} (h : BOk L bs) : f_read_bars [.str L, .str (bline bs)] = some (bres bs, [.str L, .str (bline bs)]) := by
  have hfree : ∀ p ∈ BW :: bs.map bword, 32 ∉ p := fun p hp => by
    rcases List.mem_cons.mp hp with rfl | hp
    · decide
    · obtain ⟨b, hb, rfl⟩ := List.mem_map.mp hp
      have h1 := l26_97 (h.inL _ (h.one b hb))
      have h2 := l26_97 (h.inL _ (h.two b hb))
      unfold bword
      simp
      omega
  have hlen : (TL.joinL [32] (BW :: bs.map bword)).length + 2 ≤ 16777216 := by
    have e1 := jl_len 32 5 (BW :: bs.map bword) fun p hp => by
      rcases List.mem_cons.mp hp with rfl | hp
      · decide
      · obtain ⟨k, hk, rfl⟩ := List.mem_map.mp hp
        simp [bword]
    have e2 := h.few
    simp at e1
    omega
  have hw := words_behind_fn hfree hlen
  have k0 : b_read_bars_0 [some (.str L), some (.str (bline bs)), none, none] = some (.nx [some (.str L), some (.str (bline bs)), some (.lst false ((bs.map bword).map .str)), none]) := by
    refine asgQ_at (t := .lst false ((bs.map bword).map .str)) ?_ (by simp)
    have := qFz_at (qCall2_at (x := qVar 1) (y := qC (.str BW)) (env := [some (.str L), some (.str (bline bs)), none, none]) (a := .str (bline bs)) rfl rfl hw)
    rw [show (qFz (qCall f_words_behind (aCons (qVar 1) (aCons (qC (.str [98, 97, 114, 115])) aNil)))) = qFz (qCall f_words_behind (aCons (qVar 1) (aCons (qC (.str BW)) aNil))) from rfl, this]
    show some (T.lst false (T.fzs _)) = _
    rw [fzs_strs]
  have lc0 : qLc [3] (qWalk (qVar 2)) (gSet 3) cYes (qCall f_is_bar (aCons (qVar 0) (aCons (qVar 3) aNil))) [some (.str L), some (.str (bline bs)), some (.lst false ((bs.map bword).map .str)), none] = some (.lst true (bs.map fun _ => .bl true)) := by
    refine qLc_strs (fun b => T.str (bword b)) (fun _ => .bl true) ?_ (by simp) (fun b hb => ?_) (by have := h.few; omega)
    · refine walk_at (t := .lst false ((bs.map bword).map .str)) rfl rfl ?_
      show some ((bs.map bword).map T.str) = _
      rw [List.map_map]; rfl
    · exact qCall2_at (a := .str L) (b := .str (bword b)) rfl rfl (is_bar_fn (h.one b hb) (h.two b hb) (h.dis b hb))
  have k1 : b_read_bars_1 [some (.str L), some (.str (bline bs)), some (.lst false ((bs.map bword).map .str)), none] = some (.nx [some (.str L), some (.str (bline bs)), some (.lst false ((bs.map bword).map .str)), none]) := by
    refine if_f (tOrF (tOfB_at rfl) (tOrF (b := false) (tOfB_at ?_) ?_)) rfl
    · have e2 := h.few
      have d1 : decide ((bs.length : Int) > 40) = false := decide_eq_false (by omega)
      refine qOp_at (a := .int bs.length) (b := .int 40) (callB1_at (a := .lst false ((bs.map bword).map .str)) rfl ?_) rfl ?_
      · show some (T.int ((bs.map bword).map T.str).length) = _
        simp
      · simp [cGt, fB0]
        omega
    · refine tNotC_at (b := true) (tTruth_at (callB1_at lc0 all_true) rfl)
  have k2 : b_read_bars_2 [some (.str L), some (.str (bline bs)), some (.lst false ((bs.map bword).map .str)), none] = some (.rt (bres bs) [some (.str L), some (.str (bline bs)), some (.lst false ((bs.map bword).map .str)), none]) := by
    refine retQ_at (qIf_t (tTruth_at (t := .bl true) (qCall1_at (a := .lst false ((bs.map bword).map .str)) rfl (is_rising_fn (n := bs.length) (u := fun i => ((bs.map bword)[i]?).getD []) ?_ ?_ ?_ ?_ rfl)) rfl) (callB1_at (a := .lst false ((bs.map bword).map .str)) rfl ?_))
    · show some (T.int ((bs.map bword).map T.str).length) = _
      simp
    · have e2 := h.few; omega
    · intro i hi
      have b1 : i < (bs.map bword).length := by rw [List.length_map]; omega
      rw [peek_l b1, List.getElem?_eq_getElem b1]
      rfl
    · intro i hi
      have b1 : i < (bs.map bword).length := by rw [List.length_map]; omega
      have b2 : i + 1 < (bs.map bword).length := by rw [List.length_map]; omega
      have e1 : (bs.map bword)[i]? = some ((bs.map bword)[i]'b1) := List.getElem?_eq_getElem b1
      have e2 : (bs.map bword)[i + 1]? = some ((bs.map bword)[i + 1]'b2) := List.getElem?_eq_getElem b2
      show ((bs.map bword)[i]?).getD [] < ((bs.map bword)[i + 1]?).getD []
      rw [e1, e2]
      exact List.pairwise_iff_getElem.mp h.ris i (i + 1) b1 b2 (Nat.lt_succ_self i)
    · show (if ((bs.map bword).map T.str).all T.sh then some (T.tup ((bs.map bword).map T.str)) else none) = _
      rw [if_pos (sh_strs _)]
      rfl
  exact mkFn_rt rfl ((seq_nx k0).trans ((seq_nx k1).trans k2)) (by simp [back, T.sh, pin_read_bars])
theorem jl_mem (c x : Nat) : ∀ (ws : List (List Nat)), x ∈ TL.joinL [c] ws → x = c ∨ ∃ p ∈ ws, x ∈ p
  | [], h => by simp [TL.joinL] at h
  | [p], h => .inr ⟨p, by simp, h⟩
  | p :: q :: r, h => by
    have e : (TL.joinL [c] (p :: q :: r)) = p ++ ([c] ++ TL.joinL [c] (q :: r)) := by simp [TL.joinL]
    rw [e] at h
    rcases List.mem_append.mp h with h | h
    · exact .inr ⟨p, by simp, h⟩
    · rcases List.mem_append.mp h with h | h
      · exact .inl (List.mem_singleton.mp h)
      · rcases jl_mem c x (q :: r) h with h | ⟨p', h1, h2⟩
        · exact .inl h
        · exact .inr ⟨p', List.mem_cons_of_mem _ h1, h2⟩
def rtext (ks : List (Nat × Nat)) (bs : List (Nat × Nat × Nat)) : List Nat := TL.joinL [10] [kline ks, bline bs]
theorem kline_len {ks : List (Nat × Nat)} (h : KOk ks) : (kline ks).length ≤ 30 := by
  have e1 := jl_len 32 5 (KW :: ks.map kword) fun p hp => by
    rcases List.mem_cons.mp hp with rfl | hp
    · decide
    · obtain ⟨k, hk, rfl⟩ := List.mem_map.mp hp
      simp [kword]
  have e2 := h.few
  simp at e1
  unfold kline
  omega
theorem bline_len {L : List Nat} {bs : List (Nat × Nat × Nat)} (h : BOk L bs) : (bline bs).length ≤ 246 := by
  have e1 := jl_len 32 5 (BW :: bs.map bword) fun p hp => by
    rcases List.mem_cons.mp hp with rfl | hp
    · decide
    · obtain ⟨k, hk, rfl⟩ := List.mem_map.mp hp
      simp [bword]
  have e2 := h.few
  simp at e1
  unfold bline
  omega
theorem read_text_fn {ks : List (Nat × Nat)} {bs : List (Nat × Nat × Nat)} (h : KOk ks) (h' : BOk (ks.map (·.1)) bs) :
    f_read_text [.str (rtext ks bs)] = some (.tup [.str (ks.map (·.1)), .tup (ks.map fun k => .int k.2), bres bs], [.str (rtext ks bs)]) := by
  have hfree : ∀ p ∈ [kline ks, bline bs], 10 ∉ p := fun p hp => by
    simp only [List.mem_cons, List.not_mem_nil, or_false] at hp
    rcases hp with rfl | rfl
    · intro hm
      rcases jl_mem 32 10 _ hm with hm | ⟨q, h1, h2⟩
      · cases hm
      · rcases List.mem_cons.mp h1 with rfl | h1
        · revert h2; decide
        · obtain ⟨k, hk, rfl⟩ := List.mem_map.mp h1
          have := l26_97 (h.low k hk)
          unfold kword at h2
          simp at h2
          omega
    · intro hm
      rcases jl_mem 32 10 _ hm with hm | ⟨q, h1, h2⟩
      · cases hm
      · rcases List.mem_cons.mp h1 with rfl | h1
        · revert h2; decide
        · obtain ⟨b, hb, rfl⟩ := List.mem_map.mp h1
          have e1 := l26_97 (h'.inL _ (h'.one b hb))
          have e2 := l26_97 (h'.inL _ (h'.two b hb))
          unfold bword at h2
          simp at h2
          omega
  have hlen : (TL.joinL [10] [kline ks, bline bs]).length + 2 ≤ 16777216 := by
    have e1 := kline_len h
    have e2 := bline_len h'
    simp [TL.joinL]
    omega
  have e := split1 (s := 0) (c := 10) (parts := [kline ks, bline bs]) (by simp) hfree (by decide) hlen
  have rk := read_kinds_fn h
  have rb := read_bars_fn h'
  have k0 : b_read_text_0 [some (.str (rtext ks bs)), none, none, none] = some (.nx [some (.str (rtext ks bs)), none, none, none]) :=
    if_f (tNotC_at (b := true) (tTruth_at (t := .bl true) rfl rfl)) rfl
  have k1 : b_read_text_1 [some (.str (rtext ks bs)), none, none, none] = some (.nx [some (.str (rtext ks bs)), some (.lst false [.str (kline ks), .str (bline bs)]), none, none]) := by
    refine asgQ_at (t := .lst false [.str (kline ks), .str (bline bs)]) ?_ (by simp)
    have := qFz_at (qOp_at (f := fSplit) (x := kVar 0) (y := qC (.str [10])) (env := [some (.str (rtext ks bs)), none, none, none]) rfl rfl e)
    rw [this]
    simp [T.fz, T.fzs]
  have k2 : b_read_text_2 [some (.str (rtext ks bs)), some (.lst false [.str (kline ks), .str (bline bs)]), none, none] = some (.nx [some (.str (rtext ks bs)), some (.lst false [.str (kline ks), .str (bline bs)]), none, none]) :=
    if_f (tOfB_at (qOp_at (a := .int 2) (b := .int 2) rfl rfl (by simp [cNe, fEq]))) rfl
  have k3 : b_read_text_3 [some (.str (rtext ks bs)), some (.lst false [.str (kline ks), .str (bline bs)]), none, none] = some (.nx [some (.str (rtext ks bs)), some (.lst false [.str (kline ks), .str (bline bs)]), some (kres ks), none]) := by
    refine asgQ_at (t := kres ks) ?_ (by simp)
    have := qFz_at (qCall1_at (x := qOp fItem (kVar 1) (qC (.int 0))) (env := [some (.str (rtext ks bs)), some (.lst false [.str (kline ks), .str (bline bs)]), none, none]) (a := .str (kline ks)) rfl rk)
    exact this
  have k4 : b_read_text_4 [some (.str (rtext ks bs)), some (.lst false [.str (kline ks), .str (bline bs)]), some (kres ks), none] = some (.nx [some (.str (rtext ks bs)), some (.lst false [.str (kline ks), .str (bline bs)]), some (kres ks), none]) :=
    if_f (tOfB_at rfl) rfl
  have k5 : b_read_text_5 [some (.str (rtext ks bs)), some (.lst false [.str (kline ks), .str (bline bs)]), some (kres ks), none] = some (.nx [some (.str (rtext ks bs)), some (.lst false [.str (kline ks), .str (bline bs)]), some (kres ks), some (bres bs)]) := by
    refine asgQ_at (t := bres bs) ?_ (by simp)
    have := qFz_at (qCall2_at (x := qOp fItem (kVar 2) (qC (.int 0))) (y := qOp fItem (kVar 1) (qC (.int 1))) (env := [some (.str (rtext ks bs)), some (.lst false [.str (kline ks), .str (bline bs)]), some (kres ks), none]) (a := .str (ks.map (·.1))) (b := .str (bline bs)) rfl rfl rb)
    exact this
  have k6 : b_read_text_6 [some (.str (rtext ks bs)), some (.lst false [.str (kline ks), .str (bline bs)]), some (kres ks), some (bres bs)] = some (.rt (.tup [.str (ks.map (·.1)), .tup (ks.map fun k => .int k.2), bres bs]) [some (.str (rtext ks bs)), some (.lst false [.str (kline ks), .str (bline bs)]), some (kres ks), some (bres bs)]) :=
    retQ_at (qIf_f (tOfB_at rfl) (qTup3_at (a := .str (ks.map (·.1))) (b := .tup (ks.map fun k => .int k.2)) (c := bres bs) rfl rfl rfl (T.fz_sh rfl) (T.fz_sh rfl) (T.fz_sh rfl)))
  exact mkFn_rt rfl ((seq_nx k0).trans ((seq_nx k1).trans ((seq_nx k2).trans ((seq_nx k3).trans ((seq_nx k4).trans ((seq_nx k5).trans k6)))))) (by simp [back, T.sh, pin_read_text])
theorem qLc_gen {α : Type} {vs : List Nat} {src : Env → Option (List T)} {f : T → Env → Option Env} {x : Env → Option T} {env : Env} {l : List α} (w : α → T) (g : α → T) (hs : src env = some (l.map w))
    (hx : ∀ a ∈ l, ∃ env1, f (w a) (wipeE env vs) = some env1 ∧ env1.length = (wipeE env vs).length ∧ x env1 = some (g a)) (hl : l.length ≤ 16777216) :
    qLc vs src f cYes x env = some (.lst true (l.map g)) := by
  unfold qLc
  rw [hs]
  simp only
  have key : ∀ l : List α, (∀ a ∈ l, ∃ env1, f (w a) (wipeE env vs) = some env1 ∧ env1.length = (wipeE env vs).length ∧ x env1 = some (g a)) → lcGo f cYes x (wipeE env vs) (l.map w) = some (l.map g) := by
    intro l
    induction l with
    | nil => intro _; rfl
    | cons a r ih =>
      intro h
      obtain ⟨env1, h1, h2, h3⟩ := h a List.mem_cons_self
      rw [List.map_cons]
      unfold lcGo
      rw [h1]
      simp only [h2, if_true, cYes, h3, ih fun a ha => h a (List.mem_cons_of_mem _ ha)]
      rfl
  rw [key l hx]
  simp only [List.length_map]
  rw [if_pos hl]
theorem asg_gen {y : Env → Option (T × Env)} {f : T → Env → Option Env} {env env1 env2 : Env} {t : T} (h : y env = some (t, env1)) (h2 : f t env1 = some env2) : sAsg y f env = some (.nx env2) := by unfold sAsg; rw [h]; simp only [h2]
def tri (b : Nat × Nat × Nat) : T := .tup [.str [b.1], .str [b.2.1], .int b.2.2]
section
variable (ks : List (Nat × Nat)) (bs : List (Nat × Nat × Nat))
def told : T := .tup [.str (ks.map (·.1)), .tup (ks.map fun k => .int k.2), bres bs]
def fs2 : List (String × T) := [("text", .str (rtext ks bs))]
def fs3 : List (String × T) := fs2 ks bs ++ [("kinds", .str (ks.map (·.1))), ("worths", .tup (ks.map fun k => .int k.2)), ("bars", bres bs)]
def fs4 : List (String × T) := fs3 ks bs ++ [("triples", .tup (bs.map tri))]
end
theorem init0 {ks : List (Nat × Nat)} {bs : List (Nat × Nat × Nat)} (h : KOk ks) (h' : BOk (ks.map (·.1)) bs) :
    b_Rule_init_0 [some (.obj true "Rule" []), some (.str (rtext ks bs)), none, none, none, none, none, none] = some (.nx [some (.obj true "Rule" []), some (.str (rtext ks bs)), some (told ks bs), none, none, none, none, none]) := by
  refine asgQ_at (t := told ks bs) ?_ (by simp)
  have := qFz_at (qCall1_at (x := qVar 1) (env := [some (.obj true "Rule" []), some (.str (rtext ks bs)), none, none, none, none, none, none]) (a := .str (rtext ks bs)) rfl (read_text_fn h h'))
  rw [this]
  exact congrArg some (T.fz_sh rfl)
theorem init1 {ks : List (Nat × Nat)} {bs : List (Nat × Nat × Nat)} {s0 : Option T} : b_Rule_init_1 [s0, some (.str (rtext ks bs)), some (told ks bs), none, none, none, none, none] = some (.nx [s0, some (.str (rtext ks bs)), some (told ks bs), none, none, none, none, none]) := if_f (tOfB_at rfl) rfl
theorem init2 {ks : List (Nat × Nat)} {bs : List (Nat × Nat × Nat)} : b_Rule_init_2 [some (.obj true "Rule" []), some (.str (rtext ks bs)), some (told ks bs), none, none, none, none, none] = some (.nx [some (.obj true "Rule" (fs2 ks bs)), some (.str (rtext ks bs)), some (told ks bs), none, none, none, none, none]) := by kernel_rfl
theorem init3 {ks : List (Nat × Nat)} {bs : List (Nat × Nat × Nat)} : b_Rule_init_3 [some (.obj true "Rule" (fs2 ks bs)), some (.str (rtext ks bs)), some (told ks bs), none, none, none, none, none] = some (.nx [some (.obj true "Rule" (fs3 ks bs)), some (.str (rtext ks bs)), some (told ks bs), none, none, none, none, none]) := by kernel_rfl
theorem init4 {ks : List (Nat × Nat)} {bs : List (Nat × Nat × Nat)} (h' : BOk (ks.map (·.1)) bs) : b_Rule_init_4 [some (.obj true "Rule" (fs3 ks bs)), some (.str (rtext ks bs)), some (told ks bs), none, none, none, none, none] = some (.nx [some (.obj true "Rule" (fs4 ks bs)), some (.str (rtext ks bs)), some (told ks bs), none, none, none, none, none]) := by
  refine asg_gen (t := .tup (bs.map tri)) (eQ_at (callB1_at (a := .lst true (bs.map tri)) ?_ ?_)) (by kernel_rfl)
  · refine qLc_strs (fun b => T.str (bword b)) tri ?_ (by show 6 < 8; decide) (fun b hb => ?_) (by have := h'.few; omega)
    · refine walk_at (t := bres bs) (by kernel_rfl) rfl ?_
      show some ((bs.map bword).map T.str) = _
      rw [List.map_map]; rfl
    · refine qTup3_at (a := .str [b.1]) (b := .str [b.2.1]) (c := .int b.2.2) ?_ ?_ ?_ rfl rfl rfl
      · exact qOp_at (a := .str (bword b)) (b := .int 0) rfl rfl (it30 _ _ _)
      · exact qOp_at (a := .str (bword b)) (b := .int 1) rfl rfl (it31 _ _ _)
      · exact callB1_at (a := .str [48 + b.2.2]) (qOp_at (a := .str (bword b)) (b := .int 2) rfl rfl (pk32 _ _ _)) (dig_int (by have := h'.dis b hb; omega))
  · show (if (bs.map tri).all T.sh then some (T.tup (bs.map tri)) else none) = _
    rw [if_pos (by simp [tri, T.sh])]
theorem ints_of {α : Type} (f : α → Int) (l : List α) : T.ints (l.map fun a => .int (f a)) = some (l.map f) := by
  have := ints_map (l.map f)
  rw [List.map_map] at this
  exact this
def reachOf (bs : List (Nat × Nat × Nat)) : Int := imax 1 (bs.map fun b => (b.2.2 : Int))
section
variable (ks : List (Nat × Nat)) (bs : List (Nat × Nat × Nat))
def fs5 : List (String × T) := fs4 ks bs ++ [("reach", .int (reachOf bs))]
def wof : List (Key × T) := zipKeys (ks.map (·.1)) (ks.map fun k => .int k.2)
def fs6 : List (String × T) := fs5 ks bs ++ [("worth_of", .dic false (wof ks))]
end
theorem init5 {ks : List (Nat × Nat)} {bs : List (Nat × Nat × Nat)} (h' : BOk (ks.map (·.1)) bs) : b_Rule_init_5 [some (.obj true "Rule" (fs4 ks bs)), some (.str (rtext ks bs)), some (told ks bs), none, none, none, none, none] = some (.nx [some (.obj true "Rule" (fs5 ks bs)), some (.str (rtext ks bs)), some (told ks bs), none, none, none, none, none]) := by
  refine asg_gen (t := .int (reachOf bs)) (eQ_at (callB1_at (a := .lst true (.int 1 :: bs.map fun b => .int b.2.2)) ?_ ?_)) (by kernel_rfl)
  · have lc : qLc [3, 4, 5] (qWalk (qFld AF "triples" (kVar 0))) (gUn (gConsC (gSet 3) (gConsC (gSet 4) (gConsC (gSet 5) gNilC)))) cYes (qVar 5) [some (.obj true "Rule" (fs4 ks bs)), some (.str (rtext ks bs)), some (told ks bs), none, none, none, none, none] = some (.lst true (bs.map fun b => .int b.2.2)) := by
      refine qLc_gen tri (fun b => .int b.2.2) ?_ (fun b hb => ⟨[some (.obj true "Rule" (fs4 ks bs)), some (.str (rtext ks bs)), some (told ks bs), some (.str [b.1]), some (.str [b.2.1]), some (.int b.2.2), none, none], rfl, rfl, rfl⟩) (by have := h'.few; omega)
      exact walk_at (t := .tup (bs.map tri)) (by kernel_rfl) rfl rfl
    have hall : (bs.map fun b : Nat × Nat × Nat => T.int b.2.2).all T.sh = true := by simp [T.sh]
    have hf := h'.few
    unfold qLst aCons
    simp only [aStar, lc, aNil, qC, hall, if_true, List.append_nil]
    rw [if_pos ?_]
    simp
    omega
  · show (match T.ints (.int 1 :: bs.map fun b : Nat × Nat × Nat => .int b.2.2) with | some (n :: r) => some (T.int (imax n r)) | _ => none) = _
    have e : T.ints (.int 1 :: bs.map fun b : Nat × Nat × Nat => .int b.2.2) = some (1 :: bs.map fun b : Nat × Nat × Nat => (b.2.2 : Int)) := by
      simp [T.ints, ints_of (fun b : Nat × Nat × Nat => (b.2.2 : Int)) bs]
    rw [e]
    rfl
theorem tput_new {k : Key} {t : T} : ∀ {kvs : List (Key × T)}, (∀ p ∈ kvs, p.1 ≠ k) → tput kvs k t = kvs ++ [(k, t)]
  | [], _ => rfl
  | (k', u) :: r, h => by
    unfold tput
    rw [if_neg (h (k', u) List.mem_cons_self), tput_new fun p hp => h p (List.mem_cons_of_mem _ hp)]
    rfl
theorem mergeT_new : ∀ (more acc : List (Key × T)), ((acc ++ more).map (·.1)).Nodup → mergeT acc more = acc ++ more
  | [], acc, _ => by simp [mergeT]
  | (k, t) :: r, acc, h => by
    have h1 : ∀ p ∈ acc, p.1 ≠ k := fun p hp e => by
      rw [List.map_append, List.nodup_append] at h
      exact h.2.2 p.1 (List.mem_map.mpr ⟨p, hp, rfl⟩) k (by simp) e
    show mergeT (tput acc k t) r = _
    rw [tput_new h1, mergeT_new r (acc ++ [(k, t)]) (by simpa using h)]
    simp
theorem key_inj {a b : Nat} (h : (Sum.inr (S [a]) : Key) = .inr (S [b])) : a = b := by
  have := S_inj (Sum.inr.inj h)
  simpa using this
theorem ks_nodup {ks : List (Nat × Nat)} (h : KOk ks) : (ks.map (·.1)).Nodup := h.ris.imp fun hlt => Nat.ne_of_lt hlt
theorem wof_eq (ks : List (Nat × Nat)) : wof ks = ks.map fun k => (.inr (S [k.1]), .int k.2) := by
  unfold wof zipKeys
  induction ks with
  | nil => rfl
  | cons k r ih => simp only [List.map_cons, List.zip_cons_cons]; exact congrArg _ ih
theorem wof_keys {ks : List (Nat × Nat)} (h : KOk ks) : ((wof ks).map (·.1)).Nodup := by
  rw [wof_eq, List.map_map]
  have := ks_nodup h
  refine List.pairwise_map.mpr ((List.pairwise_map.mp this).imp fun hne e => hne ?_)
  exact key_inj e
theorem wof_fz (ks : List (Nat × Nat)) : T.fzA (wof ks) = wof ks := by
  rw [wof_eq]
  induction ks with
  | nil => simp [T.fzA]
  | cons k r ih => rw [List.map_cons, T.fzA, ih]; simp [T.fz]
theorem init6 {ks : List (Nat × Nat)} {bs : List (Nat × Nat × Nat)} (h : KOk ks) : b_Rule_init_6 [some (.obj true "Rule" (fs5 ks bs)), some (.str (rtext ks bs)), some (told ks bs), none, none, none, none, none] = some (.nx [some (.obj true "Rule" (fs6 ks bs)), some (.str (rtext ks bs)), some (told ks bs), none, none, none, none, none]) := by
  refine asg_gen (t := .dic false (wof ks)) (eQ_at ?_) (by kernel_rfl)
  have e : qCallB fDictZ (aCons (kFld AF "kinds" (kVar 0)) (aCons (kFld AF "worths" (kVar 0)) aNil)) [some (.obj true "Rule" (fs5 ks bs)), some (.str (rtext ks bs)), some (told ks bs), none, none, none, none, none] = some (.dic true (mergeT [] (wof ks))) := by kernel_rfl
  rw [qFz_at e, mergeT_new (wof ks) [] (by simpa using wof_keys h)]
  simp only [T.fz, List.nil_append, wof_fz]
def beh (L : List Nat) (β : Nat → List T) : List (Key × T) := L.map fun c => (.inr (S [c]), .lst true (β c))
theorem dc_go {env : Env} (hl : env.length = 8) : ∀ (L acc : List Nat), (acc ++ L).Nodup → acc.length + L.length ≤ 1000 →
    dcGo (gSet 7) cYes (qVar 7) (qLst aNil) env (L.map fun c => .str [c]) (beh acc fun _ => []) = some (beh (acc ++ L) fun _ => [])
  | [], acc, _, _ => by simp [dcGo]
  | c :: L, acc, h, hz => by
    have e1 : gSet 7 (.str [c]) env = some (env.set 7 (some (.str [c]))) := by unfold gSet; rw [if_pos (by omega)]
    have e2 : qVar 7 (env.set 7 (some (.str [c]))) = some (.str [c]) := qVar_at (by rw [List.getElem?_set_self (by omega)]) rfl
    rw [List.map_cons]
    unfold dcGo
    rw [e1]
    have hlen : (beh acc fun _ => []).length < maxLen := by
      unfold beh
      rw [List.length_map]
      simp only [List.length_cons] at hz
      show acc.length < 16777216
      omega
    simp only [List.length_set, true_and, hlen, if_true, cYes, e2]
    have e3 : (qLst aNil) (env.set 7 (some (.str [c]))) = some (.lst true []) := by rfl
    rw [e3]
    simp only [T.key]
    have e4 : tput (beh acc fun _ => []) (.inr (S [c])) (.lst true []) = beh (acc ++ [c]) fun _ => [] := by
      rw [tput_new fun p hp e => ?_]
      · simp [beh]
      · obtain ⟨a, ha, rfl⟩ := List.mem_map.mp hp
        have := key_inj e
        rw [List.nodup_append] at h
        exact h.2.2 a ha c (by simp) this
    rw [e4, dc_go hl L (acc ++ [c]) (by simpa using h) (by simp at hz ⊢; omega)]
    simp
section
variable (ks : List (Nat × Nat)) (bs : List (Nat × Nat × Nat))
def fs7 (β : Nat → List T) : List (String × T) := fs6 ks bs ++ [("behind", .dic true (beh (ks.map (·.1)) β))]
end
theorem init7 {ks : List (Nat × Nat)} {bs : List (Nat × Nat × Nat)} (h : KOk ks) : b_Rule_init_7 [some (.obj true "Rule" (fs6 ks bs)), some (.str (rtext ks bs)), some (told ks bs), none, none, none, none, none] = some (.nx [some (.obj true "Rule" (fs7 ks bs fun _ => [])), some (.str (rtext ks bs)), some (told ks bs), none, none, none, none, none]) := by
  refine asg_gen (t := .dic true (beh (ks.map (·.1)) fun _ => [])) (eQ_at ?_) (by kernel_rfl)
  have hw : qWalk (qFld AF "kinds" (kVar 0)) [some (.obj true "Rule" (fs6 ks bs)), some (.str (rtext ks bs)), some (told ks bs), none, none, none, none, none] = some ((ks.map (·.1)).map fun c => .str [c]) := walk_at (t := .str (ks.map (·.1))) (by kernel_rfl) rfl rfl
  have := dc_go (env := [some (.obj true "Rule" (fs6 ks bs)), some (.str (rtext ks bs)), some (told ks bs), none, none, none, none, none]) rfl (ks.map (·.1)) [] (by simpa using ks_nodup h) (by have := h.few; simp; omega)
  unfold qDc
  rw [hw]
  simp only
  rw [show wipeE [some (.obj true "Rule" (fs6 ks bs)), some (.str (rtext ks bs)), some (told ks bs), none, none, none, none, none] [7] = [some (.obj true "Rule" (fs6 ks bs)), some (.str (rtext ks bs)), some (told ks bs), none, none, none, none, none] from rfl]
  rw [show ([] : List (Key × T)) = beh [] fun _ => [] from rfl, this]
  rfl
theorem beh_get {β : Nat → List T} : ∀ {L : List Nat} {c : Nat}, c ∈ L → tget (beh L β) (.inr (S [c])) = some (.lst true (β c))
  | a :: L, c, h => by
    show (if (Sum.inr (S [a]) : Key) = .inr (S [c]) then some (T.lst true (β a)) else tget (beh L β) (.inr (S [c]))) = _
    by_cases e : a = c
    · subst e; rw [if_pos rfl]
    · rw [if_neg fun q => e (key_inj q)]
      exact beh_get ((List.mem_cons.mp h).resolve_left fun q => e q.symm)
theorem beh_put {β : Nat → List T} {y : List T} : ∀ {L : List Nat} {c : Nat}, c ∈ L → L.Nodup → tput (beh L β) (.inr (S [c])) (.lst true y) = beh L fun x => if x = c then y else β x
  | a :: L, c, h, n => by
    obtain ⟨n1, n2⟩ := List.nodup_cons.mp n
    show (if (Sum.inr (S [a]) : Key) = .inr (S [c]) then ((Sum.inr (S [a]) : Key), T.lst true y) :: beh L β else (.inr (S [a]), .lst true (β a)) :: tput (beh L β) (.inr (S [c])) (.lst true y)) = _
    by_cases e : a = c
    · subst e
      rw [if_pos rfl]
      unfold beh
      simp only [List.map_cons, if_true]
      congr 1
      refine List.map_congr_left fun x hx => ?_
      rw [if_neg fun q => n1 (by rw [← q]; exact hx)]
    · rw [if_neg fun q => e (key_inj q), beh_put ((List.mem_cons.mp h).resolve_left fun q => e q.symm) n2]
      unfold beh
      simp only [List.map_cons, if_neg e]
def pairT (b : Nat × Nat × Nat) : T := .tup [.str [b.1], .int b.2.2]
def behOf (bs : List (Nat × Nat × Nat)) (β : Nat → List T) : Nat → List T := bs.foldl (fun β b => fun x => if x = b.2.1 then β b.2.1 ++ [pairT b] else β x) β
abbrev S8 (ks : List (Nat × Nat)) (bs : List (Nat × Nat × Nat)) (β : Nat → List T) (x y z : Option T) : GK.Env := [some (.obj true "Rule" (fs7 ks bs β)), some (.str (rtext ks bs)), some (told ks bs), x, y, z, none, none]
theorem step8 {ks : List (Nat × Nat)} {bs : List (Nat × Nat × Nat)} (h : KOk ks) {β : Nat → List T} {b : Nat × Nat × Nat} (hb : b.2.1 ∈ ks.map (·.1)) (hz : (β b.2.1).length < 16777216) :
    (sExpr (eAppend (pIx (pFld AF "behind" (pVar 0)) (kVar 4)) (pIxPut (pFld AF "behind" (pVar 0)) (kVar 4) (pFldPut "behind" (pVar 0) (pVarPut 0))) (qTup (aCons (qVar 3) (aCons (qVar 5) aNil))))) (S8 ks bs β (some (.str [b.1])) (some (.str [b.2.1])) (some (.int b.2.2)))
      = some (.nx (S8 ks bs (fun x => if x = b.2.1 then β b.2.1 ++ [pairT b] else β x) (some (.str [b.1])) (some (.str [b.2.1])) (some (.int b.2.2)))) := by
  have g0 : pFld AF "behind" (pVar 0) (S8 ks bs β (some (.str [b.1])) (some (.str [b.2.1])) (some (.int b.2.2))) = some (.dic true (beh (ks.map (·.1)) β)) := by kernel_rfl
  have g1 : pIx (pFld AF "behind" (pVar 0)) (kVar 4) (S8 ks bs β (some (.str [b.1])) (some (.str [b.2.1])) (some (.int b.2.2))) = some (.lst true (β b.2.1)) := by
    unfold pIx
    rw [g0]
    show tget (beh (ks.map (·.1)) β) (.inr (S [b.2.1])) = _
    exact beh_get hb
  have g2 : qTup (aCons (qVar 3) (aCons (qVar 5) aNil)) (S8 ks bs β (some (.str [b.1])) (some (.str [b.2.1])) (some (.int b.2.2))) = some (pairT b) := qTup2_at rfl rfl rfl rfl
  have g3 : pIxPut (pFld AF "behind" (pVar 0)) (kVar 4) (pFldPut "behind" (pVar 0) (pVarPut 0)) (.lst true (β b.2.1 ++ [pairT b])) (S8 ks bs β (some (.str [b.1])) (some (.str [b.2.1])) (some (.int b.2.2))) = some (S8 ks bs (fun x => if x = b.2.1 then β b.2.1 ++ [pairT b] else β x) (some (.str [b.1])) (some (.str [b.2.1])) (some (.int b.2.2))) := by
    unfold pIxPut
    rw [g0]
    have e := beh_put (β := β) (y := β b.2.1 ++ [pairT b]) hb (ks_nodup h)
    have e2 : ixPut (.dic true (beh (ks.map (·.1)) β)) (kVar 4 (S8 ks bs β (some (.str [b.1])) (some (.str [b.2.1])) (some (.int b.2.2)))) (.lst true (β b.2.1 ++ [pairT b])) = some (.dic true (beh (ks.map (·.1)) fun x => if x = b.2.1 then β b.2.1 ++ [pairT b] else β x)) := by
      rw [← e]
      rfl
    dsimp only
    rw [e2]
    kernel_rfl
  unfold sExpr eAppend
  rw [g1]
  simp only [g2]
  rw [if_pos (show (β b.2.1).length < 16777216 from hz)]
  simp only [g3]
theorem loop8 {ks : List (Nat × Nat)} {bs : List (Nat × Nat × Nat)} (h : KOk ks) : ∀ (cs : List (Nat × Nat × Nat)) (β : Nat → List T) (x y z : Option T), (∀ b ∈ cs, b.2.1 ∈ ks.map (·.1)) → (∀ c, (β c).length + cs.length < 1000) →
    ∃ x' y' z', loop (gUn (gConsC (gSet 3) (gConsC (gSet 4) (gConsC (gSet 5) gNilC)))) (sExpr (eAppend (pIx (pFld AF "behind" (pVar 0)) (kVar 4)) (pIxPut (pFld AF "behind" (pVar 0)) (kVar 4) (pFldPut "behind" (pVar 0) (pVarPut 0))) (qTup (aCons (qVar 3) (aCons (qVar 5) aNil))))) (cs.map tri) (S8 ks bs β x y z)
      = some (.nx (S8 ks bs (behOf cs β) x' y' z'))
  | [], β, x, y, z, _, _ => ⟨x, y, z, rfl⟩
  | b :: cs, β, x, y, z, hc, hz => by
    have hb := hc b List.mem_cons_self
    have st := step8 (bs := bs) h (β := β) hb (by have := hz b.2.1; simp at this; omega)
    obtain ⟨x', y', z', ih⟩ := loop8 (bs := bs) h cs (fun x => if x = b.2.1 then β b.2.1 ++ [pairT b] else β x) (some (.str [b.1])) (some (.str [b.2.1])) (some (.int b.2.2)) (fun c hc' => hc c (List.mem_cons_of_mem _ hc')) (fun c => by
      have h1 := hz b.2.1
      have h2 := hz c
      simp at h1 h2 ⊢
      split
      · simp; omega
      · omega)
    refine ⟨x', y', z', ?_⟩
    rw [List.map_cons]
    unfold loop
    have e1 : gUn (gConsC (gSet 3) (gConsC (gSet 4) (gConsC (gSet 5) gNilC))) (tri b) (S8 ks bs β x y z) = some (S8 ks bs β (some (.str [b.1])) (some (.str [b.2.1])) (some (.int b.2.2))) := rfl
    rw [e1]
    simp only [st]
    exact ih
def fsR (ks : List (Nat × Nat)) (bs : List (Nat × Nat × Nat)) : List (String × T) := fs7 ks bs (behOf bs fun _ => [])
theorem Rule_init_fn {ks : List (Nat × Nat)} {bs : List (Nat × Nat × Nat)} (h : KOk ks) (h' : BOk (ks.map (·.1)) bs) : f_Rule_init [.obj true "Rule" [], .str (rtext ks bs)] = some (.non, [.obj true "Rule" (fsR ks bs), .str (rtext ks bs)]) := by
  obtain ⟨x, y, z, e8⟩ := loop8 (bs := bs) h bs (fun _ => []) none none none (fun b hb => h'.two b hb) (fun c => by have := h'.few; simp; omega)
  have i8 : b_Rule_init_8 (S8 ks bs (fun _ => []) none none none) = some (.nx (S8 ks bs (behOf bs fun _ => []) x y z)) := by
    have hw : qWalk (qFld AF "triples" (kVar 0)) (S8 ks bs (fun _ => []) none none none) = some (bs.map tri) := walk_at (t := .tup (bs.map tri)) (by kernel_rfl) rfl rfl
    unfold b_Rule_init_8 sFor iQ
    rw [hw]
    exact e8
  exact mkFn_nx rfl ((seq_nx (init0 h h')).trans ((seq_nx init1).trans ((seq_nx init2).trans ((seq_nx init3).trans ((seq_nx (init4 h')).trans ((seq_nx (init5 h')).trans ((seq_nx (init6 h)).trans ((seq_nx (init7 h)).trans i8)))))))) (by kernel_rfl)

/-! the plain part: draws of the plan family, by postconditions -/
structure Sr where
  a : Int
  b : Int
  c : Int
  ha : 0 ≤ a
  hb : 0 ≤ b
  hc : 0 ≤ c
def srT (s : Sr) : T := .lst true [.int s.a, .int s.b, .int s.c]
@[simp] theorem sh_srT {s : Sr} : (srT s).sh = false := rfl
@[simp] theorem back_srT {P : Nat → Bool} {ts : List T} {env : GK.Env} {k : Nat} {s : Sr} {R : List T → Prop} : wp (back P k (srT s :: ts) env) R ↔ P k = true ∧ wp env[k]? fun o => wp o fun u => wp (back P (k + 1) ts (env.set k none)) fun us => R (u :: us) := wp_back_own rfl
theorem mulOk_s {i j : Int} (h : -18446744073709551616 < i ∧ i < 18446744073709551616) : MulOk i j := .inl (.inl h)
theorem mulOk_r {i j : Int} (h : -18446744073709551616 < j ∧ j < 18446744073709551616) : MulOk i j := .inl (.inr h)
theorem wp_draw {s : Sr} {m : Int} {Q : T × List T → Prop} (hm : 0 < m) (hm2 : m < 1073741824)
    (q : ∀ (v : Nat) (s' : Sr), (v : Int) < m → Q (.int v, [srT s', .int m])) : wp (f_law_draw [srT s, .int m]) Q := by
  obtain ⟨a, b, c, ha, hb, hc⟩ := s
  have q' : ∀ v a' b' c' : Int, 0 ≤ v → v < m → 0 ≤ a' → 0 ≤ b' → 0 ≤ c' → Q (.int v, [.lst true [.int a', .int b', .int c'], .int m]) := fun v a' b' c' h1 h2 h3 h4 h5 => by
    obtain ⟨n, rfl⟩ := Int.eq_ofNat_of_zero_le h1
    exact q n ⟨a', b', c', h3, h4, h5⟩ h2
  simp [f_law_draw, srT, b_law_draw, b_law_draw_0, b_law_draw_1, b_law_draw_2, b_law_draw_3, b_law_draw_4, pin_law_draw]
  have h1 := Int.emod_nonneg (b / 16 + 7919 * (c + 1)) (show (65521 : Int) ≠ 0 by decide)
  have h2 := Int.emod_lt_of_pos (b / 16 + 7919 * (c + 1)) (show (0 : Int) < 65521 by decide)
  refine ⟨fun h => ⟨⟨hm, hm2⟩, ?_⟩, fun h => ⟨mulOk_s (by omega), mulOk_r (by omega), mulOk_s (by omega), hm, ?_⟩⟩
  · exact q' _ _ _ _ (Int.emod_nonneg _ (by omega)) (Int.emod_lt_of_pos _ hm) (Int.ediv_nonneg ha (by omega)) hb hc
  · exact q' _ _ _ _ (Int.emod_nonneg _ (by omega)) (Int.emod_lt_of_pos _ hm) ha (Int.emod_nonneg _ (by decide)) (by omega)
/-! ### the source -/
theorem wp_source {ns : List Int} {t : Nat} {Q : T × List T → Prop} (hb : ∀ z ∈ ns, PySem.Builtin.Int.intBits z ≤ 1048576) (ht : t < 64)
    (q : ∀ s : Sr, Q (srT s, [.scr (ns.map .int), .int t])) : wp (f_law_source [.scr (ns.map .int), .int t]) Q := by
  obtain ⟨l6, h6⟩ : ∃ l6 : List Int, cutL (ns.map T.int) none (some 6) = l6.map T.int := ⟨ns.take 6, by rw [List.map_take]; exact cutL_to (n := 6)⟩
  have q' : ∀ a b : Int, 0 ≤ a → 0 ≤ b → Q (.lst true [.int a, .int b, .int 0], [.scr (ns.map .int), .int t]) := fun a b h1 h2 => q ⟨a, b, 0, h1, h2, Int.le_refl _⟩
  have rest : ∀ o : Int, PySem.Builtin.Int.intBits o ≤ 1048576 → wp (sSeq b_law_source_1 (sSeq b_law_source_2 b_law_source_3) [some (.scr (ns.map .int)), some (.int t), some (.int o), none, none]) (oFn pin_law_source [.scr (ns.map .int), .int t] Q) := fun o ho => by
    simp [b_law_source_1, b_law_source_2, b_law_source_3, h6]
    refine ⟨mulOk_s (by omega), ?_⟩
    refine wp_loop (fun _ e => ∃ (m : Int) (x : Option T), e = [some (.scr (ns.map .int)), some (.int t), some (.int o), some (.int m), x]) _ _ ⟨_, _, rfl⟩ (fun a r e ⟨m, x, he⟩ => ?_) fun e ⟨m, x, he⟩ => ?_
    · subst he
      simp
      exact ⟨mulOk_r (by omega), mulOk_r (by omega)⟩
    · subst he
      have hm : MulOk m 61 ∧ MulOk o o := ⟨mulOk_r (by omega), .inr (by omega)⟩
      have e1 : 0 ≤ (m * 61 + o * o) % 2147483549 := Int.emod_nonneg _ (by decide)
      have e2 : (10 : Int) ^ 18 = 1000000000000000000 := by decide
      by_cases h1 : o < 0 <;> by_cases h2 : 1000000000000000000 ≤ o <;> simp [h1, h2, hm.1, hm.2, e2] <;> exact q' _ _ (by omega) e1
  have rest' : ∀ o : Int, PySem.Builtin.Int.intBits o ≤ 1048576 → wp (b_law_source_1 [some (.scr (ns.map .int)), some (.int t), some (.int o), none, none]) (oSeq (sSeq b_law_source_2 b_law_source_3) (oFn pin_law_source [.scr (ns.map .int), .int t] Q)) := fun o ho => wp_sSeq.mp (rest o ho)
  simp [f_law_source, b_law_source, b_law_source_0]
  refine ⟨fun h => ?_, fun h => ?_⟩
  · exact ⟨ns[t], by simp [h], rest' _ (hb _ (List.getElem_mem h))⟩
  · exact rest' 0 (by decide)

/-! the plain part: all bars of some kinds -/
theorem str_dig {d : Nat} (h : d < 10) : fStr [.int (d : Nat)] = some (.str [48 + d]) := by
  have : d = 0 ∨ d = 1 ∨ d = 2 ∨ d = 3 ∨ d = 4 ∨ d = 5 ∨ d = 6 ∨ d = 7 ∨ d = 8 ∨ d = 9 := by omega
  rcases this with h | h | h | h | h | h | h | h | h | h <;> subst h <;> kernel_rfl
theorem str_dig1 {d : Nat} (h : d + 1 < 10) : fStr [.int ((d : Int) + 1)] = some (.str [48 + (d + 1)]) := str_dig h
def bS (b : Nat × Nat × Nat) : T := .str (bword b)
@[simp] theorem sh_bS {b : Nat × Nat × Nat} : (bS b).sh = true := rfl
@[simp] theorem fz_bS {b : Nat × Nat × Nat} : (bS b).fz = bS b := T.fz_sh rfl
theorem bS_map (l : List (Nat × Nat × Nat)) : l.map bS = (l.map bword).map .str := by rw [List.map_map]; rfl
def barsFrom (far : Nat) (ls : List Nat) (a : Nat) : List (Nat × Nat × Nat) := ls.flatMap fun b => (List.range far).map fun k => (a, b, k + 1)
def barsOf (far : Nat) (ls : List Nat) : List (Nat × Nat × Nat) := ls.flatMap (barsFrom far ls)
theorem wp_bars {ls : List Nat} {far : Nat} {Q : T × List T → Prop} (hf : far < 10) (hl : (barsOf far ls).length ≤ 1000000) (q : Q (.lst true ((barsOf far ls).map bS), [.str ls, .int far])) : wp (f_law_bars [.str ls, .int far]) Q := by
  simp [f_law_bars, b_law_bars, b_law_bars_0, b_law_bars_1]
  refine wp_loop (fun rest e => ∃ (F : List (Nat × Nat × Nat)) (x y : Option T), e = [some (.str ls), some (.int far), some (.lst true (F.map bS)), x, y, none] ∧ F ++ rest.flatMap (barsFrom far ls) = barsOf far ls) _ _ ⟨[], none, none, rfl, rfl⟩ (fun a r e ⟨F, x, y, he, hF⟩ => ?_) fun e ⟨F, x, y, he, hF⟩ => ?_
  · subst he
    simp
    refine wp_loop (fun rest e => ∃ (G : List (Nat × Nat × Nat)) (y : Option T), e = [some (.str ls), some (.int far), some (.lst true (G.map bS)), some (.str [a]), y, none] ∧ G ++ (rest.flatMap fun b => (List.range far).map fun k => (a, b, k + 1)) = F ++ barsFrom far ls a) _ _ ⟨F, y, rfl, rfl⟩ (fun b r' e ⟨G, y, he, hG⟩ => ?_) fun e ⟨G, y, he, hG⟩ => ?_
    · subst he
      simp
      refine ⟨by omega, wp_lcGo (fun k => bS (a, b, k + 1)) (fun k hk => ?_) ?_⟩
      · have := str_dig1 (d := k) (by simp at hk; omega)
        simp [this, bS, bword]
      · have e2 := congrArg List.length hF
        have e3 := congrArg List.length hG
        have : G.length + far ≤ 1000000 := by simp at e2 e3; omega
        simp [bS]
        exact ⟨by omega, by omega, G ++ (List.range far).map fun k => (a, b, k + 1), by simp [bS, Function.comp_def], by rw [← hG]; simp⟩
    · subst he
      simp
      exact ⟨G, rfl, by rw [← hF]; simp at hG; simp [hG]⟩
  · subst he
    simp at hF
    subst hF
    simp [b_law_bars_2]
    exact q

/-! the plain part: a plan -/
theorem dedS_len : ∀ zs : List (List Nat), (dedS zs).length ≤ zs.length
  | [] => Nat.le_refl _
  | z :: r => by
    have := dedS_len r
    unfold dedS
    split
    · simp; omega
    · simp; omega
theorem leS_sorted (Z : List (List Nat)) : (isort leS Z).Pairwise (fun a b => leS a b = true) := isort_sorted (le := leS) (fun a b c h1 h2 => by rw [leS_iff] at h1 h2 ⊢; exact List.le_trans h1 h2) (fun a b => by rw [leS_iff, leS_iff]; exact List.le_total a b) Z
theorem lt_of_le_ne {a b : List Nat} (h : leS a b = true) (hne : a ≠ b) : a < b := by
  rw [leS_iff] at h
  rcases List.le_iff_lt_or_eq.mp h with h | h
  · exact h
  · exact absurd h hne
theorem leS_strict {Z : List (List Nat)} (h : Z.Nodup) : (isort leS Z).Pairwise (· < ·) := by
  have nd : (isort leS Z).Nodup := (isort_perm Z).nodup_iff.mpr h
  exact ((leS_sorted Z).and nd).imp fun ⟨h1, h2⟩ => lt_of_le_ne h1 h2
theorem ded_sing (cs : List Nat) (h0 : cs ≠ []) : ∃ ls : List Nat, isort leS (dedS (cs.map fun c => [c])) = ls.map (fun c => [c]) ∧ ls.Pairwise (· < ·) ∧ (∀ c ∈ ls, c ∈ cs) ∧ 1 ≤ ls.length ∧ ls.length ≤ cs.length := by
  have so := leS_strict (dedS_nodup (cs.map fun c => [c]))
  have pm := isort_perm (le := leS) (dedS (cs.map fun c => [c]))
  have hm : ∀ z, z ∈ isort leS (dedS (cs.map fun c => [c])) ↔ ∃ c ∈ cs, z = [c] := fun z => by
    rw [pm.mem_iff, dedS_mem, List.mem_map]
    exact ⟨fun ⟨c, h1, h2⟩ => ⟨c, h1, h2.symm⟩, fun ⟨c, h1, h2⟩ => ⟨c, h1, h2.symm⟩⟩
  have hl : (isort leS (dedS (cs.map fun c => [c]))).length ≤ cs.length := by
    rw [pm.length_eq]
    have := dedS_len (cs.map fun c => [c])
    simpa using this
  have hne : isort leS (dedS (cs.map fun c => [c])) ≠ [] := fun e => by
    obtain ⟨c, r, rfl⟩ : ∃ c r, cs = c :: r := by
      cases cs with
      | nil => exact absurd rfl h0
      | cons c r => exact ⟨c, r, rfl⟩
    have := (hm [c]).mpr ⟨c, by simp, rfl⟩
    rw [e] at this
    cases this
  generalize isort leS (dedS (cs.map fun c => [c])) = Z at *
  obtain ⟨ls, rfl, hR⟩ := forget (R := fun c => c ∈ cs) (g := fun c => [c]) Z fun z hz => (hm z).mp hz
  refine ⟨ls, rfl, (List.pairwise_map.mp so).imp fun {a b} h => ?_, hR, ?_, by simpa using hl⟩
  · cases h with
    | rel h => exact h
    | cons h => cases h
  · exact List.length_pos_iff.mpr fun e => hne (by rw [e]; rfl)
theorem join_sing {ls : List Nat} {o : Bool} (hl : ls.length ≤ 16777216) : fJoin (.str []) (.lst o (ls.map fun c => .str [c])) = some (.str ls) := by
  rw [fJoin_strs]
  have e3 := jl_sing (fun c : Nat => c) ls
  simp only [e3]
  rw [if_pos ?_]
  · simp
  · have : ∀ l : List Nat, (List.map (fun x => x.length) (List.map (fun c : Nat => [c]) l)).sum = l.length := fun l => by
      induction l with
      | nil => rfl
      | cons a r ih => simp at ih ⊢; omega
    rw [this]
    show ls.length + _ * 0 ≤ 16777216
    omega
theorem mem_barsOf {far : Nat} {ls : List Nat} {b : Nat × Nat × Nat} : b ∈ barsOf far ls ↔ b.1 ∈ ls ∧ b.2.1 ∈ ls ∧ 1 ≤ b.2.2 ∧ b.2.2 ≤ far := by
  obtain ⟨x, y, d⟩ := b
  simp only [barsOf, barsFrom, List.mem_flatMap, List.mem_map, List.mem_range, Prod.mk.injEq]
  constructor
  · rintro ⟨a, h1, c, h2, k, h3, rfl, rfl, rfl⟩
    exact ⟨h1, h2, by omega, by omega⟩
  · rintro ⟨h1, h2, h3, h4⟩
    exact ⟨x, h1, y, h2, d - 1, by omega, rfl, rfl, by omega⟩
theorem barsOf_nodup {far : Nat} {ls : List Nat} (h : ls.Nodup) : (barsOf far ls).Nodup := by
  refine List.pairwise_flatMap.mpr ⟨fun a _ => List.pairwise_flatMap.mpr ⟨fun b _ => List.pairwise_map.mpr (List.Pairwise.imp (fun {x y} hne e => ?_) List.nodup_range), h.imp fun hne x hx y hy => ?_⟩, h.imp fun hne x hx y hy => ?_⟩
  · injection e with _ e; injection e with _ e
    exact hne (by omega)
  · rintro rfl
    obtain ⟨k, _, rfl⟩ := List.mem_map.mp hx
    obtain ⟨k', _, e⟩ := List.mem_map.mp hy
    injection e with _ e; injection e with e _
    exact hne e.symm
  · rintro rfl
    obtain ⟨b, _, hx⟩ := List.mem_flatMap.mp hx
    obtain ⟨b', _, hy⟩ := List.mem_flatMap.mp hy
    obtain ⟨k, _, rfl⟩ := List.mem_map.mp hx
    obtain ⟨k', _, e⟩ := List.mem_map.mp hy
    injection e with e _
    exact hne e.symm
theorem barsOf_len (far : Nat) (ls : List Nat) : (barsOf far ls).length = ls.length * (ls.length * far) := by
  have h : ∀ (f : Nat → List (Nat × Nat × Nat)) (n : Nat), (∀ a, (f a).length = n) → ∀ l : List Nat, (l.flatMap f).length = l.length * n := fun f n hf l => by
    induction l with
    | nil => simp
    | cons a r ih => rw [List.flatMap_cons, List.length_append, hf, ih, List.length_cons, Nat.succ_mul]; omega
  exact h _ _ (fun a => h _ _ (fun b => by simp) ls) ls
theorem bword_inj {a b : Nat × Nat × Nat} (h : bword a = bword b) : a = b := by
  obtain ⟨a1, a2, a3⟩ := a
  obtain ⟨b1, b2, b3⟩ := b
  unfold bword at h
  simp at h
  simp [h]
def pT (ks : List (Nat × Nat)) (bs : List (Nat × Nat × Nat)) : T := .tup [.str (ks.map (·.1)), .tup (ks.map fun k => .int k.2), .tup (bs.map bS)]
theorem erase_map {α β : Type} (f : α → β) : ∀ (l : List α) (k : Nat), (l.map f).eraseIdx k = (l.eraseIdx k).map f
  | [], k => by simp
  | a :: r, 0 => by simp
  | a :: r, k + 1 => by simp [erase_map f r k]
theorem erase_perm {α : Type} : ∀ (l : List α) (k : Nat) (h : k < l.length), (l[k] :: l.eraseIdx k).Perm l
  | a :: r, 0, _ => by simp
  | a :: r, k + 1, h => by
    have := erase_perm r k (by simpa using h)
    simp only [List.getElem_cons_succ, List.eraseIdx_cons_succ]
    exact (List.Perm.swap a _ _).trans (this.cons a)
structure PlanOk (most far lots : Nat) (ks : List (Nat × Nat)) (bs : List (Nat × Nat × Nat)) : Prop where
  k : KOk ks
  b : BOk (ks.map (·.1)) bs
  few : ks.length ≤ most
  far : ∀ b ∈ bs, b.2.2 ≤ far
  lots : bs.length ≤ lots
@[simp] theorem back_srT' {s : Sr} : T.fz (srT s) = .lst false [.int s.a, .int s.b, .int s.c] := by simp [srT]
theorem wp_plan {s : Sr} {most far lots : Nat} {Q : T × List T → Prop} (h1 : 1 ≤ most ∧ most ≤ 4) (h2 : 1 ≤ far ∧ far ≤ 5) (h3 : lots ≤ 40)
    (q : ∀ (s' : Sr) ks bs, PlanOk most far lots ks bs → Q (pT ks bs, [srT s', .int most, .int far, .int lots])) : wp (f_law_plan [srT s, .int most, .int far, .int lots]) Q := by
  simp [f_law_plan, b_law_plan, b_law_plan_0, b_law_plan_1]
  refine wp_draw (by omega) (by omega) fun v s1 hv => ?_
  simp
  refine ⟨by omega, ?_⟩
  refine wp_lcGoE (fun e => ∃ s' : Sr, e = [some (srT s'), some (.int most), some (.int far), some (.int lots), some (.str L26), none, none, none, none, none, none, none]) (fun c => c ∈ L26) (fun c : Nat => .str [c]) ⟨s1, rfl⟩ (fun a _ e ⟨s', he⟩ => ?_) fun cs e hlen hcs ⟨s2, he⟩ => ?_
  · subst he
    simp
    refine wp_draw (by omega) (by omega) fun w s3 hw => ?_
    simp
    have hk : w < L26.length := by show w < 26; omega
    exact ⟨by decide, L26[w], by simp [hk], List.getElem_mem hk, _, rfl⟩
  · subst he
    simp at hlen
    obtain ⟨ls, d1, d2, d3, d4, d5⟩ := ded_sing cs (fun e => by rw [e] at hlen; simp at hlen; omega)
    have es : fSetSort (.lst true (cs.map fun c => .str [c])) = some (.lst true (ls.map fun c => .str [c])) := by
      have q := strs_mapf (fun c : Nat => [c]) cs
      show (match T.strs (cs.map fun c => T.str [c]) with | some zs => if zs.length + 1 < 4096 then some (T.lst true ((isort leS (dedS zs)).map .str)) else none | none => none) = _
      rw [q]
      simp only
      rw [if_pos (by simp; omega), d1, List.map_map]
      rfl
    have ej := join_sing (ls := ls) (o := true) (by omega)
    have hL : ∀ c ∈ ls, c ∈ L26 := fun c hc => hcs c (d3 c hc)
    simp [es, ej, b_law_plan_2]
    refine ⟨by omega, ?_⟩
    refine wp_lcGoE (fun e => ∃ s' : Sr, e = [some (srT s'), some (.int most), some (.int far), some (.int lots), some (.str L26), some (.str ls), none, none, none, none, none, none]) (fun p => p < 10) (fun p : Nat => .int p) ⟨s2, rfl⟩ (fun a _ e ⟨s', he⟩ => ?_) fun ps e hlen2 hps ⟨s3, he⟩ => ?_
    · subst he
      simp
      refine wp_draw (by omega) (by omega) fun w s3 hw => ?_
      simp
      exact ⟨⟨w, by omega, rfl⟩, _, rfl⟩
    · subst he
      simp [b_law_plan_3]
      have hbl := barsOf_len far ls
      have hb : (barsOf far ls).length ≤ 80 := by
        rw [hbl]
        have : ls.length ≤ 4 := by omega
        calc ls.length * (ls.length * far) ≤ 4 * (4 * 5) := Nat.mul_le_mul this (Nat.mul_le_mul this h2.2)
          _ = 80 := rfl
      refine ⟨by omega, wp_bars (by omega) (by omega) ?_⟩
      simp [b_law_plan_4]
      refine wp_draw (by omega) (by omega) fun w s4 hw => ?_
      simp
      refine ⟨by split <;> omega, ?_⟩
      refine wp_loop (fun rest e => ∃ (s' : Sr) (P B : List (Nat × Nat × Nat)) (x : Option T), e = [some (srT s'), some (.int most), some (.int far), some (.int lots), some (.str L26), some (.str ls), some (.tup (ps.map fun p : Nat => .int (p : Int))), some (.lst true (P.map bS)), some (.lst true (B.map bS)), x, none, none] ∧ (B ++ P).Perm (barsOf far ls) ∧ rest.length ≤ P.length ∧ B.length + rest.length ≤ lots) _ _ ⟨s4, barsOf far ls, [], none, rfl, List.Perm.refl _, by simp; split <;> omega, by simp; split <;> omega⟩ (fun a r e ⟨s5, P, B, x, he, hP, h5, h6⟩ => ?_) fun e ⟨s5, P, B, x, he, hP, h5, h6⟩ => ?_
      · subst he
        have hl := hP.length_eq
        simp at h5 h6 hl
        simp
        refine wp_draw (by omega) (by omega) fun w s6 hw => ?_
        have hw' : w < P.length := by omega
        simp
        rw [wp_popX (by omega)]
        simp [hw']
        have pm : (B ++ ([P[w]] ++ P.eraseIdx w)).Perm (B ++ P) := List.Perm.append_left _ (erase_perm P w hw')
        have le : (P.eraseIdx w).length = P.length - 1 := List.length_eraseIdx_of_lt hw'
        exact ⟨by omega, s6, P.eraseIdx w, B ++ [P[w]], ⟨rfl, erase_map .., by simp⟩, by rw [List.append_assoc]; exact pm.trans hP, by omega, by simp; omega⟩
      · subst he
        have hN : (barsOf far ls).Nodup := barsOf_nodup (d2.imp fun h => Nat.ne_of_lt h)
        have hB : B.Nodup := (List.nodup_append.mp (hP.nodup_iff.mpr hN)).1
        have e1 : fSortTx [.lst true (B.map bS)] = some (.lst true ((isort leS (B.map bword)).map .str)) := fSortTx_strs (f := bword)
        have pB := isort_perm (le := fun a b => leS (bword a) (bword b)) B
        have ris : (isort leS (B.map bword)).Pairwise (· < ·) := leS_strict (List.pairwise_map.mpr (hB.imp fun hne e => hne (bword_inj e)))
        rw [isort_map] at e1 ris
        rw [← bS_map] at e1
        generalize isort (fun a b => leS (bword a) (bword b)) B = bs at *
        have hm : ∀ b ∈ bs, b.1 ∈ ls ∧ b.2.1 ∈ ls ∧ 1 ≤ b.2.2 ∧ b.2.2 ≤ far := fun b hb => mem_barsOf.mp (hP.mem_iff.mp (List.mem_append_left _ (pB.mem_iff.mp hb)))
        have hbl := pB.length_eq
        simp at h6
        have z1 : (ls.zip ps).map (·.1) = ls := List.map_fst_zip (by omega)
        have z2 : (ls.zip ps).map (·.2) = ps := List.map_snd_zip (by omega)
        have hz : (ls.zip ps).length = ls.length := by simp; omega
        have ok : PlanOk most far lots (ls.zip ps) bs := {
          k := ⟨fun k hk => hL _ (by rw [← z1]; exact List.mem_map_of_mem hk), fun k hk => hps _ (by rw [← z2]; exact List.mem_map_of_mem hk), by rw [z1]; exact d2, by omega, by omega⟩
          b := by
            rw [z1]
            exact ⟨hL, fun b hb => (hm b hb).1, fun b hb => (hm b hb).2.1, fun b hb => ⟨(hm b hb).2.2.1, by have := (hm b hb).2.2.2; omega⟩, ris, by omega⟩
          few := by omega
          far := fun b hb => (hm b hb).2.2.2
          lots := by omega }
        have e3 : pT (ls.zip ps) bs = .tup [.str ls, .tup (ps.map fun p : Nat => .int (p : Int)), .tup (bs.map bS)] := by
          unfold pT
          rw [z1]
          have : (ls.zip ps).map (fun k => T.int (k.2 : Int)) = ((ls.zip ps).map (·.2)).map fun p : Nat => T.int (p : Int) := by rw [List.map_map]; rfl
          rw [this, z2]
        have := q s5 _ _ ok
        rw [e3] at this
        simp [b_law_plan_5, e1, pin_law_plan]
        exact this

/-! the plain part: a plan's text, rules, rows -/
theorem joinL_cons {c : List Nat} {p q : List Nat} {r : List (List Nat)} : TL.joinL c (p :: q :: r) = p ++ c ++ TL.joinL c (q :: r) := by simp [TL.joinL]
theorem join_sum (c m : Nat) (ws : List (List Nat)) (h : ∀ p ∈ ws, p.length ≤ m) : (ws.map (·.length)).sum + ws.length * [c].length ≤ ws.length * (m + 1) := by
  induction ws with
  | nil => simp
  | cons p r ih =>
    have h1 := h p (by simp)
    have h2 := ih fun x hx => h x (List.mem_cons_of_mem _ hx)
    simp only [List.map_cons, List.sum_cons, List.length_cons, List.length_nil, Nat.succ_mul] at h2 ⊢
    omega
theorem wp_text {ks : List (Nat × Nat)} {bs : List (Nat × Nat × Nat)} {Q : T × List T → Prop} (h : KOk ks) (h' : bs.length ≤ 1000) (q : Q (.str (rtext ks bs), [pT ks bs])) : wp (f_law_text [pT ks bs]) Q := by
  have hf := h.few
  simp [f_law_text, pT, b_law_text, b_law_text_0, b_law_text_1]
  refine ⟨by omega, by omega, wp_lcGo (fun k => .str (kword (ks.getD k (0, 0)))) (fun k hk => ?_) ?_⟩
  · simp at hk
    have hd := h.dig _ (List.getElem_mem hk)
    simp [hk, str_dig hd, kword]
    omega
  · have e0 : (List.range ks.length).map (fun k => T.str (kword (ks.getD k (0, 0)))) = ks.map fun k => .str (kword k) := by
      apply List.ext_getElem
      · simp
      · intro i h1 h2
        have : i < ks.length := by simpa using h1
        simp [this]
    rw [e0]
    have e1 : (T.str KW :: ks.map fun k => T.str (kword k)) = (KW :: ks.map kword).map fun z => .str z := by simp [Function.comp_def]
    have e2 : (T.str BW :: bs.map bS) = (BW :: bs.map bword).map fun z => .str z := by simp [Function.comp_def, bS]
    have j1 := join_sum 32 5 (KW :: ks.map kword) fun p hp => by
      rcases List.mem_cons.mp hp with rfl | hp
      · decide
      · obtain ⟨k, hk, rfl⟩ := List.mem_map.mp hp
        simp [kword]
    have j2 := join_sum 32 5 (BW :: bs.map bword) fun p hp => by
      rcases List.mem_cons.mp hp with rfl | hp
      · decide
      · obtain ⟨k, hk, rfl⟩ := List.mem_map.mp hp
        simp [bword]
    have g1 : fJoin (.str [32]) (.lst true (T.str KW :: ks.map fun k => T.str (kword k))) = some (.str (kline ks)) := by
      rw [e1, fJoin_strs]
      simp only [List.map_id', List.map_id]
      rw [if_pos]
      · rfl
      · simp at j1 ⊢; omega
    have g2 : fJoin (.str [32]) (.lst true (T.str BW :: bs.map bS)) = some (.str (bline bs)) := by
      rw [e2, fJoin_strs]
      simp only [List.map_id', List.map_id]
      rw [if_pos]
      · rfl
      · simp at j2 ⊢; omega
    have l1 := jl_len 32 5 (KW :: ks.map kword) fun p hp => by
      rcases List.mem_cons.mp hp with rfl | hp
      · decide
      · obtain ⟨k, hk, rfl⟩ := List.mem_map.mp hp
        simp [kword]
    have l2 := jl_len 32 5 (BW :: bs.map bword) fun p hp => by
      rcases List.mem_cons.mp hp with rfl | hp
      · decide
      · obtain ⟨k, hk, rfl⟩ := List.mem_map.mp hp
        simp [bword]
    have f1 : (kline ks).length ≤ 30 := by simp at l1; unfold kline; omega
    have f2 : (bline bs).length ≤ 100000 := by simp at l2; unfold bline; omega
    unfold KW at g1
    unfold BW at g2
    simp [b_law_text_2, g1, g2]
    refine ⟨by omega, by omega, by omega, by omega, by omega, ?_⟩
    simpa [rtext, TL.joinL, pT] using q
/-! ### rules -/
def behF (ks : List (Nat × Nat)) (bs : List (Nat × Nat × Nat)) : List (Key × T) := (ks.map (·.1)).map fun c => (.inr (S [c]), .lst false ((bs.filter fun b => b.2.1 == c).map pairT))
def fsF (ks : List (Nat × Nat)) (bs : List (Nat × Nat × Nat)) : List (String × T) := [("text", .str (rtext ks bs)), ("kinds", .str (ks.map (·.1))), ("worths", .tup (ks.map fun k => .int k.2)), ("bars", .tup (bs.map bS)), ("triples", .tup (bs.map tri)), ("reach", .int (reachOf bs)), ("worth_of", .dic false (wof ks)), ("behind", .dic false (behF ks bs))]
def rT (ks : List (Nat × Nat)) (bs : List (Nat × Nat × Nat)) : T := .obj false "Rule" (fsF ks bs)
theorem behOf_eq (c : Nat) : ∀ (bs : List (Nat × Nat × Nat)) (β : Nat → List T), behOf bs β c = β c ++ (bs.filter fun b => b.2.1 == c).map pairT
  | [], β => by simp [behOf]
  | b :: r, β => by
    have ih := behOf_eq c r (fun x => if x = b.2.1 then β b.2.1 ++ [pairT b] else β x)
    have e : behOf (b :: r) β c = behOf r (fun x => if x = b.2.1 then β b.2.1 ++ [pairT b] else β x) c := rfl
    rw [e, ih]
    by_cases h : c = b.2.1
    · subst h; simp
    · have h2 : ¬ b.2.1 = c := fun e => h e.symm
      simp [h, h2]
@[simp] theorem fz_pairT {b : Nat × Nat × Nat} : (pairT b).fz = pairT b := T.fz_sh rfl
@[simp] theorem sh_pairT {b : Nat × Nat × Nat} : (pairT b).sh = true := rfl
@[simp] theorem sh_tri {b : Nat × Nat × Nat} : (tri b).sh = true := rfl
theorem fzA_beh (β : Nat → List T) : ∀ L : List Nat, T.fzA (beh L β) = L.map fun c => (.inr (S [c]), .lst false (T.fzs (β c)))
  | [] => by simp [beh]
  | a :: L => by
    have := fzA_beh β L
    unfold beh at this ⊢
    rw [List.map_cons, fzA_cons, this]; simp
theorem rule_fz (ks : List (Nat × Nat)) (bs : List (Nat × Nat × Nat)) : (T.obj true "Rule" (fsR ks bs)).fz = rT ks bs := by
  have e : ∀ c, T.fzs (behOf bs (fun _ => []) c) = (bs.filter fun b => b.2.1 == c).map pairT := fun c => by
    rw [behOf_eq]; simp
  simp [fsR, fs7, fs6, fs5, fs4, fs3, fs2, rT, fsF, bres, fzA_beh, e, behF, bS_map]
@[simp] theorem rule_fzF (ks : List (Nat × Nat)) (bs : List (Nat × Nat × Nat)) : T.obj false "Rule" (T.fzF (fsR ks bs)) = rT ks bs := by rw [← rule_fz, fz_objT]
@[simp] theorem sh_rT {ks : List (Nat × Nat)} {bs : List (Nat × Nat × Nat)} : (rT ks bs).sh = true := rfl
@[simp] theorem fz_rT {ks : List (Nat × Nat)} {bs : List (Nat × Nat × Nat)} : (rT ks bs).fz = rT ks bs := T.fz_sh rfl
@[simp] theorem back_rT {P : Nat → Bool} {ts : List T} {env : GK.Env} {k : Nat} {ks : List (Nat × Nat)} {bs : List (Nat × Nat × Nat)} : back P k (rT ks bs :: ts) env = (back P (k + 1) ts env).map (rT ks bs :: ·) := back_sh rfl
@[simp] theorem sh_pT {ks : List (Nat × Nat)} {bs : List (Nat × Nat × Nat)} : (pT ks bs).sh = true := rfl
@[simp] theorem fz_pT {ks : List (Nat × Nat)} {bs : List (Nat × Nat × Nat)} : (pT ks bs).fz = pT ks bs := T.fz_sh rfl
@[simp] theorem back_pT {P : Nat → Bool} {ts : List T} {env : GK.Env} {k : Nat} {ks : List (Nat × Nat)} {bs : List (Nat × Nat × Nat)} : back P k (pT ks bs :: ts) env = (back P (k + 1) ts env).map (pT ks bs :: ·) := back_sh rfl
theorem wp_make {ks : List (Nat × Nat)} {bs : List (Nat × Nat × Nat)} {Q : T × List T → Prop} (h : KOk ks) (h' : BOk (ks.map (·.1)) bs) (q : Q (.obj true "Rule" (fsR ks bs), [.str (rtext ks bs)])) : wp (mkMake "Rule" f_Rule_init [.str (rtext ks bs)]) Q := by
  unfold mkMake
  rw [Rule_init_fn h h']
  exact wp_some.mpr q
theorem AF_rule {f : String} (h : f ∈ ["text", "triples", "reach", "worth_of", "behind", "kinds", "worths", "bars"]) : afHas AF "Rule" f = true := by
  simp at h
  rcases h with h | h | h | h | h | h | h | h <;> subst h <;> decide
theorem fld_of {ks : List (Nat × Nat)} {bs : List (Nat × Nat × Nat)} {f : String} (h : f ∈ ["text", "triples", "reach", "worth_of", "behind", "kinds", "worths", "bars"]) : fFld AF f (rT ks bs) = List.lookup f (fsF ks bs) := by
  have e : fFld AF f (rT ks bs) = if afHas AF "Rule" f then List.lookup f (fsF ks bs) else none := rfl
  rw [e, if_pos (AF_rule h)]
@[simp] theorem fld_kinds {ks : List (Nat × Nat)} {bs : List (Nat × Nat × Nat)} : fFld AF "kinds" (rT ks bs) = some (.str (ks.map (·.1))) := by rw [fld_of (by decide)]; simp [fsF]
@[simp] theorem fld_text {ks : List (Nat × Nat)} {bs : List (Nat × Nat × Nat)} : fFld AF "text" (rT ks bs) = some (.str (rtext ks bs)) := by rw [fld_of (by decide)]; simp [fsF]
@[simp] theorem fld_worths {ks : List (Nat × Nat)} {bs : List (Nat × Nat × Nat)} : fFld AF "worths" (rT ks bs) = some (.tup (ks.map fun k => .int k.2)) := by rw [fld_of (by decide)]; simp [fsF]
@[simp] theorem fld_bars {ks : List (Nat × Nat)} {bs : List (Nat × Nat × Nat)} : fFld AF "bars" (rT ks bs) = some (.tup (bs.map bS)) := by rw [fld_of (by decide)]; simp [fsF]
@[simp] theorem fld_triples {ks : List (Nat × Nat)} {bs : List (Nat × Nat × Nat)} : fFld AF "triples" (rT ks bs) = some (.tup (bs.map tri)) := by rw [fld_of (by decide)]; simp [fsF]
@[simp] theorem fld_reach {ks : List (Nat × Nat)} {bs : List (Nat × Nat × Nat)} : fFld AF "reach" (rT ks bs) = some (.int (reachOf bs)) := by rw [fld_of (by decide)]; simp [fsF]
@[simp] theorem fld_worth_of {ks : List (Nat × Nat)} {bs : List (Nat × Nat × Nat)} : fFld AF "worth_of" (rT ks bs) = some (.dic false (wof ks)) := by rw [fld_of (by decide)]; simp [fsF]
@[simp] theorem fld_behind {ks : List (Nat × Nat)} {bs : List (Nat × Nat × Nat)} : fFld AF "behind" (rT ks bs) = some (.dic false (behF ks bs)) := by rw [fld_of (by decide)]; simp [fsF]
@[simp] theorem own_rT {ks : List (Nat × Nat)} {bs : List (Nat × Nat × Nat)} : fIsOwn "Rule" (rT ks bs) = some (.bl true) := rfl

/-! the plain part: rows -/
@[simp] theorem in_bars {b : Nat × Nat × Nat} {bs : List (Nat × Nat × Nat)} {k : Bool} : cIn k (.str (bword b)) (.tup (bs.map bS)) = some (.bl (if k then !decide (b ∈ bs) else decide (b ∈ bs))) := by
  rw [bS_map, cIn_tupS]
  have : (bword b ∈ bs.map bword) = (b ∈ bs) := propext ⟨fun h => by obtain ⟨c, h1, h2⟩ := List.mem_map.mp h; rw [← bword_inj h2]; exact h1, fun h => List.mem_map_of_mem h⟩
  simp only [this]
theorem in_bars' {x y d : Nat} {bs : List (Nat × Nat × Nat)} {k : Bool} : cIn k (.str [x, y, 48 + d]) (.tup (bs.map bS)) = some (.bl (if k then !decide ((x, y, d) ∈ bs) else decide ((x, y, d) ∈ bs))) := in_bars (b := (x, y, d))
/-- a place breaks a bar with the one d ahead of it -/
def brkAt (bs : List (Nat × Nat × Nat)) (row : List Nat) (p d : Nat) : Bool := decide ((row.getD (p - d) 0, row.getD p 0, d) ∈ bs)
def brokenB (bs : List (Nat × Nat × Nat)) (row : List Nat) (p : Nat) : Bool := (List.range (min 5 p)).any fun k => brkAt bs row p (k + 1)
def keepsB (bs : List (Nat × Nat × Nat)) (row : List Nat) : Bool := (List.range row.length).all fun p => !brokenB bs row p
theorem wp_broken {bs : List (Nat × Nat × Nat)} {row : List Nat} {p : Nat} {Q : T × List T → Prop} (hp : p < row.length) (hr : row.length ≤ 1000000) (q : Q (.bl (brokenB bs row p), [.tup (bs.map bS), .str row, .int p])) : wp (f_law_broken [.tup (bs.map bS), .str row, .int p]) Q := by
  simp [f_law_broken, b_law_broken, b_law_broken_0, b_law_broken_1]
  refine ⟨by omega, ?_⟩
  refine wp_loop (fun rest e => ∃ x : Option T, e = [some (.tup (bs.map bS)), some (.str row), some (.int p), x] ∧ brokenB bs row p = (rest.any fun k => brkAt bs row p (k + 1)) ∧ ∀ k ∈ rest, k < min 5 p) _ _ ⟨none, rfl, ?_, fun k hk => ?_⟩ (fun k r e ⟨x, he, hb, hm⟩ => ?_) fun e ⟨x, he, hb, _⟩ => ?_
  · unfold brokenB
    congr 2
    split <;> omega
  · simp at hk
    split at hk <;> omega
  · subst he
    have hk := hm k (by simp)
    have e1 : ((p : Int) - (1 + (k : Int))) = ((p - (k + 1) : Nat) : Int) := by omega
    have e3 : p - (k + 1) < row.length := by omega
    have e4 : fStr [.int (1 + (k : Int))] = some (.str [48 + (k + 1)]) := by rw [Int.add_comm]; exact str_dig1 (by omega)
    have e6 : brkAt bs row p (k + 1) = decide ((row[p - (k + 1)], row[p], k + 1) ∈ bs) := by simp [brkAt, e3, hp]
    rw [List.any_cons, e6] at hb
    simp [e1, e3, e4, hp, in_bars', pin_law_broken]
    refine ⟨by omega, fun h => ?_, fun h => ⟨by simpa [h] using hb, fun j hj => hm j (by simp [hj])⟩⟩
    rw [show brokenB bs row p = true by rw [hb]; simp [h]] at q
    exact q
  · subst he
    rw [hb] at q
    simpa [pin_law_broken] using q
/-! the plain part: rows of a rule -/
def wOf (ks : List (Nat × Nat)) (c : Nat) : Nat := ((ks.find? fun k => k.1 == c).map (·.2)).getD 0
theorem tget_wof {c : Nat} : ∀ {ks : List (Nat × Nat)}, tget (wof ks) (.inr (S [c])) = if c ∈ ks.map (·.1) then some (.int (wOf ks c)) else none
  | [] => by simp [wof, zipKeys, tget]
  | k :: r => by
    have ih := tget_wof (c := c) (ks := r)
    rw [wof_eq] at ih ⊢
    rw [List.map_cons, tget]
    by_cases h : k.1 = c
    · subst h; simp [wOf]
    · have h2 : ¬ c = k.1 := fun e => h e.symm
      rw [if_neg fun e => h (key_inj e), ih]
      have e : c ∈ List.map (·.1) (k :: r) ↔ c ∈ List.map (·.1) r := by rw [List.map_cons, List.mem_cons]; exact ⟨fun h => h.resolve_left h2, .inr⟩
      have e2 : wOf (k :: r) c = wOf r c := by simp [wOf, h]
      simp only [e, e2]
@[simp] theorem in_wof {c : Nat} {ks : List (Nat × Nat)} {k : Bool} : cIn k (.str [c]) (.dic false (wof ks)) = some (.bl (if k then !decide (c ∈ ks.map (·.1)) else decide (c ∈ ks.map (·.1)))) := by
  rw [cIn_dicS, tget_wof]
  by_cases h : c ∈ ks.map (·.1)
  · rw [if_pos h]; simp [h]
  · rw [if_neg h]; simp [h]
def RowOk (ks : List (Nat × Nat)) (row : List Nat) : Prop := ∀ c ∈ row, c ∈ ks.map (·.1)
section
variable {ks : List (Nat × Nat)} {bs : List (Nat × Nat × Nat)} {row : List Nat} {Q : T × List T → Prop}
theorem wp_check_rule (q : Q (.non, [rT ks bs])) : wp (f_check_rule [rT ks bs]) Q := by
  simp [f_check_rule, b_check_rule, b_check_rule_0]
  exact q
theorem wp_is_row (hr : RowOk ks row) (hl : row.length ≤ 1000000) (q : Q (.bl true, [rT ks bs, .str row])) : wp (f_is_row [rT ks bs, .str row]) Q := by
  simp [f_is_row, b_is_row, b_is_row_0]
  refine wp_lcGo (fun c => .bl true) (fun c hc => ?_) ?_
  · have h1 : ∃ x, (c, x) ∈ ks := by have := hr c hc; simpa using this
    simp [h1]
  · have e : fAll [.lst true (row.map fun _ => T.bl true)] = some (.bl true) := all_true
    simp [e]
    exact ⟨by omega, q⟩
theorem wp_check_row (hr : RowOk ks row) (hl : row.length ≤ 1000) (q : Q (.non, [rT ks bs, .str row])) : wp (f_check_row [rT ks bs, .str row]) Q := by
  have e : ¬ 1000 < (row.length : Int) := by omega
  simp [f_check_row, b_check_row, b_check_row_0, e, hl]
  exact ⟨by omega, wp_is_row hr (by omega) (by simpa using q)⟩
/-- a bar is broken at a first place -/
def brk (b : Nat × Nat × Nat) (row : List Nat) (i : Nat) : Bool := decide (row[i]? = some b.1 ∧ row[i + b.2.2]? = some b.2.1)
def keptB (bs : List (Nat × Nat × Nat)) (row : List Nat) : Bool := bs.all fun b => (List.range (row.length - b.2.2)).all fun i => !brk b row i
theorem keptB_iff : keptB bs row = true ↔ ∀ b ∈ bs, ∀ i, ¬ (row[i]? = some b.1 ∧ row[i + b.2.2]? = some b.2.1) := by
  simp only [keptB, List.all_eq_true, brk, List.mem_range, Bool.not_eq_true', decide_eq_false_iff_not]
  constructor
  · intro h b hb i hi
    have : i + b.2.2 < row.length := (List.getElem?_eq_some_iff.mp hi.2).1
    exact h b hb i (by omega) hi
  · intro h b hb i _
    exact h b hb i
theorem wp_is_kept (hl : row.length ≤ 1000000) (hd : ∀ b ∈ bs, b.2.2 ≤ 1000) (q : Q (.bl (keptB bs row), [rT ks bs, .str row])) : wp (f_is_kept [rT ks bs, .str row]) Q := by
  simp [f_is_kept, b_is_kept, b_is_kept_0]
  refine wp_loop (fun rest e => ∃ x y z t : Option T, e = [some (rT ks bs), some (.str row), x, y, z, t] ∧ keptB bs row = (rest.all fun b => (List.range (row.length - b.2.2)).all fun i => !brk b row i) ∧ ∀ b ∈ rest, b ∈ bs) _ _ ⟨none, none, none, none, rfl, rfl, fun b hb => hb⟩ (fun b r e ⟨x, y, z, t, he, hb, hm⟩ => ?_) fun e ⟨x, y, z, t, he, hb, _⟩ => ?_
  · subst he
    have hbd := hd b (hm b (by simp))
    simp [tri]
    refine ⟨by omega, by omega, ?_⟩
    refine wp_loop (fun rest e => ∃ t : Option T, e = [some (rT ks bs), some (.str row), some (.str [b.1]), some (.str [b.2.1]), some (.int b.2.2), t] ∧ ((List.range (row.length - b.2.2)).all fun i => !brk b row i) = (rest.all fun i => !brk b row i) ∧ ∀ i ∈ rest, i < row.length - b.2.2) _ _ ⟨t, rfl, ?_, fun i hi => ?_⟩ (fun i r' e ⟨t, he, hc, hm'⟩ => ?_) fun e ⟨t, he, hc, _⟩ => ?_
    · rfl
    · simp at hi; omega
    · subst he
      have hi := hm' i (by simp)
      have e1 : (b.2.2 : Int) + (i : Int) = ((i + b.2.2 : Nat) : Int) := by omega
      have e2 : (((i + b.2.2 : Nat) : Int) - (b.2.2 : Int)) = (i : Int) := by omega
      have e3 : i + b.2.2 < row.length := by omega
      have e4 : i < row.length := by omega
      have e5 : brk b row i = (decide (row[i] = b.1) && decide (row[i + b.2.2] = b.2.1)) := by simp [brk, e3, e4]
      rw [List.all_cons, e5] at hc
      simp only [wp_gSet, e1]
      simp [-Int.natCast_add, e2, e3, e4, pin_is_kept]
      refine ⟨by omega, fun h => ⟨by omega, fun h2 => ?_, fun h2 => ⟨by simpa [h, h2] using hc, fun j hj => hm' j (by simp [hj])⟩⟩, fun h => ⟨by simpa [h] using hc, fun j hj => hm' j (by simp [hj])⟩⟩
      rw [List.all_cons, hc] at hb
      rw [show keptB bs row = false by rw [hb]; simp [h, h2]] at q
      exact q
    · subst he
      simp
      rw [List.all_cons, hc] at hb
      exact ⟨by simpa using hb, fun x y z h => hm (x, y, z) (List.mem_cons_of_mem _ h)⟩
  · subst he
    rw [hb] at q
    simpa [pin_is_kept, b_is_kept_1] using q
theorem wp_kept (hr : RowOk ks row) (hl : row.length ≤ 1000) (hd : ∀ b ∈ bs, b.2.2 ≤ 1000) (q : Q (.bl (keptB bs row), [rT ks bs, .str row])) : wp (f_kept [rT ks bs, .str row]) Q := by
  simp [f_kept, b_kept, b_kept_0]
  refine wp_check_rule ?_
  simp [b_kept_1]
  refine wp_check_row hr hl ?_
  simp [b_kept_2]
  refine wp_is_kept (by omega) hd ?_
  simpa using q
end
/-- both readings -/
theorem keeps_kept {bs : List (Nat × Nat × Nat)} {row : List Nat} (hd : ∀ b ∈ bs, 1 ≤ b.2.2 ∧ b.2.2 ≤ 5) : keepsB bs row = keptB bs row := by
  rw [Bool.eq_iff_iff, keptB_iff]
  simp only [keepsB, brokenB, brkAt, List.all_eq_true, List.mem_range, Bool.not_eq_true', List.any_eq_false, decide_eq_true_eq]
  constructor
  · intro h b hb i ⟨h1, h2⟩
    obtain ⟨x1, x2⟩ := List.getElem?_eq_some_iff.mp h1
    obtain ⟨y1, y2⟩ := List.getElem?_eq_some_iff.mp h2
    have hb' := hd b hb
    refine h (i + b.2.2) y1 (b.2.2 - 1) (by omega) ?_
    have e1 : i + b.2.2 - (b.2.2 - 1 + 1) = i := by omega
    have e2 : b.2.2 - 1 + 1 = b.2.2 := by omega
    rw [e1, e2]
    simp [List.getD, h1, h2]
    exact hb
  · intro h p hp k hk hm
    refine h _ hm (p - (k + 1)) ⟨?_, ?_⟩
    · have : p - (k + 1) < row.length := by omega
      simp [this]
    · have : p - (k + 1) + (k + 1) = p := by omega
      simp only [this]
      simp [hp]

/-! the plain part: a drawn row -/
section
variable {ks : List (Nat × Nat)} {bs : List (Nat × Nat × Nat)}
@[simp] theorem pT0 : fItem (pT ks bs) (.int 0) = some (.str (ks.map (·.1))) := by rfl
@[simp] theorem pT1 : fItem (pT ks bs) (.int 1) = some (.tup (ks.map fun k => .int k.2)) := by rfl
@[simp] theorem pT2 : fItem (pT ks bs) (.int 2) = some (.tup (bs.map bS)) := by rfl
@[simp] theorem pTp0 : fPeekU (pT ks bs) (.int 0) = some (.str (ks.map (·.1))) := by rfl
@[simp] theorem pTp1 : fPeekU (pT ks bs) (.int 1) = some (.tup (ks.map fun k => .int k.2)) := by rfl
@[simp] theorem pTp2 : fPeekU (pT ks bs) (.int 2) = some (.tup (bs.map bS)) := by rfl
end
theorem KOk.lt {ks : List (Nat × Nat)} (h : KOk ks) : ∀ c ∈ ks.map (·.1), c < 1114112 := fun c hc => by
  obtain ⟨k, hk, rfl⟩ := List.mem_map.mp hc
  have := l26_97 (h.low k hk)
  omega
theorem fit_signs {l : List Nat} {o : Bool} (h : ∀ c ∈ l, c < 1114112) : T.fit 64 (.lst o (l.map fun c => .str [c])) := by
  simp
  exact h
theorem wp_string {s : Sr} {ks : List (Nat × Nat)} {bs : List (Nat × Nat × Nat)} {most longest : Nat} {Q : T × List T → Prop} (h : KOk ks) (hm : most ≤ 100000) (hl : longest ≤ 100000)
    (q : ∀ (s' : Sr) (row : List Nat), RowOk ks row → (row.length ≤ most ∨ row.length ≤ longest) → Q (.str row, [srT s', pT ks bs, .int most, .int longest])) : wp (f_law_string [srT s, pT ks bs, .int most, .int longest]) Q := by
  have hf := h.few
  have h1 := h.one
  have hlt := h.lt
  have q' : ∀ (s' : Sr) (row : List Nat), (∀ c ∈ row, c ∈ ks.map (·.1)) → (row.length ≤ most ∨ row.length ≤ longest) → Q (.str row, [srT s', pT ks bs, .int most, .int longest]) := q
  have f1 : fItem (pT ks bs) (.int 0) = some (.str (ks.map (·.1))) := pT0
  have lL : (ks.map (·.1)).length = ks.length := by simp
  clear q
  revert hlt q' f1 lL
  generalize ks.map (·.1) = L
  intro hlt q f1 lL
  rw [← lL] at hf h1
  have mid : ∀ (s1 : Sr) (many slips : Bool), (many = true → 0 < longest) → wp (b_law_string_2 [some (srT s1), some (pT ks bs), some (.int most), some (.int longest), some (.str L), some (.tup (bs.map bS)), some (.str []), some (.bl many), some (.bl slips), none, none, none, none, none]) (oSeq (sSeq b_law_string_3 b_law_string_4) (oFn pin_law_string [srT s, pT ks bs, .int most, .int longest] Q)) := by
    intro s1 many slips hmany
    simp [b_law_string_2]
    refine wp_draw (by omega) (by omega) fun v s2 hv => ?_
    simp
    refine ⟨by omega, ?_⟩
    let I : List Nat → GK.Env → Prop := fun rest e => ∃ (s' : Sr) (row : List Nat) (x9 x10 x11 : Option T), e = [some (srT s'), some (pT ks bs), some (.int most), some (.int longest), some (.str L), some (.tup (bs.map bS)), some (.str row), some (.bl many), some (.bl slips), x9, x10, x11, none, none] ∧ (∀ c ∈ row, c ∈ L) ∧ row.length + rest.length ≤ most
    have done : ∀ r e, I r e → wp (b_law_string_3 e) (oSeq b_law_string_4 (oFn pin_law_string [srT s, pT ks bs, .int most, .int longest] Q)) := by
      intro r e ⟨s3, row, x9, x10, x11, he, hr, hlen⟩
      subst he
      simp [b_law_string_3, b_law_string_4, pin_law_string]
      refine ⟨fun hm1 => ⟨fun hne => ?_, fun _ => q s3 row hr (.inl (by omega))⟩, fun _ => q s3 row hr (.inl (by omega))⟩
      have hp : 0 < row.length := List.length_pos_iff.mpr hne
      have hm2 := hmany hm1
      refine wp_draw (by omega) (by omega) fun w s5 hw => ?_
      have e1 : ((1 : Int) + (w : Int)) / (row.length : Int) + 1 = (((1 + w) / row.length + 1 : Nat) : Int) := by simp
      have e2 : row.length * ((1 + w) / row.length + 1) ≤ 200000 := by
        have := Nat.mul_div_le (1 + w) row.length
        rw [Nat.mul_add]
        omega
      have e3 : (1 + w) / row.length + 1 ≤ 200000 := Nat.le_trans (Nat.le_mul_of_pos_left _ hp) e2
      have e4 : ((1 : Int) + (w : Int)) = ((1 + w : Nat) : Int) := by simp
      generalize (1 + w) / row.length + 1 = n at e1 e2 e3
      simp
      rw [e1, e4, cutL_to]
      refine ⟨by omega, by omega, ⟨by omega, by simp only [Int.toNat_natCast]; omega⟩, by simp only [Int.toNat_natCast]; rw [Nat.mul_comm]; omega, q s5 _ (fun c hc => ?_) (.inr (by simp; omega))⟩
      obtain ⟨z, h2, h3⟩ := List.mem_flatten.mp (List.mem_of_mem_take hc)
      rw [(List.mem_replicate.mp h2).2] at h3
      exact hr c h3
    refine wp_loop I _ _ ⟨s2, [], none, none, none, rfl, (fun _ h => nomatch h), by simp; omega⟩ (fun k r e ⟨s3, row, x9, x10, x11, he, hr, hlen⟩ => ?_) fun e he => by rw [oSeq_nx, wp_sSeq]; exact done _ _ he
    · subst he
      simp at hlen
      have hc := cutL_last (l := row) (n := 4)
      simp at hc
      simp [hc, b_law_string_2_0, b_law_string_2_1]
      refine ⟨by omega, ?_⟩
      generalize hA : row.drop (row.length - 5) = ahead
      have hAl : ahead.length ≤ 5 := by rw [← hA]; simp; omega
      refine wp_lcGoF (fun c => !brokenB bs (ahead ++ [c]) ahead.length) (fun c => .str [c]) (fun c hc => ?_) ?_
      · simp
        refine ⟨by omega, by omega, wp_broken (by simp) (by simp; omega) ?_⟩
        simp
      generalize hS : L.filter (fun c => !brokenB bs (ahead ++ [c]) ahead.length) = some1
      have hSm : ∀ c ∈ some1, c ∈ L := fun c hc => by rw [← hS] at hc; exact (List.mem_filter.mp hc).1
      have hSl : some1.length ≤ 4 := by rw [← hS]; exact Nat.le_trans (List.length_filter_le _ _) hf
      have fin : ∀ (s4 : Sr) (l : List Nat), (∀ c ∈ l, c ∈ L) → l.length ≤ 4 → wp (b_law_string_2_3 [some (srT s4), some (pT ks bs), some (.int most), some (.int longest), some (.str L), some (.tup (bs.map bS)), some (.str row), some (.bl many), some (.bl slips), some (.int k), some (.str ahead), some (.lst false (l.map fun c => .str [c])), none, none]) (oSeq b_law_string_2_4 (oLoop (I r) (oSeq (sSeq b_law_string_3 b_law_string_4) (oFn pin_law_string [srT s, pT ks bs, .int most, .int longest] Q)))) := by
        intro s4 l hl1 hl2
        have e := cEq_lst_nil (o' := true) (fit_signs (o := false) (l := l) fun c hc => hlt c (hl1 c hc))
        simp [b_law_string_2_3, b_law_string_2_4, e]
        refine ⟨fun _ => done r _ ⟨s4, row, _, _, _, rfl, hr, by omega⟩, fun hne => ?_⟩
        have hp : 0 < l.length := List.length_pos_iff.mpr hne
        refine wp_draw (by omega) (by omega) fun w s5 hw => ?_
        have hw' : w < l.length := by omega
        simp [hw']
        refine ⟨by omega, s5, row ++ [l[w]], _, _, _, rfl, fun c hc => ?_, by simp; omega⟩
        rcases List.mem_append.mp hc with hc | hc
        · exact hr c hc
        · rw [List.mem_singleton.mp hc]; exact hl1 _ (List.getElem_mem hw')
      have e := cEq_lst_nil (o' := true) (fit_signs (o := false) (l := some1) fun c hc => hlt c (hSm c hc))
      simp [b_law_string_2_2, e]
      refine ⟨by omega, fun _ => ⟨fun _ => ⟨by omega, fin s3 L (fun c hc => hc) hf⟩, fun _ => ?_⟩, fun _ => fin s3 some1 hSm hSl⟩
      refine wp_draw (by omega) (by omega) fun w s5 hw => ?_
      simp
      exact ⟨fun _ => ⟨by omega, fin s5 L (fun c hc => hc) hf⟩, fun _ => fin s5 some1 hSm hSl⟩
  simp [f_law_string, b_law_string, b_law_string_0, b_law_string_1, f1]
  refine ⟨fun hl0 => wp_draw (by omega) (by omega) fun v s1 hv => ?_, fun hl0 => wp_draw (by omega) (by omega) fun v s1 hv => ?_⟩
  · simp
    refine wp_draw (by omega) (by omega) fun w s2 hw => ?_
    simp
    exact mid _ _ _ fun _ => hl0
  · simp
    exact mid _ _ _ (by simp)
theorem wp_planI {s : Sr} {m f l : Int} (most far lots : Nat) {Q : T × List T → Prop} (em : m = most) (ef : f = far) (el : l = lots) (h1 : 1 ≤ most ∧ most ≤ 4) (h2 : 1 ≤ far ∧ far ≤ 5) (h3 : lots ≤ 40)
    (q : ∀ (s' : Sr) ks bs, PlanOk most far lots ks bs → Q (pT ks bs, [srT s', .int m, .int f, .int l])) : wp (f_law_plan [srT s, .int m, .int f, .int l]) Q := by
  subst em ef el
  exact wp_plan h1 h2 h3 q
theorem wp_stringI {s : Sr} {m l : Int} {ks : List (Nat × Nat)} {bs : List (Nat × Nat × Nat)} (most longest : Nat) {Q : T × List T → Prop} (em : m = most) (el : l = longest) (h : KOk ks) (hm : most ≤ 100000) (hl : longest ≤ 100000)
    (q : ∀ (s' : Sr) (row : List Nat), RowOk ks row → (row.length ≤ most ∨ row.length ≤ longest) → Q (.str row, [srT s', pT ks bs, .int m, .int l])) : wp (f_law_string [srT s, pT ks bs, .int m, .int l]) Q := by
  subst em el
  exact wp_string h hm hl q

/-! the plain part: the first broken bar -/
def firstIn (bs : List (Nat × Nat × Nat)) (row : List Nat) (p : Nat) : Option (Nat × Nat) := ((List.range (min 5 p)).find? fun k => brkAt bs row p (k + 1)).map fun k => (p, k + 1)
def firstP (bs : List (Nat × Nat × Nat)) (row : List Nat) : Option (Nat × Nat) := (List.range row.length).findSome? (firstIn bs row)
def firstT (row : List Nat) : Option (Nat × Nat) → T
  | none => .non
  | some (p, d) => .tup [.str (bword (row.getD (p - d) 0, row.getD p 0, d)), .int (p - d : Nat), .int p]
@[simp] theorem sh_firstT {row : List Nat} {o : Option (Nat × Nat)} : (firstT row o).sh = true := by rcases o with _ | ⟨p, d⟩ <;> rfl
@[simp] theorem fz_firstT {row : List Nat} {o : Option (Nat × Nat)} : (firstT row o).fz = firstT row o := T.fz_sh sh_firstT
@[simp] theorem cIs_firstT {row : List Nat} {o : Option (Nat × Nat)} : cIs (firstT row o) .non = some (.bl o.isNone) := by rcases o with _ | ⟨p, d⟩ <;> rfl
theorem keeps_first (bs : List (Nat × Nat × Nat)) (row : List Nat) : keepsB bs row = (firstP bs row).isNone := by
  rw [Bool.eq_iff_iff]
  simp only [keepsB, brokenB, firstP, firstIn, List.all_eq_true, Option.isNone_iff_eq_none, List.findSome?_eq_none_iff, Option.map_eq_none_iff, List.find?_eq_none, Bool.not_eq_true', List.any_eq_false]
section
variable {ks : List (Nat × Nat)} {bs : List (Nat × Nat × Nat)} {row : List Nat} {Q : T × List T → Prop}
theorem wp_breach (ho : RowOk ks row) (hl : row.length ≤ 1000) (q : Q (firstT row (firstP bs row), [rT ks bs, .str row])) : wp (f_breach [rT ks bs, .str row]) Q := by
  simp [f_breach, b_breach, b_breach_0]
  refine wp_check_rule ?_
  simp [b_breach_1]
  refine wp_check_row ho hl ?_
  simp [b_breach_2]
  refine ⟨by omega, by omega, ?_⟩
  refine wp_loop (fun rest e => ∃ x y z : Option T, e = [some (rT ks bs), some (.str row), x, y, z] ∧ firstP bs row = rest.findSome? (firstIn bs row) ∧ ∀ p ∈ rest, p < row.length) _ _ ⟨none, none, none, rfl, rfl, fun p hp => by simpa using hp⟩ (fun p r e ⟨x, y, z, he, hb, hm⟩ => ?_) fun e ⟨x, y, z, he, hb, _⟩ => ?_
  · subst he
    have hp := hm p (by simp)
    have hm' : ∀ q ∈ r, q < row.length := fun q hq => hm q (List.mem_cons_of_mem _ hq)
    rw [List.findSome?_cons] at hb
    simp
    refine ⟨by omega, ?_⟩
    refine wp_loop (fun rest e => ∃ y z : Option T, e = [some (rT ks bs), some (.str row), some (.int p), y, z] ∧ firstIn bs row p = (rest.find? fun k => brkAt bs row p (k + 1)).map (fun k => (p, k + 1)) ∧ ∀ k ∈ rest, k < min 5 p) _ _ ⟨y, z, rfl, ?_, fun k hk => ?_⟩ (fun k r' e ⟨y, z, he, hc, hk⟩ => ?_) fun e ⟨y, z, he, hc, _⟩ => ?_
    · unfold firstIn
      congr 3
      split <;> omega
    · simp at hk
      split at hk <;> omega
    · subst he
      have hk' := hk k (by simp)
      have e1 : ((p : Int) - (1 + (k : Int))) = ((p - (k + 1) : Nat) : Int) := by omega
      have e3 : p - (k + 1) < row.length := by omega
      have e4 : fStr [.int (1 + (k : Int))] = some (.str [48 + (k + 1)]) := by rw [Int.add_comm]; exact str_dig1 (by omega)
      have e6 : brkAt bs row p (k + 1) = decide ((row[p - (k + 1)], row[p], k + 1) ∈ bs) := by simp [brkAt, e3, hp]
      rw [List.find?_cons, e6] at hc
      simp [b_breach_2_0, b_breach_2_1, e1, e3, e4, hp, in_bars', pin_breach]
      refine ⟨by omega, fun h => ?_, fun h => ⟨by simpa [h] using hc, fun j hj => hk j (by simp [hj])⟩⟩
      have e7 : firstP bs row = some (p, k + 1) := by
        rw [hb, hc]; simp [h]
      rw [e7] at q
      simpa [firstT, bword, e3, hp, e1] using q
    · subst he
      simp at hc
      rw [hc] at hb
      simp
      exact ⟨hb, hm'⟩
  · subst he
    rw [hb] at q
    simpa [b_breach_3, pin_breach, firstT] using q
end

/-! the plain part: rings -/
def rep (m : Nat) (l : List Nat) : List Nat := (List.replicate m l).flatten
theorem rep_len (m : Nat) (l : List Nat) : (rep m l).length = m * l.length := by simp [rep]
theorem rep_succ (m : Nat) (l : List Nat) : rep (m + 1) l = l ++ rep m l := by simp [rep, List.replicate_succ]
theorem rep_get (l : List Nat) : ∀ (m i : Nat), i < m * l.length → (rep m l)[i]? = l[i % l.length]?
  | 0, i, h => by simp at h
  | m + 1, i, h => by
    rw [rep_succ, List.getElem?_append]
    by_cases hi : i < l.length
    · rw [if_pos hi, Nat.mod_eq_of_lt hi]
    · rw [if_neg hi, rep_get l m (i - l.length) (by rw [Nat.succ_mul] at h; omega)]
      congr 1
      exact (Nat.mod_eq_sub_mod (by omega)).symm
theorem rep_mem {m : Nat} {l : List Nat} {c : Nat} (h : c ∈ rep m l) : c ∈ l := by
  obtain ⟨z, h2, h3⟩ := List.mem_flatten.mp h
  rw [(List.mem_replicate.mp h2).2] at h3
  exact h3
/-- a bar is broken at a first place of a ring -/
def brkR (b : Nat × Nat × Nat) (ring : List Nat) (i : Nat) : Bool := decide (ring[i]? = some b.1 ∧ ring[(i + b.2.2) % ring.length]? = some b.2.1)
def ringKB (bs : List (Nat × Nat × Nat)) (ring : List Nat) : Bool := bs.all fun b => (List.range ring.length).all fun i => !brkR b ring i
theorem ringKB_iff {bs : List (Nat × Nat × Nat)} {ring : List Nat} : ringKB bs ring = true ↔ ∀ b ∈ bs, ∀ i, i < ring.length → ¬ (ring[i]? = some b.1 ∧ ring[(i + b.2.2) % ring.length]? = some b.2.1) := by
  simp only [ringKB, List.all_eq_true, brkR, List.mem_range, Bool.not_eq_true', decide_eq_false_iff_not]
theorem ring_rep {bs : List (Nat × Nat × Nat)} {ring : List Nat} {m : Nat} (h : ringKB bs ring = true) : keptB bs (rep m ring) = true := by
  rw [keptB_iff]
  rw [ringKB_iff] at h
  intro b hb i ⟨h1, h2⟩
  have g1 := (List.getElem?_eq_some_iff.mp h1).1
  have g2 := (List.getElem?_eq_some_iff.mp h2).1
  rw [rep_len] at g1 g2
  rw [rep_get ring m i g1] at h1
  rw [rep_get ring m _ g2] at h2
  have g3 := (List.getElem?_eq_some_iff.mp h1).1
  refine h b hb (i % ring.length) g3 ⟨h1, ?_⟩
  rw [← h2]
  congr 1
  rw [Nat.mod_add_mod]
theorem rep_ring {bs : List (Nat × Nat × Nat)} {ring : List Nat} {m : Nat} (hd : ∀ b ∈ bs, b.2.2 ≤ 5) (hm : ring.length + 5 ≤ m * ring.length) (h : keptB bs (rep m ring) = true) : ringKB bs ring = true := by
  rw [keptB_iff] at h
  rw [ringKB_iff]
  intro b hb i hi ⟨h1, h2⟩
  have := hd b hb
  refine h b hb i ⟨?_, ?_⟩
  · rw [rep_get ring m i (by omega), Nat.mod_eq_of_lt hi]; exact h1
  · rw [rep_get ring m _ (by omega)]; exact h2
theorem many_enough {n : Nat} (h : 1 ≤ n) : n + 5 ≤ (5 / n + 2) * n := by
  have := Nat.div_add_mod 5 n
  have h2 := Nat.mod_lt 5 h
  rw [Nat.add_mul, Nat.mul_comm (5 / n) n]
  omega
theorem many_le {n : Nat} (h : 1 ≤ n) : (5 / n + 2) * n ≤ 5 + 2 * n := by
  have := Nat.div_mul_le_self 5 n
  rw [Nat.add_mul]
  omega
theorem keeps_ring {bs : List (Nat × Nat × Nat)} {ring : List Nat} (hd : ∀ b ∈ bs, 1 ≤ b.2.2 ∧ b.2.2 ≤ 5) (h : 1 ≤ ring.length) : keptB bs (rep (5 / ring.length + 2) ring) = ringKB bs ring :=
  Bool.eq_iff_iff.mpr ⟨rep_ring (fun b hb => (hd b hb).2) (many_enough h), ring_rep⟩
def circAt (bs : List (Nat × Nat × Nat)) (ring : List Nat) (p k : Nat) : Bool := decide ((ring.getD p 0, ring.getD ((p + (k + 1)) % ring.length) 0, k + 1) ∈ bs)
def circlesB (bs : List (Nat × Nat × Nat)) (ring : List Nat) : Bool := (List.range ring.length).all fun p => (List.range 5).all fun k => !circAt bs ring p k
theorem circles_ring {bs : List (Nat × Nat × Nat)} {ring : List Nat} (hd : ∀ b ∈ bs, 1 ≤ b.2.2 ∧ b.2.2 ≤ 5) : circlesB bs ring = ringKB bs ring := by
  rw [Bool.eq_iff_iff, ringKB_iff]
  simp only [circlesB, circAt, List.all_eq_true, List.mem_range, Bool.not_eq_true', decide_eq_false_iff_not]
  constructor
  · intro h b hb i hi ⟨h1, h2⟩
    have hb' := hd b hb
    refine h i hi (b.2.2 - 1) (by omega) ?_
    have e2 : b.2.2 - 1 + 1 = b.2.2 := by omega
    rw [e2]
    simp [List.getD, h1, h2]
    exact hb
  · intro h p hp k hk hm
    refine h _ hm p hp ⟨by simp [hp], ?_⟩
    have : (p + (k + 1)) % ring.length < ring.length := Nat.mod_lt _ (by omega)
    simp [this]
section
variable {ks : List (Nat × Nat)} {bs : List (Nat × Nat × Nat)} {ring : List Nat} {Q : T × List T → Prop}
theorem wp_circles (hr : ring.length ≤ 100000) (q : Q (.bl (circlesB bs ring), [.tup (bs.map bS), .str ring])) : wp (f_law_circles [.tup (bs.map bS), .str ring]) Q := by
  simp [f_law_circles, b_law_circles, b_law_circles_0, b_law_circles_1]
  refine ⟨by omega, by omega, ?_⟩
  refine wp_loop (fun rest e => ∃ x y : Option T, e = [some (.tup (bs.map bS)), some (.str ring), some (.int ring.length), x, y] ∧ circlesB bs ring = (rest.all fun p => (List.range 5).all fun k => !circAt bs ring p k) ∧ ∀ p ∈ rest, p < ring.length) _ _ ⟨none, none, rfl, rfl, fun p hp => by simpa using hp⟩ (fun p r e ⟨x, y, he, hb, hm⟩ => ?_) fun e ⟨x, y, he, hb, _⟩ => ?_
  · subst he
    have hp := hm p (by simp)
    have hm' : ∀ q ∈ r, q < ring.length := fun q hq => hm q (List.mem_cons_of_mem _ hq)
    rw [List.all_cons] at hb
    simp
    refine wp_loop (w := fun k : Nat => .int (1 + k)) (l := List.range 5) (fun rest e => ∃ y : Option T, e = [some (.tup (bs.map bS)), some (.str ring), some (.int ring.length), some (.int p), y] ∧ ((List.range 5).all fun k => !circAt bs ring p k) = (rest.all fun k => !circAt bs ring p k) ∧ ∀ k ∈ rest, k < 5) _ ⟨y, rfl, rfl, fun k hk => by simpa using hk⟩ (fun k r' e ⟨y, he, hc, hk⟩ => ?_) fun e ⟨y, he, hc, _⟩ => ?_
    · subst he
      have hk' := hk k (by simp)
      have e1 : ((p : Int) + (1 + (k : Int))) % (ring.length : Int) = (((p + (k + 1)) % ring.length : Nat) : Int) := by
        rw [Int.natCast_emod]; congr 1; omega
      have e3 : (p + (k + 1)) % ring.length < ring.length := Nat.mod_lt _ (by omega)
      have e4 : fStr [.int (1 + (k : Int))] = some (.str [48 + (k + 1)]) := by rw [Int.add_comm]; exact str_dig1 (by omega)
      have e6 : circAt bs ring p k = decide ((ring[p], ring[(p + (k + 1)) % ring.length], k + 1) ∈ bs) := by simp [circAt, e3, hp]
      rw [List.all_cons, e6] at hc
      simp [hp, pin_law_circles]
      rw [e1]
      simp [-Int.natCast_emod, e3, e4, in_bars']
      refine ⟨by omega, by omega, by omega, fun h => ?_, fun h => ⟨by simpa [h] using hc, fun j hj => hk j (by simp [hj])⟩⟩
      rw [hc] at hb
      rw [show circlesB bs ring = false by rw [hb]; simp [h]] at q
      exact q
    · subst he
      simp at hc
      simp
      rw [List.all_eq_true.mpr (by simpa using hc), Bool.true_and] at hb
      exact ⟨hb, hm'⟩
  · subst he
    rw [hb] at q
    simpa [b_law_circles_2, pin_law_circles] using q
theorem wp_is_kept_ring (hr : ring.length ≤ 100000) (hd : ∀ b ∈ bs, b.2.2 ≤ 1000) (q : Q (.bl (ringKB bs ring), [rT ks bs, .str ring])) : wp (f_is_kept_ring [rT ks bs, .str ring]) Q := by
  simp [f_is_kept_ring, b_is_kept_ring, b_is_kept_ring_0, b_is_kept_ring_1]
  refine ⟨by omega, ?_⟩
  refine wp_loop (fun rest e => ∃ x y z t : Option T, e = [some (rT ks bs), some (.str ring), some (.int ring.length), x, y, z, t] ∧ ringKB bs ring = (rest.all fun b => (List.range ring.length).all fun i => !brkR b ring i) ∧ ∀ b ∈ rest, b ∈ bs) _ _ ⟨none, none, none, none, rfl, rfl, fun b hb => hb⟩ (fun b r e ⟨x, y, z, t, he, hb, hm⟩ => ?_) fun e ⟨x, y, z, t, he, hb, _⟩ => ?_
  · subst he
    have hbd := hd b (hm b (by simp))
    have hm' : ∀ c ∈ r, c ∈ bs := fun c hc => hm c (List.mem_cons_of_mem _ hc)
    rw [List.all_cons] at hb
    simp [tri]
    refine ⟨by omega, ?_⟩
    refine wp_loop (fun rest e => ∃ t : Option T, e = [some (rT ks bs), some (.str ring), some (.int ring.length), some (.str [b.1]), some (.str [b.2.1]), some (.int b.2.2), t] ∧ ((List.range ring.length).all fun i => !brkR b ring i) = (rest.all fun i => !brkR b ring i) ∧ ∀ i ∈ rest, i < ring.length) _ _ ⟨t, rfl, rfl, fun i hi => by simpa using hi⟩ (fun i r' e ⟨t, he, hc, hi⟩ => ?_) fun e ⟨t, he, hc, _⟩ => ?_
    · subst he
      have hi' := hi i (by simp)
      have e1 : ((i : Int) + (b.2.2 : Int)) % (ring.length : Int) = (((i + b.2.2) % ring.length : Nat) : Int) := by
        rw [Int.natCast_emod]; congr 1
      have e3 : (i + b.2.2) % ring.length < ring.length := Nat.mod_lt _ (by omega)
      have e5 : brkR b ring i = (decide (ring[i] = b.1) && decide (ring[(i + b.2.2) % ring.length] = b.2.1)) := by simp [brkR, e3, hi']
      rw [List.all_cons, e5] at hc
      simp [hi', pin_is_kept_ring]
      rw [e1]
      simp [-Int.natCast_emod, e3]
      refine ⟨by omega, fun h => ⟨by omega, by omega, fun h2 => ?_, fun h2 => ⟨by simpa [h, h2] using hc, fun j hj => hi j (by simp [hj])⟩⟩, fun h => ⟨by simpa [h] using hc, fun j hj => hi j (by simp [hj])⟩⟩
      rw [hc] at hb
      rw [show ringKB bs ring = false by rw [hb]; simp [h, h2]] at q
      exact q
    · subst he
      simp
      rw [hc] at hb
      exact ⟨by simpa using hb, fun x y z h => hm' _ h⟩
  · subst he
    rw [hb] at q
    simpa [b_is_kept_ring_2, pin_is_kept_ring] using q
theorem wp_ring_kept (hr : RowOk ks ring) (h1 : 1 ≤ ring.length) (hl : ring.length ≤ 1000) (hd : ∀ b ∈ bs, b.2.2 ≤ 1000) (q : Q (.bl (ringKB bs ring), [rT ks bs, .str ring])) : wp (f_ring_kept [rT ks bs, .str ring]) Q := by
  have hne : ring ≠ [] := List.length_pos_iff.mp h1
  simp [f_ring_kept, b_ring_kept, b_ring_kept_0]
  refine wp_check_rule ?_
  simp [b_ring_kept_1, f_check_ring, b_check_ring, b_check_ring_0]
  refine wp_check_row hr hl ?_
  simp [b_check_ring_1, hne, b_ring_kept_2]
  refine wp_is_kept_ring (by omega) hd ?_
  simpa using q
theorem wp_ring {s : Sr} {m : Int} (most : Nat) (em : m = most) (h : KOk ks) (hm : most ≤ 1000) (q : ∀ (s' : Sr) (ring : List Nat), RowOk ks ring → 1 ≤ ring.length → ring.length ≤ max 1 most → Q (.str ring, [srT s', pT ks bs, .int m])) : wp (f_law_ring [srT s, pT ks bs, .int m]) Q := by
  have hk1 := h.one
  have hk2 := h.few
  simp [f_law_ring, b_law_ring, b_law_ring_0]
  refine ⟨by omega, wp_draw (by omega) (by omega) fun v s1 hv => ?_⟩
  have hv' : v < ks.length := by omega
  simp [hv', b_law_ring_1]
  refine ⟨by omega, ?_⟩
  let I : List Nat → GK.Env → Prop := fun rest e => ∃ (s' : Sr) (ring : List Nat) (x4 x5 : Option T), e = [some (srT s'), some (pT ks bs), some (.int m), some (.str ring), x4, x5] ∧ RowOk ks ring ∧ 1 ≤ ring.length ∧ ring.length ≤ max 1 most
  refine wp_loop (w := fun i : Nat => T.int i) (l := List.range 4) I _ ⟨s1, [ks[v].1], none, none, rfl, fun c hc => ?_, by simp, by simp; omega⟩ (fun i r e ⟨s2, ring, x4, x5, he, hr, h1, h2⟩ => ?_) fun e ⟨s2, ring, x4, x5, he, hr, h1, h2⟩ => ?_
  · rw [List.mem_singleton.mp hc]; exact List.mem_map_of_mem (List.getElem_mem hv')
  · subst he
    simp [b_law_ring_1_0]
    refine wp_stringI most 0 em rfl h (by omega) (by omega) fun s3 row hrow hlen => ?_
    have fin : ∀ ring : List Nat, RowOk ks ring → 1 ≤ ring.length → ring.length ≤ max 1 most → wp (b_law_ring_1_2 [some (srT s3), some (pT ks bs), some (.int m), some (.str ring), some (.int i), some (.str row)]) (oLoop (I r) (oSeq b_law_ring_2 (oFn pin_law_ring [srT s, pT ks bs, .int m] Q))) := by
      intro ring hr h1 h2
      simp [b_law_ring_1_2]
      refine wp_circles (by omega) ?_
      simp [b_law_ring_2, pin_law_ring]
      exact ⟨fun _ => q s3 ring hr h1 h2, fun _ => ⟨s3, ring, _, _, rfl, hr, h1, h2⟩⟩
    simp [b_law_ring_1_1]
    refine ⟨fun hne => fin row hrow (List.length_pos_iff.mpr hne) (by omega), fun _ => fin ring hr h1 h2⟩
  · subst he
    simp [b_law_ring_2, pin_law_ring]
    exact q s2 ring hr h1 h2
end

/-! the plain part: worths -/
def worthB (ks : List (Nat × Nat)) (row : List Nat) : Int := (row.map fun c => (wOf ks c : Int)).sum
def totalB (ks : List (Nat × Nat)) (row : List Nat) : Int := (ks.map fun k => (k.2 : Int) * ((row.count k.1 : Nat) : Int)).sum
theorem worthB_append (ks : List (Nat × Nat)) (a b : List Nat) : worthB ks (a ++ b) = worthB ks a + worthB ks b := by simp [worthB]
theorem wOf_lt {ks : List (Nat × Nat)} (h : KOk ks) (c : Nat) : wOf ks c < 10 := by
  unfold wOf
  cases e : ks.find? (fun k => k.1 == c) with
  | none => simp
  | some k => simpa using h.dig k (List.mem_of_find?_eq_some e)
theorem worthB_le {ks : List (Nat × Nat)} (h : KOk ks) : ∀ row : List Nat, 0 ≤ worthB ks row ∧ worthB ks row ≤ 9 * row.length
  | [] => by simp [worthB]
  | c :: r => by
    have ih := worthB_le h r
    have := wOf_lt h c
    have e : worthB ks (c :: r) = (wOf ks c : Int) + worthB ks r := by simp [worthB]
    rw [e]
    simp
    omega
theorem wOf_cons_self (k : Nat × Nat) (r : List (Nat × Nat)) : wOf (k :: r) k.1 = k.2 := by simp [wOf]
theorem wOf_cons_ne {k : Nat × Nat} {r : List (Nat × Nat)} {c : Nat} (h : k.1 ≠ c) : wOf (k :: r) c = wOf r c := by simp [wOf, h]
theorem total_cons {c : Nat} {row : List Nat} : ∀ {ks : List (Nat × Nat)}, (ks.map (·.1)).Nodup → totalB ks (c :: row) = totalB ks row + (if c ∈ ks.map (·.1) then (wOf ks c : Int) else 0)
  | [], _ => by simp [totalB]
  | k :: r, h => by
    rw [List.map_cons] at h
    obtain ⟨h1, h2⟩ := List.nodup_cons.mp h
    have ih := total_cons (c := c) (row := row) h2
    have e1 : ∀ row, totalB (k :: r) row = (k.2 : Int) * ((row.count k.1 : Nat) : Int) + totalB r row := fun row => by simp [totalB]
    rw [e1, e1, ih]
    by_cases hk : k.1 = c
    · subst hk
      rw [if_neg h1, if_pos (by simp), wOf_cons_self, List.count_cons_self]
      simp only [Int.natCast_add, Int.mul_add]
      omega
    · have hk2 : ¬ c = k.1 := fun e => hk e.symm
      rw [List.count_cons_of_ne hk2, wOf_cons_ne hk]
      have e2 : c ∈ List.map (·.1) (k :: r) ↔ c ∈ List.map (·.1) r := by rw [List.map_cons, List.mem_cons]; exact ⟨fun h => h.resolve_left hk2, .inr⟩
      simp only [e2]
      omega
theorem total_worth {ks : List (Nat × Nat)} (h : KOk ks) : ∀ row : List Nat, RowOk ks row → totalB ks row = worthB ks row
  | [], _ => by
    have : ∀ l : List (Nat × Nat), (l.map fun k => (k.2 : Int) * (([] : List Nat).count k.1 : Nat)).sum = 0 := fun l => by
      induction l with
      | nil => rfl
      | cons a r ih => simpa using ih
    simp [totalB, worthB]
    simpa using this ks
  | c :: r, hr => by
    rw [total_cons (ks_nodup h), total_worth h r fun c hc => hr c (List.mem_cons_of_mem _ hc), if_pos (hr c List.mem_cons_self)]
    simp [worthB]
    omega
theorem worth_letters {ks : List (Nat × Nat)} (h : (ks.map (·.1)).Nodup) : worthB ks (ks.map (·.1)) = (ks.map fun k => (k.2 : Int)).sum := by
  unfold worthB
  rw [List.map_map]
  congr 1
  refine List.map_congr_left fun k hk => ?_
  show ((wOf ks k.1 : Nat) : Int) = _
  congr 1
  induction ks with
  | nil => cases hk
  | cons a r ih =>
    rw [List.map_cons] at h
    obtain ⟨h1, h2⟩ := List.nodup_cons.mp h
    rcases List.mem_cons.mp hk with rfl | hk
    · exact wOf_cons_self k r
    · have : a.1 ≠ k.1 := fun e => h1 (by rw [e]; exact List.mem_map_of_mem hk)
      rw [wOf_cons_ne this]
      exact ih h2 hk
section
variable {ks : List (Nat × Nat)} {bs : List (Nat × Nat × Nat)} {row : List Nat} {Q : T × List T → Prop}
end
theorem repr_int {i : Int} (h : i.natAbs < 1000000000000) : ∃ r, fRepr [.int i] = some (.str r) := repr_of (rp_int h (by decide))

/-! the plain part: rules and rings from the other end, rings begun elsewhere -/
def swapB (b : Nat × Nat × Nat) : Nat × Nat × Nat := (b.2.1, b.1, b.2.2)
theorem swap_inj {a b : Nat × Nat × Nat} (h : swapB a = swapB b) : a = b := by
  obtain ⟨a1, a2, a3⟩ := a
  obtain ⟨b1, b2, b3⟩ := b
  simp [swapB] at h
  simp [h]
def cyc (ring : List Nat) (i : Nat) : Option Nat := ring[i % ring.length]?
theorem cyc_add (ring : List Nat) (i m : Nat) : cyc ring (i + ring.length * m) = cyc ring i := by unfold cyc; rw [Nat.add_mul_mod_self_left]
theorem ringKB_cyc {bs : List (Nat × Nat × Nat)} {ring : List Nat} (h1 : 1 ≤ ring.length) : ringKB bs ring = true ↔ ∀ b ∈ bs, ∀ i, ¬ (cyc ring i = some b.1 ∧ cyc ring (i + b.2.2) = some b.2.1) := by
  rw [ringKB_iff]
  constructor
  · intro h b hb i ⟨e1, e2⟩
    refine h b hb (i % ring.length) (Nat.mod_lt _ h1) ⟨e1, ?_⟩
    rw [← e2]
    unfold cyc
    rw [Nat.mod_add_mod]
  · intro h b hb i hi ⟨e1, e2⟩
    refine h b hb i ⟨?_, e2⟩
    unfold cyc
    rw [Nat.mod_eq_of_lt hi]; exact e1
theorem cyc_moved {ring : List Nat} {k : Nat} (hk : k ≤ ring.length) (h1 : 1 ≤ ring.length) (i : Nat) : cyc (ring.drop k ++ ring.take k) i = cyc ring (i + k) := by
  have hl : (ring.drop k ++ ring.take k).length = ring.length := by simp; omega
  unfold cyc
  rw [hl]
  have hi := Nat.mod_lt i h1
  have e : (i + k) % ring.length = if i % ring.length < ring.length - k then i % ring.length + k else i % ring.length - (ring.length - k) := by
    rw [← Nat.mod_add_mod]
    split
    · rw [Nat.mod_eq_of_lt (by omega)]
    · rw [Nat.mod_eq_sub_mod (by omega), Nat.mod_eq_of_lt (by omega)]
      omega
  rw [e, List.getElem?_append]
  simp only [List.length_drop]
  split
  · rw [List.getElem?_drop, Nat.add_comm]
  · rw [List.getElem?_take_of_lt (by omega)]
theorem ring_moved {bs : List (Nat × Nat × Nat)} {ring : List Nat} {k : Nat} (hk : k ≤ ring.length) (h1 : 1 ≤ ring.length) : ringKB bs (ring.drop k ++ ring.take k) = ringKB bs ring := by
  have hl : (ring.drop k ++ ring.take k).length = ring.length := by simp; omega
  rw [Bool.eq_iff_iff, ringKB_cyc (by omega), ringKB_cyc h1]
  constructor
  · intro h b hb i ⟨e1, e2⟩
    refine h b hb (i + ring.length * k - k) ⟨?_, ?_⟩
    · rw [cyc_moved hk h1]
      have : i + ring.length * k - k + k = i + ring.length * k := by have := Nat.le_mul_of_pos_left k h1; omega
      rw [this, cyc_add]; exact e1
    · rw [cyc_moved hk h1]
      have : i + ring.length * k - k + b.2.2 + k = i + b.2.2 + ring.length * k := by have := Nat.le_mul_of_pos_left k h1; omega
      rw [this, cyc_add]; exact e2
  · intro h b hb i ⟨e1, e2⟩
    refine h b hb (i + k) ⟨?_, ?_⟩
    · rw [← cyc_moved hk h1]; exact e1
    · have : i + k + b.2.2 = i + b.2.2 + k := by omega
      rw [this, ← cyc_moved hk h1]; exact e2
theorem cyc_rep {ring : List Nat} {m : Nat} (hm : 1 ≤ m) (h1 : 1 ≤ ring.length) (i : Nat) : cyc (rep m ring) i = cyc ring i := by
  unfold cyc
  rw [rep_len, rep_get _ _ _ (Nat.mod_lt _ (Nat.mul_pos hm h1)), Nat.mod_mul_left_mod]
theorem ring_reps {bs : List (Nat × Nat × Nat)} {ring : List Nat} {m : Nat} (hm : 1 ≤ m) (h1 : 1 ≤ ring.length) : ringKB bs (rep m ring) = ringKB bs ring := by
  rw [Bool.eq_iff_iff, ringKB_cyc (by rw [rep_len]; exact Nat.mul_pos hm h1), ringKB_cyc h1]
  simp only [cyc_rep hm h1]
theorem cyc_reverse {ring : List Nat} (h1 : 1 ≤ ring.length) (i : Nat) : cyc ring.reverse i = cyc ring (ring.length - 1 - i % ring.length) := by
  unfold cyc
  rw [List.length_reverse, List.getElem?_reverse (Nat.mod_lt i h1), Nat.mod_eq_of_lt (show ring.length - 1 - i % ring.length < ring.length by omega)]
theorem cyc_step {ring : List Nat} (h1 : 1 ≤ ring.length) (i d : Nat) : cyc ring (ring.length - 1 - (i + d) % ring.length + d) = cyc ring (ring.length - 1 - i % ring.length) := by
  have a1 := Nat.div_add_mod i ring.length
  have a2 := Nat.div_add_mod (i + d) ring.length
  have a3 := Nat.mod_lt i h1
  have a4 := Nat.mod_lt (i + d) h1
  have a5 : i / ring.length ≤ (i + d) / ring.length := Nat.div_le_div_right (by omega)
  obtain ⟨k, hk⟩ : ∃ k, (i + d) / ring.length = i / ring.length + k := ⟨_, (Nat.add_sub_cancel' a5).symm⟩
  rw [hk, Nat.mul_add] at a2
  have : ring.length - 1 - (i + d) % ring.length + d = ring.length - 1 - i % ring.length + ring.length * k := by
    generalize ring.length * k = y at *
    generalize ring.length * (i / ring.length) = x at *
    omega
  rw [this, cyc_add]
theorem ring_reverse {bs cs : List (Nat × Nat × Nat)} {ring : List Nat} (hp : cs.Perm (bs.map swapB)) (h1 : 1 ≤ ring.length) : ringKB cs ring.reverse = ringKB bs ring := by
  rw [Bool.eq_iff_iff, ringKB_cyc (by simpa using h1), ringKB_cyc h1]
  constructor
  · intro h b hb i ⟨e1, e2⟩
    have hc : swapB b ∈ cs := hp.mem_iff.mpr (List.mem_map_of_mem hb)
    refine h _ hc (ring.length - 1 - (i + b.2.2) % ring.length) ⟨?_, ?_⟩
    · rw [cyc_reverse h1]
      show cyc ring _ = some b.2.1
      have := Nat.mod_lt (i + b.2.2) h1
      rw [Nat.mod_eq_of_lt (show ring.length - 1 - (i + b.2.2) % ring.length < ring.length by omega)]
      have e : ring.length - 1 - (ring.length - 1 - (i + b.2.2) % ring.length) = (i + b.2.2) % ring.length := by omega
      rw [e, ← e2]
      unfold cyc
      rw [Nat.mod_mod]
    · show cyc ring.reverse (_ + b.2.2) = some b.1
      have := cyc_step (ring := ring.reverse) (by simpa using h1) i b.2.2
      rw [List.length_reverse] at this
      rw [this, cyc_reverse h1]
      have h3 := Nat.mod_lt i h1
      rw [Nat.mod_eq_of_lt (show ring.length - 1 - i % ring.length < ring.length by omega)]
      have e : ring.length - 1 - (ring.length - 1 - i % ring.length) = i % ring.length := by omega
      rw [e, ← e1]
      unfold cyc
      rw [Nat.mod_mod]
  · intro h c hc i ⟨e1, e2⟩
    obtain ⟨b, hb, rfl⟩ := List.mem_map.mp (hp.mem_iff.mp hc)
    refine h b hb (ring.length - 1 - (i + b.2.2) % ring.length) ⟨?_, ?_⟩
    · rw [← cyc_reverse h1]; exact e2
    · rw [cyc_step h1, ← cyc_reverse h1]; exact e1
theorem kept_drop {bs : List (Nat × Nat × Nat)} {row : List Nat} {k : Nat} (h : keptB bs row = true) : keptB bs (row.drop k) = true := by
  rw [keptB_iff] at h ⊢
  intro b hb i ⟨e1, e2⟩
  rw [List.getElem?_drop] at e1 e2
  exact h b hb (k + i) ⟨e1, by rw [Nat.add_assoc]; exact e2⟩
theorem kept_take {bs : List (Nat × Nat × Nat)} {row : List Nat} {k : Nat} (h : keptB bs row = true) : keptB bs (row.take k) = true := by
  rw [keptB_iff] at h ⊢
  intro b hb i ⟨e1, e2⟩
  rw [List.getElem?_take] at e1 e2
  split at e1
  · split at e2
    · exact h b hb i ⟨e1, e2⟩
    · cases e2
  · cases e1
theorem kept_cut {bs : List (Nat × Nat × Nat)} {row : List Nat} {a b : Option Int} (h : keptB bs row = true) : keptB bs (cutL row a b) = true := kept_take (kept_drop h)
theorem worth_rep (ks : List (Nat × Nat)) (ring : List Nat) : ∀ m : Nat, worthB ks (rep m ring) = m * worthB ks ring
  | 0 => by simp [rep, worthB]
  | m + 1 => by
    rw [rep_succ, worthB_append, worth_rep ks ring m]
    push_cast
    rw [Int.add_mul, Int.one_mul, Int.add_comm]
theorem worth_moved (ks : List (Nat × Nat)) (ring : List Nat) (k : Nat) : worthB ks (ring.drop k ++ ring.take k) = worthB ks ring := by
  conv => rhs; rw [← List.take_append_drop k ring]
  rw [worthB_append, worthB_append, Int.add_comm]

/-! the plain part: what a row lets behind it -/
def barOk (row : List Nat) (b : Nat × Nat × Nat) : Bool := !(decide (b.2.2 ≤ row.length) && row[row.length - b.2.2]? == some b.1)
def kindOk (row : List Nat) (k : Nat) (b : Nat × Nat × Nat) : Bool := !(b.2.1 == k) || barOk row b
def fitsB (bs : List (Nat × Nat × Nat)) (row : List Nat) (k : Nat) : Bool := bs.all (kindOk row k)
theorem barOk_iff {row : List Nat} {b : Nat × Nat × Nat} : barOk row b = false ↔ b.2.2 ≤ row.length ∧ row[row.length - b.2.2]? = some b.1 := by simp [barOk]
theorem fitsB_iff {bs : List (Nat × Nat × Nat)} {row : List Nat} {k : Nat} : fitsB bs row k = true ↔ ∀ b ∈ bs, ¬ (b.2.1 = k ∧ b.2.2 ≤ row.length ∧ row[row.length - b.2.2]? = some b.1) := by
  simp only [fitsB, List.all_eq_true, kindOk]
  refine forall_congr' fun b => forall_congr' fun hb => ?_
  rw [Bool.or_eq_true, ← Bool.not_eq_false (barOk row b), barOk_iff]
  by_cases h : b.2.1 = k
  · simp [h]
  · simp [h]
theorem kept_snoc {bs : List (Nat × Nat × Nat)} {row : List Nat} {k : Nat} (hd : ∀ b ∈ bs, 1 ≤ b.2.2) : keptB bs (row ++ [k]) = (keptB bs row && fitsB bs row k) := by
  rw [Bool.eq_iff_iff, Bool.and_eq_true, keptB_iff, keptB_iff, fitsB_iff]
  constructor
  · intro h
    refine ⟨fun b hb i ⟨h1, h2⟩ => h b hb i ⟨?_, ?_⟩, fun b hb ⟨h1, h2, h3⟩ => h b hb (row.length - b.2.2) ⟨?_, ?_⟩⟩
    · rw [List.getElem?_append_left (List.getElem?_eq_some_iff.mp h1).1]; exact h1
    · rw [List.getElem?_append_left (List.getElem?_eq_some_iff.mp h2).1]; exact h2
    · rw [List.getElem?_append_left (by have := hd b hb; omega)]; exact h3
    · have : row.length - b.2.2 + b.2.2 = row.length := by omega
      rw [this]; simp [h1]
  · intro ⟨h1, h2⟩ b hb i ⟨e1, e2⟩
    have hb1 := hd b hb
    have l2 := (List.getElem?_eq_some_iff.mp e2).1
    simp at l2
    by_cases hi : i + b.2.2 < row.length
    · rw [List.getElem?_append_left hi] at e2
      rw [List.getElem?_append_left (by omega)] at e1
      exact h1 b hb i ⟨e1, e2⟩
    · have : i + b.2.2 = row.length := by omega
      rw [List.getElem?_append_left (by omega)] at e1
      rw [this] at e2
      simp at e2
      refine h2 b hb ⟨e2.symm, by omega, ?_⟩
      have : row.length - b.2.2 = i := by omega
      rw [this]; exact e1

/-! the plain part: reach, repr of lists -/
theorem imax_ge : ∀ (l : List Int) (m : Int), m ≤ imax m l ∧ ∀ x ∈ l, x ≤ imax m l
  | [], m => ⟨Int.le_refl _, fun _ h => nomatch h⟩
  | a :: r, m => by
    have ⟨h1, h2⟩ := imax_ge r (if m < a then a else m)
    unfold imax
    have h3 : m ≤ (if m < a then a else m) ∧ a ≤ (if m < a then a else m) := by split <;> omega
    refine ⟨Int.le_trans h3.1 h1, fun x hx => ?_⟩
    rcases List.mem_cons.mp hx with rfl | hx
    · exact Int.le_trans h3.2 h1
    · exact h2 x hx
theorem imax_le {b : Int} : ∀ (l : List Int) (m : Int), m ≤ b → (∀ x ∈ l, x ≤ b) → imax m l ≤ b
  | [], m, h, _ => h
  | a :: r, m, h, hl => by
    unfold imax
    exact imax_le r _ (by have := hl a (by simp); split <;> omega) fun x hx => hl x (List.mem_cons_of_mem _ hx)
theorem reachOf_le {bs : List (Nat × Nat × Nat)} (h : ∀ b ∈ bs, 1 ≤ b.2.2 ∧ b.2.2 ≤ 5) : 1 ≤ reachOf bs ∧ reachOf bs ≤ 5 := by
  refine ⟨(imax_ge _ _).1, imax_le _ _ (by decide) fun x hx => ?_⟩
  obtain ⟨b, hb, rfl⟩ := List.mem_map.mp hx
  have := h b hb
  omega
theorem reach_nat {bs : List (Nat × Nat × Nat)} (h : ∀ b ∈ bs, 1 ≤ b.2.2 ∧ b.2.2 ≤ 5) : ∃ F : Nat, reachOf bs = F ∧ 1 ≤ F ∧ F ≤ 5 ∧ ∀ b ∈ bs, b.2.2 ≤ F := by
  have ⟨h1, h2⟩ := reachOf_le h
  obtain ⟨F, hF⟩ := Int.eq_ofNat_of_zero_le (show 0 ≤ reachOf bs by omega)
  refine ⟨F, hF, by omega, by omega, fun b hb => ?_⟩
  have := (imax_ge (bs.map fun b => (b.2.2 : Int)) 1).2 _ (List.mem_map_of_mem hb)
  change (b.2.2 : Int) ≤ reachOf bs at this
  omega
theorem repr_own {o o' : Bool} {xs : List T} : fRepr [.lst o xs] = fRepr [.lst o' xs] := by
  have : (T.lst o xs).data = (T.lst o' xs).data := by simp [T.data]
  simp only [fRepr, this]

/-! the plain part: reach, parts of rows, the first broken bar -/
theorem kept_windows {bs : List (Nat × Nat × Nat)} {row : List Nat} {F : Nat} (h : ∀ b ∈ bs, b.2.2 ≤ F) : ((List.range row.length).all fun k => keptB bs ((row.take (k + F + 1)).drop k)) = keptB bs row := by
  rw [Bool.eq_iff_iff, List.all_eq_true]
  constructor
  · intro hk
    rw [keptB_iff]
    intro b hb i ⟨e1, e2⟩
    have hi : i < row.length := (List.getElem?_eq_some_iff.mp e1).1
    have := hk i (List.mem_range.mpr hi)
    rw [keptB_iff] at this
    have hbf := h b hb
    refine this b hb 0 ⟨?_, ?_⟩
    · rw [List.getElem?_drop, List.getElem?_take_of_lt (by omega)]; exact e1
    · rw [List.getElem?_drop, List.getElem?_take_of_lt (by omega), Nat.zero_add]; exact e2
  · exact fun hk k _ => kept_drop (kept_take hk)
theorem kept_rev1 {bs cs : List (Nat × Nat × Nat)} {row : List Nat} (hp : ∀ b ∈ bs, swapB b ∈ cs) (h : keptB cs row.reverse = true) : keptB bs row = true := by
  rw [keptB_iff] at h ⊢
  intro b hb i ⟨e1, e2⟩
  have hi : i + b.2.2 < row.length := (List.getElem?_eq_some_iff.mp e2).1
  refine h _ (hp b hb) (row.length - 1 - (i + b.2.2)) ⟨?_, ?_⟩
  · rw [List.getElem?_reverse (by omega)]
    show _ = some b.2.1
    rw [← e2]; congr 1; omega
  · show row.reverse[row.length - 1 - (i + b.2.2) + b.2.2]? = some b.1
    rw [List.getElem?_reverse (by omega), ← e1]; congr 1; omega
theorem kept_rev {bs cs : List (Nat × Nat × Nat)} {row : List Nat} (hp : cs.Perm (bs.map swapB)) : keptB cs row.reverse = keptB bs row := by
  rw [Bool.eq_iff_iff]
  refine ⟨kept_rev1 fun b hb => hp.mem_iff.mpr (List.mem_map_of_mem hb), fun h => kept_rev1 (cs := bs) (fun c hc => ?_) (by rw [List.reverse_reverse]; exact h)⟩
  obtain ⟨b, hb, rfl⟩ := List.mem_map.mp (hp.mem_iff.mp hc)
  exact hb
theorem fits_tail {bs : List (Nat × Nat × Nat)} {row : List Nat} {k F : Nat} (h : ∀ b ∈ bs, 1 ≤ b.2.2 ∧ b.2.2 ≤ F) : fitsB bs (row.drop (row.length - F)) k = fitsB bs row k := by
  rw [Bool.eq_iff_iff, fitsB_iff, fitsB_iff]
  refine forall_congr' fun b => forall_congr' fun hb => ?_
  have := h b hb
  by_cases hd : b.2.2 ≤ row.length
  · have e : row.length - F + ((row.drop (row.length - F)).length - b.2.2) = row.length - b.2.2 := by simp; omega
    have e2 : b.2.2 ≤ (row.drop (row.length - F)).length := by simp; omega
    rw [List.getElem?_drop, e]
    simp only [hd, e2]
  · have e2 : ¬ b.2.2 ≤ (row.drop (row.length - F)).length := by simp; omega
    simp only [hd, e2, false_and, and_false]
theorem range_split {n a : Nat} {l1 l2 : List Nat} (h : List.range n = l1 ++ a :: l2) : ∀ q, q < a → q ∈ l1 := by
  intro q hq
  have hp := List.pairwise_lt_range (n := n)
  have ha : a < n := by
    have : a ∈ List.range n := by rw [h]; simp
    simpa using this
  have hm : q ∈ List.range n := List.mem_range.mpr (by omega)
  rw [h] at hp hm
  rcases List.mem_append.mp hm with hm | hm
  · exact hm
  · have h3 := (List.pairwise_append.mp hp).2.1
    rcases List.mem_cons.mp hm with rfl | hm
    · omega
    · have := (List.pairwise_cons.mp h3).1 q hm
      omega
theorem first_some {bs : List (Nat × Nat × Nat)} {row : List Nat} {p d : Nat} (h : firstP bs row = some (p, d)) : p < row.length ∧ 1 ≤ d ∧ d ≤ 5 ∧ d ≤ p ∧ brkAt bs row p d = true ∧ ∀ q, q < p → brokenB bs row q = false := by
  obtain ⟨l1, a, l2, h1, h2, h3⟩ := List.findSome?_eq_some_iff.mp h
  have ha : a ∈ List.range row.length := by rw [h1]; simp
  unfold firstIn at h2
  obtain ⟨k, h4, h5⟩ := Option.map_eq_some_iff.mp h2
  have hk := List.mem_of_find?_eq_some h4
  have hk2 := List.find?_some h4
  simp only [Prod.mk.injEq] at h5
  obtain ⟨rfl, rfl⟩ := h5
  simp at ha hk hk2
  refine ⟨ha, by omega, by omega, by omega, hk2, fun q hq => ?_⟩
  have := h3 q (range_split h1 q hq)
  unfold firstIn at this
  rw [Option.map_eq_none_iff, List.find?_eq_none] at this
  unfold brokenB
  rw [List.any_eq_false]
  exact this
theorem first_parts {bs : List (Nat × Nat × Nat)} {row : List Nat} {p d : Nat} (hd : ∀ b ∈ bs, 1 ≤ b.2.2 ∧ b.2.2 ≤ 5) (h : firstP bs row = some (p, d)) : keptB bs (row.take p) = true ∧ keptB bs (row.take (p + 1)) = false ∧ keptB bs ((row.take (p + 1)).drop (p - d)) = false := by
  obtain ⟨h1, h2, h3, h4, h5, h6⟩ := first_some h
  have h5' : (row.getD (p - d) 0, row.getD p 0, d) ∈ bs := by simpa [brkAt] using h5
  have g : ∀ i, i < row.length → row[i]? = some (row.getD i 0) := fun i hi => by simp [hi]
  have c3 : keptB bs ((row.take (p + 1)).drop (p - d)) = false := by
    rw [← Bool.not_eq_true, keptB_iff]
    intro hk
    refine hk _ h5' 0 ⟨?_, ?_⟩
    · rw [List.getElem?_drop, List.getElem?_take_of_lt (by omega)]; exact g _ (by omega)
    · show ((row.take (p + 1)).drop (p - d))[0 + d]? = some (row.getD p 0)
      rw [List.getElem?_drop, List.getElem?_take_of_lt (by omega), ← g p h1]; congr 1; omega
  refine ⟨?_, ?_, c3⟩
  · rw [← keeps_kept hd]
    unfold keepsB
    rw [List.all_eq_true]
    intro q hq
    have hq' : q < p := by simp at hq; omega
    have := h6 q hq'
    have e : brokenB bs (row.take p) q = brokenB bs row q := by
      unfold brokenB brkAt
      refine List.any_congr rfl fun k => ?_
      have e1 : (row.take p).getD (q - (k + 1)) 0 = row.getD (q - (k + 1)) 0 := by rw [List.getD_eq_getElem?_getD, List.getD_eq_getElem?_getD, List.getElem?_take_of_lt (by omega)]
      have e2 : (row.take p).getD q 0 = row.getD q 0 := by rw [List.getD_eq_getElem?_getD, List.getD_eq_getElem?_getD, List.getElem?_take_of_lt (by omega)]
      rw [e1, e2]
    rw [e, this]; rfl
  · rw [← Bool.not_eq_true]
    intro hk
    rw [kept_drop hk] at c3
    cases c3

/-! the plain part: a rule with a bar more -/
theorem join_kinds {ks : List (Nat × Nat)} {o : Bool} (h : ks.length ≤ 4) : fJoin (.str [32]) (.lst o (T.str KW :: ks.map fun k => T.str (kword k))) = some (.str (kline ks)) := by
  have e1 : (T.str KW :: ks.map fun k => T.str (kword k)) = (KW :: ks.map kword).map fun z => .str z := by simp [Function.comp_def]
  have j1 := join_sum 32 5 (KW :: ks.map kword) fun p hp => by
    rcases List.mem_cons.mp hp with rfl | hp
    · decide
    · obtain ⟨k, hk, rfl⟩ := List.mem_map.mp hp
      simp [kword]
  rw [e1, fJoin_strs]
  simp only [List.map_id', List.map_id]
  rw [if_pos]
  · rfl
  · simp at j1 ⊢; omega
theorem join_bars {bs : List (Nat × Nat × Nat)} {o : Bool} (h : bs.length ≤ 1000) : fJoin (.str [32]) (.lst o (T.str BW :: bs.map bS)) = some (.str (bline bs)) := by
  have e2 : (T.str BW :: bs.map bS) = (BW :: bs.map bword).map fun z => .str z := by simp [Function.comp_def, bS]
  have j2 := join_sum 32 5 (BW :: bs.map bword) fun p hp => by
    rcases List.mem_cons.mp hp with rfl | hp
    · decide
    · obtain ⟨k, hk, rfl⟩ := List.mem_map.mp hp
      simp [bword]
  rw [e2, fJoin_strs]
  simp only [List.map_id', List.map_id]
  rw [if_pos]
  · rfl
  · simp at j2 ⊢; omega
theorem zipT_map (ks : List (Nat × Nat)) : zipT (ks.map (·.1)) (ks.map fun k => .int k.2) = ks.map fun k => .tup [.str [k.1], .int k.2] := by
  unfold zipT
  rw [List.zip_map', List.map_map]
  rfl
theorem sort_bok {L : List Nat} {B : List (Nat × Nat × Nat)} (hL : ∀ c ∈ L, c ∈ L26) (hn : B.Nodup) (hB : ∀ b ∈ B, b.1 ∈ L ∧ b.2.1 ∈ L ∧ 1 ≤ b.2.2 ∧ b.2.2 ≤ 5) (hl : B.length ≤ 40) {a : Bool} : ∃ cs, BOk L cs ∧ cs.Perm B ∧ fSortTx [.lst a (B.map bS)] = some (.lst true (cs.map bS)) := by
  have e1 : fSortTx [.lst a (B.map bS)] = some (.lst true ((isort leS (B.map bword)).map .str)) := fSortTx_strs (f := bword)
  have pB := isort_perm (le := fun a b => leS (bword a) (bword b)) B
  have ris : (isort leS (B.map bword)).Pairwise (· < ·) := leS_strict (List.pairwise_map.mpr (hn.imp fun hne e => hne (bword_inj e)))
  rw [isort_map] at e1 ris
  rw [← bS_map] at e1
  generalize isort (fun a b => leS (bword a) (bword b)) B = bs at *
  have hm : ∀ b ∈ bs, b.1 ∈ L ∧ b.2.1 ∈ L ∧ 1 ≤ b.2.2 ∧ b.2.2 ≤ 5 := fun b hb => hB b (pB.mem_iff.mp hb)
  have hbl := pB.length_eq
  exact ⟨bs, ⟨hL, fun b hb => (hm b hb).1, fun b hb => (hm b hb).2.1, fun b hb => (hm b hb).2.2, ris, by omega⟩, pB, e1⟩
theorem BOk.nodup {L : List Nat} {bs : List (Nat × Nat × Nat)} (h : BOk L bs) : bs.Nodup := by
  have := List.pairwise_map.mp h.ris
  exact this.imp fun {a b} hlt e => by rw [e] at hlt; exact List.lt_irrefl _ hlt
theorem BOk.ext {L : List Nat} {bs cs : List (Nat × Nat × Nat)} (h : BOk L bs) (h' : BOk L cs) (e : ∀ b, b ∈ bs ↔ b ∈ cs) : bs = cs := by
  have p : (bs.map bword).Perm (cs.map bword) := ((List.perm_ext_iff_of_nodup h.nodup h'.nodup).mpr e).map _
  have q := p.eq_of_pairwise (le := (· < ·)) (fun a b _ _ h1 h2 => absurd h2 (List.lt_asymm h1)) h.ris h'.ris
  have inj : ∀ l l' : List (Nat × Nat × Nat), l.map bword = l'.map bword → l = l' := fun l => by
    induction l with
    | nil => intro l' e; cases l' with | nil => rfl | cons _ _ => simp at e
    | cons a r ih => intro l' e; cases l' with
      | nil => simp at e
      | cons b r' =>
        rw [List.map_cons, List.map_cons, List.cons.injEq] at e
        rw [bword_inj e.1, ih r' e.2]
  exact inj _ _ q
theorem wp_text_with {ks : List (Nat × Nat)} {B : List (Nat × Nat × Nat)} {Q : T × List T → Prop} (h : KOk ks) (hn : B.Nodup) (hB : ∀ b ∈ B, b.1 ∈ ks.map (·.1) ∧ b.2.1 ∈ ks.map (·.1) ∧ 1 ≤ b.2.2 ∧ b.2.2 ≤ 5) (hl : B.length ≤ 40)
    (q : ∀ cs, BOk (ks.map (·.1)) cs → (∀ b, b ∈ cs ↔ b ∈ B) → Q (.str (rtext ks cs), [.str (ks.map (·.1)), .tup (ks.map fun k => .int k.2), .lst false (B.map bS)])) : wp (f_text_with [.str (ks.map (·.1)), .tup (ks.map fun k => .int k.2), .lst false (B.map bS)]) Q := by
  have hf := h.few
  obtain ⟨cs, c1, c2, c3⟩ := sort_bok (a := false) (fun c hc => by obtain ⟨k, hk, rfl⟩ := List.mem_map.mp hc; exact h.low k hk) hn hB hl
  have := q cs c1 fun b => c2.mem_iff
  have f1 := kline_len h
  have f2 := bline_len c1
  have hc := c1.few
  have g1 := join_kinds (o := false) hf
  have g2 := join_bars (o := true) (bs := cs) (by omega)
  unfold KW at g1
  unfold BW at g2
  have e0 := zipT_map ks
  revert this g1 e0
  generalize ks.map (·.1) = L
  generalize (ks.map fun k => T.int (k.2 : Int)) = PT
  intro this g1 e0
  simp [f_text_with, b_text_with, b_text_with_0, e0, -List.map_map]
  refine wp_lcGo (fun k => .str (kword k)) (fun k hk => ?_) ?_
  · have hd := h.dig k hk
    simp [str_dig hd, kword]
  · simp [b_text_with_1, c3]
    rw [g1, g2]
    refine ⟨by omega, fun x _ _ _ e => by subst e; rfl, by omega, ?_⟩
    simp
    refine ⟨by omega, by omega, by omega, ?_⟩
    simpa [rtext, TL.joinL] using this
theorem wp_bar {ks : List (Nat × Nat)} {bs : List (Nat × Nat × Nat)} {b : Nat × Nat × Nat} {Q : T × List T → Prop} (h : KOk ks) (hb : BOk (ks.map (·.1)) bs) (h1 : b.1 ∈ ks.map (·.1)) (h2 : b.2.1 ∈ ks.map (·.1)) (h3 : 1 ≤ b.2.2 ∧ b.2.2 ≤ 5) (hn : b ∉ bs) (hl : bs.length < 40)
    (q : ∀ cs, BOk (ks.map (·.1)) cs → (∀ x, x ∈ cs ↔ x = b ∨ x ∈ bs) → Q (.obj true "Rule" (fsR ks cs), [rT ks bs, bS b])) : wp (f_Rule_bar [rT ks bs, bS b]) Q := by
  have e1 := is_bar_fn h1 h2 h3
  have e2 : cIn false (bS b) (.tup (bs.map bS)) = some (.bl false) := by
    have := in_bars' (x := b.1) (y := b.2.1) (d := b.2.2) (bs := bs) (k := false)
    rw [show bS b = .str [b.1, b.2.1, 48 + b.2.2] from rfl, this]
    simp [hn]
  have e3 : bs.map bS ++ [bS b] = (bs ++ [b]).map bS := by simp
  have e4 : f_is_bar [T.str (ks.map (·.1)), bS b] = some (T.bl true, [T.str (ks.map (·.1)), T.str (bword b)]) := e1
  have hbf : bs.length ≤ 40 := by omega
  simp [f_Rule_bar, b_Rule_bar, b_Rule_bar_0]
  rw [e4, e2]
  simp [b_Rule_bar_1]
  refine ⟨by omega, fun _ => ⟨by omega, ?_⟩⟩
  have e5 : T.fzs (bs.map bS ++ [bS b]) = (bs ++ [b]).map bS := by rw [e3]; simp [-List.map_append]
  rw [e5]
  refine wp_text_with h (B := bs ++ [b]) ?_ (fun x hx => ?_) (by simp; omega) fun cs c1 c2 => ?_
  · rw [List.nodup_append]
    exact ⟨hb.nodup, by simp, fun a ha c hc e => hn (by rw [List.mem_singleton] at hc; subst hc; subst e; exact ha)⟩
  · rcases List.mem_append.mp hx with hx | hx
    · exact ⟨hb.one x hx, hb.two x hx, hb.dis x hx⟩
    · rw [List.mem_singleton.mp hx]; exact ⟨h1, h2, h3⟩
  · simp
    refine wp_make h c1 ?_
    simp [pin_Rule_bar, bS]
    exact q cs c1 fun x => by rw [c2, List.mem_append, List.mem_singleton]; exact Or.comm

/-! the plain part: k75 -/
theorem bar_form (b : Nat × Nat × Nat) : bS b = .str [b.1, b.2.1, 48 + b.2.2] := rfl
theorem in_barsB {b : Nat × Nat × Nat} {bs : List (Nat × Nat × Nat)} {k : Bool} : cIn k (bS b) (.tup (bs.map bS)) = some (.bl (if k then !decide (b ∈ bs) else decide (b ∈ bs))) := in_bars' (x := b.1) (y := b.2.1) (d := b.2.2)
theorem wp_lots {s : Sr} {ls : List Nat} {Q : T × List T → Prop} (hL : ∀ c ∈ ls, c ∈ L26) (hN : ls.Pairwise (· < ·)) (hl : ls.length ≤ 4)
    (q : ∀ (s' : Sr) bs, BOk ls bs → bs.length ≤ 8 → Q (.tup (bs.map bS), [srT s', .str ls])) : wp (f_law_lots [srT s, .str ls]) Q := by
  simp [f_law_lots, b_law_lots, b_law_lots_0]
  refine wp_draw (by omega) (by omega) fun v s1 hv => ?_
  have hbl := barsOf_len (1 + v) ls
  have hb : (barsOf (1 + v) ls).length ≤ 80 := by
    rw [hbl]
    calc ls.length * (ls.length * (1 + v)) ≤ 4 * (4 * 5) := Nat.mul_le_mul hl (Nat.mul_le_mul hl (by omega))
      _ = 80 := rfl
  have ev : (1 + (v : Int)) = ((1 + v : Nat) : Int) := by omega
  simp
  rw [ev]
  refine wp_bars (by omega) (by omega) ?_
  simp [b_law_lots_1]
  refine wp_draw (by omega) (by omega) fun w s4 hw => ?_
  simp
  refine ⟨by split <;> omega, ?_⟩
  refine wp_loop (fun rest e => ∃ (s' : Sr) (P B : List (Nat × Nat × Nat)) (x : Option T), e = [some (srT s'), some (.str ls), some (.lst true (P.map bS)), some (.lst true (B.map bS)), x] ∧ (B ++ P).Perm (barsOf (1 + v) ls) ∧ rest.length ≤ P.length ∧ B.length + rest.length ≤ 8) _ _ ⟨s4, barsOf (1 + v) ls, [], none, rfl, List.Perm.refl _, by simp; split <;> omega, by simp; split <;> omega⟩ (fun a r e ⟨s5, P, B, x, he, hP, h5, h6⟩ => ?_) fun e ⟨s5, P, B, x, he, hP, h5, h6⟩ => ?_
  · subst he
    have hl := hP.length_eq
    simp at h5 h6 hl
    simp
    refine wp_draw (by omega) (by omega) fun w s6 hw => ?_
    have hw' : w < P.length := by omega
    simp
    rw [wp_popX (by omega)]
    simp [hw']
    have pm : (B ++ ([P[w]] ++ P.eraseIdx w)).Perm (B ++ P) := List.Perm.append_left _ (erase_perm P w hw')
    have le : (P.eraseIdx w).length = P.length - 1 := List.length_eraseIdx_of_lt hw'
    exact ⟨by omega, s6, P.eraseIdx w, B ++ [P[w]], ⟨rfl, erase_map .., by simp⟩, by rw [List.append_assoc]; exact pm.trans hP, by omega, by simp; omega⟩
  · subst he
    have hN2 : (barsOf (1 + v) ls).Nodup := barsOf_nodup (hN.imp fun h => Nat.ne_of_lt h)
    have hB : B.Nodup := (List.nodup_append.mp (hP.nodup_iff.mpr hN2)).1
    simp at h6
    have hm : ∀ b ∈ B, b.1 ∈ ls ∧ b.2.1 ∈ ls ∧ 1 ≤ b.2.2 ∧ b.2.2 ≤ 5 := fun b hb => by
      have := mem_barsOf.mp (hP.mem_iff.mp (List.mem_append_left _ hb))
      exact ⟨this.1, this.2.1, this.2.2.1, by have := this.2.2.2; omega⟩
    obtain ⟨bs, c1, c2, c3⟩ := sort_bok (a := true) hL hB hm (by omega)
    have := c2.length_eq
    simp [b_law_lots_2, c3, pin_law_lots]
    exact q s5 bs c1 (by omega)
theorem wp_meth_rT {m : String} {fn : List T → Option (T × List T)} {xo : GK.Env → Option T} {xs : GK.Env → Option (List T)} {env : GK.Env} {ks : List (Nat × Nat)} {bs : List (Nat × Nat × Nat)} {Q : T → Prop} (hx : xo env = some (rT ks bs)) (hm : ((fsF ks bs).lookup m).isNone = true) (q : wp (xs env) fun ts => wp (fn (rT ks bs :: ts)) fun r => Q r.1) : wp (qMeth "Rule" m fn xo xs env) Q := by
  obtain ⟨ts, h1, ⟨t, us⟩, h2, h3⟩ := q
  refine ⟨t, ?_, h3⟩
  unfold qMeth
  rw [hx]
  show (if "Rule" = "Rule" ∧ ((fsF ks bs).lookup m).isNone = true then _ else _) = _
  rw [if_pos ⟨rfl, hm⟩, h1]
  show (match fn (rT ks bs :: ts) with | some (t, _) => some t | none => none) = _
  rw [h2]
theorem wp_added {ks : List (Nat × Nat)} {bs cs us : List (Nat × Nat × Nat)} {Q : T × List T → Prop} (h : KOk ks) (hb : BOk (ks.map (·.1)) bs) (hc : BOk (ks.map (·.1)) cs) (hu : BOk (ks.map (·.1)) us) (l1 : bs.length ≤ 8) (l2 : cs.length ≤ 8) (hm : ∀ b, b ∈ us ↔ b ∈ bs ∨ b ∈ cs)
    (q : Q (rT ks us, [pT ks bs, .tup (cs.map bS)])) : wp (f_law_added [pT ks bs, .tup (cs.map bS)]) Q := by
  simp [f_law_added, b_law_added, b_law_added_0]
  refine wp_text h (by omega) ?_
  simp
  refine wp_make h hb ?_
  simp [b_law_added_1]
  let I : List (Nat × Nat × Nat) → GK.Env → Prop := fun rest e => ∃ (B : List (Nat × Nat × Nat)) (x : Option T), e = [some (pT ks bs), some (.tup (cs.map bS)), some (rT ks B), x] ∧ BOk (ks.map (·.1)) B ∧ (∀ b, (b ∈ B ∨ b ∈ rest) ↔ (b ∈ bs ∨ b ∈ cs)) ∧ B.length + rest.length ≤ 16 ∧ ∀ b ∈ rest, b ∈ cs
  refine wp_loop I _ _ ⟨bs, none, rfl, hb, fun b => Iff.rfl, by omega, fun b h => h⟩ (fun a r e ⟨B, x, he, hB, hP, h5, h6⟩ => ?_) fun e ⟨B, x, he, hB, hP, h5, _⟩ => ?_
  · subst he
    have ha := h6 a (by simp)
    rw [List.length_cons] at h5
    have e2 := in_barsB (b := a) (bs := B) (k := true)
    simp [e2]
    refine ⟨fun hn => ?_, fun hn => ⟨B, _, rfl, hB, fun b => ?_, by omega, fun b hb => h6 b (List.mem_cons_of_mem _ hb)⟩⟩
    · refine wp_meth_rT (ks := ks) (bs := B) rfl (by simp [fsF, List.lookup]) ?_
      simp
      refine wp_bar h hB (hc.one a ha) (hc.two a ha) (hc.dis a ha) hn (by omega) fun C c1 c2 => ?_
      have lc : C.length = B.length + 1 := by
        have p : C.Perm (a :: B) := (List.perm_ext_iff_of_nodup c1.nodup (List.nodup_cons.mpr ⟨hn, hB.nodup⟩)).mpr fun b => by rw [c2]; simp
        rw [p.length_eq]; rfl
      simp
      refine ⟨C, _, rfl, c1, fun b => ?_, by omega, fun b hb => h6 b (List.mem_cons_of_mem _ hb)⟩
      rw [← hP b, c2, List.mem_cons]
      constructor
      · rintro ((h | h) | h)
        · exact .inr (.inl h)
        · exact .inl h
        · exact .inr (.inr h)
      · rintro (h | h | h)
        · exact .inl (.inr h)
        · exact .inl (.inl h)
        · exact .inr h
    · rw [← hP b, List.mem_cons]
      constructor
      · rintro (h | h)
        · exact .inl h
        · exact .inr (.inr h)
      · rintro (h | h | h)
        · exact .inl h
        · subst h; exact .inl hn
        · exact .inr h
  · subst he
    have e : B = us := BOk.ext hB hu fun b => by
      have := hP b
      simp only [List.not_mem_nil, or_false] at this
      rw [hm, this]
    subst e
    simp [b_law_added_2, pin_law_added]
    exact q

/-! the plain part: k75, rules put together -/
def Uni (us bs cs : List (Nat × Nat × Nat)) : Prop := ∀ b, b ∈ us ↔ b ∈ bs ∨ b ∈ cs
theorem setsort_uni {L : List Nat} {bs cs : List (Nat × Nat × Nat)} (hb : BOk L bs) (hc : BOk L cs) (l1 : bs.length ≤ 8) (l2 : cs.length ≤ 8) : ∃ us, BOk L us ∧ Uni us bs cs ∧ fSetSortT (.tup (bs.map bS ++ cs.map bS)) = some (.lst true (us.map bS)) := by
  have e0 : T.strs (bs.map bS ++ cs.map bS) = some ((bs ++ cs).map bword) := by
    rw [← List.map_append]
    exact strs_mapf bword (bs ++ cs)
  obtain ⟨B, hB⟩ : ∃ B : List (Nat × Nat × Nat), dedS ((bs ++ cs).map bword) = B.map bword := by
    have : ∀ l : List (List Nat), (∀ z ∈ l, ∃ b : Nat × Nat × Nat, z = bword b) → ∃ B : List (Nat × Nat × Nat), l = B.map bword := fun l => by
      induction l with
      | nil => exact fun _ => ⟨[], rfl⟩
      | cons z r ih =>
        intro h
        obtain ⟨b, hb⟩ := h z (by simp)
        obtain ⟨B, hB⟩ := ih fun z hz => h z (List.mem_cons_of_mem _ hz)
        exact ⟨b :: B, by rw [List.map_cons, ← hb, ← hB]⟩
    refine this _ fun z hz => ?_
    rw [dedS_mem] at hz
    obtain ⟨b, _, rfl⟩ := List.mem_map.mp hz
    exact ⟨b, rfl⟩
  have hN : B.Nodup := by
    have := dedS_nodup ((bs ++ cs).map bword)
    rw [hB] at this
    exact (List.pairwise_map.mp this).imp fun hne e => hne (by rw [e])
  have hM : ∀ b, b ∈ B ↔ b ∈ bs ∨ b ∈ cs := fun b => by
    have : bword b ∈ B.map bword ↔ bword b ∈ (bs ++ cs).map bword := by rw [← hB, dedS_mem]
    have m : ∀ l : List (Nat × Nat × Nat), bword b ∈ l.map bword ↔ b ∈ l := fun l => ⟨fun h => by obtain ⟨c, h1, h2⟩ := List.mem_map.mp h; rw [← bword_inj h2]; exact h1, fun h => List.mem_map_of_mem h⟩
    rw [m, m, List.mem_append] at this
    exact this
  have hl : B.length ≤ 16 := by
    have : (dedS ((bs ++ cs).map bword)).length ≤ ((bs ++ cs).map bword).length := by
      generalize (bs ++ cs).map bword = zs
      induction zs with
      | nil => exact Nat.le_refl _
      | cons z r ih => unfold dedS; split <;> simp <;> omega
    rw [hB] at this
    simp at this
    omega
  obtain ⟨us, c1, c2, c3⟩ := sort_bok (a := true) hb.inL hN (fun b hm => by
    rcases (hM b).mp hm with h | h
    · exact ⟨hb.one b h, hb.two b h, hb.dis b h⟩
    · exact ⟨hc.one b h, hc.two b h, hc.dis b h⟩) (by omega)
  refine ⟨us, c1, fun b => by rw [c2.mem_iff]; exact hM b, ?_⟩
  rw [← c3]
  unfold fSetSortT
  simp only [e0]
  rw [if_pos (by simp; omega), hB]
  have : fSortTx [.lst true (B.map bS)] = some (.lst true ((isort leS (B.map bword)).map .str)) := fSortTx_strs (f := bword)
  rw [this]
theorem kept_uni {us bs cs : List (Nat × Nat × Nat)} (h : Uni us bs cs) (row : List Nat) : keptB us row = (keptB bs row && keptB cs row) := by
  rw [Bool.eq_iff_iff, Bool.and_eq_true, keptB_iff, keptB_iff, keptB_iff]
  exact ⟨fun k => ⟨fun b hb => k b ((h b).mpr (.inl hb)), fun b hb => k b ((h b).mpr (.inr hb))⟩, fun k b hb => ((h b).mp hb).elim (k.1 b) (k.2 b)⟩
theorem ring_uni {us bs cs : List (Nat × Nat × Nat)} (h : Uni us bs cs) (row : List Nat) : ringKB us row = (ringKB bs row && ringKB cs row) := by
  rw [Bool.eq_iff_iff, Bool.and_eq_true, ringKB_iff, ringKB_iff, ringKB_iff]
  exact ⟨fun k => ⟨fun b hb => k b ((h b).mpr (.inl hb)), fun b hb => k b ((h b).mpr (.inr hb))⟩, fun k b hb => ((h b).mp hb).elim (k.1 b) (k.2 b)⟩
theorem reach_mem (bs : List (Nat × Nat × Nat)) : (∀ b ∈ bs, (b.2.2 : Int) ≤ reachOf bs) ∧ 1 ≤ reachOf bs := by
  refine ⟨fun b hb => (imax_ge (bs.map fun b => (b.2.2 : Int)) 1).2 _ (List.mem_map_of_mem (f := fun b : Nat × Nat × Nat => (b.2.2 : Int)) hb), (imax_ge _ _).1⟩
theorem reach_uni {us bs cs : List (Nat × Nat × Nat)} (h : Uni us bs cs) : reachOf us = if reachOf cs > reachOf bs then reachOf cs else reachOf bs := by
  have ⟨a1, a2⟩ := reach_mem us
  have ⟨b1, b2⟩ := reach_mem bs
  have ⟨c1, c2⟩ := reach_mem cs
  have le : reachOf us ≤ if reachOf cs > reachOf bs then reachOf cs else reachOf bs := by
    refine imax_le _ _ (by split <;> omega) fun x hx => ?_
    obtain ⟨b, hb, rfl⟩ := List.mem_map.mp hx
    rcases (h b).mp hb with hb | hb
    · have := b1 b hb; split <;> omega
    · have := c1 b hb; split <;> omega
  have g1 : reachOf bs ≤ reachOf us := imax_le _ _ a2 fun x hx => by
    obtain ⟨b, hb, rfl⟩ := List.mem_map.mp hx
    exact a1 b ((h b).mpr (.inl hb))
  have g2 : reachOf cs ≤ reachOf us := imax_le _ _ a2 fun x hx => by
    obtain ⟨b, hb, rfl⟩ := List.mem_map.mp hx
    exact a1 b ((h b).mpr (.inr hb))
  split at le <;> split <;> omega
def Brk (bs : List (Nat × Nat × Nat)) (row : List Nat) (p d : Nat) : Prop := p < row.length ∧ 1 ≤ d ∧ d ≤ 5 ∧ d ≤ p ∧ brkAt bs row p d = true
def lexle (p d q e : Nat) : Prop := p < q ∨ (p = q ∧ d ≤ e)
theorem first_char {bs : List (Nat × Nat × Nat)} {row : List Nat} {p d : Nat} (h : firstP bs row = some (p, d)) : Brk bs row p d ∧ ∀ q e, Brk bs row q e → lexle p d q e := by
  obtain ⟨h1, h2, h3, h4, h5, h6⟩ := first_some h
  refine ⟨⟨h1, h2, h3, h4, h5⟩, fun q e ⟨k1, k2, k3, k4, k5⟩ => ?_⟩
  by_cases hq : q < p
  · have := h6 q hq
    unfold brokenB at this
    rw [List.any_eq_false] at this
    have := this (e - 1) (by simp; omega)
    rw [show e - 1 + 1 = e from by omega] at this
    exact absurd k5 this
  · by_cases hp : p < q
    · exact .inl hp
    · have : p = q := by omega
      subst this
      refine .inr ⟨rfl, ?_⟩
      obtain ⟨l1, a, l2, g1, g2, g3⟩ := List.findSome?_eq_some_iff.mp h
      unfold firstIn at g2
      obtain ⟨k, g4, g5⟩ := Option.map_eq_some_iff.mp g2
      simp only [Prod.mk.injEq] at g5
      obtain ⟨rfl, rfl⟩ := g5
      obtain ⟨_, m1, m2, m3, m4⟩ := List.find?_eq_some_iff_append.mp g4
      by_cases he : k + 1 ≤ e
      · exact he
      · have := m4 (e - 1) (range_split m3 (e - 1) (by omega))
        rw [show e - 1 + 1 = e from by omega, k5] at this
        cases this
theorem first_none {bs : List (Nat × Nat × Nat)} {row : List Nat} (h : firstP bs row = none) {p d : Nat} : ¬ Brk bs row p d := fun ⟨h1, h2, h3, h4, h5⟩ => by
  unfold firstP at h
  rw [List.findSome?_eq_none_iff] at h
  have := h p (List.mem_range.mpr h1)
  unfold firstIn at this
  rw [Option.map_eq_none_iff, List.find?_eq_none] at this
  have := this (d - 1) (by simp; omega)
  rw [show d - 1 + 1 = d from by omega] at this
  exact this h5
def minP : Option (Nat × Nat) → Option (Nat × Nat) → Option (Nat × Nat)
  | none, y => y
  | x, none => x
  | some (p, d), some (q, e) => if p < q ∨ (p = q ∧ d ≤ e) then some (p, d) else some (q, e)
theorem brk_uni {us bs cs : List (Nat × Nat × Nat)} (h : Uni us bs cs) {row : List Nat} {p d : Nat} : Brk us row p d ↔ Brk bs row p d ∨ Brk cs row p d := by
  unfold Brk brkAt
  simp only [decide_eq_true_eq]
  rw [h]
  constructor
  · rintro ⟨h1, h2, h3, h4, h5 | h5⟩
    · exact .inl ⟨h1, h2, h3, h4, h5⟩
    · exact .inr ⟨h1, h2, h3, h4, h5⟩
  · rintro (⟨h1, h2, h3, h4, h5⟩ | ⟨h1, h2, h3, h4, h5⟩)
    · exact ⟨h1, h2, h3, h4, .inl h5⟩
    · exact ⟨h1, h2, h3, h4, .inr h5⟩
theorem first_uni {us bs cs : List (Nat × Nat × Nat)} (h : Uni us bs cs) (row : List Nat) : firstP us row = minP (firstP bs row) (firstP cs row) := by
  cases hb : firstP bs row with
  | none =>
    cases hc : firstP cs row with
    | none =>
      cases hu : firstP us row with
      | none => rfl
      | some x =>
        obtain ⟨p, d⟩ := x
        exact absurd ((brk_uni h).mp (first_char hu).1) fun z => z.elim (first_none hb) (first_none hc)
    | some y =>
      obtain ⟨q, e⟩ := y
      obtain ⟨c1, c2⟩ := first_char hc
      cases hu : firstP us row with
      | none => exact absurd ((brk_uni h).mpr (.inr c1)) (first_none hu)
      | some x =>
        obtain ⟨p, d⟩ := x
        obtain ⟨u1, u2⟩ := first_char hu
        have w1 := u2 q e ((brk_uni h).mpr (.inr c1))
        have w2 := c2 p d (((brk_uni h).mp u1).resolve_left (first_none hb))
        unfold lexle at w1 w2
        have : p = q ∧ d = e := by omega
        obtain ⟨rfl, rfl⟩ := this
        rfl
  | some y =>
    obtain ⟨q, e⟩ := y
    obtain ⟨b1, b2⟩ := first_char hb
    cases hu : firstP us row with
    | none => exact absurd ((brk_uni h).mpr (.inl b1)) (first_none hu)
    | some x =>
      obtain ⟨p, d⟩ := x
      obtain ⟨u1, u2⟩ := first_char hu
      have w1 := u2 q e ((brk_uni h).mpr (.inl b1))
      unfold lexle at w1
      cases hc : firstP cs row with
      | none =>
        have w2 := b2 p d (((brk_uni h).mp u1).resolve_right (first_none hc))
        unfold lexle at w2
        have : p = q ∧ d = e := by omega
        obtain ⟨rfl, rfl⟩ := this
        rfl
      | some z =>
        obtain ⟨r, f⟩ := z
        obtain ⟨c1, c2⟩ := first_char hc
        have w3 := u2 r f ((brk_uni h).mpr (.inr c1))
        unfold lexle at w3
        unfold minP
        simp only
        rcases (brk_uni h).mp u1 with k | k
        · have w2 := b2 p d k
          unfold lexle at w2
          have : p = q ∧ d = e := by omega
          obtain ⟨rfl, rfl⟩ := this
          rw [if_pos w3]
        · have w2 := c2 p d k
          unfold lexle at w2
          have : p = r ∧ d = f := by omega
          obtain ⟨rfl, rfl⟩ := this
          by_cases w4 : q < p ∨ (q = p ∧ e ≤ d)
          · rw [if_pos w4]
            have : p = q ∧ d = e := by omega
            obtain ⟨rfl, rfl⟩ := this
            rfl
          · rw [if_neg w4]
theorem leT_two {a b c d : Int} : cLeT (.tup [.int a, .int b]) (.tup [.int c, .int d]) = some (.bl (decide (a < c ∨ (a = c ∧ b ≤ d)))) := by
  have e : cLeT (.tup [.int a, .int b]) (.tup [.int c, .int d]) = some (.bl (if decide (a = c) then (if decide (b = d) then decide ((2 : Nat) ≤ 2) else decide (b ≤ d)) else decide (a ≤ c))) := rfl
  rw [e]
  by_cases h1 : a = c
  · subst h1
    by_cases h2 : b = d
    · subst h2; simp
    · simp [h2]
  · simp [h1]
    by_cases h3 : a < c
    · simp [h3]; omega
    · simp [h3]; omega
@[simp] theorem back_firstT {P : Nat → Bool} {k : Nat} {ts : List T} {env : GK.Env} {row : List Nat} {o : Option (Nat × Nat)} {R : List T → Prop} : wp (back P k (firstT row o :: ts) env) R ↔ wp (back P (k + 1) ts env) fun us => R (firstT row o :: us) := by
  rw [back, if_pos sh_firstT]
  rcases back P (k + 1) ts env with _ | us <;> simp
theorem wp_earlier {row : List Nat} {o1 o2 : Option (Nat × Nat)} {Q : T × List T → Prop} (h1 : ∀ p d, o1 = some (p, d) → d ≤ p) (h2 : ∀ p d, o2 = some (p, d) → d ≤ p) (q : Q (firstT row (minP o1 o2), [firstT row o1, firstT row o2])) : wp (f_law_earlier [firstT row o1, firstT row o2]) Q := by
  rcases o1 with _ | ⟨p, d⟩
  · simp [f_law_earlier, b_law_earlier, b_law_earlier_0, pin_law_earlier]
    simpa [minP] using q
  · rcases o2 with _ | ⟨r, f⟩
    · simp [f_law_earlier, b_law_earlier, b_law_earlier_0, pin_law_earlier]
      simpa [minP] using q
    · have k1 := h1 p d rfl
      have k2 := h2 r f rfl
      have e1 : fItem (firstT row (some (p, d))) (.int 2) = some (.int p) := rfl
      have e2 : fItem (firstT row (some (r, f))) (.int 2) = some (.int r) := rfl
      have e3 : fPeekU (firstT row (some (p, d))) (.int 1) = some (.int (p - d : Nat)) := rfl
      have e4 : fPeekU (firstT row (some (r, f))) (.int 1) = some (.int (r - f : Nat)) := rfl
      simp [f_law_earlier, b_law_earlier, b_law_earlier_0, b_law_earlier_1, pin_law_earlier, e1, e2, e3, e4, leT_two]
      unfold minP at q
      simp only at q
      refine ⟨fun h => ?_, fun h h' => ?_⟩
      · rw [if_pos (by omega)] at q
        exact q
      · rw [if_neg (by omega)] at q
        exact q

/-! the plain part: k75, the law -/
@[simp] theorem wp_gUn_pT {ks : List (Nat × Nat)} {bs : List (Nat × Nat × Nat)} {g : List T → GK.Env → Option GK.Env} {env : GK.Env} {Q : GK.Env → Prop} : wp (gUn g (pT ks bs) env) Q ↔ wp (g [.str (ks.map (·.1)), .tup (ks.map fun k => .int k.2), .tup (bs.map bS)] env) Q := Iff.rfl
theorem zip_kok {ks : List (Nat × Nat)} {ps : List Nat} (h : KOk ks) (h1 : ps.length = ks.length) (h2 : ∀ p ∈ ps, p < 10) : KOk ((ks.map (·.1)).zip ps) ∧ ((ks.map (·.1)).zip ps).map (·.1) = ks.map (·.1) ∧ ((ks.map (·.1)).zip ps).map (·.2) = ps := by
  have z1 : ((ks.map (·.1)).zip ps).map (·.1) = ks.map (·.1) := List.map_fst_zip (by simp; omega)
  have z2 : ((ks.map (·.1)).zip ps).map (·.2) = ps := List.map_snd_zip (by simp; omega)
  have hz : ((ks.map (·.1)).zip ps).length = ks.length := by simp; omega
  have := h.one
  have := h.few
  refine ⟨⟨fun k hk => ?_, fun k hk => h2 _ (by rw [← z2]; exact List.mem_map_of_mem hk), by rw [z1]; exact h.ris, by omega, by omega⟩, z1, z2⟩
  have : k.1 ∈ ks.map (·.1) := by rw [← z1]; exact List.mem_map_of_mem hk
  obtain ⟨j, hj, e⟩ := List.mem_map.mp this
  rw [← e]
  exact h.low j hj
theorem wp_rule_eq {ks js : List (Nat × Nat)} {bs cs : List (Nat × Nat × Nat)} {Q : T × List T → Prop} (q : Q (.bl (decide (rtext ks bs = rtext js cs)), [rT ks bs, rT js cs])) : wp (f_Rule_eq [rT ks bs, rT js cs]) Q := by
  simp [f_Rule_eq, b_Rule_eq, b_Rule_eq_0, pin_Rule_eq]
  exact q
theorem repr_text {ks : List (Nat × Nat)} {bs : List (Nat × Nat × Nat)} (h : KOk ks) (hb : BOk (ks.map (·.1)) bs) : ∃ r, fRepr [.str (rtext ks bs)] = some (.str r) := by
  have hf := hb.few
  have lw : ∀ b ∈ bs, ∀ c ∈ bword b, c < 1114112 := fun b hm c hc => by
    have h1 := l26_97 (hb.inL _ (hb.one b hm))
    have h2 := l26_97 (hb.inL _ (hb.two b hm))
    have h3 := hb.dis b hm
    simp [bword] at hc
    rcases hc with rfl | rfl | rfl <;> omega
  have lk : ∀ k ∈ ks, ∀ c ∈ kword k, c < 1114112 := fun k hm c hc => by
    have h1 := l26_97 (h.low k hm)
    have h3 := h.dig k hm
    simp [kword] at hc
    rcases hc with rfl | rfl <;> omega
  have lt : ∀ c ∈ rtext ks bs, c < 1114112 := fun c hc => by
    rcases jl_mem _ _ _ hc with rfl | ⟨p, hp, hc⟩
    · omega
    · simp only [List.mem_cons, List.not_mem_nil, or_false] at hp
      rcases hp with rfl | rfl
      · rcases jl_mem _ _ _ hc with rfl | ⟨p, hp, hc⟩
        · omega
        · rcases List.mem_cons.mp hp with rfl | hp
          · simp [KW] at hc; omega
          · obtain ⟨k, hk, rfl⟩ := List.mem_map.mp hp
            exact lk k hk c hc
      · rcases jl_mem _ _ _ hc with rfl | ⟨p, hp, hc⟩
        · omega
        · rcases List.mem_cons.mp hp with rfl | hp
          · simp [BW] at hc; omega
          · obtain ⟨k, hk, rfl⟩ := List.mem_map.mp hp
            exact lw k hk c hc
  have ll : (rtext ks bs).length ≤ 2000 := by
    have h1 := kline_len h
    have h2 := bline_len hb
    have := jl_len 10 246 [kline ks, bline bs] fun p hp => by
      simp only [List.mem_cons, List.not_mem_nil, or_false] at hp
      rcases hp with rfl | rfl <;> omega
    simp at this
    unfold rtext
    omega
  exact repr_of (rp_str lt (by omega))
theorem rp_firstT {row : List Nat} {o : Option (Nat × Nat)} (hr : ∀ c ∈ row, c < 1114112) (ho : ∀ p d, o = some (p, d) → p ≤ 1000 ∧ d ≤ 1000) : T.rp 8 1000000 (firstT row o) := by
  rcases o with _ | ⟨p, d⟩
  · simp [firstT]
  · obtain ⟨h1, h2⟩ := ho p d rfl
    have hg : ∀ i, row.getD i 0 < 1114112 := fun i => by
      by_cases h : i < row.length
      · simp [h]; exact hr _ (List.getElem_mem h)
      · simp [h]
    refine rp_tup 50 (fun x hx => ?_) (by simp)
    simp only [List.mem_cons, List.not_mem_nil, or_false] at hx
    rcases hx with rfl | rfl | rfl
    · refine rp_str (fun c hc => ?_) (by simp [bword])
      simp only [bword, List.mem_cons, List.not_mem_nil, or_false] at hc
      rcases hc with rfl | rfl | rfl
      · exact hg _
      · exact hg _
      · omega
    · exact rp_int (by omega) (by omega)
    · exact rp_int (by omega) (by omega)
theorem right_ok (s : Sr) : wp (f_law_right [srT s]) fun r => r.1 = .bl true := by
  simp [f_law_right, b_law_right, b_law_right_0]
  refine wp_planI 4 5 8 rfl rfl rfl (by omega) (by omega) (by omega) fun s2 ks bs ok => ?_
  have hk := ok.k
  have hb := ok.b
  have lb := ok.lots
  have hk2 := hk.few
  simp [b_law_right_1]
  refine wp_lots (fun c hc => by obtain ⟨k, hk', rfl⟩ := List.mem_map.mp hc; exact hk.low k hk') hk.ris (by simp; omega) fun s3 cs hc lc => ?_
  obtain ⟨us, hu, uni, eu⟩ := setsort_uni hb hc lb lc
  simp [b_law_right_2, -List.map_map]
  refine wp_lcGoE (w := fun c : Nat => .str [c]) (l := ks.map (·.1)) (fun e => ∃ s' : Sr, e = [some (srT s'), some (.str (ks.map (·.1))), some (.tup (ks.map fun k => .int k.2)), some (.tup (bs.map bS)), some (.tup (cs.map bS)), none, none, none, none, none, none, none, none, none, none, none, none, none]) (fun p => p < 10) (fun p : Nat => .int p) ⟨s3, rfl⟩ (fun a _ e ⟨s', he⟩ => ?_) fun ps e hlen hps ⟨s4, he⟩ => ?_
  · subst he
    simp
    refine wp_draw (by omega) (by omega) fun w s3 hw => ?_
    simp
    exact ⟨⟨w, by omega, rfl⟩, _, rfl⟩
  subst he
  simp at hlen
  obtain ⟨hj, z1, z2⟩ := zip_kok hk hlen hps
  have e3 : ∀ cs, pT ((ks.map (·.1)).zip ps) cs = .tup [.str (ks.map (·.1)), .tup (ps.map fun p : Nat => .int (p : Int)), .tup (cs.map bS)] := fun cs => by
    unfold pT
    rw [z1]
    have : ((ks.map (·.1)).zip ps).map (fun k => T.int (k.2 : Int)) = (((ks.map (·.1)).zip ps).map (·.2)).map fun p : Nat => T.int (p : Int) := by rw [List.map_map]; rfl
    rw [this, z2]
  have hc' : BOk (((ks.map (·.1)).zip ps).map (·.1)) cs := by rw [z1]; exact hc
  generalize (ks.map (·.1)).zip ps = js at hj z1 z2 e3 hc'
  simp [b_law_right_3, eu]
  refine ⟨by omega, by omega, ?_⟩
  have eL : [T.tup [.str (ks.map (·.1)), .tup (ks.map fun k => .int k.2), .tup (bs.map bS)], T.tup [.str (ks.map (·.1)), .tup (ps.map fun p : Nat => .int (p : Int)), .tup (cs.map bS)], T.tup [.str (ks.map (·.1)), .tup (ks.map fun k => .int k.2), .tup (us.map bS)]] = [(ks, bs), (js, cs), (ks, us)].map fun p => pT p.1 p.2 := by
    show _ = [pT ks bs, pT js cs, pT ks us]
    rw [e3]
    rfl
  rw [eL]
  obtain ⟨PL, hPL⟩ : ∃ PL, PL = [(ks, bs), (js, cs), (ks, us)] := ⟨_, rfl⟩
  rw [← hPL]
  have hP : ∀ p ∈ PL, KOk p.1 ∧ BOk (p.1.map (·.1)) p.2 := fun p hp => by
    rw [hPL] at hp
    simp only [List.mem_cons, List.not_mem_nil, or_false] at hp
    rcases hp with rfl | rfl | rfl
    · exact ⟨hk, hb⟩
    · exact ⟨hj, hc'⟩
    · exact ⟨hk, hu⟩
  have hPz : ∀ p ∈ PL, p.1.map (·.1) = ks.map (·.1) := fun p hp => by
    rw [hPL] at hp
    simp only [List.mem_cons, List.not_mem_nil, or_false] at hp
    rcases hp with rfl | rfl | rfl
    · rfl
    · exact z1
    · rfl
  have hP3 : PL.length = 3 := by rw [hPL]; rfl
  have hP4 : (PL.map fun p => T.obj true "Rule" (fsR p.1 p.2)) = [.obj true "Rule" (fsR ks bs), .obj true "Rule" (fsR js cs), .obj true "Rule" (fsR ks us)] := by rw [hPL]; rfl
  have hI0 : fItem (.lst false (PL.map fun p => pT p.1 p.2)) (.int 0) = some (pT ks bs) := by rw [hPL]; rfl
  simp [b_law_right_4]
  refine wp_lcGo (fun p => .obj true "Rule" (fsR p.1 p.2)) (fun p hp => ?_) ?_
  · obtain ⟨q1, q2⟩ := hP p hp
    have := q2.few
    simp
    refine wp_text q1 (by omega) ?_
    simp
    refine wp_make q1 q2 ?_
    rfl
  rw [hP4]
  simp [b_law_right_5, b_law_right_6, hI0]
  refine wp_added hk hb hc hu lb lc uni ?_
  simp [b_law_right_7]
  obtain ⟨rr, hrr⟩ := repr_text hk hu
  refine wp_cNeO (fs := fsF ks us) (gs := fsF ks us) ?_
  show wp (f_Rule_eq [rT ks us, rT ks us]) _
  refine wp_rule_eq ?_
  have ru := reach_uni uni
  have hd1 : ∀ x ∈ bs, x.2.2 ≤ 1000 := fun x hx => by have := (hb.dis x hx).2; omega
  have hd2 : ∀ x ∈ cs, x.2.2 ≤ 1000 := fun x hx => by have := (hc.dis x hx).2; omega
  have hd3 : ∀ x ∈ us, x.2.2 ≤ 1000 := fun x hx => by have := (hu.dis x hx).2; omega
  simp [hrr]
  refine ⟨by rw [ru], fun _ => ?_⟩
  simp [b_law_right_8]
  let I : List Nat → GK.Env → Prop := fun rest e => ∃ (s' : Sr) (x12 x13 x14 x15 : Option T), e = [some (srT s'), some (.str (ks.map (·.1))), some (.tup (ks.map fun k => .int k.2)), some (.tup (bs.map bS)), some (.tup (cs.map bS)), some (.tup (ps.map fun p : Nat => .int (p : Int))), some (.lst false (PL.map fun p => pT p.1 p.2)), some (.lst false [rT ks bs, rT js cs, rT ks us]), some (rT ks bs), some (rT js cs), some (rT ks us), some (rT ks us), x12, x13, x14, x15, none, none]
  refine wp_loop (w := fun i : Nat => T.int i) (l := List.range 3) I _ ⟨s4, none, none, none, none, rfl⟩ (fun i r e ⟨s5, x12, x13, x14, x15, he⟩ => ?_) fun e ⟨s5, x12, x13, x14, x15, he⟩ => ?_
  · subst he
    simp [b_law_right_8_0]
    refine wp_draw (by omega) (by omega) fun v s6 hv => ?_
    have hv' : v < PL.length := by omega
    obtain ⟨q1, q2⟩ := hP PL[v] (List.getElem_mem hv')
    have rk : ∀ row : List Nat, RowOk (PL[v]).1 row → RowOk ks row := fun row h c hc => by
      have := h c hc
      rw [hPz _ (List.getElem_mem hv')] at this
      exact this
    simp [hv', b_law_right_8_1]
    refine wp_stringI 30 0 rfl rfl q1 (by omega) (by omega) fun s7 row hrow0 hlen => ?_
    have hrow := rk row hrow0
    have hrowj : RowOk js row := fun c hc => by rw [z1]; exact hrow c hc
    have hlen' : row.length ≤ 30 := by omega
    simp
    refine wp_ring 12 rfl q1 (by omega) fun s8 ring hring0 hr1 hr2 => ?_
    have hring := rk ring hring0
    have hringj : RowOk js ring := fun c hc => by rw [z1]; exact hring c hc
    have hr3 : ring.length ≤ 12 := by omega
    have ku := kept_uni uni row
    have ru2 := ring_uni uni ring
    have fu := first_uni uni row
    have fin4 : wp (b_law_right_8_4 [some (srT s8), some (.str (ks.map (·.1))), some (.tup (ks.map fun k => .int k.2)), some (.tup (bs.map bS)), some (.tup (cs.map bS)), some (.tup (ps.map fun p : Nat => .int (p : Int))), some (.lst false (PL.map fun p => pT p.1 p.2)), some (.lst false [rT ks bs, rT js cs, rT ks us]), some (rT ks bs), some (rT js cs), some (rT ks us), some (rT ks us), some (.int i), some (pT PL[v].1 PL[v].2), some (.str row), some (.str ring), none, none]) (oLoop (I r) (oSeq b_law_right_9 (oFn pin_law_right [srT s] fun r => r.1 = .bl true))) := by
      simp [b_law_right_8_4]
      refine wp_ring_kept hring hr1 (by omega) hd3 ?_
      simp
      refine wp_ring_kept hring hr1 (by omega) hd1 ?_
      simp
      refine ⟨fun h1 => wp_ring_kept hringj hr1 (by omega) hd2 ?_, fun h1 => ?_⟩
      · simp [ru2, h1]
        exact ⟨_, _, _, _, _, rfl⟩
      · simp [ru2, h1]
        exact ⟨_, _, _, _, _, rfl⟩
    have lt : ∀ c ∈ row, c < 1114112 := fun c hcm => hk.lt c (hrow c hcm)
    have fin3 : wp (b_law_right_8_3 [some (srT s8), some (.str (ks.map (·.1))), some (.tup (ks.map fun k => .int k.2)), some (.tup (bs.map bS)), some (.tup (cs.map bS)), some (.tup (ps.map fun p : Nat => .int (p : Int))), some (.lst false (PL.map fun p => pT p.1 p.2)), some (.lst false [rT ks bs, rT js cs, rT ks us]), some (rT ks bs), some (rT js cs), some (rT ks us), some (rT ks us), some (.int i), some (pT PL[v].1 PL[v].2), some (.str row), some (.str ring), none, none]) (oSeq b_law_right_8_4 (oLoop (I r) (oSeq b_law_right_9 (oFn pin_law_right [srT s] fun r => r.1 = .bl true)))) := by
      obtain ⟨z, hz⟩ := repr_of (rp_firstT (o := firstP us row) lt fun p d h => by have := first_some h; omega)
      simp [b_law_right_8_3]
      refine wp_breach hrow (by omega) ?_
      simp [hz]
      refine wp_breach hrow (by omega) ?_
      simp
      refine wp_breach hrowj (by omega) ?_
      simp
      refine wp_earlier (fun p d h => (first_some h).2.2.2.1) (fun p d h => (first_some h).2.2.2.1) ?_
      rw [← fu]
      simp [hz]
      exact fin4
    simp [b_law_right_8_2]
    refine wp_kept hrow (by omega) hd3 ?_
    simp
    refine wp_kept hrow (by omega) hd1 ?_
    simp
    refine ⟨fun h1 => wp_kept hrowj (by omega) hd2 ?_, fun h1 => ⟨by rw [ku, h1]; rfl, fun _ => fin3⟩⟩
    simp [ku, h1]
    exact fin3
  · subst he
    simp [b_law_right_9, pin_law_right]

/-! the plain part: all of up to four sources -/
theorem plain (ns : List Int) (_ : ns.length ≤ 63) (hb : ∀ z ∈ ns, PySem.Builtin.Int.intBits z ≤ 1048576) : ∃ ts', f_law [.scr (ns.map T.int)] = some (.bl true, ts') := by
  have key : wp (f_law [.scr (ns.map T.int)]) fun r => r.1 = .bl true := by
    simp [f_law, b_law, b_law_0]
    refine ⟨by split <;> split <;> omega, ?_⟩
    refine wp_lcGo (fun _ => .bl true) (fun t ht => ?_) ?_
    · simp at ht
      simp
      refine wp_source hb (by split at ht <;> split at ht <;> omega) fun s => ?_
      simp
      exact right_ok s
    · have e := fun (l : List Nat) => (all_true (l := l) : fAll [.lst true (l.map fun _ => T.bl true)] = some (.bl true))
      simp [e]
      split <;> split <;> omega
  obtain ⟨⟨t, ts'⟩, h1, rfl⟩ := key
  exact ⟨ts', h1⟩


end LW
namespace LW
open PySem L2 GK PySem.Spec PyProof.Rows
theorem all_mk {l : PySem.W.OpenLaw} {w : World} {K : PySem.W.Frag} {h : Heap} {mg : Str → Option Value} {fa C_Rule f_Rule_eq' f_law_bars' f_law_draw' f_law_plan' f_law_lots' f_words_behind' f_is_rising' f_is_kind_word' f_read_kinds' f_is_bar' f_read_bars' f_read_text' f_Rule_init' f_text_with' f_Rule_bar' f_law_text' f_law_added' f_law_broken' f_law_string' f_law_circles' f_law_ring' f_check_rule' f_is_row' f_check_row' f_is_kept' f_kept' f_check_ring' f_is_kept_ring' f_ring_kept' f_breach' f_law_earlier' f_law_right' f_law_source' f_law' : Addr} {od_Rule_eq an_Rule_eq od_law_bars an_law_bars od_law_draw an_law_draw od_law_plan an_law_plan od_law_lots an_law_lots od_words_behind an_words_behind od_is_rising an_is_rising od_is_kind_word an_is_kind_word od_read_kinds an_read_kinds od_is_bar an_is_bar od_read_bars an_read_bars od_read_text an_read_text od_Rule_init an_Rule_init od_text_with an_text_with od_Rule_bar an_Rule_bar od_law_text an_law_text od_law_added an_law_added od_law_broken an_law_broken od_law_string an_law_string od_law_circles an_law_circles od_law_ring an_law_ring od_check_rule an_check_rule od_is_row an_is_row od_check_row an_check_row od_is_kept an_is_kept od_kept an_kept od_check_ring an_check_ring od_is_kept_ring an_is_kept_ring od_ring_kept an_ring_kept od_breach an_breach od_law_earlier an_law_earlier od_law_right an_law_right od_law_source an_law_source od_law an_law : Option Addr} {sl_Rule_eq sl_law_bars sl_law_draw sl_law_plan sl_law_lots sl_words_behind sl_is_rising sl_is_kind_word sl_read_kinds sl_is_bar sl_read_bars sl_read_text sl_Rule_init sl_text_with sl_Rule_bar sl_law_text sl_law_added sl_law_broken sl_law_string sl_law_circles sl_law_ring sl_check_rule sl_is_row sl_check_row sl_is_kept sl_kept sl_check_ring sl_is_kept_ring sl_ring_kept sl_breach sl_law_earlier sl_law_right sl_law_source sl_law : Array (Option Value)} {oc_Rule_eq kV_Rule_eq dc_Rule_eq pm_Rule_eq cd_Rule_eq ct_Rule_eq oc_law_bars kV_law_bars dc_law_bars pm_law_bars cd_law_bars ct_law_bars oc_law_draw kV_law_draw dc_law_draw pm_law_draw cd_law_draw ct_law_draw oc_law_plan kV_law_plan dc_law_plan pm_law_plan cd_law_plan ct_law_plan oc_law_lots kV_law_lots dc_law_lots pm_law_lots cd_law_lots ct_law_lots oc_words_behind kV_words_behind dc_words_behind pm_words_behind cd_words_behind ct_words_behind oc_is_rising kV_is_rising dc_is_rising pm_is_rising cd_is_rising ct_is_rising oc_is_kind_word kV_is_kind_word dc_is_kind_word pm_is_kind_word cd_is_kind_word ct_is_kind_word oc_read_kinds kV_read_kinds dc_read_kinds pm_read_kinds cd_read_kinds ct_read_kinds oc_is_bar kV_is_bar dc_is_bar pm_is_bar cd_is_bar ct_is_bar oc_read_bars kV_read_bars dc_read_bars pm_read_bars cd_read_bars ct_read_bars oc_read_text kV_read_text dc_read_text pm_read_text cd_read_text ct_read_text oc_Rule_init kV_Rule_init dc_Rule_init pm_Rule_init cd_Rule_init ct_Rule_init oc_text_with kV_text_with dc_text_with pm_text_with cd_text_with ct_text_with oc_Rule_bar kV_Rule_bar dc_Rule_bar pm_Rule_bar cd_Rule_bar ct_Rule_bar oc_law_text kV_law_text dc_law_text pm_law_text cd_law_text ct_law_text oc_law_added kV_law_added dc_law_added pm_law_added cd_law_added ct_law_added oc_law_broken kV_law_broken dc_law_broken pm_law_broken cd_law_broken ct_law_broken oc_law_string kV_law_string dc_law_string pm_law_string cd_law_string ct_law_string oc_law_circles kV_law_circles dc_law_circles pm_law_circles cd_law_circles ct_law_circles oc_law_ring kV_law_ring dc_law_ring pm_law_ring cd_law_ring ct_law_ring oc_check_rule kV_check_rule dc_check_rule pm_check_rule cd_check_rule ct_check_rule oc_is_row kV_is_row dc_is_row pm_is_row cd_is_row ct_is_row oc_check_row kV_check_row dc_check_row pm_check_row cd_check_row ct_check_row oc_is_kept kV_is_kept dc_is_kept pm_is_kept cd_is_kept ct_is_kept oc_kept kV_kept dc_kept pm_kept cd_kept ct_kept oc_check_ring kV_check_ring dc_check_ring pm_check_ring cd_check_ring ct_check_ring oc_is_kept_ring kV_is_kept_ring dc_is_kept_ring pm_is_kept_ring cd_is_kept_ring ct_is_kept_ring oc_ring_kept kV_ring_kept dc_ring_kept pm_ring_kept cd_ring_kept ct_ring_kept oc_breach kV_breach dc_breach pm_breach cd_breach ct_breach oc_law_earlier kV_law_earlier dc_law_earlier pm_law_earlier cd_law_earlier ct_law_earlier oc_law_right kV_law_right dc_law_right pm_law_right cd_law_right ct_law_right oc_law_source kV_law_source dc_law_source pm_law_source cd_law_source ct_law_source oc_law kV_law dc_law pm_law cd_law ct_law : Value} {t_DIGITS t_DISTANCES t_LETTERS t_MOST_BARS t_MOST_DISTANCE t_MOST_KINDS t_MOST_PLACES : Tok} {v_DIGITS v_DISTANCES v_LETTERS : Str} (X : K.In h) (G : h.Ns mainGlobals mg) (hfa : mg "law" = some (.ref fa))
    (aC_Rule : PySem.W.nsIn K mainGlobals "Rule" = some (some (.ref C_Rule)))
    (a_Rule_eq : PySem.W.findIn K (.ref C_Rule) "__eq__" = some (some (.ref f_Rule_eq')))
    (i_Rule_eq : PySem.W.isFn K (.ref f_Rule_eq') = true)
    (l_Rule_eq : K.lookup f_Rule_eq' = some ⟨oc_Rule_eq, od_Rule_eq, .func (PySem.W.fnOf "__eq__" "Rule.__eq__" (defArgs s_Rule_eq) (defBody s_Rule_eq) (defScope s_Rule_eq) .none kV_Rule_eq dc_Rule_eq pm_Rule_eq an_Rule_eq cd_Rule_eq ct_Rule_eq), sl_Rule_eq⟩)
    (c_Rule_eq : PySem.W.codeIn K cd_Rule_eq "Rule.__eq__" = true)
    (k_Rule_eq : PySem.W.keepIn K (.ref f_Rule_eq') = true)
    (a_law_bars : PySem.W.nsIn K mainGlobals "_law_bars" = some (some (.ref f_law_bars')))
    (l_law_bars : K.lookup f_law_bars' = some ⟨oc_law_bars, od_law_bars, .func (PySem.W.fnOf "_law_bars" "_law_bars" (defArgs s_law_bars) (defBody s_law_bars) (defScope s_law_bars) .none kV_law_bars dc_law_bars pm_law_bars an_law_bars cd_law_bars ct_law_bars), sl_law_bars⟩)
    (c_law_bars : PySem.W.codeIn K cd_law_bars "_law_bars" = true)
    (k_law_bars : PySem.W.keepIn K (.ref f_law_bars') = true)
    (a_law_draw : PySem.W.nsIn K mainGlobals "_law_draw" = some (some (.ref f_law_draw')))
    (l_law_draw : K.lookup f_law_draw' = some ⟨oc_law_draw, od_law_draw, .func (PySem.W.fnOf "_law_draw" "_law_draw" (defArgs s_law_draw) (defBody s_law_draw) (defScope s_law_draw) .none kV_law_draw dc_law_draw pm_law_draw an_law_draw cd_law_draw ct_law_draw), sl_law_draw⟩)
    (c_law_draw : PySem.W.codeIn K cd_law_draw "_law_draw" = true)
    (k_law_draw : PySem.W.keepIn K (.ref f_law_draw') = true)
    (a_law_plan : PySem.W.nsIn K mainGlobals "_law_plan" = some (some (.ref f_law_plan')))
    (l_law_plan : K.lookup f_law_plan' = some ⟨oc_law_plan, od_law_plan, .func (PySem.W.fnOf "_law_plan" "_law_plan" (defArgs s_law_plan) (defBody s_law_plan) (defScope s_law_plan) .none kV_law_plan dc_law_plan pm_law_plan an_law_plan cd_law_plan ct_law_plan), sl_law_plan⟩)
    (c_law_plan : PySem.W.codeIn K cd_law_plan "_law_plan" = true)
    (k_law_plan : PySem.W.keepIn K (.ref f_law_plan') = true)
    (a_law_lots : PySem.W.nsIn K mainGlobals "_law_lots" = some (some (.ref f_law_lots')))
    (l_law_lots : K.lookup f_law_lots' = some ⟨oc_law_lots, od_law_lots, .func (PySem.W.fnOf "_law_lots" "_law_lots" (defArgs s_law_lots) (defBody s_law_lots) (defScope s_law_lots) .none kV_law_lots dc_law_lots pm_law_lots an_law_lots cd_law_lots ct_law_lots), sl_law_lots⟩)
    (c_law_lots : PySem.W.codeIn K cd_law_lots "_law_lots" = true)
    (k_law_lots : PySem.W.keepIn K (.ref f_law_lots') = true)
    (a_words_behind : PySem.W.nsIn K mainGlobals "words_behind" = some (some (.ref f_words_behind')))
    (l_words_behind : K.lookup f_words_behind' = some ⟨oc_words_behind, od_words_behind, .func (PySem.W.fnOf "words_behind" "words_behind" (defArgs s_words_behind) (defBody s_words_behind) (defScope s_words_behind) .none kV_words_behind dc_words_behind pm_words_behind an_words_behind cd_words_behind ct_words_behind), sl_words_behind⟩)
    (c_words_behind : PySem.W.codeIn K cd_words_behind "words_behind" = true)
    (k_words_behind : PySem.W.keepIn K (.ref f_words_behind') = true)
    (a_is_rising : PySem.W.nsIn K mainGlobals "is_rising" = some (some (.ref f_is_rising')))
    (l_is_rising : K.lookup f_is_rising' = some ⟨oc_is_rising, od_is_rising, .func (PySem.W.fnOf "is_rising" "is_rising" (defArgs s_is_rising) (defBody s_is_rising) (defScope s_is_rising) .none kV_is_rising dc_is_rising pm_is_rising an_is_rising cd_is_rising ct_is_rising), sl_is_rising⟩)
    (c_is_rising : PySem.W.codeIn K cd_is_rising "is_rising" = true)
    (k_is_rising : PySem.W.keepIn K (.ref f_is_rising') = true)
    (a_is_kind_word : PySem.W.nsIn K mainGlobals "is_kind_word" = some (some (.ref f_is_kind_word')))
    (l_is_kind_word : K.lookup f_is_kind_word' = some ⟨oc_is_kind_word, od_is_kind_word, .func (PySem.W.fnOf "is_kind_word" "is_kind_word" (defArgs s_is_kind_word) (defBody s_is_kind_word) (defScope s_is_kind_word) .none kV_is_kind_word dc_is_kind_word pm_is_kind_word an_is_kind_word cd_is_kind_word ct_is_kind_word), sl_is_kind_word⟩)
    (c_is_kind_word : PySem.W.codeIn K cd_is_kind_word "is_kind_word" = true)
    (k_is_kind_word : PySem.W.keepIn K (.ref f_is_kind_word') = true)
    (a_read_kinds : PySem.W.nsIn K mainGlobals "read_kinds" = some (some (.ref f_read_kinds')))
    (l_read_kinds : K.lookup f_read_kinds' = some ⟨oc_read_kinds, od_read_kinds, .func (PySem.W.fnOf "read_kinds" "read_kinds" (defArgs s_read_kinds) (defBody s_read_kinds) (defScope s_read_kinds) .none kV_read_kinds dc_read_kinds pm_read_kinds an_read_kinds cd_read_kinds ct_read_kinds), sl_read_kinds⟩)
    (c_read_kinds : PySem.W.codeIn K cd_read_kinds "read_kinds" = true)
    (k_read_kinds : PySem.W.keepIn K (.ref f_read_kinds') = true)
    (a_is_bar : PySem.W.nsIn K mainGlobals "is_bar" = some (some (.ref f_is_bar')))
    (l_is_bar : K.lookup f_is_bar' = some ⟨oc_is_bar, od_is_bar, .func (PySem.W.fnOf "is_bar" "is_bar" (defArgs s_is_bar) (defBody s_is_bar) (defScope s_is_bar) .none kV_is_bar dc_is_bar pm_is_bar an_is_bar cd_is_bar ct_is_bar), sl_is_bar⟩)
    (c_is_bar : PySem.W.codeIn K cd_is_bar "is_bar" = true)
    (k_is_bar : PySem.W.keepIn K (.ref f_is_bar') = true)
    (a_read_bars : PySem.W.nsIn K mainGlobals "read_bars" = some (some (.ref f_read_bars')))
    (l_read_bars : K.lookup f_read_bars' = some ⟨oc_read_bars, od_read_bars, .func (PySem.W.fnOf "read_bars" "read_bars" (defArgs s_read_bars) (defBody s_read_bars) (defScope s_read_bars) .none kV_read_bars dc_read_bars pm_read_bars an_read_bars cd_read_bars ct_read_bars), sl_read_bars⟩)
    (c_read_bars : PySem.W.codeIn K cd_read_bars "read_bars" = true)
    (k_read_bars : PySem.W.keepIn K (.ref f_read_bars') = true)
    (a_read_text : PySem.W.nsIn K mainGlobals "read_text" = some (some (.ref f_read_text')))
    (l_read_text : K.lookup f_read_text' = some ⟨oc_read_text, od_read_text, .func (PySem.W.fnOf "read_text" "read_text" (defArgs s_read_text) (defBody s_read_text) (defScope s_read_text) .none kV_read_text dc_read_text pm_read_text an_read_text cd_read_text ct_read_text), sl_read_text⟩)
    (c_read_text : PySem.W.codeIn K cd_read_text "read_text" = true)
    (k_read_text : PySem.W.keepIn K (.ref f_read_text') = true)
    (a_Rule_init : PySem.W.findIn K (.ref C_Rule) "__init__" = some (some (.ref f_Rule_init')))
    (i_Rule_init : PySem.W.isFn K (.ref f_Rule_init') = true)
    (l_Rule_init : K.lookup f_Rule_init' = some ⟨oc_Rule_init, od_Rule_init, .func (PySem.W.fnOf "__init__" "Rule.__init__" (defArgs s_Rule_init) (defBody s_Rule_init) (defScope s_Rule_init) .none kV_Rule_init dc_Rule_init pm_Rule_init an_Rule_init cd_Rule_init ct_Rule_init), sl_Rule_init⟩)
    (c_Rule_init : PySem.W.codeIn K cd_Rule_init "Rule.__init__" = true)
    (k_Rule_init : PySem.W.keepIn K (.ref f_Rule_init') = true)
    (a_text_with : PySem.W.nsIn K mainGlobals "text_with" = some (some (.ref f_text_with')))
    (l_text_with : K.lookup f_text_with' = some ⟨oc_text_with, od_text_with, .func (PySem.W.fnOf "text_with" "text_with" (defArgs s_text_with) (defBody s_text_with) (defScope s_text_with) .none kV_text_with dc_text_with pm_text_with an_text_with cd_text_with ct_text_with), sl_text_with⟩)
    (c_text_with : PySem.W.codeIn K cd_text_with "text_with" = true)
    (k_text_with : PySem.W.keepIn K (.ref f_text_with') = true)
    (a_Rule_bar : PySem.W.findIn K (.ref C_Rule) "bar" = some (some (.ref f_Rule_bar')))
    (i_Rule_bar : PySem.W.isFn K (.ref f_Rule_bar') = true)
    (l_Rule_bar : K.lookup f_Rule_bar' = some ⟨oc_Rule_bar, od_Rule_bar, .func (PySem.W.fnOf "bar" "Rule.bar" (defArgs s_Rule_bar) (defBody s_Rule_bar) (defScope s_Rule_bar) .none kV_Rule_bar dc_Rule_bar pm_Rule_bar an_Rule_bar cd_Rule_bar ct_Rule_bar), sl_Rule_bar⟩)
    (c_Rule_bar : PySem.W.codeIn K cd_Rule_bar "Rule.bar" = true)
    (k_Rule_bar : PySem.W.keepIn K (.ref f_Rule_bar') = true)
    (a_law_text : PySem.W.nsIn K mainGlobals "_law_text" = some (some (.ref f_law_text')))
    (l_law_text : K.lookup f_law_text' = some ⟨oc_law_text, od_law_text, .func (PySem.W.fnOf "_law_text" "_law_text" (defArgs s_law_text) (defBody s_law_text) (defScope s_law_text) .none kV_law_text dc_law_text pm_law_text an_law_text cd_law_text ct_law_text), sl_law_text⟩)
    (c_law_text : PySem.W.codeIn K cd_law_text "_law_text" = true)
    (k_law_text : PySem.W.keepIn K (.ref f_law_text') = true)
    (a_law_added : PySem.W.nsIn K mainGlobals "_law_added" = some (some (.ref f_law_added')))
    (l_law_added : K.lookup f_law_added' = some ⟨oc_law_added, od_law_added, .func (PySem.W.fnOf "_law_added" "_law_added" (defArgs s_law_added) (defBody s_law_added) (defScope s_law_added) .none kV_law_added dc_law_added pm_law_added an_law_added cd_law_added ct_law_added), sl_law_added⟩)
    (c_law_added : PySem.W.codeIn K cd_law_added "_law_added" = true)
    (k_law_added : PySem.W.keepIn K (.ref f_law_added') = true)
    (a_law_broken : PySem.W.nsIn K mainGlobals "_law_broken" = some (some (.ref f_law_broken')))
    (l_law_broken : K.lookup f_law_broken' = some ⟨oc_law_broken, od_law_broken, .func (PySem.W.fnOf "_law_broken" "_law_broken" (defArgs s_law_broken) (defBody s_law_broken) (defScope s_law_broken) .none kV_law_broken dc_law_broken pm_law_broken an_law_broken cd_law_broken ct_law_broken), sl_law_broken⟩)
    (c_law_broken : PySem.W.codeIn K cd_law_broken "_law_broken" = true)
    (k_law_broken : PySem.W.keepIn K (.ref f_law_broken') = true)
    (a_law_string : PySem.W.nsIn K mainGlobals "_law_string" = some (some (.ref f_law_string')))
    (l_law_string : K.lookup f_law_string' = some ⟨oc_law_string, od_law_string, .func (PySem.W.fnOf "_law_string" "_law_string" (defArgs s_law_string) (defBody s_law_string) (defScope s_law_string) .none kV_law_string dc_law_string pm_law_string an_law_string cd_law_string ct_law_string), sl_law_string⟩)
    (c_law_string : PySem.W.codeIn K cd_law_string "_law_string" = true)
    (k_law_string : PySem.W.keepIn K (.ref f_law_string') = true)
    (a_law_circles : PySem.W.nsIn K mainGlobals "_law_circles" = some (some (.ref f_law_circles')))
    (l_law_circles : K.lookup f_law_circles' = some ⟨oc_law_circles, od_law_circles, .func (PySem.W.fnOf "_law_circles" "_law_circles" (defArgs s_law_circles) (defBody s_law_circles) (defScope s_law_circles) .none kV_law_circles dc_law_circles pm_law_circles an_law_circles cd_law_circles ct_law_circles), sl_law_circles⟩)
    (c_law_circles : PySem.W.codeIn K cd_law_circles "_law_circles" = true)
    (k_law_circles : PySem.W.keepIn K (.ref f_law_circles') = true)
    (a_law_ring : PySem.W.nsIn K mainGlobals "_law_ring" = some (some (.ref f_law_ring')))
    (l_law_ring : K.lookup f_law_ring' = some ⟨oc_law_ring, od_law_ring, .func (PySem.W.fnOf "_law_ring" "_law_ring" (defArgs s_law_ring) (defBody s_law_ring) (defScope s_law_ring) .none kV_law_ring dc_law_ring pm_law_ring an_law_ring cd_law_ring ct_law_ring), sl_law_ring⟩)
    (c_law_ring : PySem.W.codeIn K cd_law_ring "_law_ring" = true)
    (k_law_ring : PySem.W.keepIn K (.ref f_law_ring') = true)
    (a_check_rule : PySem.W.nsIn K mainGlobals "check_rule" = some (some (.ref f_check_rule')))
    (l_check_rule : K.lookup f_check_rule' = some ⟨oc_check_rule, od_check_rule, .func (PySem.W.fnOf "check_rule" "check_rule" (defArgs s_check_rule) (defBody s_check_rule) (defScope s_check_rule) .none kV_check_rule dc_check_rule pm_check_rule an_check_rule cd_check_rule ct_check_rule), sl_check_rule⟩)
    (c_check_rule : PySem.W.codeIn K cd_check_rule "check_rule" = true)
    (k_check_rule : PySem.W.keepIn K (.ref f_check_rule') = true)
    (a_is_row : PySem.W.nsIn K mainGlobals "is_row" = some (some (.ref f_is_row')))
    (l_is_row : K.lookup f_is_row' = some ⟨oc_is_row, od_is_row, .func (PySem.W.fnOf "is_row" "is_row" (defArgs s_is_row) (defBody s_is_row) (defScope s_is_row) .none kV_is_row dc_is_row pm_is_row an_is_row cd_is_row ct_is_row), sl_is_row⟩)
    (c_is_row : PySem.W.codeIn K cd_is_row "is_row" = true)
    (k_is_row : PySem.W.keepIn K (.ref f_is_row') = true)
    (a_check_row : PySem.W.nsIn K mainGlobals "check_row" = some (some (.ref f_check_row')))
    (l_check_row : K.lookup f_check_row' = some ⟨oc_check_row, od_check_row, .func (PySem.W.fnOf "check_row" "check_row" (defArgs s_check_row) (defBody s_check_row) (defScope s_check_row) .none kV_check_row dc_check_row pm_check_row an_check_row cd_check_row ct_check_row), sl_check_row⟩)
    (c_check_row : PySem.W.codeIn K cd_check_row "check_row" = true)
    (k_check_row : PySem.W.keepIn K (.ref f_check_row') = true)
    (a_is_kept : PySem.W.nsIn K mainGlobals "is_kept" = some (some (.ref f_is_kept')))
    (l_is_kept : K.lookup f_is_kept' = some ⟨oc_is_kept, od_is_kept, .func (PySem.W.fnOf "is_kept" "is_kept" (defArgs s_is_kept) (defBody s_is_kept) (defScope s_is_kept) .none kV_is_kept dc_is_kept pm_is_kept an_is_kept cd_is_kept ct_is_kept), sl_is_kept⟩)
    (c_is_kept : PySem.W.codeIn K cd_is_kept "is_kept" = true)
    (k_is_kept : PySem.W.keepIn K (.ref f_is_kept') = true)
    (a_kept : PySem.W.nsIn K mainGlobals "kept" = some (some (.ref f_kept')))
    (l_kept : K.lookup f_kept' = some ⟨oc_kept, od_kept, .func (PySem.W.fnOf "kept" "kept" (defArgs s_kept) (defBody s_kept) (defScope s_kept) .none kV_kept dc_kept pm_kept an_kept cd_kept ct_kept), sl_kept⟩)
    (c_kept : PySem.W.codeIn K cd_kept "kept" = true)
    (k_kept : PySem.W.keepIn K (.ref f_kept') = true)
    (a_check_ring : PySem.W.nsIn K mainGlobals "check_ring" = some (some (.ref f_check_ring')))
    (l_check_ring : K.lookup f_check_ring' = some ⟨oc_check_ring, od_check_ring, .func (PySem.W.fnOf "check_ring" "check_ring" (defArgs s_check_ring) (defBody s_check_ring) (defScope s_check_ring) .none kV_check_ring dc_check_ring pm_check_ring an_check_ring cd_check_ring ct_check_ring), sl_check_ring⟩)
    (c_check_ring : PySem.W.codeIn K cd_check_ring "check_ring" = true)
    (k_check_ring : PySem.W.keepIn K (.ref f_check_ring') = true)
    (a_is_kept_ring : PySem.W.nsIn K mainGlobals "is_kept_ring" = some (some (.ref f_is_kept_ring')))
    (l_is_kept_ring : K.lookup f_is_kept_ring' = some ⟨oc_is_kept_ring, od_is_kept_ring, .func (PySem.W.fnOf "is_kept_ring" "is_kept_ring" (defArgs s_is_kept_ring) (defBody s_is_kept_ring) (defScope s_is_kept_ring) .none kV_is_kept_ring dc_is_kept_ring pm_is_kept_ring an_is_kept_ring cd_is_kept_ring ct_is_kept_ring), sl_is_kept_ring⟩)
    (c_is_kept_ring : PySem.W.codeIn K cd_is_kept_ring "is_kept_ring" = true)
    (k_is_kept_ring : PySem.W.keepIn K (.ref f_is_kept_ring') = true)
    (a_ring_kept : PySem.W.nsIn K mainGlobals "ring_kept" = some (some (.ref f_ring_kept')))
    (l_ring_kept : K.lookup f_ring_kept' = some ⟨oc_ring_kept, od_ring_kept, .func (PySem.W.fnOf "ring_kept" "ring_kept" (defArgs s_ring_kept) (defBody s_ring_kept) (defScope s_ring_kept) .none kV_ring_kept dc_ring_kept pm_ring_kept an_ring_kept cd_ring_kept ct_ring_kept), sl_ring_kept⟩)
    (c_ring_kept : PySem.W.codeIn K cd_ring_kept "ring_kept" = true)
    (k_ring_kept : PySem.W.keepIn K (.ref f_ring_kept') = true)
    (a_breach : PySem.W.nsIn K mainGlobals "breach" = some (some (.ref f_breach')))
    (l_breach : K.lookup f_breach' = some ⟨oc_breach, od_breach, .func (PySem.W.fnOf "breach" "breach" (defArgs s_breach) (defBody s_breach) (defScope s_breach) .none kV_breach dc_breach pm_breach an_breach cd_breach ct_breach), sl_breach⟩)
    (c_breach : PySem.W.codeIn K cd_breach "breach" = true)
    (k_breach : PySem.W.keepIn K (.ref f_breach') = true)
    (a_law_earlier : PySem.W.nsIn K mainGlobals "_law_earlier" = some (some (.ref f_law_earlier')))
    (l_law_earlier : K.lookup f_law_earlier' = some ⟨oc_law_earlier, od_law_earlier, .func (PySem.W.fnOf "_law_earlier" "_law_earlier" (defArgs s_law_earlier) (defBody s_law_earlier) (defScope s_law_earlier) .none kV_law_earlier dc_law_earlier pm_law_earlier an_law_earlier cd_law_earlier ct_law_earlier), sl_law_earlier⟩)
    (c_law_earlier : PySem.W.codeIn K cd_law_earlier "_law_earlier" = true)
    (k_law_earlier : PySem.W.keepIn K (.ref f_law_earlier') = true)
    (a_law_right : PySem.W.nsIn K mainGlobals "_law_right" = some (some (.ref f_law_right')))
    (l_law_right : K.lookup f_law_right' = some ⟨oc_law_right, od_law_right, .func (PySem.W.fnOf "_law_right" "_law_right" (defArgs s_law_right) (defBody s_law_right) (defScope s_law_right) .none kV_law_right dc_law_right pm_law_right an_law_right cd_law_right ct_law_right), sl_law_right⟩)
    (c_law_right : PySem.W.codeIn K cd_law_right "_law_right" = true)
    (k_law_right : PySem.W.keepIn K (.ref f_law_right') = true)
    (a_law_source : PySem.W.nsIn K mainGlobals "_law_source" = some (some (.ref f_law_source')))
    (l_law_source : K.lookup f_law_source' = some ⟨oc_law_source, od_law_source, .func (PySem.W.fnOf "_law_source" "_law_source" (defArgs s_law_source) (defBody s_law_source) (defScope s_law_source) .none kV_law_source dc_law_source pm_law_source an_law_source cd_law_source ct_law_source), sl_law_source⟩)
    (c_law_source : PySem.W.codeIn K cd_law_source "_law_source" = true)
    (k_law_source : PySem.W.keepIn K (.ref f_law_source') = true)
    (a_law : PySem.W.nsIn K mainGlobals "law" = some (some (.ref f_law')))
    (l_law : K.lookup f_law' = some ⟨oc_law, od_law, .func (PySem.W.fnOf "law" "law" (defArgs s_law) (defBody s_law) (defScope s_law) .none kV_law dc_law pm_law an_law cd_law ct_law), sl_law⟩)
    (c_law : PySem.W.codeIn K cd_law "law" = true)
    (k_law : PySem.W.keepIn K (.ref f_law') = true)
    (pg_Rule : PySem.W.plainGet K C_Rule Str.empty = true)
    (hd_Rule : PySem.W.hasDictIn K C_Rule = true)
    (po_Rule : PySem.W.plainOver K C_Rule = true)
    (sa_Rule : PySem.W.findIn K (.ref C_Rule) "__setattr__" = some (some (.builtin "object.__setattr__")))
    (mk_Rule : PySem.W.makesIn K C_Rule = true)
    (kc_Rule : PySem.W.keepIn K (.ref C_Rule) = true)
    (n_Rule_text : PySem.W.findIn K (.ref C_Rule) "text" = some none)
    (n_Rule_triples : PySem.W.findIn K (.ref C_Rule) "triples" = some none)
    (n_Rule_reach : PySem.W.findIn K (.ref C_Rule) "reach" = some none)
    (n_Rule_worth_of : PySem.W.findIn K (.ref C_Rule) "worth_of" = some none)
    (n_Rule_behind : PySem.W.findIn K (.ref C_Rule) "behind" = some none)
    (n_Rule_kinds : PySem.W.findIn K (.ref C_Rule) "kinds" = some none)
    (n_Rule_worths : PySem.W.findIn K (.ref C_Rule) "worths" = some none)
    (n_Rule_bars : PySem.W.findIn K (.ref C_Rule) "bars" = some none)
    (ne_Rule : PySem.W.findIn K (.ref C_Rule) "__ne__" = some (some (.builtin "object.__ne__")))
    (o1_Rule : PySem.W.findIn K (.ref C_Rule) "__class__" = some (some (.builtin "object.__class__")))
    (o4_Rule : PySem.W.mroIn K C_Rule (.type "object") = some true)
    (o2 : PySem.W.specialIn K (.builtin "object.__class__") "__get__" = some (some (.builtin "getset_descriptor.__get__")))
    (o3 : PySem.W.takesIn K (.builtin "object.__class__") = some true)
    (z_abs : PySem.W.nsIn K mainGlobals "abs" = some none)
    (z_all : PySem.W.nsIn K mainGlobals "all" = some none)
    (z_dict : PySem.W.nsIn K mainGlobals "dict" = some none)
    (z_divmod : PySem.W.nsIn K mainGlobals "divmod" = some none)
    (z_int : PySem.W.nsIn K mainGlobals "int" = some none)
    (z_isinstance : PySem.W.nsIn K mainGlobals "isinstance" = some none)
    (z_len : PySem.W.nsIn K mainGlobals "len" = some none)
    (z_list : PySem.W.nsIn K mainGlobals "list" = some none)
    (z_max : PySem.W.nsIn K mainGlobals "max" = some none)
    (z_min : PySem.W.nsIn K mainGlobals "min" = some none)
    (z_range : PySem.W.nsIn K mainGlobals "range" = some none)
    (z_repr : PySem.W.nsIn K mainGlobals "repr" = some none)
    (z_set : PySem.W.nsIn K mainGlobals "set" = some none)
    (z_sorted : PySem.W.nsIn K mainGlobals "sorted" = some none)
    (z_str : PySem.W.nsIn K mainGlobals "str" = some none)
    (z_tuple : PySem.W.nsIn K mainGlobals "tuple" = some none)
    (z_zip : PySem.W.nsIn K mainGlobals "zip" = some none)
    (g_DIGITS : PySem.W.nsIn K mainGlobals "DIGITS" = some (some (.str v_DIGITS t_DIGITS)))
    (g_DISTANCES : PySem.W.nsIn K mainGlobals "DISTANCES" = some (some (.str v_DISTANCES t_DISTANCES)))
    (g_LETTERS : PySem.W.nsIn K mainGlobals "LETTERS" = some (some (.str v_LETTERS t_LETTERS)))
    (g_MOST_BARS : PySem.W.nsIn K mainGlobals "MOST_BARS" = some (some (.int 40 t_MOST_BARS)))
    (g_MOST_DISTANCE : PySem.W.nsIn K mainGlobals "MOST_DISTANCE" = some (some (.int 5 t_MOST_DISTANCE)))
    (g_MOST_KINDS : PySem.W.nsIn K mainGlobals "MOST_KINDS" = some (some (.int 4 t_MOST_KINDS)))
    (g_MOST_PLACES : PySem.W.nsIn K mainGlobals "MOST_PLACES" = some (some (.int 1000 t_MOST_PLACES)))
    (e_DIGITS : v_DIGITS = S [48, 49, 50, 51, 52, 53, 54, 55, 56, 57])
    (e_DISTANCES : v_DISTANCES = S [49, 50, 51, 52, 53])
    (e_LETTERS : v_LETTERS = S [97, 98, 99, 100, 101, 102, 103, 104, 105, 106, 107, 108, 109, 110, 111, 112, 113, 114, 115, 116, 117, 118, 119, 120, 121, 122])
    : ∃ fd : FuncData, (∀ (s : Shared) (v : Value), BindsTo s fd ⟨[v], []⟩ [("_law_cells", v)]) ∧ ∀ base : Heap, K.In base → base.Ns mainGlobals mg → FnG l.prog w K mg base 9 fa fd ["_law_cells"] f_law := by
  have e := hfa.symm.trans (PySem.W.mg_of X G a_law)
  cases e
  have cls : Cls' K mg AF := by
    refine ⟨fun c fs C hm hc => ?_⟩
    unfold AF at hm
    simp only [List.mem_cons, List.not_mem_nil, or_false, Prod.mk.injEq] at hm
    obtain ⟨rfl, rfl⟩ := hm
    · have ec := (PySem.W.mg_of X G aC_Rule).symm.trans hc
      cases ec
      refine ⟨⟨pg_Rule, hd_Rule, po_Rule, sa_Rule⟩, fun f hf => ?_⟩
      simp only [List.mem_cons, List.not_mem_nil, or_false] at hf
      rcases hf with rfl | rfl | rfl | rfl | rfl | rfl | rfl | rfl
      · exact n_Rule_text
      · exact n_Rule_triples
      · exact n_Rule_reach
      · exact n_Rule_worth_of
      · exact n_Rule_behind
      · exact n_Rule_kinds
      · exact n_Rule_worths
      · exact n_Rule_bars
  have Tx : Txt K mg := {
    cls := cls
    z_abs := PySem.W.mg_none_of X G z_abs
    z_all := PySem.W.mg_none_of X G z_all
    z_dict := PySem.W.mg_none_of X G z_dict
    z_divmod := PySem.W.mg_none_of X G z_divmod
    z_int := PySem.W.mg_none_of X G z_int
    z_isinstance := PySem.W.mg_none_of X G z_isinstance
    z_len := PySem.W.mg_none_of X G z_len
    z_list := PySem.W.mg_none_of X G z_list
    z_max := PySem.W.mg_none_of X G z_max
    z_min := PySem.W.mg_none_of X G z_min
    z_range := PySem.W.mg_none_of X G z_range
    z_repr := PySem.W.mg_none_of X G z_repr
    z_set := PySem.W.mg_none_of X G z_set
    z_sorted := PySem.W.mg_none_of X G z_sorted
    z_str := PySem.W.mg_none_of X G z_str
    z_tuple := PySem.W.mg_none_of X G z_tuple
    z_zip := PySem.W.mg_none_of X G z_zip
    c_DIGITS := ⟨_, by rw [PySem.W.mg_of X G g_DIGITS, e_DIGITS]⟩
    c_DISTANCES := ⟨_, by rw [PySem.W.mg_of X G g_DISTANCES, e_DISTANCES]⟩
    c_LETTERS := ⟨_, by rw [PySem.W.mg_of X G g_LETTERS, e_LETTERS]⟩
    c_MOST_BARS := ⟨_, PySem.W.mg_of X G g_MOST_BARS⟩
    c_MOST_DISTANCE := ⟨_, PySem.W.mg_of X G g_MOST_DISTANCE⟩
    c_MOST_KINDS := ⟨_, PySem.W.mg_of X G g_MOST_KINDS⟩
    c_MOST_PLACES := ⟨_, PySem.W.mg_of X G g_MOST_PLACES⟩
    oc_Rule := ⟨_, PySem.W.mg_of X G aC_Rule, ⟨⟨pg_Rule, hd_Rule, po_Rule, sa_Rule⟩, o1_Rule, o2, o3, o4_Rule⟩⟩
  }
  have F_Rule_eq := fun_mk (st := s_Rule_eq) l_Rule_eq c_Rule_eq k_Rule_eq
  have B_Rule_eq := F_Rule_eq.binds (ps := ["self", "other"]) fun _ _ _ _ _ _ us hl => match us, hl with | [_, _], _ => rfl
  have F_law_bars := fun_mk (st := s_law_bars) l_law_bars c_law_bars k_law_bars
  have B_law_bars := F_law_bars.binds (ps := ["_law_letters", "_law_far"]) fun _ _ _ _ _ _ us hl => match us, hl with | [_, _], _ => rfl
  have F_law_draw := fun_mk (st := s_law_draw) l_law_draw c_law_draw k_law_draw
  have B_law_draw := F_law_draw.binds (ps := ["_law_source_here", "_law_many"]) fun _ _ _ _ _ _ us hl => match us, hl with | [_, _], _ => rfl
  have F_law_plan := fun_mk (st := s_law_plan) l_law_plan c_law_plan k_law_plan
  have B_law_plan := F_law_plan.binds (ps := ["_law_source_here", "_law_most", "_law_far", "_law_lots_here"]) fun _ _ _ _ _ _ us hl => match us, hl with | [_, _, _, _], _ => rfl
  have F_law_lots := fun_mk (st := s_law_lots) l_law_lots c_law_lots k_law_lots
  have B_law_lots := F_law_lots.binds (ps := ["_law_source_here", "_law_letters"]) fun _ _ _ _ _ _ us hl => match us, hl with | [_, _], _ => rfl
  have F_words_behind := fun_mk (st := s_words_behind) l_words_behind c_words_behind k_words_behind
  have B_words_behind := F_words_behind.binds (ps := ["line", "head"]) fun _ _ _ _ _ _ us hl => match us, hl with | [_, _], _ => rfl
  have F_is_rising := fun_mk (st := s_is_rising) l_is_rising c_is_rising k_is_rising
  have B_is_rising := F_is_rising.binds (ps := ["words"]) fun _ _ _ _ _ _ us hl => match us, hl with | [_], _ => rfl
  have F_is_kind_word := fun_mk (st := s_is_kind_word) l_is_kind_word c_is_kind_word k_is_kind_word
  have B_is_kind_word := F_is_kind_word.binds (ps := ["word"]) fun _ _ _ _ _ _ us hl => match us, hl with | [_], _ => rfl
  have F_read_kinds := fun_mk (st := s_read_kinds) l_read_kinds c_read_kinds k_read_kinds
  have B_read_kinds := F_read_kinds.binds (ps := ["line"]) fun _ _ _ _ _ _ us hl => match us, hl with | [_], _ => rfl
  have F_is_bar := fun_mk (st := s_is_bar) l_is_bar c_is_bar k_is_bar
  have B_is_bar := F_is_bar.binds (ps := ["kinds", "value"]) fun _ _ _ _ _ _ us hl => match us, hl with | [_, _], _ => rfl
  have F_read_bars := fun_mk (st := s_read_bars) l_read_bars c_read_bars k_read_bars
  have B_read_bars := F_read_bars.binds (ps := ["kinds", "line"]) fun _ _ _ _ _ _ us hl => match us, hl with | [_, _], _ => rfl
  have F_read_text := fun_mk (st := s_read_text) l_read_text c_read_text k_read_text
  have B_read_text := F_read_text.binds (ps := ["text"]) fun _ _ _ _ _ _ us hl => match us, hl with | [_], _ => rfl
  have F_Rule_init := fun_mk (st := s_Rule_init) l_Rule_init c_Rule_init k_Rule_init
  have B_Rule_init := F_Rule_init.binds (ps := ["self", "text"]) fun _ _ _ _ _ _ us hl => match us, hl with | [_, _], _ => rfl
  have F_text_with := fun_mk (st := s_text_with) l_text_with c_text_with k_text_with
  have B_text_with := F_text_with.binds (ps := ["kinds", "worths", "bars"]) fun _ _ _ _ _ _ us hl => match us, hl with | [_, _, _], _ => rfl
  have F_Rule_bar := fun_mk (st := s_Rule_bar) l_Rule_bar c_Rule_bar k_Rule_bar
  have B_Rule_bar := F_Rule_bar.binds (ps := ["self", "bar"]) fun _ _ _ _ _ _ us hl => match us, hl with | [_, _], _ => rfl
  have F_law_text := fun_mk (st := s_law_text) l_law_text c_law_text k_law_text
  have B_law_text := F_law_text.binds (ps := ["_law_plan_here"]) fun _ _ _ _ _ _ us hl => match us, hl with | [_], _ => rfl
  have F_law_added := fun_mk (st := s_law_added) l_law_added c_law_added k_law_added
  have B_law_added := F_law_added.binds (ps := ["_law_plan_here", "_law_more"]) fun _ _ _ _ _ _ us hl => match us, hl with | [_, _], _ => rfl
  have F_law_broken := fun_mk (st := s_law_broken) l_law_broken c_law_broken k_law_broken
  have B_law_broken := F_law_broken.binds (ps := ["_law_bans", "_law_string_here", "_law_place"]) fun _ _ _ _ _ _ us hl => match us, hl with | [_, _, _], _ => rfl
  have F_law_string := fun_mk (st := s_law_string) l_law_string c_law_string k_law_string
  have B_law_string := F_law_string.binds (ps := ["_law_source_here", "_law_plan_here", "_law_most", "_law_longest"]) fun _ _ _ _ _ _ us hl => match us, hl with | [_, _, _, _], _ => rfl
  have F_law_circles := fun_mk (st := s_law_circles) l_law_circles c_law_circles k_law_circles
  have B_law_circles := F_law_circles.binds (ps := ["_law_bans", "_law_circle"]) fun _ _ _ _ _ _ us hl => match us, hl with | [_, _], _ => rfl
  have F_law_ring := fun_mk (st := s_law_ring) l_law_ring c_law_ring k_law_ring
  have B_law_ring := F_law_ring.binds (ps := ["_law_source_here", "_law_plan_here", "_law_most"]) fun _ _ _ _ _ _ us hl => match us, hl with | [_, _, _], _ => rfl
  have F_check_rule := fun_mk (st := s_check_rule) l_check_rule c_check_rule k_check_rule
  have B_check_rule := F_check_rule.binds (ps := ["value"]) fun _ _ _ _ _ _ us hl => match us, hl with | [_], _ => rfl
  have F_is_row := fun_mk (st := s_is_row) l_is_row c_is_row k_is_row
  have B_is_row := F_is_row.binds (ps := ["rule", "value"]) fun _ _ _ _ _ _ us hl => match us, hl with | [_, _], _ => rfl
  have F_check_row := fun_mk (st := s_check_row) l_check_row c_check_row k_check_row
  have B_check_row := F_check_row.binds (ps := ["rule", "value"]) fun _ _ _ _ _ _ us hl => match us, hl with | [_, _], _ => rfl
  have F_is_kept := fun_mk (st := s_is_kept) l_is_kept c_is_kept k_is_kept
  have B_is_kept := F_is_kept.binds (ps := ["rule", "row"]) fun _ _ _ _ _ _ us hl => match us, hl with | [_, _], _ => rfl
  have F_kept := fun_mk (st := s_kept) l_kept c_kept k_kept
  have B_kept := F_kept.binds (ps := ["rule", "row"]) fun _ _ _ _ _ _ us hl => match us, hl with | [_, _], _ => rfl
  have F_check_ring := fun_mk (st := s_check_ring) l_check_ring c_check_ring k_check_ring
  have B_check_ring := F_check_ring.binds (ps := ["rule", "value"]) fun _ _ _ _ _ _ us hl => match us, hl with | [_, _], _ => rfl
  have F_is_kept_ring := fun_mk (st := s_is_kept_ring) l_is_kept_ring c_is_kept_ring k_is_kept_ring
  have B_is_kept_ring := F_is_kept_ring.binds (ps := ["rule", "ring"]) fun _ _ _ _ _ _ us hl => match us, hl with | [_, _], _ => rfl
  have F_ring_kept := fun_mk (st := s_ring_kept) l_ring_kept c_ring_kept k_ring_kept
  have B_ring_kept := F_ring_kept.binds (ps := ["rule", "ring"]) fun _ _ _ _ _ _ us hl => match us, hl with | [_, _], _ => rfl
  have F_breach := fun_mk (st := s_breach) l_breach c_breach k_breach
  have B_breach := F_breach.binds (ps := ["rule", "row"]) fun _ _ _ _ _ _ us hl => match us, hl with | [_, _], _ => rfl
  have F_law_earlier := fun_mk (st := s_law_earlier) l_law_earlier c_law_earlier k_law_earlier
  have B_law_earlier := F_law_earlier.binds (ps := ["_law_left", "_law_right_here"]) fun _ _ _ _ _ _ us hl => match us, hl with | [_, _], _ => rfl
  have F_law_right := fun_mk (st := s_law_right) l_law_right c_law_right k_law_right
  have B_law_right := F_law_right.binds (ps := ["_law_source_here"]) fun _ _ _ _ _ _ us hl => match us, hl with | [_], _ => rfl
  have F_law_source := fun_mk (st := s_law_source) l_law_source c_law_source k_law_source
  have B_law_source := F_law_source.binds (ps := ["_law_cells", "_law_at"]) fun _ _ _ _ _ _ us hl => match us, hl with | [_, _], _ => rfl
  have F_law := fun_mk (st := s_law) l_law c_law k_law
  refine ⟨PySem.W.fnOf "law" "law" (defArgs s_law) (defBody s_law) (defScope s_law) .none kV_law dc_law pm_law an_law cd_law ct_law, fun s v => .of_eq rfl, fun base _ _ => ?_⟩
  have G_Rule_eq := ok_Rule_eq (P := l.prog) (w := w) (base := base) (funX F_Rule_eq) Tx 
  have h_e_Rule_eq : HasE l.prog w K mg base 1 "Rule" f_Rule_eq := ⟨_, _, _, _, ⟨ne_Rule, a_Rule_eq, i_Rule_eq, o4_Rule⟩, G_Rule_eq, PySem.W.mg_of X G aC_Rule, B_Rule_eq⟩
  have G_law_bars := ok_law_bars (P := l.prog) (w := w) (base := base) (funX F_law_bars) Tx 
  have h_law_bars : Has l.prog w K mg base 1 "_law_bars" f_law_bars := has_fn G_law_bars (PySem.W.mg_of X G a_law_bars) k_law_bars B_law_bars
  have G_law_draw := ok_law_draw (P := l.prog) (w := w) (base := base) (funX F_law_draw) Tx 
  have h_law_draw : Has l.prog w K mg base 1 "_law_draw" f_law_draw := has_fn G_law_draw (PySem.W.mg_of X G a_law_draw) k_law_draw B_law_draw
  have G_law_plan := ok_law_plan (P := l.prog) (w := w) (base := base) (funX F_law_plan) Tx h_law_draw h_law_bars
  have h_law_plan : Has l.prog w K mg base 2 "_law_plan" f_law_plan := has_fn G_law_plan (PySem.W.mg_of X G a_law_plan) k_law_plan B_law_plan
  have G_law_lots := ok_law_lots (P := l.prog) (w := w) (base := base) (funX F_law_lots) Tx h_law_bars h_law_draw
  have h_law_lots : Has l.prog w K mg base 2 "_law_lots" f_law_lots := has_fn G_law_lots (PySem.W.mg_of X G a_law_lots) k_law_lots B_law_lots
  have G_words_behind := ok_words_behind (P := l.prog) (w := w) (base := base) (funX F_words_behind) Tx 
  have h_words_behind : Has l.prog w K mg base 1 "words_behind" f_words_behind := has_fn G_words_behind (PySem.W.mg_of X G a_words_behind) k_words_behind B_words_behind
  have G_is_rising := ok_is_rising (P := l.prog) (w := w) (base := base) (funX F_is_rising) Tx 
  have h_is_rising : Has l.prog w K mg base 1 "is_rising" f_is_rising := has_fn G_is_rising (PySem.W.mg_of X G a_is_rising) k_is_rising B_is_rising
  have G_is_kind_word := ok_is_kind_word (P := l.prog) (w := w) (base := base) (funX F_is_kind_word) Tx 
  have h_is_kind_word : Has l.prog w K mg base 1 "is_kind_word" f_is_kind_word := has_fn G_is_kind_word (PySem.W.mg_of X G a_is_kind_word) k_is_kind_word B_is_kind_word
  have G_read_kinds := ok_read_kinds (P := l.prog) (w := w) (base := base) (funX F_read_kinds) Tx h_words_behind h_is_kind_word h_is_rising
  have h_read_kinds : Has l.prog w K mg base 2 "read_kinds" f_read_kinds := has_fn G_read_kinds (PySem.W.mg_of X G a_read_kinds) k_read_kinds B_read_kinds
  have G_is_bar := ok_is_bar (P := l.prog) (w := w) (base := base) (funX F_is_bar) Tx 
  have h_is_bar : Has l.prog w K mg base 1 "is_bar" f_is_bar := has_fn G_is_bar (PySem.W.mg_of X G a_is_bar) k_is_bar B_is_bar
  have G_read_bars := ok_read_bars (P := l.prog) (w := w) (base := base) (funX F_read_bars) Tx h_words_behind h_is_bar h_is_rising
  have h_read_bars : Has l.prog w K mg base 2 "read_bars" f_read_bars := has_fn G_read_bars (PySem.W.mg_of X G a_read_bars) k_read_bars B_read_bars
  have G_read_text := ok_read_text (P := l.prog) (w := w) (base := base) (funX F_read_text) Tx h_read_kinds h_read_bars
  have h_read_text : Has l.prog w K mg base 3 "read_text" f_read_text := has_fn G_read_text (PySem.W.mg_of X G a_read_text) k_read_text B_read_text
  have G_Rule_init := ok_Rule_init (P := l.prog) (w := w) (base := base) (funX F_Rule_init) Tx h_read_text
  have h_Rule_init : HasC l.prog w K mg base 4 "Rule" f_Rule_init := has_cls ⟨mk_Rule, a_Rule_init, i_Rule_init, kc_Rule⟩ G_Rule_init (PySem.W.mg_of X G aC_Rule) B_Rule_init
  have G_text_with := ok_text_with (P := l.prog) (w := w) (base := base) (funX F_text_with) Tx 
  have h_text_with : Has l.prog w K mg base 1 "text_with" f_text_with := has_fn G_text_with (PySem.W.mg_of X G a_text_with) k_text_with B_text_with
  have G_Rule_bar := ok_Rule_bar (P := l.prog) (w := w) (base := base) (funX F_Rule_bar) Tx h_is_bar h_Rule_init h_text_with
  have h_m_Rule_bar : HasM l.prog w K mg base 6 "Rule" "bar" f_Rule_bar := ⟨_, _, _, _, ⟨pg_Rule, hd_Rule, po_Rule, sa_Rule⟩, ⟨a_Rule_bar, i_Rule_bar, k_Rule_bar⟩, G_Rule_bar, PySem.W.mg_of X G aC_Rule, B_Rule_bar⟩
  have G_law_text := ok_law_text (P := l.prog) (w := w) (base := base) (funX F_law_text) Tx 
  have h_law_text : Has l.prog w K mg base 1 "_law_text" f_law_text := has_fn G_law_text (PySem.W.mg_of X G a_law_text) k_law_text B_law_text
  have G_law_added := ok_law_added (P := l.prog) (w := w) (base := base) (funX F_law_added) Tx h_Rule_init h_law_text h_m_Rule_bar
  have h_law_added : Has l.prog w K mg base 7 "_law_added" f_law_added := has_fn G_law_added (PySem.W.mg_of X G a_law_added) k_law_added B_law_added
  have G_law_broken := ok_law_broken (P := l.prog) (w := w) (base := base) (funX F_law_broken) Tx 
  have h_law_broken : Has l.prog w K mg base 1 "_law_broken" f_law_broken := has_fn G_law_broken (PySem.W.mg_of X G a_law_broken) k_law_broken B_law_broken
  have G_law_string := ok_law_string (P := l.prog) (w := w) (base := base) (funX F_law_string) Tx h_law_draw h_law_broken
  have h_law_string : Has l.prog w K mg base 2 "_law_string" f_law_string := has_fn G_law_string (PySem.W.mg_of X G a_law_string) k_law_string B_law_string
  have G_law_circles := ok_law_circles (P := l.prog) (w := w) (base := base) (funX F_law_circles) Tx 
  have h_law_circles : Has l.prog w K mg base 1 "_law_circles" f_law_circles := has_fn G_law_circles (PySem.W.mg_of X G a_law_circles) k_law_circles B_law_circles
  have G_law_ring := ok_law_ring (P := l.prog) (w := w) (base := base) (funX F_law_ring) Tx h_law_draw h_law_string h_law_circles
  have h_law_ring : Has l.prog w K mg base 3 "_law_ring" f_law_ring := has_fn G_law_ring (PySem.W.mg_of X G a_law_ring) k_law_ring B_law_ring
  have G_check_rule := ok_check_rule (P := l.prog) (w := w) (base := base) (funX F_check_rule) Tx 
  have h_check_rule : Has l.prog w K mg base 1 "check_rule" f_check_rule := has_fn G_check_rule (PySem.W.mg_of X G a_check_rule) k_check_rule B_check_rule
  have G_is_row := ok_is_row (P := l.prog) (w := w) (base := base) (funX F_is_row) Tx 
  have h_is_row : Has l.prog w K mg base 1 "is_row" f_is_row := has_fn G_is_row (PySem.W.mg_of X G a_is_row) k_is_row B_is_row
  have G_check_row := ok_check_row (P := l.prog) (w := w) (base := base) (funX F_check_row) Tx h_is_row
  have h_check_row : Has l.prog w K mg base 2 "check_row" f_check_row := has_fn G_check_row (PySem.W.mg_of X G a_check_row) k_check_row B_check_row
  have G_is_kept := ok_is_kept (P := l.prog) (w := w) (base := base) (funX F_is_kept) Tx 
  have h_is_kept : Has l.prog w K mg base 1 "is_kept" f_is_kept := has_fn G_is_kept (PySem.W.mg_of X G a_is_kept) k_is_kept B_is_kept
  have G_kept := ok_kept (P := l.prog) (w := w) (base := base) (funX F_kept) Tx h_check_rule h_check_row h_is_kept
  have h_kept : Has l.prog w K mg base 3 "kept" f_kept := has_fn G_kept (PySem.W.mg_of X G a_kept) k_kept B_kept
  have G_check_ring := ok_check_ring (P := l.prog) (w := w) (base := base) (funX F_check_ring) Tx h_check_row
  have h_check_ring : Has l.prog w K mg base 3 "check_ring" f_check_ring := has_fn G_check_ring (PySem.W.mg_of X G a_check_ring) k_check_ring B_check_ring
  have G_is_kept_ring := ok_is_kept_ring (P := l.prog) (w := w) (base := base) (funX F_is_kept_ring) Tx 
  have h_is_kept_ring : Has l.prog w K mg base 1 "is_kept_ring" f_is_kept_ring := has_fn G_is_kept_ring (PySem.W.mg_of X G a_is_kept_ring) k_is_kept_ring B_is_kept_ring
  have G_ring_kept := ok_ring_kept (P := l.prog) (w := w) (base := base) (funX F_ring_kept) Tx h_check_rule h_check_ring h_is_kept_ring
  have h_ring_kept : Has l.prog w K mg base 4 "ring_kept" f_ring_kept := has_fn G_ring_kept (PySem.W.mg_of X G a_ring_kept) k_ring_kept B_ring_kept
  have G_breach := ok_breach (P := l.prog) (w := w) (base := base) (funX F_breach) Tx h_check_rule h_check_row
  have h_breach : Has l.prog w K mg base 3 "breach" f_breach := has_fn G_breach (PySem.W.mg_of X G a_breach) k_breach B_breach
  have G_law_earlier := ok_law_earlier (P := l.prog) (w := w) (base := base) (funX F_law_earlier) Tx 
  have h_law_earlier : Has l.prog w K mg base 1 "_law_earlier" f_law_earlier := has_fn G_law_earlier (PySem.W.mg_of X G a_law_earlier) k_law_earlier B_law_earlier
  have G_law_right := ok_law_right (P := l.prog) (w := w) (base := base) (funX F_law_right) Tx h_law_plan h_law_lots h_law_draw h_Rule_init h_law_text h_law_added h_e_Rule_eq h_law_ring h_law_string h_kept h_breach h_law_earlier h_ring_kept
  have h_law_right : Has l.prog w K mg base 8 "_law_right" f_law_right := has_fn G_law_right (PySem.W.mg_of X G a_law_right) k_law_right B_law_right
  have G_law_source := ok_law_source (P := l.prog) (w := w) (base := base) (funX F_law_source) Tx 
  have h_law_source : Has l.prog w K mg base 1 "_law_source" f_law_source := has_fn G_law_source (PySem.W.mg_of X G a_law_source) k_law_source B_law_source
  exact ok_law (funX F_law) Tx h_law_right h_law_source

end LW
open PySem PySem.W PyProof.Rows in
set_option maxRecDepth 100000 in
set_option maxHeartbeats 0 in
theorem PySem.Challenge.cw_gapkinds_k75_whole_rules_put_together_holds : PySem.Challenge.rw_gapkinds_k75_whole_rules_put_together.Holds := by
  w_on; o_law; k_head; (case hw => w_witness2)
  k_fill
  refine GK.walk_G (l := PySem.Challenge.rw_gapkinds_k75_whole_rules_put_together) (n := 63) (k := 9) (x := "_law_cells") (fn := LW.f_law) rfl (by decide) rfl ⟨rfl, by decide, by decide⟩ (fun w h Y => PySem.W.kIn_of Y) ?F LW.plain
  case F =>
    intro w mg fa h KX G hmg
    refine' LW.all_mk KX G hmg ?aC_Rule ?a_Rule_eq ?i_Rule_eq ?l_Rule_eq ?c_Rule_eq ?k_Rule_eq ?a_law_bars ?l_law_bars ?c_law_bars ?k_law_bars ?a_law_draw ?l_law_draw ?c_law_draw ?k_law_draw ?a_law_plan ?l_law_plan ?c_law_plan ?k_law_plan ?a_law_lots ?l_law_lots ?c_law_lots ?k_law_lots ?a_words_behind ?l_words_behind ?c_words_behind ?k_words_behind ?a_is_rising ?l_is_rising ?c_is_rising ?k_is_rising ?a_is_kind_word ?l_is_kind_word ?c_is_kind_word ?k_is_kind_word ?a_read_kinds ?l_read_kinds ?c_read_kinds ?k_read_kinds ?a_is_bar ?l_is_bar ?c_is_bar ?k_is_bar ?a_read_bars ?l_read_bars ?c_read_bars ?k_read_bars ?a_read_text ?l_read_text ?c_read_text ?k_read_text ?a_Rule_init ?i_Rule_init ?l_Rule_init ?c_Rule_init ?k_Rule_init ?a_text_with ?l_text_with ?c_text_with ?k_text_with ?a_Rule_bar ?i_Rule_bar ?l_Rule_bar ?c_Rule_bar ?k_Rule_bar ?a_law_text ?l_law_text ?c_law_text ?k_law_text ?a_law_added ?l_law_added ?c_law_added ?k_law_added ?a_law_broken ?l_law_broken ?c_law_broken ?k_law_broken ?a_law_string ?l_law_string ?c_law_string ?k_law_string ?a_law_circles ?l_law_circles ?c_law_circles ?k_law_circles ?a_law_ring ?l_law_ring ?c_law_ring ?k_law_ring ?a_check_rule ?l_check_rule ?c_check_rule ?k_check_rule ?a_is_row ?l_is_row ?c_is_row ?k_is_row ?a_check_row ?l_check_row ?c_check_row ?k_check_row ?a_is_kept ?l_is_kept ?c_is_kept ?k_is_kept ?a_kept ?l_kept ?c_kept ?k_kept ?a_check_ring ?l_check_ring ?c_check_ring ?k_check_ring ?a_is_kept_ring ?l_is_kept_ring ?c_is_kept_ring ?k_is_kept_ring ?a_ring_kept ?l_ring_kept ?c_ring_kept ?k_ring_kept ?a_breach ?l_breach ?c_breach ?k_breach ?a_law_earlier ?l_law_earlier ?c_law_earlier ?k_law_earlier ?a_law_right ?l_law_right ?c_law_right ?k_law_right ?a_law_source ?l_law_source ?c_law_source ?k_law_source ?a_law ?l_law ?c_law ?k_law ?pg_Rule ?hd_Rule ?po_Rule ?sa_Rule ?mk_Rule ?kc_Rule ?n_Rule_text ?n_Rule_triples ?n_Rule_reach ?n_Rule_worth_of ?n_Rule_behind ?n_Rule_kinds ?n_Rule_worths ?n_Rule_bars ?ne_Rule ?o1_Rule ?o4_Rule ?o2 ?o3 ?z_abs ?z_all ?z_dict ?z_divmod ?z_int ?z_isinstance ?z_len ?z_list ?z_max ?z_min ?z_range ?z_repr ?z_set ?z_sorted ?z_str ?z_tuple ?z_zip ?g_DIGITS ?g_DISTANCES ?g_LETTERS ?g_MOST_BARS ?g_MOST_DISTANCE ?g_MOST_KINDS ?g_MOST_PLACES ?e_DIGITS ?e_DISTANCES ?e_LETTERS
    (case aC_Rule => k_is)
    (case a_Rule_eq => k_is)
    (case i_Rule_eq => k_is)
    (case l_Rule_eq => k_is)
    (case c_Rule_eq => k_is)
    (case k_Rule_eq => k_is)
    (case a_law_bars => k_is)
    (case l_law_bars => k_is)
    (case c_law_bars => k_is)
    (case k_law_bars => k_is)
    (case a_law_draw => k_is)
    (case l_law_draw => k_is)
    (case c_law_draw => k_is)
    (case k_law_draw => k_is)
    (case a_law_plan => k_is)
    (case l_law_plan => k_is)
    (case c_law_plan => k_is)
    (case k_law_plan => k_is)
    (case a_law_lots => k_is)
    (case l_law_lots => k_is)
    (case c_law_lots => k_is)
    (case k_law_lots => k_is)
    (case a_words_behind => k_is)
    (case l_words_behind => k_is)
    (case c_words_behind => k_is)
    (case k_words_behind => k_is)
    (case a_is_rising => k_is)
    (case l_is_rising => k_is)
    (case c_is_rising => k_is)
    (case k_is_rising => k_is)
    (case a_is_kind_word => k_is)
    (case l_is_kind_word => k_is)
    (case c_is_kind_word => k_is)
    (case k_is_kind_word => k_is)
    (case a_read_kinds => k_is)
    (case l_read_kinds => k_is)
    (case c_read_kinds => k_is)
    (case k_read_kinds => k_is)
    (case a_is_bar => k_is)
    (case l_is_bar => k_is)
    (case c_is_bar => k_is)
    (case k_is_bar => k_is)
    (case a_read_bars => k_is)
    (case l_read_bars => k_is)
    (case c_read_bars => k_is)
    (case k_read_bars => k_is)
    (case a_read_text => k_is)
    (case l_read_text => k_is)
    (case c_read_text => k_is)
    (case k_read_text => k_is)
    (case a_Rule_init => k_is)
    (case i_Rule_init => k_is)
    (case l_Rule_init => k_is)
    (case c_Rule_init => k_is)
    (case k_Rule_init => k_is)
    (case a_text_with => k_is)
    (case l_text_with => k_is)
    (case c_text_with => k_is)
    (case k_text_with => k_is)
    (case a_Rule_bar => k_is)
    (case i_Rule_bar => k_is)
    (case l_Rule_bar => k_is)
    (case c_Rule_bar => k_is)
    (case k_Rule_bar => k_is)
    (case a_law_text => k_is)
    (case l_law_text => k_is)
    (case c_law_text => k_is)
    (case k_law_text => k_is)
    (case a_law_added => k_is)
    (case l_law_added => k_is)
    (case c_law_added => k_is)
    (case k_law_added => k_is)
    (case a_law_broken => k_is)
    (case l_law_broken => k_is)
    (case c_law_broken => k_is)
    (case k_law_broken => k_is)
    (case a_law_string => k_is)
    (case l_law_string => k_is)
    (case c_law_string => k_is)
    (case k_law_string => k_is)
    (case a_law_circles => k_is)
    (case l_law_circles => k_is)
    (case c_law_circles => k_is)
    (case k_law_circles => k_is)
    (case a_law_ring => k_is)
    (case l_law_ring => k_is)
    (case c_law_ring => k_is)
    (case k_law_ring => k_is)
    (case a_check_rule => k_is)
    (case l_check_rule => k_is)
    (case c_check_rule => k_is)
    (case k_check_rule => k_is)
    (case a_is_row => k_is)
    (case l_is_row => k_is)
    (case c_is_row => k_is)
    (case k_is_row => k_is)
    (case a_check_row => k_is)
    (case l_check_row => k_is)
    (case c_check_row => k_is)
    (case k_check_row => k_is)
    (case a_is_kept => k_is)
    (case l_is_kept => k_is)
    (case c_is_kept => k_is)
    (case k_is_kept => k_is)
    (case a_kept => k_is)
    (case l_kept => k_is)
    (case c_kept => k_is)
    (case k_kept => k_is)
    (case a_check_ring => k_is)
    (case l_check_ring => k_is)
    (case c_check_ring => k_is)
    (case k_check_ring => k_is)
    (case a_is_kept_ring => k_is)
    (case l_is_kept_ring => k_is)
    (case c_is_kept_ring => k_is)
    (case k_is_kept_ring => k_is)
    (case a_ring_kept => k_is)
    (case l_ring_kept => k_is)
    (case c_ring_kept => k_is)
    (case k_ring_kept => k_is)
    (case a_breach => k_is)
    (case l_breach => k_is)
    (case c_breach => k_is)
    (case k_breach => k_is)
    (case a_law_earlier => k_is)
    (case l_law_earlier => k_is)
    (case c_law_earlier => k_is)
    (case k_law_earlier => k_is)
    (case a_law_right => k_is)
    (case l_law_right => k_is)
    (case c_law_right => k_is)
    (case k_law_right => k_is)
    (case a_law_source => k_is)
    (case l_law_source => k_is)
    (case c_law_source => k_is)
    (case k_law_source => k_is)
    (case a_law => k_is)
    (case l_law => k_is)
    (case c_law => k_is)
    (case k_law => k_is)
    (case pg_Rule => k_is)
    (case hd_Rule => k_is)
    (case po_Rule => k_is)
    (case sa_Rule => k_is)
    (case mk_Rule => k_is)
    (case kc_Rule => k_is)
    (case n_Rule_text => k_is)
    (case n_Rule_triples => k_is)
    (case n_Rule_reach => k_is)
    (case n_Rule_worth_of => k_is)
    (case n_Rule_behind => k_is)
    (case n_Rule_kinds => k_is)
    (case n_Rule_worths => k_is)
    (case n_Rule_bars => k_is)
    (case ne_Rule => k_is)
    (case o1_Rule => k_is)
    (case o4_Rule => k_is)
    (case o2 => k_is)
    (case o3 => k_is)
    (case z_abs => k_is)
    (case z_all => k_is)
    (case z_dict => k_is)
    (case z_divmod => k_is)
    (case z_int => k_is)
    (case z_isinstance => k_is)
    (case z_len => k_is)
    (case z_list => k_is)
    (case z_max => k_is)
    (case z_min => k_is)
    (case z_range => k_is)
    (case z_repr => k_is)
    (case z_set => k_is)
    (case z_sorted => k_is)
    (case z_str => k_is)
    (case z_tuple => k_is)
    (case z_zip => k_is)
    (case g_DIGITS => k_is)
    (case g_DISTANCES => k_is)
    (case g_LETTERS => k_is)
    (case g_MOST_BARS => k_is)
    (case g_MOST_DISTANCE => k_is)
    (case g_MOST_KINDS => k_is)
    (case g_MOST_PLACES => k_is)
    (case e_DIGITS => decide +kernel)
    (case e_DISTANCES => decide +kernel)
    (case e_LETTERS => decide +kernel)
