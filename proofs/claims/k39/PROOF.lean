import PyProof.Rows.All
import Wide.All
import OpenK.AllK
import Wide.FinOn
import HandS.ForMost
import HandS.Flow
import HandS.Star
import HandS.TupAny
import HandS.Wide
import HandS.WideBits
import HandS.Style
import HandS.IsInst
import HandS.Deep
import HandS.DictComp
import HandS.RaiseMore
import PyProof.StrBlock2
import HandS.SortInts
import HandS.Small
import HandS.Walk
import HandS.RevRange
import KE.KDictZip
import KE.GoesMore
import KE.GoesZip
import PyProof.Rows.SortShellAny
import PyProof.CollectStr
import HandS.EndBits
import PySem.Challenge.RW_gapkinds_k39_known_first_fits
set_option Elab.async false
set_option linter.all false
set_option maxRecDepth 100000
set_option maxHeartbeats 4000000
/-! GK1: values as trees, what represents them in an abstract heap, how heaps grow. -/
namespace GK
open PySem L2

def S (l : List Nat) : Str := ⟨l.toArray⟩
/-- a value as a tree; o: owned (may be changed), else frozen -/
inductive T where
  | non | bl (b : Bool) | int (i : Int) | str (s : List Nat)
  | tup (xs : List T)
  | lst (o : Bool) (xs : List T)
  | scr (xs : List T)
  | dic (o : Bool) (kvs : List (Key × T))
  | obj (o : Bool) (c : String) (fs : List (String × T))

abbrev FP := Addr → Prop
abbrev F0 : FP := fun _ => False

mutual
/-- v stands for the frozen tree t in H -/
inductive Fz (K : PySem.W.Frag) (mg : Str → Option Value) (H : Hp) : V → T → Prop
  | non : Fz K mg H .non .non
  | bl (b : Bool) : Fz K mg H (.bl b) (.bl b)
  | int (i : Int) : Fz K mg H (.int i) (.int i)
  | str (s : List Nat) : Fz K mg H (.str (S s)) (.str s)
  | tup {a : Addr} {vs : List V} {ts : List T} : SqT K H a vs → Fzs K mg H vs ts → Fz K mg H (.ref a) (.tup ts)
  | lst {a : Addr} {vs : List V} {ts : List T} : H a = some (.lst vs) → Fzs K mg H vs ts → Fz K mg H (.ref a) (.lst false ts)
  | scr {a : Addr} {vs : List V} {ts : List T} : SqL K H a vs → Fzs K mg H vs ts → Fz K mg H (.ref a) (.scr ts)
  | dic {a : Addr} {vs : List (Key × V)} {ts : List (Key × T)} : H a = some (.dK vs) → (vs.map (·.1)).Nodup → FzA K mg H vs ts → Fz K mg H (.ref a) (.dic false ts)
  | obj {a C dx : Addr} {c : String} {vs : List (Str × V)} {ts : List (String × T)} : H a = some (.ins C dx vs) → mg (Str.ofString c) = some (.ref C) → FzF K mg H vs ts → Fz K mg H (.ref a) (.obj false c ts)
inductive Fzs (K : PySem.W.Frag) (mg : Str → Option Value) (H : Hp) : List V → List T → Prop
  | nil : Fzs K mg H [] []
  | cons {v : V} {t : T} {vs : List V} {ts : List T} : Fz K mg H v t → Fzs K mg H vs ts → Fzs K mg H (v :: vs) (t :: ts)
inductive FzA (K : PySem.W.Frag) (mg : Str → Option Value) (H : Hp) : List (Key × V) → List (Key × T) → Prop
  | nil : FzA K mg H [] []
  | cons {k : Key} {v : V} {t : T} {vs : List (Key × V)} {ts : List (Key × T)} : Fz K mg H v t → FzA K mg H vs ts → FzA K mg H ((k, v) :: vs) ((k, t) :: ts)
inductive FzF (K : PySem.W.Frag) (mg : Str → Option Value) (H : Hp) : List (Str × V) → List (String × T) → Prop
  | nil : FzF K mg H [] []
  | cons {k : String} {v : V} {t : T} {vs : List (Str × V)} {ts : List (String × T)} : Fz K mg H v t → FzF K mg H vs ts → FzF K mg H ((Str.ofString k, v) :: vs) ((k, t) :: ts)
end

theorem Same.seqT {K : PySem.W.Frag} {H H' : Hp} {a : Addr} {xs : List V} (e : Same H H') (h : SqT K H a xs) : SqT K H' a xs := by
  rcases h with (h | ⟨o, h⟩) | h
  · exact .inl (.inl (e _ _ h))
  · exact .inl (.inr ⟨o, e _ _ h⟩)
  · exact .inr h

section
variable {K : PySem.W.Frag} {mg : Str → Option Value} {H H' H1 H1' H2 H2' : Hp}
mutual
theorem Fz.mono (e : Same H H') : ∀ {v : V} {t : T}, Fz K mg H v t → Fz K mg H' v t
  | _, _, .non => .non
  | _, _, .bl b => .bl b
  | _, _, .int i => .int i
  | _, _, .str s => .str s
  | _, _, .tup h r => .tup (Same.seqT e h) (Fzs.mono e r)
  | _, _, .lst h r => .lst (e _ _ h) (Fzs.mono e r)
  | _, _, .scr h r => .scr (e.seq h) (Fzs.mono e r)
  | _, _, .dic h n r => .dic (e _ _ h) n (FzA.mono e r)
  | _, _, .obj h m r => .obj (e _ _ h) m (FzF.mono e r)
theorem Fzs.mono (e : Same H H') : ∀ {v : List V} {t : List T}, Fzs K mg H v t → Fzs K mg H' v t
  | _, _, .nil => .nil
  | _, _, .cons h r => .cons (Fz.mono e h) (Fzs.mono e r)
theorem FzA.mono (e : Same H H') : ∀ {v : List (Key × V)} {t : List (Key × T)}, FzA K mg H v t → FzA K mg H' v t
  | _, _, .nil => .nil
  | _, _, .cons h r => .cons (Fz.mono e h) (FzA.mono e r)
theorem FzF.mono (e : Same H H') : ∀ {v : List (Str × V)} {t : List (String × T)}, FzF K mg H v t → FzF K mg H' v t
  | _, _, .nil => .nil
  | _, _, .cons h r => .cons (Fz.mono e h) (FzF.mono e r)
end
end

mutual
/-- v stands for t in H, its frozen parts in H1 (a part of H), its owned objects being those of F, none of which is in H1 -/
inductive Rep (K : PySem.W.Frag) (mg : Str → Option Value) (H1 H : Hp) : V → T → FP → Prop
  | sh {v : V} {t : T} : Fz K mg H1 v t → Rep K mg H1 H v t F0
  | lst {a : Addr} {vs : List V} {ts : List T} {F : FP} : H a = some (.lst vs) → H1 a = none → Reps K mg H1 H vs ts F → ¬ F a → Rep K mg H1 H (.ref a) (.lst true ts) (fun b => b = a ∨ F b)
  | dic {a : Addr} {vs : List (Key × V)} {ts : List (Key × T)} {F : FP} : H a = some (.dK vs) → H1 a = none → (vs.map (·.1)).Nodup → RepA K mg H1 H vs ts F → ¬ F a → Rep K mg H1 H (.ref a) (.dic true ts) (fun b => b = a ∨ F b)
  | obj {a C dx : Addr} {c : String} {vs : List (Str × V)} {ts : List (String × T)} {F : FP} : H a = some (.ins C dx vs) → H1 a = none → mg (Str.ofString c) = some (.ref C) → RepF K mg H1 H vs ts F → ¬ F a → Rep K mg H1 H (.ref a) (.obj true c ts) (fun b => b = a ∨ F b)
inductive Reps (K : PySem.W.Frag) (mg : Str → Option Value) (H1 H : Hp) : List V → List T → FP → Prop
  | nil : Reps K mg H1 H [] [] F0
  | cons {v : V} {t : T} {vs : List V} {ts : List T} {F G : FP} : Rep K mg H1 H v t F → Reps K mg H1 H vs ts G → (∀ b, F b → ¬ G b) → Reps K mg H1 H (v :: vs) (t :: ts) (fun b => F b ∨ G b)
inductive RepA (K : PySem.W.Frag) (mg : Str → Option Value) (H1 H : Hp) : List (Key × V) → List (Key × T) → FP → Prop
  | nil : RepA K mg H1 H [] [] F0
  | cons {k : Key} {v : V} {t : T} {vs : List (Key × V)} {ts : List (Key × T)} {F G : FP} : Rep K mg H1 H v t F → RepA K mg H1 H vs ts G → (∀ b, F b → ¬ G b) → RepA K mg H1 H ((k, v) :: vs) ((k, t) :: ts) (fun b => F b ∨ G b)
inductive RepF (K : PySem.W.Frag) (mg : Str → Option Value) (H1 H : Hp) : List (Str × V) → List (String × T) → FP → Prop
  | nil : RepF K mg H1 H [] [] F0
  | cons {k : String} {v : V} {t : T} {vs : List (Str × V)} {ts : List (String × T)} {F G : FP} : Rep K mg H1 H v t F → RepF K mg H1 H vs ts G → (∀ b, F b → ¬ G b) → RepF K mg H1 H ((Str.ofString k, v) :: vs) ((k, t) :: ts) (fun b => F b ∨ G b)
end

section
variable {K : PySem.W.Frag} {mg : Str → Option Value} {H H' H1 H1' H2 H2' : Hp}
mutual
/-- what F has is owned -/
theorem Rep.own : ∀ {v : V} {t : T} {F : FP}, Rep K mg H1 H v t F → ∀ b, F b → H1 b = none ∧ ∃ o, H b = some o
  | _, _, _, .sh _, b, h => h.elim
  | _, _, _, .lst h n r _, b, q => q.elim (fun e => by subst e; exact ⟨n, _, h⟩) (fun q => Reps.own r b q)
  | _, _, _, .dic h n _ r _, b, q => q.elim (fun e => by subst e; exact ⟨n, _, h⟩) (fun q => RepA.own r b q)
  | _, _, _, .obj h n _ r _, b, q => q.elim (fun e => by subst e; exact ⟨n, _, h⟩) (fun q => RepF.own r b q)
theorem Reps.own : ∀ {v : List V} {t : List T} {F : FP}, Reps K mg H1 H v t F → ∀ b, F b → H1 b = none ∧ ∃ o, H b = some o
  | _, _, _, .nil, b, h => h.elim
  | _, _, _, .cons r s _, b, q => q.elim (fun q => Rep.own r b q) (fun q => Reps.own s b q)
theorem RepA.own : ∀ {v : List (Key × V)} {t : List (Key × T)} {F : FP}, RepA K mg H1 H v t F → ∀ b, F b → H1 b = none ∧ ∃ o, H b = some o
  | _, _, _, .nil, b, h => h.elim
  | _, _, _, .cons r s _, b, q => q.elim (fun q => Rep.own r b q) (fun q => RepA.own s b q)
theorem RepF.own : ∀ {v : List (Str × V)} {t : List (String × T)} {F : FP}, RepF K mg H1 H v t F → ∀ b, F b → H1 b = none ∧ ∃ o, H b = some o
  | _, _, _, .nil, b, h => h.elim
  | _, _, _, .cons r s _, b, q => q.elim (fun q => Rep.own r b q) (fun q => RepF.own s b q)
end
mutual
/-- the frame -/
theorem Rep.frame (e : Same H1 H1') : ∀ {v : V} {t : T} {F : FP}, Rep K mg H1 H v t F → (∀ b, F b → H' b = H b ∧ H1' b = none) → Rep K mg H1' H' v t F
  | _, _, _, .sh h, _ => .sh (h.mono e)
  | _, _, _, .lst h n r d, k => .lst ((k _ (.inl rfl)).1.trans h) (k _ (.inl rfl)).2 (Reps.frame e r fun b q => k b (.inr q)) d
  | _, _, _, .dic h n m r d, k => .dic ((k _ (.inl rfl)).1.trans h) (k _ (.inl rfl)).2 m (RepA.frame e r fun b q => k b (.inr q)) d
  | _, _, _, .obj h n m r d, k => .obj ((k _ (.inl rfl)).1.trans h) (k _ (.inl rfl)).2 m (RepF.frame e r fun b q => k b (.inr q)) d
theorem Reps.frame (e : Same H1 H1') : ∀ {v : List V} {t : List T} {F : FP}, Reps K mg H1 H v t F → (∀ b, F b → H' b = H b ∧ H1' b = none) → Reps K mg H1' H' v t F
  | _, _, _, .nil, _ => .nil
  | _, _, _, .cons r s d, k => .cons (Rep.frame e r fun b q => k b (.inl q)) (Reps.frame e s fun b q => k b (.inr q)) d
theorem RepA.frame (e : Same H1 H1') : ∀ {v : List (Key × V)} {t : List (Key × T)} {F : FP}, RepA K mg H1 H v t F → (∀ b, F b → H' b = H b ∧ H1' b = none) → RepA K mg H1' H' v t F
  | _, _, _, .nil, _ => .nil
  | _, _, _, .cons r s d, k => .cons (Rep.frame e r fun b q => k b (.inl q)) (RepA.frame e s fun b q => k b (.inr q)) d
theorem RepF.frame (e : Same H1 H1') : ∀ {v : List (Str × V)} {t : List (String × T)} {F : FP}, RepF K mg H1 H v t F → (∀ b, F b → H' b = H b ∧ H1' b = none) → RepF K mg H1' H' v t F
  | _, _, _, .nil, _ => .nil
  | _, _, _, .cons r s d, k => .cons (Rep.frame e r fun b q => k b (.inl q)) (RepF.frame e s fun b q => k b (.inr q)) d
end
end

/-! ### freezing -/
mutual
def T.fz : T → T
  | .tup xs => .tup xs
  | .lst true xs => .lst false (T.fzs xs)
  | .dic true kvs => .dic false (T.fzA kvs)
  | .obj true c fs => .obj false c (T.fzF fs)
  | t => t
def T.fzs : List T → List T
  | [] => []
  | t :: r => t.fz :: T.fzs r
def T.fzA : List (Key × T) → List (Key × T)
  | [] => []
  | (k, t) :: r => (k, t.fz) :: T.fzA r
def T.fzF : List (String × T) → List (String × T)
  | [] => []
  | (k, t) :: r => (k, t.fz) :: T.fzF r
end
/-- frozen (a leaf, or a frozen node) -/
def T.sh : T → Bool
  | .lst o _ => !o
  | .dic o _ => !o
  | .obj o _ _ => !o
  | _ => true
theorem T.fz_sh : ∀ {t : T}, t.sh = true → t.fz = t
  | .non, _ => by simp [T.fz]
  | .bl _, _ => by simp [T.fz]
  | .int _, _ => by simp [T.fz]
  | .str _, _ => by simp [T.fz]
  | .tup _, _ => by simp [T.fz]
  | .scr _, _ => by simp [T.fz]
  | .lst false _, _ => by simp [T.fz]
  | .dic false _, _ => by simp [T.fz]
  | .obj false _ _, _ => by simp [T.fz]
  | .lst true _, h => by simp [T.sh] at h
  | .dic true _, h => by simp [T.sh] at h
  | .obj true _ _, h => by simp [T.sh] at h
section
variable {K : PySem.W.Frag} {mg : Str → Option Value} {H H' H1 H1' H2 H2' : Hp}
theorem Fz.isSh {v : V} {t : T} (h : Fz K mg H v t) : t.sh = true := by cases h <;> rfl
theorem Rep.fzOf {v : V} {t : T} {F : FP} (h : Rep K mg H1 H v t F) (e : t.sh = true) : Fz K mg H1 v t := by
  cases h with
  | sh h => exact h
  | lst => simp [T.sh] at e
  | dic => simp [T.sh] at e
  | obj => simp [T.sh] at e
/-- H1 and what H has at F -/
noncomputable def join (H1 H : Hp) (F : FP) : Hp := fun a => open Classical in if F a then H a else H1 a
theorem join_in {F : FP} {a : Addr} (h : F a) : join H1 H F a = H a := by unfold join; rw [if_pos h]
theorem join_out {F : FP} {a : Addr} (h : ¬ F a) : join H1 H F a = H1 a := by unfold join; rw [if_neg h]
theorem join_same {F : FP} (h : ∀ b, F b → H1 b = none) : Same H1 (join H1 H F) := fun b o e => by
  by_cases q : F b
  · rw [h b q] at e; cases e
  · rw [join_out q]; exact e
theorem join_sub {F : FP} (s : Same H1 H) : Same (join H1 H F) H := fun b o e => by
  by_cases q : F b
  · rw [join_in q] at e; exact e
  · rw [join_out q] at e; exact s b o e
mutual
theorem Rep.freeze (s : Same H1 H2) : ∀ {v : V} {t : T} {F : FP}, Rep K mg H1 H v t F → (∀ b, F b → H2 b = H b) → Fz K mg H2 v t.fz
  | _, _, _, .sh h, _ => by rw [T.fz_sh h.isSh]; exact h.mono s
  | _, _, _, .lst h n r d, k => by
    simp only [T.fz]
    exact .lst ((k _ (.inl rfl)).trans h) (Reps.freeze s r fun b q => k b (.inr q))
  | _, _, _, .dic h n m r d, k => by
    simp only [T.fz]
    exact .dic ((k _ (.inl rfl)).trans h) m (RepA.freeze s r fun b q => k b (.inr q))
  | _, _, _, .obj h n m r d, k => by
    simp only [T.fz]
    exact .obj ((k _ (.inl rfl)).trans h) m (RepF.freeze s r fun b q => k b (.inr q))
theorem Reps.freeze (s : Same H1 H2) : ∀ {v : List V} {t : List T} {F : FP}, Reps K mg H1 H v t F → (∀ b, F b → H2 b = H b) → Fzs K mg H2 v (T.fzs t)
  | _, _, _, .nil, _ => .nil
  | _, _, _, .cons r q d, k => .cons (Rep.freeze s r fun b q => k b (.inl q)) (Reps.freeze s q fun b q => k b (.inr q))
theorem RepA.freeze (s : Same H1 H2) : ∀ {v : List (Key × V)} {t : List (Key × T)} {F : FP}, RepA K mg H1 H v t F → (∀ b, F b → H2 b = H b) → FzA K mg H2 v (T.fzA t)
  | _, _, _, .nil, _ => .nil
  | _, _, _, .cons r q d, k => .cons (Rep.freeze s r fun b q => k b (.inl q)) (RepA.freeze s q fun b q => k b (.inr q))
theorem RepF.freeze (s : Same H1 H2) : ∀ {v : List (Str × V)} {t : List (String × T)} {F : FP}, RepF K mg H1 H v t F → (∀ b, F b → H2 b = H b) → FzF K mg H2 v (T.fzF t)
  | _, _, _, .nil, _ => .nil
  | _, _, _, .cons r q d, k => .cons (Rep.freeze s r fun b q => k b (.inl q)) (RepF.freeze s q fun b q => k b (.inr q))
end
end

/-! ### environments -/
abbrev Env := List (Option T)
inductive RepE (K : PySem.W.Frag) (mg : Str → Option Value) (H1 H : Hp) : L2.St → Env → FP → Prop
  | nil : RepE K mg H1 H [] [] F0
  | no {x : Option V} {σ : L2.St} {env : Env} {F : FP} : RepE K mg H1 H σ env F → RepE K mg H1 H (x :: σ) (none :: env) F
  | cons {v : V} {t : T} {σ : L2.St} {env : Env} {F G : FP} : Rep K mg H1 H v t F → RepE K mg H1 H σ env G → (∀ b, F b → ¬ G b) → RepE K mg H1 H (some v :: σ) (some t :: env) (fun b => F b ∨ G b)
section
variable {K : PySem.W.Frag} {mg : Str → Option Value} {H H' H1 H1' H2 H2' : Hp} {σ : L2.St} {env : Env} {F : FP}
theorem RepE.own : ∀ {σ : L2.St} {env : Env} {F : FP}, RepE K mg H1 H σ env F → ∀ b, F b → H1 b = none ∧ ∃ o, H b = some o
  | _, _, _, .nil, b, h => h.elim
  | _, _, _, .no r, b, h => RepE.own r b h
  | _, _, _, .cons r s _, b, h => h.elim (fun h => r.own b h) fun h => RepE.own s b h
theorem RepE.frame (e : Same H1 H1') : ∀ {σ : L2.St} {env : Env} {F : FP}, RepE K mg H1 H σ env F → (∀ b, F b → H' b = H b ∧ H1' b = none) → RepE K mg H1' H' σ env F
  | _, _, _, .nil, _ => .nil
  | _, _, _, .no r, k => .no (RepE.frame e r k)
  | _, _, _, .cons r s d, k => .cons (r.frame e fun b q => k b (.inl q)) (RepE.frame e s fun b q => k b (.inr q)) d
theorem RepE.len : ∀ {σ : L2.St} {env : Env} {F : FP}, RepE K mg H1 H σ env F → σ.length = env.length
  | _, _, _, .nil => rfl
  | _, _, _, .no r => by rw [List.length_cons, List.length_cons, RepE.len r]
  | _, _, _, .cons _ r _ => by rw [List.length_cons, List.length_cons, RepE.len r]
/-- a slot taken out -/
theorem RepE.take : ∀ {σ : L2.St} {env : Env} {F : FP} {i : Nat} {t : T}, RepE K mg H1 H σ env F → env[i]? = some (some t) →
    ∃ v Fi G, σ[i]? = some (some v) ∧ Rep K mg H1 H v t Fi ∧ RepE K mg H1 H σ (env.set i none) G ∧ (∀ b, Fi b → ¬ G b) ∧ (∀ b, Fi b → F b) ∧ (∀ b, G b → F b)
  | _, _, _, i, t, .nil, h => by simp at h
  | _, _, _, 0, t, .no r, h => by simp at h
  | _, _, _, i + 1, t, .no (x := x) r, h => by
    obtain ⟨v, Fi, G, e, a, b, c, d1, d2⟩ := RepE.take (i := i) (t := t) r (by simpa using h)
    exact ⟨v, Fi, G, by simpa using e, a, by simpa using RepE.no b, c, d1, d2⟩
  | _, _, _, 0, t, .cons (v := v) (F := F) (G := G) r s d, h => by
    simp at h
    subst h
    exact ⟨v, F, G, rfl, r, .no s, d, fun b q => .inl q, fun b q => .inr q⟩
  | _, _, _, i + 1, t, .cons (v := v) (F := F) (G := G) r s d, h => by
    obtain ⟨v', Fi, G', e, a, b, c, d1, d2⟩ := RepE.take (i := i) (t := t) s (by simpa using h)
    exact ⟨v', Fi, _, by simpa using e, a, by simpa using RepE.cons r b (fun x q z => d x q (d2 x z)), fun x q (z : _ ∨ _) => z.elim (fun z => d x z (d1 x q)) (c x q), fun x q => .inr (d1 x q), fun x q => q.elim .inl fun q => .inr (d2 x q)⟩
/-- a slot forgotten -/
theorem RepE.drop : ∀ {σ : L2.St} {env : Env} {F : FP} (i : Nat) (x : Option V), RepE K mg H1 H σ env F → ∃ G, RepE K mg H1 H (σ.set i x) (env.set i none) G ∧ (∀ b, G b → F b)
  | _, _, _, i, x, .nil => ⟨F0, .nil, fun _ h => h⟩
  | _, _, _, 0, x, .no r => ⟨_, .no r, fun _ h => h⟩
  | _, _, _, i + 1, x, .no r => by
    obtain ⟨G, a, b⟩ := RepE.drop i x r
    exact ⟨G, .no a, b⟩
  | _, _, _, 0, x, .cons r s d => ⟨_, .no s, fun b h => .inr h⟩
  | _, _, _, i + 1, x, .cons r s d => by
    obtain ⟨G, a, b⟩ := RepE.drop i x s
    exact ⟨_, .cons r a fun x q z => d x q (b x z), fun x q => q.elim .inl fun q => .inr (b x q)⟩
/-- a slot filled -/
theorem RepE.put : ∀ {σ : L2.St} {env : Env} {G : FP} {i : Nat} {v : V} {t : T} {F : FP}, RepE K mg H1 H σ env G → i < env.length → Rep K mg H1 H v t F → (∀ b, F b → ¬ G b) →
    ∃ F', RepE K mg H1 H (σ.set i (some v)) (env.set i (some t)) F' ∧ (∀ b, F' b → F b ∨ G b)
  | _, _, _, i, v, t, F, .nil, h, _, _ => by simp at h
  | _, _, _, 0, v, t, F, .no r, h, p, d => ⟨_, .cons p r d, fun _ q => q⟩
  | _, _, _, i + 1, v, t, F, .no r, h, p, d => by
    obtain ⟨F', a, b⟩ := RepE.put (i := i) r (by simpa using h) p d
    exact ⟨F', .no a, b⟩
  | _, _, _, 0, v, t, F, .cons r s q, h, p, d => ⟨_, .cons p s fun b x z => d b x (.inr z), fun _ q => q.elim .inl fun q => .inr (.inr q)⟩
  | _, _, _, i + 1, v, t, F, .cons r s q, h, p, d => by
    obtain ⟨F', a, b⟩ := RepE.put (i := i) s (by simpa using h) p fun b x z => d b x (.inr z)
    exact ⟨_, .cons r a fun x y z => (b x z).elim (fun z => d x z (.inl y)) (q x y), fun x y => y.elim (fun y => .inr (.inl y)) fun y => (b x y).elim .inl fun y => .inr (.inr y)⟩
theorem RepE.get {i : Nat} {t : T} (h : RepE K mg H1 H σ env F) (e : env[i]? = some (some t)) : ∃ v Fi, σ[i]? = some (some v) ∧ Rep K mg H1 H v t Fi ∧ (∀ b, Fi b → F b) := by
  obtain ⟨v, Fi, G, a, b, c, d, e1, e2⟩ := h.take e
  exact ⟨v, Fi, a, b, e1⟩
/-- a slot's value changed where it stands -/
theorem RepE.weak : ∀ {σ : L2.St} {env : Env} {F : FP} (i : Nat), RepE K mg H1 H σ env F → ∃ G, RepE K mg H1 H σ (env.set i none) G ∧ (∀ b, G b → F b)
  | _, _, _, i, .nil => ⟨F0, .nil, fun _ h => h⟩
  | _, _, _, 0, .no r => ⟨_, .no r, fun _ h => h⟩
  | _, _, _, i + 1, .no r => by
    obtain ⟨G, a, b⟩ := RepE.weak i r
    exact ⟨G, .no a, b⟩
  | _, _, _, 0, .cons r s d => ⟨_, .no s, fun b h => .inr h⟩
  | _, _, _, i + 1, .cons r s d => by
    obtain ⟨G, a, b⟩ := RepE.weak i s
    exact ⟨_, .cons r a fun x q z => d x q (b x z), fun x q => q.elim .inl fun q => .inr (b x q)⟩
end

/-! ### how the heaps grow -/
/-- from (H1, H) to (H1', H'): what is not owned (F) stands; F' is of F, or new -/
structure Ext (H1 H : Hp) (F : FP) (H1' H' : Hp) (F' : FP) : Prop where
  s1 : Same H1 H1'
  sub : Same H1' H'
  keep : ∀ a o, H a = some o → ¬ F a → H' a = some o
  foot : ∀ a, F' a → F a ∨ H a = none
  new1 : ∀ a o, H1' a = some o → (∃ o', H1 a = some o') ∨ F a ∨ H a = none
section
variable {K : PySem.W.Frag} {mg : Str → Option Value} {H H' H1 H1' H2 H2' : Hp} {σ : L2.St} {env : Env} {F F' F'' G : FP}
theorem none_or (H : Hp) (a : Addr) : H a = none ∨ ∃ o, H a = some o := by
  cases e : H a with
  | none => exact .inl rfl
  | some o => exact .inr ⟨o, rfl⟩
theorem Ext.refl (s : Same H1 H) : Ext H1 H F H1 H F := ⟨Same.refl _, s, fun _ _ h _ => h, fun _ h => .inl h, fun _ o h => .inl ⟨o, h⟩⟩
theorem Ext.trans (a : Ext H1 H F H1' H' F') (b : Ext H1' H' F' H2 H2' F'') : Ext H1 H F H2 H2' F'' := by
  have back : ∀ x, H' x = none → H x = none ∨ F x := fun x e => by
    by_cases q : F x
    · exact .inr q
    · rcases none_or H x with h | ⟨o, h⟩
      · exact .inl h
      · rw [a.keep x o h q] at e; cases e
  refine ⟨a.s1.trans b.s1, b.sub, fun x o h n => b.keep x o (a.keep x o h n) fun q => ?_, fun x q => ?_, fun x o q => ?_⟩
  · rcases a.foot x q with z | z
    · exact n z
    · rw [z] at h; cases h
  · rcases b.foot x q with z | z
    · exact a.foot x z
    · exact (back x z).symm
  · rcases b.new1 x o q with ⟨o', z⟩ | z | z
    · exact a.new1 x o' z
    · exact .inr (a.foot x z)
    · exact .inr (back x z).symm
/-- less is claimed -/
theorem Ext.less (a : Ext H1 H F H1' H' F') (h : ∀ b, F'' b → F' b) : Ext H1 H F H1' H' F'' := ⟨a.s1, a.sub, a.keep, fun b q => a.foot b (h b q), a.new1⟩
theorem Ext.more (a : Ext H1 H F H1' H' F') (h : ∀ b, F b → G b) : Ext H1 H G H1' H' F' :=
  ⟨a.s1, a.sub, fun b o e n => a.keep b o e fun q => n (h b q), fun b q => (a.foot b q).imp (h b) id, fun b o q => (a.new1 b o q).imp id fun z => z.imp (h b) id⟩
theorem Ext.base (a : Ext H1 H F H1' H' F') (h : ∀ b, ¬ F b) : Ext H1 H F0 H1' H' F' := ⟨a.s1, a.sub, fun b o e _ => a.keep b o e (h b), fun b q => (a.foot b q).imp (h b) id, fun b o q => (a.new1 b o q).imp id fun z => z.imp (h b) id⟩
/-- something apart is kept (G: owned, apart from F) -/
theorem Ext.apart (a : Ext H1 H F H1' H' F') (ow : ∀ b, G b → H1 b = none ∧ ∃ o, H b = some o) (d : ∀ b, G b → ¬ F b) : (∀ b, G b → H' b = H b ∧ H1' b = none) ∧ ∀ b, G b → ¬ F' b := by
  refine ⟨fun b g => ?_, fun b g q => ?_⟩
  · obtain ⟨n, o, e⟩ := ow b g
    refine ⟨(a.keep b o e (d b g)).trans e.symm, ?_⟩
    rcases none_or H1' b with h | ⟨o', h⟩
    · exact h
    · rcases a.new1 b o' h with ⟨_, z⟩ | z | z
      · rw [n] at z; cases z
      · exact absurd z (d b g)
      · rw [e] at z; cases z
  · obtain ⟨n, o, e⟩ := ow b g
    rcases a.foot b q with z | z
    · exact d b g z
    · rw [e] at z; cases z
theorem Ext.rep {v : V} {t : T} (a : Ext H1 H F H1' H' F') (r : Rep K mg H1 H v t G) (d : ∀ b, G b → ¬ F b) : Rep K mg H1' H' v t G ∧ ∀ b, G b → ¬ F' b :=
  let ⟨k, n⟩ := a.apart r.own d
  ⟨r.frame a.s1 k, n⟩
theorem Ext.reps {v : List V} {t : List T} (a : Ext H1 H F H1' H' F') (r : Reps K mg H1 H v t G) (d : ∀ b, G b → ¬ F b) : Reps K mg H1' H' v t G ∧ ∀ b, G b → ¬ F' b :=
  let ⟨k, n⟩ := a.apart r.own d
  ⟨r.frame a.s1 k, n⟩
theorem Ext.repE (a : Ext H1 H F H1' H' F') (r : RepE K mg H1 H σ env G) (d : ∀ b, G b → ¬ F b) : RepE K mg H1' H' σ env G ∧ ∀ b, G b → ¬ F' b :=
  let ⟨k, n⟩ := a.apart r.own d
  ⟨r.frame a.s1 k, n⟩
/-- a quiet step: nothing that stood is changed -/
theorem Ext.qRep {v : V} {t : T} (a : Ext H1 H F0 H1' H' F') (r : Rep K mg H1 H v t G) : Rep K mg H1' H' v t G := (a.rep r fun _ _ h => h).1
theorem Ext.qRepE (a : Ext H1 H F0 H1' H' F') (r : RepE K mg H1 H σ env G) : RepE K mg H1' H' σ env G := (a.repE r fun _ _ h => h).1
/-- a new frozen object -/
theorem Ext.newS {p : Addr} {o : HO} (s : Same H1 H) (n : H p = none) : Ext H1 H F (upd H1 p o) (upd H p o) F := by
  have n1 : H1 p = none := s.free n
  refine ⟨fun b u e => by rw [upd_ne (ne_of_none e n1)]; exact e, fun b u e => ?_, fun b u e _ => by rw [upd_ne (ne_of_none e n)]; exact e, fun _ q => .inl q, fun b u e => ?_⟩
  · by_cases h : b = p
    · subst h; rw [upd_same] at e ⊢; exact e
    · rw [upd_ne h] at e ⊢; exact s b u e
  · by_cases h : b = p
    · subst h; exact .inr (.inr n)
    · rw [upd_ne h] at e; exact .inl ⟨u, e⟩
/-- a new owned object -/
theorem Ext.newO {p : Addr} {o : HO} (s : Same H1 H) (n : H p = none) : Ext H1 H F H1 (upd H p o) (fun b => b = p ∨ F b) :=
  ⟨Same.refl _, fun b u e => by rw [upd_ne (ne_of_none (s b u e) n)]; exact s b u e, fun b u e _ => by rw [upd_ne (ne_of_none e n)]; exact e, fun b q => q.elim (fun e => .inr (by rw [e]; exact n)) .inl, fun b u e => .inl ⟨u, e⟩⟩
/-- an owned object is changed -/
theorem Ext.wr {p : Addr} {o : HO} (s : Same H1 H) (n : H1 p = none) (f : F p) : Ext H1 H F H1 (upd H p o) F :=
  ⟨Same.refl _, fun b u e => by rw [upd_ne (ne_of_none e n)]; exact s b u e, fun b u e z => by rw [upd_ne (fun q => z (by rw [q]; exact f))]; exact e, fun b q => .inl q, fun b u e => .inl ⟨u, e⟩⟩
/-- what is owned is frozen -/
theorem Ext.freeze (s : Same H1 H) (ow : ∀ b, G b → H1 b = none) (d : ∀ b, G b → ¬ F' b) (hG : ∀ b, G b → F b) (hF : ∀ b, F' b → F b) : Ext H1 H F (join H1 H G) H F' :=
  ⟨join_same ow, join_sub s, fun _ _ e _ => e, fun b q => .inl (hF b q), fun b o e => by
    by_cases h : G b
    · exact .inr (.inl (hG b h))
    · rw [join_out h] at e; exact .inl ⟨o, e⟩⟩
end
end GK

/-! GK2: judgements; quiet expressions. -/
namespace GK
open PySem L2

section
variable (K : PySem.W.Frag) (mg : Str → Option Value)
/-- an expression that changes nothing that stood: its value is x env, what is new of it is its own -/
def QR (te : TE) (x : Env → Option T) : Prop := ∀ env t, x env = some t → ∀ H1 H σ F, Same H1 H → RepE K mg H1 H σ env F → ∀ Q : VK,
  (∀ v H1' H' Ft, Ext H1 H F0 H1' H' Ft → Rep K mg H1' H' v t Ft → Q v H') → te σ H Q
/-- .. whose value may be a part of the environment: to be used at once -/
def KR (te : TE) (x : Env → Option T) : Prop := ∀ env t, x env = some t → ∀ H1 H σ F, Same H1 H → RepE K mg H1 H σ env F → ∀ Q : VK,
  (∀ v H1' H' G, Ext H1 H F0 H1' H' F0 → Rep K mg H1' H' v t G → Q v H') → te σ H Q
def TR (tt : TT) (c : Env → Option Bool) : Prop := ∀ env b, c env = some b → ∀ H1 H σ F, Same H1 H → RepE K mg H1 H σ env F → ∀ Q : Bool → Hp → Prop,
  (∀ H1' H', Ext H1 H F0 H1' H' F0 → Q b H') → tt σ H Q
def QRA (ta : TA) (x : Env → Option (List T)) : Prop := ∀ env ts, x env = some ts → ∀ H1 H σ F, Same H1 H → RepE K mg H1 H σ env F → ∀ Q : List V → Hp → Prop,
  (∀ vs H1' H' Ft, Ext H1 H F0 H1' H' Ft → Reps K mg H1' H' vs ts Ft → Q vs H') → ta σ H Q
/-- a two-place operation, a one-place one, a call, by values -/
def OpV (r : R2) (f : T → T → Option T) : Prop := ∀ H1 H vx vy tx ty Gx Gy t, Same H1 H → Rep K mg H1 H vx tx Gx → Rep K mg H1 H vy ty Gy → f tx ty = some t → ∀ Q : VK,
  (∀ v H1' H' Ft, Ext H1 H F0 H1' H' Ft → Rep K mg H1' H' v t Ft → Q v H') → r vx vy H Q
def UnV (r : V → Hp → VK → Prop) (f : T → Option T) : Prop := ∀ H1 H vx tx Gx t, Same H1 H → Rep K mg H1 H vx tx Gx → f tx = some t → ∀ Q : VK,
  (∀ v H1' H' Ft, Ext H1 H F0 H1' H' Ft → Rep K mg H1' H' v t Ft → Q v H') → r vx H Q
def CallV (r : List V → Hp → VK → Prop) (f : List T → Option T) : Prop := ∀ H1 H vs ts G t, Same H1 H → Reps K mg H1 H vs ts G → f ts = some t → ∀ Q : VK,
  (∀ v H1' H' Ft, Ext H1 H F0 H1' H' Ft → Rep K mg H1' H' v t Ft → Q v H') → r vs H Q
end
structure QE (X : Cx) (e : Expr) (te : TE) (x : Env → Option T) : Prop where
  pe : PE X e te
  qr : QR X.K X.mg te x
structure KE (X : Cx) (e : Expr) (te : TE) (x : Env → Option T) : Prop where
  pe : PE X e te
  kr : KR X.K X.mg te x
structure CE (X : Cx) (op : CmpOp) (a b : Expr) (te : TE) (x : Env → Option T) : Prop where
  pc : PC X op a b te
  qr : QR X.K X.mg te x
structure TE' (X : Cx) (e : Expr) (tt : TT) (c : Env → Option Bool) : Prop where
  pt : PT X e tt
  tr : TR X.K X.mg tt c
structure QA (X : Cx) (es : List Expr) (ta : TA) (x : Env → Option (List T)) : Prop where
  pa : PA X es ta
  qr : QRA X.K X.mg ta x

section
variable {K : PySem.W.Frag} {mg : Str → Option Value}
theorem QR.k {te : TE} {x : Env → Option T} (h : QR K mg te x) : KR K mg te x := fun env t e H1 H σ F s R Q q =>
  h env t e H1 H σ F s R Q fun v H1' H' Ft x r => q v H1' H' Ft (x.less fun _ z => z.elim) r
/-- a value at hand -/
theorem now {H1 H : Hp} {v : V} {t : T} {Q : VK} (s : Same H1 H) (f : Fz K mg H1 v t) (q : ∀ v H1' H' Ft, Ext H1 H F0 H1' H' Ft → Rep K mg H1' H' v t Ft → Q v H') : Q v H := q v H1 H F0 (Ext.refl s) (.sh f)
/-- a new frozen object, a new owned list -/
theorem newFz {H1 H : Hp} {t : T} {Q : VK} {o : HO} (s : Same H1 H) (f : ∀ p, Same H1 (upd H1 p o) → Fz K mg (upd H1 p o) (.ref p) t) (q : ∀ v H1' H' Ft, Ext H1 H F0 H1' H' Ft → Rep K mg H1' H' v t Ft → Q v H') : ∀ p, H p = none → Q (.ref p) (upd H p o) :=
  fun p n => q _ _ _ F0 (Ext.newS s n) (.sh (f p (Ext.newS (F := F0) s n).s1))
theorem newLst {H1 H : Hp} {vs : List V} {ts : List T} {Q : VK} {F : FP} (s : Same H1 H) (f : Reps K mg H1 H vs ts F) (q : ∀ v H1' H' Ft, Ext H1 H F H1' H' Ft → Rep K mg H1' H' v (.lst true ts) Ft → Q v H') : ∀ p, H p = none → Q (.ref p) (upd H p (.lst vs)) :=
  fun p n => q _ _ _ _ (Ext.newO s n) (.lst upd_same (s.free n) (f.frame (Same.refl _) fun b h => ⟨upd_ne (by rintro rfl; obtain ⟨_, o, e⟩ := f.own _ h; rw [n] at e; cases e), (f.own b h).1⟩) fun h => by obtain ⟨_, o, e⟩ := f.own _ h; rw [n] at e; cases e)
theorem newDic {H1 H : Hp} {Q : VK} (s : Same H1 H) (q : ∀ v H1' H' Ft, Ext H1 H F0 H1' H' Ft → Rep K mg H1' H' v (.dic true []) Ft → Q v H') : ∀ p, H p = none → Q (.ref p) (upd H p (.dK [])) :=
  fun p n => q _ _ _ _ (Ext.newO s n) (.dic upd_same (s.free n) List.nodup_nil .nil fun h => h)
theorem Fzs.len : ∀ {vs : List V} {ts : List T} {H : Hp}, Fzs K mg H vs ts → vs.length = ts.length
  | _, _, _, .nil => rfl
  | _, _, _, .cons _ r => by rw [List.length_cons, List.length_cons, Fzs.len r]
theorem Reps.len : ∀ {vs : List V} {ts : List T} {H1 H : Hp} {F : FP}, Reps K mg H1 H vs ts F → vs.length = ts.length
  | _, _, _, _, _, .nil => rfl
  | _, _, _, _, _, .cons _ r _ => by rw [List.length_cons, List.length_cons, Reps.len r]
theorem Fzs.reps : ∀ {vs : List V} {ts : List T} {H1 H : Hp}, Fzs K mg H1 vs ts → ∃ F, Reps K mg H1 H vs ts F ∧ ∀ b, ¬ F b
  | _, _, _, _, .nil => ⟨F0, .nil, fun _ h => h⟩
  | _, _, _, _, .cons h r => let ⟨F, a, b⟩ := Fzs.reps r; ⟨_, .cons (.sh h) a (fun _ h => h.elim), fun x y => y.elim id (b x)⟩
theorem Fzs.get : ∀ {vs : List V} {ts : List T} {H : Hp} {i : Nat} {t : T}, Fzs K mg H vs ts → ts[i]? = some t → ∃ v, vs[i]? = some v ∧ Fz K mg H v t
  | _, _, _, i, t, .nil, h => by simp at h
  | _, _, _, 0, t, .cons a r, h => by simp at h; subst h; exact ⟨_, rfl, a⟩
  | _, _, _, i + 1, t, .cons a r, h => by
    obtain ⟨v, e, f⟩ := Fzs.get (i := i) (t := t) r (by simpa using h)
    exact ⟨v, by simpa using e, f⟩
theorem Reps.get : ∀ {vs : List V} {ts : List T} {H1 H : Hp} {F : FP} {i : Nat} {t : T}, Reps K mg H1 H vs ts F → ts[i]? = some t → ∃ v G, vs[i]? = some v ∧ Rep K mg H1 H v t G ∧ ∀ b, G b → F b
  | _, _, _, _, _, i, t, .nil, h => by simp at h
  | _, _, _, _, _, 0, t, .cons a r _, h => by simp at h; subst h; exact ⟨_, _, rfl, a, fun _ h => .inl h⟩
  | _, _, _, _, _, i + 1, t, .cons a r _, h => by
    obtain ⟨v, G, e, f, g⟩ := Reps.get (i := i) (t := t) r (by simpa using h)
    exact ⟨v, G, by simpa using e, f, fun b h => .inr (g b h)⟩
/-- what is at hand of a list, whether owned or frozen -/
theorem Rep.lst' {H1 H : Hp} {v : V} {o : Bool} {ts : List T} {F : FP} (s : Same H1 H) (h : Rep K mg H1 H v (.lst o ts) F) : ∃ a vs G, v = .ref a ∧ H a = some (.lst vs) ∧ Reps K mg H1 H vs ts G := by
  cases h with
  | sh h => cases h with | lst a b => obtain ⟨F, r, _⟩ := b.reps (H := H); exact ⟨_, _, F, rfl, s _ _ a, r⟩
  | lst a b c d => exact ⟨_, _, _, rfl, a, c⟩
def T.items : T → Option (List T)
  | .lst _ xs => some xs
  | .scr xs => some xs
  | _ => none
theorem Rep.list {H1 H : Hp} {v : V} {t : T} {ts : List T} {F : FP} (s : Same H1 H) (h : Rep K mg H1 H v t F) (e : t.items = some ts) : ∃ a vs G, v = .ref a ∧ SqL K H a vs ∧ Reps K mg H1 H vs ts G := by
  cases t with
  | lst o xs => cases e; obtain ⟨a, vs, G, x, y, z⟩ := h.lst' s; exact ⟨a, vs, G, x, .inl (.inl y), z⟩
  | scr xs => cases e; cases h with | sh h => cases h with | scr a b => obtain ⟨F, r, _⟩ := b.reps (H := H); exact ⟨_, _, F, rfl, s.seq a, r⟩
  | _ => cases e
theorem Rep.tuple {H1 H : Hp} {v : V} {ts : List T} {F : FP} (s : Same H1 H) (h : Rep K mg H1 H v (.tup ts) F) : ∃ a vs, v = .ref a ∧ SqT K H a vs ∧ Fzs K mg H1 vs ts := by
  cases h with
  | sh h => cases h with | tup a b => exact ⟨_, _, rfl, Same.seqT s a, b⟩
theorem Rep.intE {H1 H : Hp} {v : V} {i : Int} {F : FP} (h : Rep K mg H1 H v (.int i) F) : v = .int i := by cases h with | sh h => cases h; rfl
theorem Rep.strE {H1 H : Hp} {v : V} {i : List Nat} {F : FP} (h : Rep K mg H1 H v (.str i) F) : v = .str (S i) := by cases h with | sh h => cases h; rfl
theorem Rep.blE {H1 H : Hp} {v : V} {i : Bool} {F : FP} (h : Rep K mg H1 H v (.bl i) F) : v = .bl i := by cases h with | sh h => cases h; rfl
theorem Rep.nonE {H1 H : Hp} {v : V} {F : FP} (h : Rep K mg H1 H v .non F) : v = .non := by cases h with | sh h => cases h; rfl

/-! ### union -/
theorem OpV.or {r r' : R2} {f f' : T → T → Option T} (h : OpV K mg r f) (h' : OpV K mg r' f') : OpV K mg (fun x y H Q => r x y H Q ∨ r' x y H Q) (fun x y => match f x y with | some t => some t | none => f' x y) :=
  fun H1 H vx vy tx ty Gx Gy t s a b e Q q => by
    cases e1 : f tx ty with
    | some t' => dsimp only at e; rw [e1] at e; cases e; exact .inl (h _ _ _ _ _ _ _ _ _ s a b e1 Q q)
    | none => dsimp only at e; rw [e1] at e; exact .inr (h' _ _ _ _ _ _ _ _ _ s a b e Q q)
theorem CallV.or {r r' : List V → Hp → VK → Prop} {f f' : List T → Option T} (h : CallV K mg r f) (h' : CallV K mg r' f') : CallV K mg (fun x H Q => r x H Q ∨ r' x H Q) (fun x => match f x with | some t => some t | none => f' x) :=
  fun H1 H vs ts G t s a e Q q => by
    cases e1 : f ts with
    | some t' => dsimp only at e; rw [e1] at e; cases e; exact .inl (h _ _ _ _ _ _ s a e1 Q q)
    | none => dsimp only at e; rw [e1] at e; exact .inr (h' _ _ _ _ _ _ s a e Q q)
def teOr (te te' : TE) : TE := fun σ H Q => te σ H Q ∨ te' σ H Q
def xOr (x x' : Env → Option T) : Env → Option T := fun env => match x env with | some t => some t | none => x' env
theorem QR.or {te te' : TE} {x x' : Env → Option T} (h : QR K mg te x) (h' : QR K mg te' x') : QR K mg (teOr te te') (xOr x x') :=
  fun env t e H1 H σ F s R Q q => by
    unfold xOr at e
    cases e1 : x env with
    | some t' => rw [e1] at e; cases e; exact .inl (h _ _ e1 _ _ _ _ s R Q q)
    | none => rw [e1] at e; exact .inr (h' _ _ e _ _ _ _ s R Q q)
theorem KR.or {te te' : TE} {x x' : Env → Option T} (h : KR K mg te x) (h' : KR K mg te' x') : KR K mg (teOr te te') (xOr x x') :=
  fun env t e H1 H σ F s R Q q => by
    unfold xOr at e
    cases e1 : x env with
    | some t' => rw [e1] at e; cases e; exact .inl (h _ _ e1 _ _ _ _ s R Q q)
    | none => rw [e1] at e; exact .inr (h' _ _ e _ _ _ _ s R Q q)
end
theorem CallR.or {X : Cx} {f : Value} {r r' : List V → Hp → VK → Prop} (h : CallR X f r) (h' : CallR X f r') : CallR X f (fun x H Q => r x H Q ∨ r' x H Q) := by
  intro pins s σ H xs us Q I rx q
  rcases q with q | q
  · exact h pins s σ H xs us Q I rx q
  · exact h' pins s σ H xs us Q I rx q
theorem PE.or {X : Cx} {e : Expr} {te te' : TE} (h : PE X e te) (h' : PE X e te') : PE X e (teOr te te') := ⟨fun pins s σ H Q I q => q.elim (h.run pins s σ H Q I) (h'.run pins s σ H Q I)⟩
theorem PC.or {X : Cx} {op : CmpOp} {a b : Expr} {te te' : TE} (h : PC X op a b te) (h' : PC X op a b te') : PC X op a b (teOr te te') := ⟨fun pins s σ H Q I q => q.elim (h.run pins s σ H Q I) (h'.run pins s σ H Q I)⟩

section
variable {X : Cx} {e a b : Expr} {te ta tb : TE} {x xa xb : Env → Option T} {pos : Pos}
theorem QE.k (h : QE X e te x) : KE X e te x := ⟨h.pe, h.qr.k⟩
theorem QE.or {te' : TE} {x' : Env → Option T} (h : QE X e te x) (h' : QE X e te' x') : QE X e (teOr te te') (xOr x x') := ⟨PE.or h.pe h'.pe, QR.or h.qr h'.qr⟩
theorem KE.or {te' : TE} {x' : Env → Option T} (h : KE X e te x) (h' : KE X e te' x') : KE X e (teOr te te') (xOr x x') := ⟨PE.or h.pe h'.pe, KR.or h.kr h'.kr⟩
theorem CE.or {op : CmpOp} {te' : TE} {x' : Env → Option T} (h : CE X op a b te x) (h' : CE X op a b te' x') : CE X op a b (teOr te te') (xOr x x') := ⟨PC.or h.pc h'.pc, QR.or h.qr h'.qr⟩

/-! ### leaves -/
def qC (t : T) : Env → Option T := fun _ => some t
theorem qe_of {v : V} {t : T} (h : PE X e (tC v)) (f : ∀ H, Fz X.K X.mg H v t) : QE X e (tC v) (qC t) := ⟨h, fun env u hu H1 H σ F s R Q q => by cases hu; exact now s (f H1) q⟩
theorem qe_int {i j pos} : QE X (.Constant (.int i) j pos) (tC (.int i)) (qC (.int i)) := qe_of pe_int fun _ => .int i
theorem qe_bl {i j pos} : QE X (.Constant (.bool i) j pos) (tC (.bl i)) (qC (.bl i)) := qe_of pe_bl fun _ => .bl i
theorem qe_non {j pos} : QE X (.Constant .none j pos) (tC .non) (qC .non) := qe_of pe_non fun _ => .non
theorem qe_str {i : Str} {l : List Nat} {j pos} (h : i = S l) : QE X (.Constant (.str i) j pos) (tC (.str i)) (qC (.str l)) := qe_of pe_str fun _ => by rw [h]; exact .str l
/-- a module's constant: an int, a text -/
theorem qe_gint {y : Str} {i : Int} {t : Tok} (hm : X.mg y = some (.int i t)) (hg : Gl X y := by rfl) (hd : (y == ("__debug__" : Str)) = false := by decide) : QE X (.Name y pos) (tC (.int i)) (qC (.int i)) := qe_of (pe_glob hg hm ⟨_, rfl⟩ hd) fun _ => .int i
theorem qe_gstr {y : Str} {i : Str} {l : List Nat} {t : Tok} (hm : X.mg y = some (.str i t)) (h : i = S l) (hg : Gl X y := by rfl) (hd : (y == ("__debug__" : Str)) = false := by decide) : QE X (.Name y pos) (tC (.str i)) (qC (.str l)) := qe_of (pe_glob hg hm ⟨_, rfl⟩ hd) fun _ => by rw [h]; exact .str l

/-! ### names -/
def kVar (i : Nat) : Env → Option T := fun env => match env[i]? with | some o => o | none => none
def qVar (i : Nat) : Env → Option T := fun env => match env[i]? with | some (some t) => if t.sh then some t else none | _ => none
theorem ke_var (i : Nat) {y : Str} (h : PE X (.Name y pos) (tVar i)) : KE X (.Name y pos) (tVar i) (kVar i) := ⟨h, fun env t e H1 H σ F s R Q q => by
  unfold kVar at e
  cases e1 : env[i]? with
  | none => rw [e1] at e; cases e
  | some o =>
    rw [e1] at e
    simp only at e
    subst e
    obtain ⟨v, G, a, b, _⟩ := R.get e1
    exact ⟨v, a, q v H1 H G (Ext.refl s) b⟩⟩
theorem qe_var (i : Nat) {y : Str} (h : PE X (.Name y pos) (tVar i)) : QE X (.Name y pos) (tVar i) (qVar i) := ⟨h, fun env t e H1 H σ F s R Q q => by
  unfold qVar at e
  cases e1 : env[i]? with
  | none => rw [e1] at e; cases e
  | some o =>
    cases o with
    | none => rw [e1] at e; cases e
    | some u =>
      rw [e1] at e
      simp only at e
      split at e
      · rename_i hs
        cases e
        obtain ⟨v, G, a, b, _⟩ := R.get e1
        exact ⟨v, a, now s (b.fzOf hs) q⟩
      · cases e⟩

/-! ### operators -/
def qOp (f : T → T → Option T) (xa xb : Env → Option T) : Env → Option T := fun env => match xa env with | none => none | some a => match xb env with | none => none | some b => f a b
def qUn (f : T → Option T) (xa : Env → Option T) : Env → Option T := fun env => match xa env with | none => none | some a => f a
theorem qr_op {K : PySem.W.Frag} {mg : Str → Option Value} {r : R2} {f : T → T → Option T} (ha : KR K mg ta xa) (hb : KR K mg tb xb) (hv : OpV K mg r f) : QR K mg (tOp r ta tb) (qOp f xa xb) := fun env t e H1 H σ F s R Q q => by
  unfold qOp at e
  cases e1 : xa env with
  | none => rw [e1] at e; cases e
  | some u =>
    cases e2 : xb env with
    | none => rw [e1, e2] at e; cases e
    | some w =>
      rw [e1, e2] at e
      exact ha _ _ e1 _ _ _ _ s R _ fun v1 Ha Hb G1 x1 r1 => hb _ _ e2 _ _ _ _ x1.sub (x1.qRepE R) _ fun v2 Hc Hd G2 x2 r2 =>
        hv _ _ _ _ _ _ _ _ _ x2.sub (x2.qRep r1) r2 e Q fun v H1' H' Ft x3 r3 => q v H1' H' Ft ((x1.trans x2).trans x3) r3
theorem qr_un {K : PySem.W.Frag} {mg : Str → Option Value} {r : V → Hp → VK → Prop} {f : T → Option T} (ha : KR K mg ta xa) (hv : UnV K mg r f) : QR K mg (tUn r ta) (qUn f xa) := fun env t e H1 H σ F s R Q q => by
  unfold qUn at e
  cases e1 : xa env with
  | none => rw [e1] at e; cases e
  | some u =>
    rw [e1] at e
    exact ha _ _ e1 _ _ _ _ s R _ fun v1 Ha Hb G1 x1 r1 => hv _ _ _ _ _ _ x1.sub r1 e Q fun v H1' H' Ft x3 r3 => q v H1' H' Ft (x1.trans x3) r3
theorem qe_bin {op : Operator} {r : R2} {f : T → T → Option T} (ho : OpR X (binaryOp op) r) (hv : OpV X.K X.mg r f) (ha : KE X a ta xa) (hb : KE X b tb xb) : QE X (.BinOp a op b pos) (tOp r ta tb) (qOp f xa xb) := ⟨pe_op ho ha.pe hb.pe, qr_op ha.kr hb.kr hv⟩
theorem qe_una {op : UnaryOp} {r : V → Hp → VK → Prop} {f : T → Option T} (ho : UnR X (unaryOp op) r) (hv : UnV X.K X.mg r f) (ha : KE X a ta xa) : QE X (.UnaryOp op a pos) (tUn r ta) (qUn f xa) := ⟨pe_un ho ha.pe, qr_un ha.kr hv⟩
theorem pc_op {op : CmpOp} {r : R2} (ho : OpR X (compareOp op) r) (ha : PE X a ta) (hb : PE X b tb) : PC X op a b (tOp r ta tb) := by
  refine ⟨fun pins s σ H Q I h => ?_⟩
  exact bin ha hb I h fun v u s2 x y H2 I2 rx ry q => ho pins s2 σ H2 x y v u Q I2 rx ry q
theorem ce_op {op : CmpOp} {r : R2} {f : T → T → Option T} (ho : OpR X (compareOp op) r) (hv : OpV X.K X.mg r f) (ha : KE X a ta xa) (hb : KE X b tb xb) : CE X op a b (tOp r ta tb) (qOp f xa xb) := ⟨pc_op ho ha.pe hb.pe, qr_op ha.kr hb.kr hv⟩
theorem qe_cmp {op : CmpOp} (h : CE X op a b te x) (h1 : behindInMarks op b = false := by first | exact nobehind _ (by decide) (by decide) | rfl) : QE X (.Compare a [op] [b] pos) te x := ⟨pe_cmp h.pc h1, h.qr⟩
def tOfB (x : Env → Option T) : Env → Option Bool := fun env => match x env with | some (.bl b) => some b | _ => none
theorem tr_B {K : PySem.W.Frag} {mg : Str → Option Value} (h : QR K mg te x) : TR K mg (tB te) (tOfB x) := fun env b e H1 H σ F s R Q q => by
  unfold tOfB at e
  split at e
  · rename_i e1
    cases e
    exact h _ _ e1 _ _ _ _ s R _ fun v H1' H' Ft x r => ⟨_, r.blE, q H1' H' (x.less fun _ z => z.elim)⟩
  · cases e
theorem te_cmp {op : CmpOp} (h : CE X op a b te x) (h1 : behindInMarks op b = false := by first | exact nobehind _ (by decide) (by decide) | rfl) : TE' X (.Compare a [op] [b] pos) (tB te) (tOfB x) := ⟨pt_cmp h.pc h1, tr_B h.qr⟩
/-- an expression as a test, by its truth -/
def T.truth : T → Option Bool
  | .non => some false
  | .bl b => some b
  | .int i => some (i != 0)
  | .str s => if s.length ≤ sizeLine then some (s.length != 0) else none
  | .tup xs => some (!xs.isEmpty)
  | .lst _ xs => some (!xs.isEmpty)
  | .scr xs => some (!xs.isEmpty)
  | .dic _ kvs => some (!kvs.isEmpty)
  | .obj _ _ _ => none
end
end GK

/-! GK3: operations by values. -/
namespace GK
open PySem L2

theorem ofString_inj {a b : String} (h : Str.ofString a = Str.ofString b) : a = b := by
  have h0 : (⟨(a.toList.map Char.toNat).toArray⟩ : Str) = ⟨(b.toList.map Char.toNat).toArray⟩ := (Str.ofString_eq_toList a).symm.trans (h.trans (Str.ofString_eq_toList b))
  have h1 : (a.toList.map Char.toNat).toArray = (b.toList.map Char.toNat).toArray := congrArg Str.cps h0
  have h2 : a.toList.map Char.toNat = b.toList.map Char.toNat := by simpa using h1
  have h3 : a.toList = b.toList := List.map_inj_right (f := Char.toNat) (fun x y e => Char.ext (UInt32.toNat_inj.mp e)) |>.mp h2
  exact String.toList_inj.mp h3
theorem ofString_beq (a b : String) : (Str.ofString a == Str.ofString b) = (a == b) := by
  by_cases h : a = b
  · rw [h, beq_self_eq_true, beq_self_eq_true]
  · rw [beq_eq_false_iff_ne.mpr h, beq_eq_false_iff_ne.mpr fun e => h (ofString_inj e)]
theorem S_inj {a b : List Nat} (h : S a = S b) : a = b := by
  have h1 : a.toArray = b.toArray := congrArg Str.cps h
  simpa using h1
theorem S_length (a : List Nat) : (S a).length = a.length := by simp [S, Str.length]
theorem S_toList (a : List Nat) : (S a).cps.toList = a := by simp [S]
theorem S_append (a b : List Nat) : S a ++ S b = S (a ++ b) := by
  show (⟨a.toArray ++ b.toArray⟩ : Str) = ⟨(a ++ b).toArray⟩
  simp
theorem S_one (c : Nat) : (⟨#[c]⟩ : Str) = S [c] := rfl
theorem S_of (s : Str) : s = S s.cps.toList := by cases s; simp [S]
theorem S_beq (a b : List Nat) : (S a == S b) = (a == b) := by
  by_cases h : a = b
  · rw [h, beq_self_eq_true, beq_self_eq_true]
  · rw [beq_eq_false_iff_ne.mpr h, beq_eq_false_iff_ne.mpr fun e => h (S_inj e)]

section
variable {K : PySem.W.Frag} {mg : Str → Option Value}
theorem Reps.fzs : ∀ {vs : List V} {ts : List T} {H1 H : Hp} {F : FP}, Reps K mg H1 H vs ts F → ts.all T.sh = true → Fzs K mg H1 vs ts
  | _, _, _, _, _, .nil, _ => .nil
  | _, _, _, _, _, .cons r s _, h => by
    rw [List.all_cons, Bool.and_eq_true] at h
    exact .cons (r.fzOf h.1) (Reps.fzs s h.2)
theorem Fzs.append : ∀ {vs ws : List V} {ts us : List T} {H : Hp}, Fzs K mg H vs ts → Fzs K mg H ws us → Fzs K mg H (vs ++ ws) (ts ++ us)
  | _, _, _, _, _, .nil, s => s
  | _, _, _, _, _, .cons a r, s => .cons a (Fzs.append r s)
theorem Fzs.reps0 {vs : List V} {ts : List T} {H1 H : Hp} (h : Fzs K mg H1 vs ts) : ∃ F, Reps K mg H1 H vs ts F ∧ ∀ b, ¬ F b := h.reps

/-! ### ints -/
def fI (C : Int → Int → Bool) (g : Int → Int → Int) : T → T → Option T
  | .int i, .int j => if C i j then some (.int (g i j)) else none
  | _, _ => none
theorem ov_I {C : Int → Int → Prop} {c : Int → Int → Bool} {g : Int → Int → Int} (hc : ∀ i j, c i j = true → C i j) : OpV K mg (rI C fun i j => .int (g i j)) (fI c g) := fun H1 H vx vy tx ty Gx Gy t s a b e Q q => by
  unfold fI at e
  split at e
  · split at e
    · rename_i h; cases e; exact ⟨_, _, a.intE, b.intE, hc _ _ h, now s (.int _) q⟩
    · cases e
  · cases e
def fI0 (g : Int → Int → Int) : T → T → Option T
  | .int i, .int j => some (.int (g i j))
  | _, _ => none
theorem ov_I0 {g : Int → Int → Int} : OpV K mg (rI0 fun i j => .int (g i j)) (fI0 g) := fun H1 H vx vy tx ty Gx Gy t s a b e Q q => by
  unfold fI0 at e
  split at e
  · cases e; exact ⟨_, _, a.intE, b.intE, now s (.int _) q⟩
  · cases e
def fB0 (g : Int → Int → Bool) : T → T → Option T
  | .int i, .int j => some (.bl (g i j))
  | _, _ => none
theorem ov_B0 {g : Int → Int → Bool} : OpV K mg (rI0 fun i j => .bl (g i j)) (fB0 g) := fun H1 H vx vy tx ty Gx Gy t s a b e Q q => by
  unfold fB0 at e
  split at e
  · cases e; exact ⟨_, _, a.intE, b.intE, now s (.bl _) q⟩
  · cases e
def or2 (f g : T → T → Option T) : T → T → Option T := fun x y => match f x y with | some t => some t | none => g x y
theorem OpV.or' {r r' : R2} {f f' : T → T → Option T} (h : OpV K mg r f) (h' : OpV K mg r' f') : OpV K mg (fun x y H Q => r x y H Q ∨ r' x y H Q) (or2 f f') := h.or h'

/-! ### + -/
abbrev maxLen : Nat := 16777216
theorem maxLen_eq : sizeLine = maxLen := sizeLine_eq
def fAddS : T → T → Option T
  | .str a, .str b => if a.length + b.length ≤ maxLen then some (.str (a ++ b)) else none
  | _, _ => none
theorem ov_addS : OpV K mg (fun x y H Q => ∃ i j, x = .str i ∧ y = .str j ∧ i.length + j.length ≤ sizeLine ∧ Q (.str (i ++ j)) H) fAddS := fun H1 H vx vy tx ty Gx Gy t s a b e Q q => by
  unfold fAddS at e
  split at e
  · split at e
    · rename_i h; cases e; refine ⟨_, _, a.strE, b.strE, by rw [S_length, S_length, maxLen_eq]; exact h, ?_⟩; rw [S_append]; exact now s (.str _) q
    · cases e
  · cases e
def fAddL : T → T → Option T
  | .lst _ a, .lst _ b => if a.all T.sh && b.all T.sh && decide (a.length + b.length ≤ maxLen) then some (.lst true (a ++ b)) else none
  | _, _ => none
theorem ov_addL : OpV K mg rCat fAddL := fun H1 H vx vy tx ty Gx Gy t s a b e Q q => by
  unfold fAddL at e
  split at e
  · split at e
    · rename_i h
      simp only [Bool.and_eq_true, decide_eq_true_eq] at h
      cases e
      obtain ⟨p, vs, G, rfl, h1, r1⟩ := a.lst' s
      obtain ⟨p', vs', G', rfl, h2, r2⟩ := b.lst' s
      obtain ⟨F, r, n⟩ := ((r1.fzs h.1.1).append (r2.fzs h.1.2)).reps (H := H)
      exact ⟨p, p', vs, vs', rfl, rfl, h1, h2, by rw [r1.len, r2.len, maxLen_eq]; exact h.2, newLst s r fun v H1' H' Ft x => q v H1' H' Ft (x.base n)⟩
    · cases e
  · cases e
def fAddT : T → T → Option T
  | .tup a, .tup b => if a.length + b.length ≤ maxLen then some (.tup (a ++ b)) else none
  | _, _ => none
theorem ov_addT : OpV K mg (rCatA K) fAddT := fun H1 H vx vy tx ty Gx Gy t s a b e Q q => by
  unfold fAddT at e
  split at e
  · split at e
    · rename_i h
      cases e
      obtain ⟨p, vs, rfl, h1, r1⟩ := a.tuple s
      obtain ⟨p', vs', rfl, h2, r2⟩ := b.tuple s
      have a1 := a.fzOf rfl
      have b1 := b.fzOf rfl
      refine ⟨p, p', vs, vs', rfl, rfl, h1, h2, by rw [r1.len, r2.len, maxLen_eq]; exact h, fun e => ?_, fun _ e => ?_, fun _ _ => ?_⟩
      · subst e
        cases r1
        exact now s b1 q
      · subst e
        cases r2
        rw [List.append_nil] at q
        exact now s a1 q
      · exact newFz s (fun p e => .tup (.inl (.inl upd_same)) ((r1.append r2).mono e)) q
    · cases e
  · cases e

/-! ### * -/
def fMul : T → T → Option T
  | .int i, .int j => if decide ((-(2 ^ 64) < i ∧ i < 2 ^ 64) ∨ (-(2 ^ 64) < j ∧ j < 2 ^ 64)) || decide ((Builtin.Int.intBits i : Int) + (Builtin.Int.intBits j : Int) ≤ 134217728) then some (.int (i * j)) else none
  | .str a, .int n => if decide (-(2 ^ 63) ≤ n) && decide (n < 2 ^ 63) && decide (a.length * n.toNat ≤ maxLen) then some (.str (List.replicate n.toNat a).flatten) else none
  | .lst _ xs, .int n => if xs.all T.sh && decide (-(2 ^ 63) ≤ n) && decide (n < 2 ^ 63) && decide (xs.length * n.toNat ≤ maxLen) then some (.lst true (List.replicate n.toNat xs).flatten) else none
  | _, _ => none
theorem Fzs.rep {vs : List V} {ts : List T} {H : Hp} (h : Fzs K mg H vs ts) : ∀ n : Nat, Fzs K mg H (List.replicate n vs).flatten (List.replicate n ts).flatten
  | 0 => .nil
  | n + 1 => by rw [List.replicate_succ, List.replicate_succ, List.flatten_cons, List.flatten_cons]; exact h.append (Fzs.rep h n)
/-- str * int -/
def rMulS : R2 := fun x y H Q => ∃ (a : List Nat) (n : Int), x = .str (S a) ∧ y = .int n ∧ -(2 ^ 63) ≤ n ∧ n < 2 ^ 63 ∧ a.length * n.toNat ≤ maxLen ∧ Q (.str (S (List.replicate n.toNat a).flatten)) H
theorem mul_fold (x : Array Nat) : ∀ (n : Nat) (acc : Array Nat), (List.replicate n x).foldl (· ++ ·) acc = acc ++ (List.replicate n x.toList).flatten.toArray
  | 0, acc => by simp
  | n + 1, acc => by
    rw [List.replicate_succ, List.foldl_cons, mul_fold x n, List.replicate_succ, List.flatten_cons]
    apply Array.ext'
    simp
theorem txt_mul (a : List Nat) (n : Int) : Txt.mul (S a) n = S (List.replicate n.toNat a).flatten := by
  unfold Txt.mul
  split
  · rename_i h
    have : n.toNat = 0 := by omega
    rw [this]; rfl
  · split
    · rename_i h1 h2
      simp only [Bool.or_eq_true, beq_iff_eq] at h2
      rcases h2 with h2 | h2
      · subst h2
        show S a = S (List.replicate 1 a).flatten
        simp
      · rw [S_length] at h2
        have : a = [] := List.eq_nil_of_length_eq_zero h2
        subst this
        simp
    · show (⟨_⟩ : Str) = ⟨_⟩
      rw [mul_fold]
      simp [S]
theorem op_mulS {X : Cx} : OpR X (binaryOp .Mult) rMulS := by
  intro pins s σ H x y v u Q I rx ry h
  obtain ⟨a, n, rfl, rfl, h1, h2, hz, q⟩ := h
  obtain ⟨t, rfl⟩ := rx
  obtain ⟨t', rfl⟩ := ry
  refine PySem.SB.mul ⟨?_, fun hn hx hc => ?_, fun _ _ => ?_⟩ fun t' k => ?_
  · rw [decide_eq_false (by omega), decide_eq_false (by omega)]; rfl
  · rw [S_length] at hc hx
    have hn1 : 1 ≤ n := by omega
    have h3 : (a.length : Int) * n ≤ 2 ^ 63 - 1 := by
      have : ((a.length * n.toNat : Nat) : Int) ≤ ((maxLen : Nat) : Int) := Int.ofNat_le.mpr hz
      rw [Int.natCast_mul, Int.toNat_of_nonneg (by omega)] at this
      have e : ((maxLen : Nat) : Int) ≤ 2 ^ 63 - 1 := by decide
      omega
    have h4 : (a.length : Int) ≤ (2 ^ 63 - 1) / n := Int.le_ediv_of_mul_le (by omega) h3
    omega
  · rw [S_length]
    unfold PySem.Builtin.Str.tooLong
    rw [maxLen_eq]
    exact decide_eq_false (by omega)
  · rw [txt_mul]
    exact ⟨.str _, H, I.tok _, ⟨_, rfl⟩, q⟩
def rMulU : R2 := fun x y H Q => rI CMul (fun i j => .int (i * j)) x y H Q ∨ (rI CMulX (fun i j => .int (i * j)) x y H Q ∨ (rMulS x y H Q ∨ rRep x y H Q))
theorem op_mulU {X : Cx} : OpR X (binaryOp .Mult) rMulU := op_mul.or (op_mulX.or (op_mulS.or op_rep))
theorem ov_mulU : OpV K mg rMulU fMul := fun H1 H vx vy tx ty Gx Gy t s a b e Q q => by
  unfold fMul at e
  split at e
  · split at e
    · rename_i i j h
      cases e
      rw [Bool.or_eq_true, decide_eq_true_eq, decide_eq_true_eq] at h
      rcases h with h | h
      · exact .inl ⟨_, _, a.intE, b.intE, h, now s (.int _) q⟩
      · exact .inr (.inl ⟨_, _, a.intE, b.intE, h, now s (.int _) q⟩)
    · cases e
  · split at e
    · rename_i i j h
      cases e
      simp only [Bool.and_eq_true, decide_eq_true_eq] at h
      exact .inr (.inr (.inl ⟨_, _, a.strE, b.intE, h.1.1, h.1.2, h.2, now s (.str _) q⟩))
    · cases e
  · split at e
    · rename_i xs n h
      simp only [Bool.and_eq_true, decide_eq_true_eq] at h
      cases e
      obtain ⟨p, vs, G, rfl, h1, r1⟩ := a.lst' s
      obtain ⟨F, r, n⟩ := ((r1.fzs h.1.1.1).rep _).reps (H := H)
      exact .inr (.inr (.inr ⟨p, _, vs, rfl, b.intE, h1, h.1.1.2, h.1.2, by rw [r1.len, maxLen_eq]; exact h.2, newLst s r fun v H1' H' Ft x => q v H1' H' Ft (x.base n)⟩))
    · cases e
  · cases e
def fAdd : T → T → Option T := or2 (fI0 (· + ·)) (or2 fAddS (or2 fAddL fAddT))
def rAddU (K : PySem.W.Frag) : R2 := fun x y H Q => rI0 (fun i j => .int (i + j)) x y H Q ∨ ((∃ i j, x = .str i ∧ y = .str j ∧ i.length + j.length ≤ sizeLine ∧ Q (.str (i ++ j)) H) ∨ (rCat x y H Q ∨ rCatA K x y H Q))
theorem op_addU {X : Cx} : OpR X (binaryOp .Add) (rAddU X.K) := op_add.or (op_add_str.or (op_cat.or op_catA))
theorem ov_addU : OpV K mg (rAddU K) fAdd := OpV.or' ov_I0 (OpV.or' ov_addS (OpV.or' ov_addL ov_addT))
def fSub : T → T → Option T := fI0 (· - ·)
theorem ov_sub : OpV K mg (rI0 fun i j => .int (i - j)) fSub := ov_I0
def fMod : T → T → Option T := fI (fun _ j => decide (0 < j)) (· % ·)
theorem ov_mod : OpV K mg (rI (fun _ j => 0 < j) fun i j => .int (i % j)) fMod := ov_I fun _ _ h => of_decide_eq_true h
def fDiv : T → T → Option T := fI (fun _ j => decide (0 < j) && decide (j < 1073741824)) (· / ·)
theorem ov_div : OpV K mg (rI CDiv fun i j => .int (i / j)) fDiv := ov_I fun _ _ h => by simpa [CDiv] using h
def fPow : T → T → Option T := fI (fun i j => decide (0 ≤ j) && decide (j ≤ 1000000) && decide (i.natAbs < 2 ^ 64)) (fun i j => i ^ j.toNat)
theorem ov_pow : OpV K mg (rI CPow fun i j => .int (i ^ j.toNat)) fPow := ov_I fun _ _ h => by
  simp only [Bool.and_eq_true, decide_eq_true_eq] at h
  exact ⟨h.1.1, h.1.2, h.2⟩
def fNeg : T → Option T
  | .int i => some (.int (-i))
  | _ => none
theorem uv_neg : UnV K mg (rU fun i => .int (-i)) fNeg := fun H1 H vx tx Gx t s a e Q q => by
  unfold fNeg at e
  split at e
  · cases e; exact ⟨_, a.intE, now s (.int _) q⟩
  · cases e
/-! ### comparisons of ints and texts -/
def cLt : T → T → Option T
  | .int i, .int j => some (.bl (decide (i < j)))
  | .str a, .str b => some (.bl (decide (a < b)))
  | _, _ => none
def rLtU : R2 := fun x y H Q => rI0 (fun i j => .bl (decide (i < j))) x y H Q ∨ ∃ i j, x = .str i ∧ y = .str j ∧ Q (.bl (decide (i.cps.toList < j.cps.toList))) H
theorem op_ltU {X : Cx} : OpR X (compareOp .Lt) rLtU := op_lt.or op_lt_str
theorem ov_ltU : OpV K mg rLtU cLt := fun H1 H vx vy tx ty Gx Gy t s a b e Q q => by
  unfold cLt at e
  split at e
  · cases e; exact .inl ⟨_, _, a.intE, b.intE, now s (.bl _) q⟩
  · cases e
    refine .inr ⟨_, _, a.strE, b.strE, ?_⟩
    rw [S_toList, S_toList]
    exact now s (.bl _) q
  · cases e
def cLe : T → T → Option T := fB0 fun i j => decide (i ≤ j)
def cGt : T → T → Option T := fB0 fun i j => decide (j < i)
def cGe : T → T → Option T := fB0 fun i j => decide (j ≤ i)
theorem ov_le : OpV K mg (rI0 fun i j => .bl (decide (i ≤ j))) cLe := ov_B0
theorem ov_gt : OpV K mg (rI0 fun i j => .bl (decide (j < i))) cGt := ov_B0
theorem ov_ge : OpV K mg (rI0 fun i j => .bl (decide (j ≤ i))) cGe := ov_B0
end
end GK

/-! GK4: ==, in, is, len, items, slices, displays, conditions. -/
namespace GK
open PySem L2

/-! ### data -/
mutual
def T.data : T → Option PyData
  | .non => some .none
  | .bl b => some (.bool b)
  | .int i => some (.int i)
  | .str s => some (.str (S s))
  | .tup xs => (T.datas xs).map .tuple
  | .lst _ xs => (T.datas xs).map .list
  | .scr xs => (T.datas xs).map .list
  | _ => none
def T.datas : List T → Option (List PyData)
  | [] => some []
  | t :: r => match t.data, T.datas r with | some d, some ds => some (d :: ds) | _, _ => none
end
mutual
/-- equality of data as trees -/
def T.eqv : T → T → Bool
  | .non, .non => true
  | .bl a, .bl b => a == b
  | .bl a, .int j => (if a then 1 else 0) == j
  | .int i, .bl b => i == (if b then 1 else 0)
  | .int i, .int j => i == j
  | .str a, .str b => a == b
  | .tup a, .tup b => T.eqvs a b
  | .lst _ a, .lst _ b => T.eqvs a b
  | .lst _ a, .scr b => T.eqvs a b
  | .scr a, .lst _ b => T.eqvs a b
  | .scr a, .scr b => T.eqvs a b
  | _, _ => false
def T.eqvs : List T → List T → Bool
  | [], [] => true
  | x :: xs, y :: ys => T.eqv x y && T.eqvs xs ys
  | _, _ => false
end
theorem datas_some {t : T} {r : List T} {ds : List PyData} (h : T.datas (t :: r) = some ds) : ∃ d es, t.data = some d ∧ T.datas r = some es ∧ ds = d :: es := by
  simp only [T.datas] at h
  split at h
  · rename_i d es e1 e2; cases h; exact ⟨d, es, e1, e2, rfl⟩
  · cases h
mutual
theorem T.eqv_data (x y : T) {d e : PyData} (hx : x.data = some d) (hy : y.data = some e) : PyData.eqv d e = T.eqv x y := by
  cases x <;> cases y <;> simp only [T.data, Option.some.injEq, Option.map_eq_some_iff, reduceCtorEq] at hx hy <;> (try subst hx) <;> (try subst hy) <;>
    (try (obtain ⟨a, ha, rfl⟩ := hx)) <;> (try (obtain ⟨b, hb, rfl⟩ := hy)) <;> simp only [T.eqv, PyData.eqv, S_beq] <;> (try exact T.eqvs_data _ _ ha hb)
termination_by sizeOf x
theorem T.eqvs_data (x y : List T) {d e : List PyData} (hx : T.datas x = some d) (hy : T.datas y = some e) : PyData.eqvAll d e = T.eqvs x y := by
  match x, y, d, e, hx, hy with
  | [], [], d, e, hx, hy => (simp only [T.datas, Option.some.injEq] at hx hy; subst hx hy; simp [T.eqvs, PyData.eqvAll])
  | [], y :: ys, d, e, hx, hy =>
    obtain ⟨d1, es, _, _, rfl⟩ := datas_some hy
    simp only [T.datas, Option.some.injEq] at hx; subst hx; simp [T.eqvs, PyData.eqvAll]
  | x :: xs, [], d, e, hx, hy =>
    obtain ⟨d1, es, _, _, rfl⟩ := datas_some hx
    simp only [T.datas, Option.some.injEq] at hy; subst hy; simp [T.eqvs, PyData.eqvAll]
  | x :: xs, y :: ys, d, e, hx, hy =>
    obtain ⟨d1, ds, h1, h2, rfl⟩ := datas_some hx
    obtain ⟨e1, es, h3, h4, rfl⟩ := datas_some hy
    simp only [T.eqvs, PyData.eqvAll]
    rw [T.eqv_data _ _ h1 h3, T.eqvs_data _ _ h2 h4]
termination_by sizeOf x
end
section
variable {K : PySem.W.Frag} {mg : Str → Option Value}
mutual
theorem Fz.dp : ∀ {v : V} {t : T} {H : Hp} {d : PyData}, Fz K mg H v t → t.data = some d → Dp K H v d
  | _, _, H, d, .non, h => by simp only [T.data, Option.some.injEq] at h; subst h; exact .non
  | _, _, H, d, .bl b, h => by simp only [T.data, Option.some.injEq] at h; subst h; exact .bl b
  | _, _, H, d, .int b, h => by simp only [T.data, Option.some.injEq] at h; subst h; exact .int b
  | _, _, H, d, .str b, h => by simp only [T.data, Option.some.injEq] at h; subst h; exact .str _
  | _, _, H, d, .tup a r, h => by
    simp only [T.data, Option.map_eq_some_iff] at h
    obtain ⟨ds, e, rfl⟩ := h
    exact .tup a (Fzs.dp r e)
  | _, _, H, d, .lst a r, h => by
    simp only [T.data, Option.map_eq_some_iff] at h
    obtain ⟨ds, e, rfl⟩ := h
    exact .lst (.inl (.inl a)) (Fzs.dp r e)
  | _, _, H, d, .scr a r, h => by
    simp only [T.data, Option.map_eq_some_iff] at h
    obtain ⟨ds, e, rfl⟩ := h
    exact .lst a (Fzs.dp r e)
  | _, _, H, d, .dic a _ r, h => by simp [T.data] at h
  | _, _, H, d, .obj a m r, h => by simp [T.data] at h
theorem Fzs.dp : ∀ {vs : List V} {ts : List T} {H : Hp} {ds : List PyData}, Fzs K mg H vs ts → T.datas ts = some ds → DpAll K H vs ds
  | _, _, H, d, .nil, h => by simp only [T.datas, Option.some.injEq] at h; subst h; exact .nil
  | _, _, H, d, .cons a r, h => by
    obtain ⟨d1, es, h1, h2, rfl⟩ := datas_some h
    exact .cons (Fz.dp a h1) (Fzs.dp r h2)
end
mutual
theorem Rep.dp : ∀ {v : V} {t : T} {H1 H : Hp} {F : FP} {d : PyData}, Same H1 H → Rep K mg H1 H v t F → t.data = some d → Dp K H v d
  | _, _, H1, H, _, d, s, .sh a, h => (a.mono s).dp h
  | _, _, H1, H, _, d, s, .lst a _ r _, h => by
    simp only [T.data, Option.map_eq_some_iff] at h
    obtain ⟨ds, e, rfl⟩ := h
    exact .lst (.inl (.inl a)) (Reps.dp s r e)
  | _, _, H1, H, _, d, s, .dic _ _ _ _ _, h => by simp [T.data] at h
  | _, _, H1, H, _, d, s, .obj _ _ _ _ _, h => by simp [T.data] at h
theorem Reps.dp : ∀ {vs : List V} {ts : List T} {H1 H : Hp} {F : FP} {ds : List PyData}, Same H1 H → Reps K mg H1 H vs ts F → T.datas ts = some ds → DpAll K H vs ds
  | _, _, H1, H, _, d, s, .nil, h => by simp only [T.datas, Option.some.injEq] at h; subst h; exact .nil
  | _, _, H1, H, _, d, s, .cons a r _, h => by
    obtain ⟨d1, es, h1, h2, rfl⟩ := datas_some h
    exact .cons (Rep.dp s a h1) (Reps.dp s r h2)
end
/-- deep ==; flat where both are -/
def T.shaped (t : T) : Bool := match t.data with | some d => SeqAt.shaped d | none => false
def fEq : T → T → Option Bool
  | .int i, .int j => some (i == j)
  | .str a, .str b => some (a == b)
  | .bl a, .bl b => some (a == b)
  | .non, .non => some true
  | .non, .int _ => some false
  | .non, .str _ => some false
  | .non, .bl _ => some false
  | .int _, .non => some false
  | .str _, .non => some false
  | .bl _, .non => some false
  | .int _, .str _ => some false
  | .str _, .int _ => some false
  | a, b => if a.shaped && b.shaped then some (T.eqv a b) else none
def cEq (a b : T) : Option T := (fEq a b).map .bl
def cNe (a b : T) : Option T := (fEq a b).map fun b => .bl (!b)
def rEqU (K : PySem.W.Frag) : R2 := fun x y H Q => rEq x y H Q ∨ rEqD K x y H Q
def rNeU (K : PySem.W.Frag) : R2 := fun x y H Q => rNe x y H Q ∨ rNeD K x y H Q
theorem op_eqU {X : Cx} (hu : X.A.units + 64 < cLine) : OpR X (compareOp .Eq) (rEqU X.K) := op_eq.or (op_eqD hu)
theorem op_neU {X : Cx} (hu : X.A.units + 64 < cLine) : OpR X (compareOp .NotEq) (rNeU X.K) := op_ne.or (op_neD hu)
theorem dec_S {a b : List Nat} : decide (V.str (S a) = V.str (S b)) = (a == b) := by rw [dec_str, S_beq]
/-- the two roads of == -/
theorem eq_road {H1 H : Hp} {vx vy : V} {tx ty : T} {Gx Gy : FP} {k : Bool} (s : Same H1 H) (a : Rep K mg H1 H vx tx Gx) (b : Rep K mg H1 H vy ty Gy) (e : fEq tx ty = some k) :
    (scal vx vy = true ∧ decide (vx = vy) = k) ∨ ∃ d e, Dp K H vx d ∧ Dp K H vy e ∧ SeqAt.shaped d = true ∧ SeqAt.shaped e = true ∧ PyData.eqv d e = k := by
  have deep : (if tx.shaped && ty.shaped then some (T.eqv tx ty) else none) = some k → ∃ d e, Dp K H vx d ∧ Dp K H vy e ∧ SeqAt.shaped d = true ∧ SeqAt.shaped e = true ∧ PyData.eqv d e = k := fun e => by
    split at e
    · rename_i h
      cases e
      rw [Bool.and_eq_true] at h
      unfold T.shaped at h
      cases e1 : tx.data with
      | none => rw [e1] at h; exact absurd h.1 (by simp)
      | some d =>
        cases e2 : ty.data with
        | none => rw [e2] at h; exact absurd h.2 (by simp)
        | some d' =>
          rw [e1, e2] at h
          exact ⟨d, d', a.dp s e1, b.dp s e2, h.1, h.2, T.eqv_data _ _ e1 e2⟩
    · cases e
  unfold fEq at e
  split at e <;> first
    | (cases e; rw [a.intE, b.intE]; exact .inl ⟨rfl, dec_int⟩)
    | (cases e; rw [a.strE, b.strE]; exact .inl ⟨rfl, dec_S⟩)
    | (cases e; rw [a.blE, b.blE]; exact .inl ⟨rfl, dec_bl⟩)
    | (cases e; rw [a.nonE, b.nonE]; exact .inl ⟨rfl, rfl⟩)
    | (cases e; rw [a.nonE, b.intE]; exact .inl ⟨rfl, rfl⟩)
    | (cases e; rw [a.nonE, b.strE]; exact .inl ⟨rfl, rfl⟩)
    | (cases e; rw [a.nonE, b.blE]; exact .inl ⟨rfl, rfl⟩)
    | (cases e; rw [a.intE, b.nonE]; exact .inl ⟨rfl, rfl⟩)
    | (cases e; rw [a.strE, b.nonE]; exact .inl ⟨rfl, rfl⟩)
    | (cases e; rw [a.blE, b.nonE]; exact .inl ⟨rfl, rfl⟩)
    | (cases e; rw [a.intE, b.strE]; exact .inl ⟨rfl, rfl⟩)
    | (cases e; rw [a.strE, b.intE]; exact .inl ⟨rfl, rfl⟩)
    | exact .inr (deep e)
theorem ov_eqU : OpV K mg (rEqU K) cEq := fun H1 H vx vy tx ty Gx Gy t s a b e Q q => by
  unfold cEq at e
  rw [Option.map_eq_some_iff] at e
  obtain ⟨k, e, rfl⟩ := e
  rcases eq_road s a b e with ⟨h, rfl⟩ | ⟨d, d', h1, h2, h3, h4, rfl⟩
  · exact .inl ⟨h, now s (.bl _) q⟩
  · exact .inr ⟨d, d', h1, h2, h3, h4, now s (.bl _) q⟩
theorem ov_neU : OpV K mg (rNeU K) cNe := fun H1 H vx vy tx ty Gx Gy t s a b e Q q => by
  unfold cNe at e
  rw [Option.map_eq_some_iff] at e
  obtain ⟨k, e, rfl⟩ := e
  rcases eq_road s a b e with ⟨h, rfl⟩ | ⟨d, d', h1, h2, h3, h4, rfl⟩
  · exact .inl ⟨h, now s (.bl _) q⟩
  · exact .inr ⟨d, d', h1, h2, h3, h4, now s (.bl _) q⟩

/-! ### is None -/
def cIs : T → T → Option T
  | .non, .non => some (.bl true)
  | .non, _ => none
  | _, .non => some (.bl false)
  | _, _ => none
def cIsN : T → T → Option T
  | .non, .non => some (.bl false)
  | .non, _ => none
  | _, .non => some (.bl true)
  | _, _ => none
theorem not_non {H1 H : Hp} {v : V} {t : T} {F : FP} (h : Rep K mg H1 H v t F) (n : t ≠ .non) : v ≠ .non := by
  cases h with
  | sh h => cases h with
    | non => exact absurd rfl n
    | _ => intro e; cases e
  | _ => intro e; cases e
theorem ov_is : OpV K mg (fun x y H Q => y = .non ∧ Q (.bl (decide (x = .non))) H) cIs := fun H1 H vx vy tx ty Gx Gy t s a b e Q q => by
  unfold cIs at e
  split at e
  · cases e; refine ⟨b.nonE, ?_⟩; rw [a.nonE]; exact now s (.bl _) q
  · cases e
  · rename_i h; cases e
    refine ⟨b.nonE, ?_⟩
    rw [decide_eq_false (not_non a fun z => h z)]
    exact now s (.bl _) q
  · cases e
theorem ov_isN : OpV K mg (fun x y H Q => y = .non ∧ Q (.bl (!decide (x = .non))) H) cIsN := fun H1 H vx vy tx ty Gx Gy t s a b e Q q => by
  unfold cIsN at e
  split at e
  · cases e; refine ⟨b.nonE, ?_⟩; rw [a.nonE]; exact now s (.bl _) q
  · cases e
  · rename_i h; cases e
    refine ⟨b.nonE, ?_⟩
    rw [decide_eq_false (not_non a fun z => h z)]
    exact now s (.bl _) q
  · cases e
end
end GK

/-! GK5: in, truth, len, items, slices, displays, conditions, and | or | not. -/
namespace GK
open PySem L2
section
variable {K : PySem.W.Frag} {mg : Str → Option Value}

/-! ### flat values -/
def T.flat : T → Option V
  | .non => some .non
  | .bl b => some (.bl b)
  | .int i => some (.int i)
  | .str s => some (.str (S s))
  | _ => none
def T.flats : List T → Option (List V)
  | [] => some []
  | t :: r => match t.flat, T.flats r with | some v, some vs => some (v :: vs) | _, _ => none
theorem Fz.flatE {H : Hp} {v w : V} {t : T} (h : Fz K mg H v t) (e : t.flat = some w) : v = w ∧ flatV v = true := by
  cases h <;> simp only [T.flat, Option.some.injEq, reduceCtorEq] at e <;> subst e <;> exact ⟨rfl, rfl⟩
theorem Rep.flatE {H1 H : Hp} {v w : V} {t : T} {F : FP} (h : Rep K mg H1 H v t F) (e : t.flat = some w) : v = w ∧ flatV v = true := by
  cases h with
  | sh h => exact h.flatE e
  | _ => simp [T.flat] at e
theorem flats_cons {t : T} {r : List T} {ws : List V} (h : T.flats (t :: r) = some ws) : ∃ v vs, t.flat = some v ∧ T.flats r = some vs ∧ ws = v :: vs := by
  simp only [T.flats] at h
  split at h
  · rename_i v vs e1 e2; cases h; exact ⟨v, vs, e1, e2, rfl⟩
  · cases h
theorem Reps.flatE : ∀ {vs ws : List V} {ts : List T} {H1 H : Hp} {F : FP}, Reps K mg H1 H vs ts F → T.flats ts = some ws → vs = ws ∧ vs.all flatV = true
  | _, _, _, _, _, _, .nil, h => by simp only [T.flats, Option.some.injEq] at h; subst h; exact ⟨rfl, rfl⟩
  | _, _, _, _, _, _, .cons a r _, h => by
    obtain ⟨v, vs, h1, h2, rfl⟩ := flats_cons h
    obtain ⟨e1, f1⟩ := a.flatE h1
    obtain ⟨e2, f2⟩ := Reps.flatE r h2
    exact ⟨by rw [e1, e2], by rw [List.all_cons, f1, f2]; rfl⟩
/-- == of flat trees as eqV says -/
def T.eqf (x y : T) : Bool := T.eqv x y
theorem eqf_V {x y : T} {v w : V} (hx : x.flat = some v) (hy : y.flat = some w) : eqV v w = T.eqv x y := by
  cases x <;> cases y <;> simp only [T.flat, Option.some.injEq, reduceCtorEq] at hx hy <;> subst hx <;> subst hy <;> simp only [eqV, T.eqv, S_beq]
theorem inV_T {x : T} {v : V} (hx : x.flat = some v) : ∀ {ys : List T} {ws : List V}, T.flats ys = some ws → inV v ws = ys.any fun y => T.eqv y x
  | [], ws, h => by simp only [T.flats, Option.some.injEq] at h; subst h; rfl
  | y :: ys, ws, h => by
    obtain ⟨w, ws', h1, h2, rfl⟩ := flats_cons h
    have ih := inV_T hx h2
    unfold inV at ih ⊢
    rw [List.any_cons, List.any_cons, ih, eqf_V h1 hx]

/-! ### dicts by key -/
def T.key : T → Option Key
  | .int i => some (.inl i)
  | .str s => some (.inr (S s))
  | _ => none
theorem Rep.keyE {H1 H : Hp} {v : V} {t : T} {k : Key} {F : FP} (h : Rep K mg H1 H v t F) (e : t.key = some k) : v = kV k := by
  cases t <;> simp only [T.key, Option.some.injEq, reduceCtorEq] at e <;> subst e
  · exact h.intE
  · exact h.strE
def tget (kvs : List (Key × T)) (k : Key) : Option T := match kvs with
  | [] => none
  | (k', t) :: r => if k' = k then some t else tget r k
def tput (kvs : List (Key × T)) (k : Key) (t : T) : List (Key × T) := match kvs with
  | [] => [(k, t)]
  | (k', u) :: r => if k' = k then (k', t) :: r else (k', u) :: tput r k t
theorem RepA.get : ∀ {vs : List (Key × V)} {ts : List (Key × T)} {H1 H : Hp} {F : FP} {k : Key}, RepA K mg H1 H vs ts F →
    (tget ts k = none ∧ valV vs k = none) ∨ ∃ t v G, tget ts k = some t ∧ valV vs k = some v ∧ Rep K mg H1 H v t G ∧ ∀ b, G b → F b
  | _, _, _, _, _, k, .nil => .inl ⟨rfl, rfl⟩
  | _, _, _, _, _, k, .cons (k := k') (v := v) (t := t) (vs := vs) a r _ => by
    by_cases h : k' = k
    · exact .inr ⟨t, v, _, by simp only [tget]; rw [if_pos h], by rw [valV_pos (p := (k', v)) h], a, fun _ z => .inl z⟩
    · have e1 : valV ((k', v) :: vs) k = valV vs k := by simp [valV, List.find?_cons, h]
      rcases RepA.get (k := k) r with ⟨x, y⟩ | ⟨t', v', G, x, y, z, w⟩
      · exact .inl ⟨by simp only [tget]; rw [if_neg h]; exact x, e1.trans y⟩
      · exact .inr ⟨t', v', G, by simp only [tget]; rw [if_neg h]; exact x, e1.trans y, z, fun b q => .inr (w b q)⟩
theorem FzA.rep : ∀ {vs : List (Key × V)} {ts : List (Key × T)} {H1 H : Hp}, FzA K mg H1 vs ts → ∃ F, RepA K mg H1 H vs ts F ∧ ∀ b, ¬ F b
  | _, _, _, _, .nil => ⟨F0, .nil, fun _ h => h⟩
  | _, _, _, _, .cons h r => let ⟨F, a, b⟩ := FzA.rep r; ⟨_, .cons (.sh h) a (fun _ h => h.elim), fun x y => y.elim id (b x)⟩
theorem Rep.dict {H1 H : Hp} {v : V} {o : Bool} {ts : List (Key × T)} {F : FP} (s : Same H1 H) (h : Rep K mg H1 H v (.dic o ts) F) : ∃ a vs G, v = .ref a ∧ H a = some (.dK vs) ∧ RepA K mg H1 H vs ts G := by
  cases h with
  | sh h => cases h with | dic a n b => obtain ⟨F, r, _⟩ := b.rep (H := H); exact ⟨_, _, F, rfl, s _ _ a, r⟩
  | dic a b n c d => exact ⟨_, _, _, rfl, a, c⟩
theorem FzF.rep : ∀ {vs : List (Str × V)} {ts : List (String × T)} {H1 H : Hp}, FzF K mg H1 vs ts → ∃ F, RepF K mg H1 H vs ts F ∧ ∀ b, ¬ F b
  | _, _, _, _, .nil => ⟨F0, .nil, fun _ h => h⟩
  | _, _, _, _, .cons h r => let ⟨F, a, b⟩ := FzF.rep r; ⟨_, .cons (.sh h) a (fun _ h => h.elim), fun x y => y.elim id (b x)⟩
theorem Rep.ins {H1 H : Hp} {v : V} {o : Bool} {c : String} {ts : List (String × T)} {F : FP} (s : Same H1 H) (h : Rep K mg H1 H v (.obj o c ts) F) : ∃ a C dx vs G, v = .ref a ∧ H a = some (.ins C dx vs) ∧ mg (Str.ofString c) = some (.ref C) ∧ RepF K mg H1 H vs ts G := by
  cases h with
  | sh h => cases h with | obj a b c => obtain ⟨F, r, _⟩ := c.rep (H := H); exact ⟨_, _, _, _, F, rfl, s _ _ a, b, r⟩
  | obj a b c d e => exact ⟨_, _, _, _, _, rfl, a, c, d⟩
theorem RepF.get : ∀ {vs : List (Str × V)} {ts : List (String × T)} {H1 H : Hp} {F : FP} {f : String} {t : T}, RepF K mg H1 H vs ts F → ts.lookup f = some t → ∃ v G, vs.lookup (Str.ofString f) = some v ∧ Rep K mg H1 H v t G ∧ ∀ b, G b → F b
  | _, _, _, _, _, f, t, .nil, h => by simp at h
  | _, _, _, _, _, f, t, .cons (k := k') (v := v) (t := t') (vs := vs) a r _, h => by
    by_cases e : f = k'
    · subst e
      rw [List.lookup_cons, beq_self_eq_true] at h
      cases h
      exact ⟨v, _, by rw [List.lookup_cons, beq_self_eq_true], a, fun _ z => .inl z⟩
    · have e1 : (f == k') = false := beq_eq_false_iff_ne.mpr e
      rw [List.lookup_cons, e1] at h
      obtain ⟨v', G, x, y, z⟩ := RepF.get r h
      exact ⟨v', G, by rw [List.lookup_cons, ofString_beq, e1]; exact x, y, fun b q => .inr (z b q)⟩

/-! ### in -/
def fIn1 : T → T → Option Bool
  | .str [c], .str z => some (decide (c ∈ z))
  | x, .tup ys => match x.flat, T.flats ys with | some _, some _ => some (ys.any fun y => T.eqv y x) | _, _ => none
  | x, .lst _ ys => match x.flat, T.flats ys with
    | some _, some _ => some (ys.any fun y => T.eqv y x)
    | _, _ => match x.data, T.datas ys with
      | some d, some ds => if SeqAt.shaped d && SeqAt.shaped (.list ds) then some (ys.any fun y => T.eqv y x) else none
      | _, _ => none
  | _, _ => none
def fIn (x y : T) : Option Bool := match y with
  | .dic _ kvs => match x.key with | some k => some (tget kvs k).isSome | none => none
  | y => fIn1 x y
def cIn1 (neg : Bool) (x y : T) : Option T := (fIn1 x y).map fun k => .bl (if neg then !k else k)
def cIn (neg : Bool) (x y : T) : Option T := (fIn x y).map fun k => .bl (if neg then !k else k)
def rInU (K : PySem.W.Frag) (neg : Bool) : R2 := fun x y H Q => (∃ (c : Nat) (z : Str), x = .str ⟨#[c]⟩ ∧ y = .str z ∧ Q (.bl (if neg then !decide (c ∈ z.cps.toList) else decide (c ∈ z.cps.toList))) H) ∨
  (rIn K neg x y H Q ∨ ∃ d ds, Dp K H x d ∧ Dp K H y (.list ds) ∧ SeqAt.shaped d = true ∧ SeqAt.shaped (.list ds) = true ∧ Q (.bl (if neg then !ds.any fun z => PyData.eqv z d else ds.any fun z => PyData.eqv z d)) H)
theorem op_inU {X : Cx} (hu : X.A.units + 65 < cLine) : OpR X (compareOp .In) (rInU X.K false) := op_in_sign.or (op_in_seq.or (op_inD hu))
theorem op_ninU {X : Cx} (hu : X.A.units + 65 < cLine) : OpR X (compareOp .NotIn) (rInU X.K true) := op_notIn_sign.or (op_notIn_seq.or (op_notInD hu))
theorem any_data {x : T} {d : PyData} (hx : x.data = some d) : ∀ {ys : List T} {ds : List PyData}, T.datas ys = some ds → (ds.any fun z => PyData.eqv z d) = ys.any fun y => T.eqv y x
  | [], ds, h => by simp only [T.datas, Option.some.injEq] at h; subst h; rfl
  | y :: ys, ds, h => by
    obtain ⟨e, es, h1, h2, rfl⟩ := datas_some h
    rw [List.any_cons, List.any_cons, any_data hx h2, T.eqv_data _ _ h1 hx]
theorem ov_in {neg : Bool} : OpV K mg (rInU K neg) (cIn1 neg) := fun H1 H vx vy tx ty Gx Gy t s a b e Q q => by
  unfold cIn1 at e
  rw [Option.map_eq_some_iff] at e
  obtain ⟨k, e, rfl⟩ := e
  have q := now (K := K) (mg := mg) s (.bl (if neg then !k else k)) q
  have fl : ∀ {p : Addr} {vs : List V} {ys : List T} {G : FP} {v : V} {ws : List V}, vy = .ref p → (SqL K H p vs ∨ SqT K H p vs) → Reps K mg H1 H vs ys G → tx.flat = some v → T.flats ys = some ws → (ys.any fun y => T.eqv y tx) = k → rInU K neg vx vy H Q :=
    fun {p vs ys G v ws} e1 h r e2 e3 e4 => by
      obtain ⟨e5, f5⟩ := a.flatE e2
      obtain ⟨e6, f6⟩ := r.flatE e3
      refine .inr (.inl ⟨p, vs, e1, h, f5, f6, ?_⟩)
      rw [e5, e6, inV_T e2 e3, e4]
      exact q
  unfold fIn1 at e
  split at e
  · cases e
    refine .inl ⟨_, _, a.strE, b.strE, ?_⟩
    rw [S_toList]
    exact q
  · split at e
    · rename_i e1 e2
      obtain ⟨p, vs, h1, h2, h3⟩ := b.tuple s
      obtain ⟨F, r, _⟩ := h3.reps (H := H)
      exact fl h1 (.inr h2) r e1 e2 (Option.some.inj e)
    · cases e
  · split at e
    · rename_i e1 e2
      obtain ⟨p, vs, G, h1, h2, h3⟩ := b.lst' s
      exact fl h1 (.inl (.inl (.inl h2))) h3 e1 e2 (Option.some.inj e)
    · split at e
      · rename_i e1 e2
        split at e
        · rename_i h
          rw [Bool.and_eq_true] at h
          cases e
          refine .inr (.inr ⟨_, _, a.dp s e1, b.dp s (by simp only [T.data]; rw [e2]; rfl), h.1, h.2, ?_⟩)
          rw [any_data e1 e2]
          exact q
        · cases e
      · cases e
  · cases e
end
section
variable {X : Cx} {a b : Expr} {te ta tb : TE} {x xa xb : Env → Option T} {pos : Pos}
/-- two operands, then r of them -/
theorem two {K : PySem.W.Frag} {mg : Str → Option Value} {env : Env} {u w : T} {H1 H : Hp} {σ : L2.St} {F : FP} (ha : KR K mg ta xa) (hb : KR K mg tb xb) (e1 : xa env = some u) (e2 : xb env = some w) (s : Same H1 H) (R : RepE K mg H1 H σ env F) (R' : V → V → Hp → Prop)
    (h : ∀ v1 v2 Hc Hd G1 G2, Same Hc Hd → Ext H1 H F0 Hc Hd F0 → Rep K mg Hc Hd v1 u G1 → Rep K mg Hc Hd v2 w G2 → R' v1 v2 Hd) : ta σ H fun v1 Hb => tb σ Hb fun v2 Hd => R' v1 v2 Hd :=
  ha _ _ e1 _ _ _ _ s R _ fun v1 Ha Hb G1 x1 r1 => hb _ _ e2 _ _ _ _ x1.sub (x1.qRepE R) _ fun v2 Hc Hd G2 x2 r2 => h v1 v2 Hc Hd G1 G2 x2.sub (x1.trans x2) (x2.qRep r1) r2
theorem qop_some {f : T → T → Option T} {env : Env} {t : T} (e : qOp f xa xb env = some t) : ∃ u w, xa env = some u ∧ xb env = some w ∧ f u w = some t := by
  unfold qOp at e
  cases e1 : xa env with
  | none => rw [e1] at e; cases e
  | some u =>
    cases e2 : xb env with
    | none => rw [e1, e2] at e; cases e
    | some w => rw [e1, e2] at e; exact ⟨u, w, rfl, rfl, e⟩
theorem qr_in {K : PySem.W.Frag} {mg : Str → Option Value} {neg : Bool} {r : TE} (ha : KR K mg ta xa) (hb : KR K mg tb xb)
    (hr : ∀ σ H Q, (ta σ H fun y H1 => tb σ H1 fun x H2 => ∃ a o, x = .ref a ∧ DGet H2 a y o ∧ Q (.bl (if neg then !o.isSome else o.isSome)) H2) → r σ H Q) :
    QR K mg (teOr (tOp (rInU K neg) ta tb) r) (qOp (cIn neg) xa xb) := fun env t e H1 H σ F s R Q q => by
  obtain ⟨u, w, e1, e2, e3⟩ := qop_some e
  clear e
  simp only [cIn, Option.map_eq_some_iff] at e3
  obtain ⟨k, e, rfl⟩ := e3
  unfold fIn at e
  split at e
  · rename_i o kvs
    split at e
    · rename_i kk ek
      cases e
      refine .inr (hr _ _ _ (two ha hb e1 e2 s R _ fun v1 v2 Hc Hd G1 G2 s' x' r1 r2 => ?_))
      obtain ⟨p, vs, G, h1, h2, h3⟩ := r2.dict s'
      refine ⟨p, valV vs kk, h1, by rw [r1.keyE ek]; exact DGet.k h2, ?_⟩
      have : (valV vs kk).isSome = (tget kvs kk).isSome := by
        rcases h3.get (k := kk) with ⟨x, y⟩ | ⟨t, v, G, x, y, _⟩
        · rw [x, y]; rfl
        · rw [x, y]; rfl
      rw [this]
      exact q _ Hc _ F0 x' (.sh (.bl _))
    · cases e
  · exact .inl (qr_op ha hb ov_in env _ (by unfold qOp; rw [e1, e2]; show Option.map _ (fIn1 u w) = _; rw [e]; rfl) H1 H σ F s R Q q)
theorem ce_in (hu : X.A.units + 65 < cLine) (ha : KE X a ta xa) (hb : KE X b tb xb) : CE X .In a b (teOr (tOp (rInU X.K false) ta tb) (tDIn ta tb)) (qOp (cIn false) xa xb) :=
  ⟨PC.or (pc_op (op_inU hu) ha.pe hb.pe) (pc_din (by omega) ha.pe hb.pe), qr_in ha.kr hb.kr fun _ _ _ h => h⟩
theorem ce_notIn (hu : X.A.units + 65 < cLine) (ha : KE X a ta xa) (hb : KE X b tb xb) : CE X .NotIn a b (teOr (tOp (rInU X.K true) ta tb) (tDNotIn ta tb)) (qOp (cIn true) xa xb) :=
  ⟨PC.or (pc_op (op_ninU hu) ha.pe hb.pe) (pc_dnotin (by omega) ha.pe hb.pe), qr_in ha.kr hb.kr fun _ _ _ h => h⟩

/-! ### truth, tests -/
theorem emp_of {α β : Type} {l : List α} {m : List β} (h : l.length = m.length) : (!m.isEmpty) = !l.isEmpty := by
  cases l <;> cases m <;> simp_all
theorem tru_of {K : PySem.W.Frag} {mg : Str → Option Value} {H1 H : Hp} {v : V} {t : T} {F : FP} {k : Bool} (s : Same H1 H) (h : Rep K mg H1 H v t F) (e : t.truth = some k) : TruV K v H k := by
  unfold T.truth at e
  split at e
  · cases e; rw [h.nonE]; exact rfl
  · cases e; rw [h.blE]; exact rfl
  · cases e; rw [h.intE]; exact rfl
  · rename_i l
    split at e
    · rename_i hz
      cases e
      rw [h.strE]
      refine ⟨by rw [S_length]; exact hz, ?_⟩
      rw [S_length]
      cases l <;> simp
      omega
    · cases e
  · cases e
    obtain ⟨p, vs, h1, h2, h3⟩ := h.tuple s
    rw [h1]
    exact .inr (.inl ⟨vs, h2, emp_of h3.len⟩)
  · cases e
    obtain ⟨p, vs, G, h1, h2, h3⟩ := h.lst' s
    rw [h1]
    exact .inl ⟨vs, .inl (.inl h2), emp_of h3.len⟩
  · rename_i xs
    cases e
    obtain ⟨p, vs, G, h1, h2, h3⟩ := h.list s (ts := xs) rfl
    rw [h1]
    exact .inl ⟨vs, h2, emp_of h3.len⟩
  · rename_i o kvs
    cases e
    obtain ⟨p, vs, G, h1, h2, h3⟩ := h.dict s
    rw [h1]
    refine .inr (.inr ⟨vs, h2, ?_⟩)
    cases h3 <;> rfl
  · cases e
def tTruth (xa : Env → Option T) : Env → Option Bool := fun env => match xa env with | none => none | some a => a.truth
theorem te_truth (ha : KE X a ta xa) (he : ∀ whole, isTrue a X.env whole = (do let v ← whole; standAt a.pos; holding [v] (truthy v)) := by intro _; rfl) : TE' X a (fun σ H Q => ta σ H fun x H' => ∃ k, TruV X.K x H' k ∧ Q k H') (tTruth xa) :=
  ⟨pt_truth ha.pe he, fun env b e H1 H σ F s R Q q => by
    unfold tTruth at e
    cases e1 : xa env with
    | none => rw [e1] at e; cases e
    | some u =>
      rw [e1] at e
      exact ha.kr _ _ e1 _ _ _ _ s R _ fun v Ha Hb G x r => ⟨b, tru_of x.sub r e, q Ha Hb x⟩⟩
def tNotC (c : Env → Option Bool) : Env → Option Bool := fun env => match c env with | none => none | some b => some (!b)
def tAndC (c d : Env → Option Bool) : Env → Option Bool := fun env => match c env with | none => none | some true => d env | some false => some false
def tOrC (c d : Env → Option Bool) : Env → Option Bool := fun env => match c env with | none => none | some true => some true | some false => d env
variable {tA tB' : TT} {c d : Env → Option Bool} {rest : List Expr}
theorem te_not (h : TE' X a tA c) : TE' X (.UnaryOp .Not a pos) (tNot tA) (tNotC c) := ⟨pt_not h.pt, fun env b e H1 H σ F s R Q q => by
  unfold tNotC at e
  cases e1 : c env with
  | none => rw [e1] at e; cases e
  | some k => rw [e1] at e; cases e; exact h.tr _ _ e1 _ _ _ _ s R _ fun Ha Hb x => q Ha Hb x⟩
structure WE (X : Cx) (e : Expr) (tt : TT) (c : Env → Option Bool) : Prop where
  pw : PW X e tt
  tr : TR X.K X.mg tt c
theorem WE.asT {e : Expr} (h : WE X e tA c) : TE' X e tA c := ⟨h.pw.pt, h.tr⟩
theorem we_and1 (h : TE' X a tA c) : WE X (.BoolOp .And [a] pos) tA c := ⟨pw_and1 h.pt, h.tr⟩
theorem we_or1 (h : TE' X a tA c) : WE X (.BoolOp .Or [a] pos) tA c := ⟨pw_or1 h.pt, h.tr⟩
theorem we_and (h : TE' X a tA c) (h' : WE X (.BoolOp .And (b :: rest) pos) tB' d) : WE X (.BoolOp .And (a :: b :: rest) pos) (tAnd tA tB') (tAndC c d) := ⟨pw_and h.pt h'.pw, fun env k e H1 H σ F s R Q q => by
  unfold tAndC at e
  refine (?_ : ∃ k1, c env = some k1 ∧ _) |>.elim fun k1 hk => h.tr _ _ hk.1 _ _ _ _ s R _ hk.2
  cases e1 : c env with
  | none => rw [e1] at e; cases e
  | some k1 =>
    refine ⟨k1, rfl, fun Ha Hb x => ?_⟩
    rw [e1] at e
    cases k1 with
    | true => exact iteT (h'.tr _ _ e _ _ _ _ x.sub (x.qRepE R) _ fun Hc Hd y => q Hc Hd (x.trans y))
    | false => cases e; exact iteF (q Ha Hb x)⟩
theorem we_or (h : TE' X a tA c) (h' : WE X (.BoolOp .Or (b :: rest) pos) tB' d) : WE X (.BoolOp .Or (a :: b :: rest) pos) (tOr tA tB') (tOrC c d) := ⟨pw_or h.pt h'.pw, fun env k e H1 H σ F s R Q q => by
  unfold tOrC at e
  refine (?_ : ∃ k1, c env = some k1 ∧ _) |>.elim fun k1 hk => h.tr _ _ hk.1 _ _ _ _ s R _ hk.2
  cases e1 : c env with
  | none => rw [e1] at e; cases e
  | some k1 =>
    refine ⟨k1, rfl, fun Ha Hb x => ?_⟩
    rw [e1] at e
    cases k1 with
    | true => cases e; exact iteT (q Ha Hb x)
    | false => exact iteF (h'.tr _ _ e _ _ _ _ x.sub (x.qRepE R) _ fun Hc Hd y => q Hc Hd (x.trans y))⟩
/-! ### as values -/
def qIf (c : Env → Option Bool) (xa xb : Env → Option T) : Env → Option T := fun env => match c env with | none => none | some true => xa env | some false => xb env
theorem qe_if {e : Expr} (h : TE' X e tA c) (ha : QE X a ta xa) (hb : QE X b tb xb) : QE X (.IfExp e a b pos) (tIf tA ta tb) (qIf c xa xb) := ⟨pe_ifExp h.pt ha.pe hb.pe, fun env t e H1 H σ F s R Q q => by
  unfold qIf at e
  refine (?_ : ∃ k1, c env = some k1 ∧ _) |>.elim fun k1 hk => h.tr _ _ hk.1 _ _ _ _ s R _ hk.2
  cases e1 : c env with
  | none => rw [e1] at e; cases e
  | some k1 =>
    refine ⟨k1, rfl, fun Ha Hb x => ?_⟩
    rw [e1] at e
    cases k1 with
    | true => exact iteT (ha.qr _ _ e _ _ _ _ x.sub (x.qRepE R) _ fun v Hc Hd Ft y r => q v Hc Hd Ft (x.trans y) r)
    | false => exact iteF (hb.qr _ _ e _ _ _ _ x.sub (x.qRepE R) _ fun v Hc Hd Ft y r => q v Hc Hd Ft (x.trans y) r)⟩
def qAnd (xa xb : Env → Option T) : Env → Option T := fun env => match xa env with | none => none | some t => match t.truth with | none => none | some true => xb env | some false => some t
def qOr (xa xb : Env → Option T) : Env → Option T := fun env => match xa env with | none => none | some t => match t.truth with | none => none | some true => some t | some false => xb env
def qNot (xa : Env → Option T) : Env → Option T := fun env => match xa env with | none => none | some t => match t.truth with | none => none | some k => some (.bl (!k))
theorem qe_one {op} (h : QE X a ta xa) : QE X (.BoolOp op [a] pos) ta xa := ⟨pe_one h.pe, h.qr⟩
theorem qe_and (ha : QE X a ta xa) (hb : QE X (.BoolOp .And (b :: rest) pos) tb xb) : QE X (.BoolOp .And (a :: b :: rest) pos) (tAndT X.K ta tb) (qAnd xa xb) := ⟨pe_andT ha.pe hb.pe, fun env t e H1 H σ F s R Q q => by
  unfold qAnd at e
  cases e1 : xa env with
  | none => rw [e1] at e; cases e
  | some u =>
    rw [e1] at e
    refine ha.qr _ _ e1 _ _ _ _ s R _ fun v Ha Hb Ft x r => ?_
    simp only at e
    split at e
    · cases e
    · rename_i ht
      exact ⟨true, tru_of x.sub r ht, iteT (hb.qr _ _ e _ _ _ _ x.sub ((x.less (F'' := F0) fun _ z => z.elim).qRepE R) _ fun w Hc Hd Fu y r2 => q w Hc Hd Fu ((x.less (F'' := F0) fun _ z => z.elim).trans y) r2)⟩
    · rename_i ht
      cases e
      exact ⟨false, tru_of x.sub r ht, iteF (q v Ha Hb Ft x r)⟩⟩
theorem qe_or (ha : QE X a ta xa) (hb : QE X (.BoolOp .Or (b :: rest) pos) tb xb) : QE X (.BoolOp .Or (a :: b :: rest) pos) (tOrT X.K ta tb) (qOr xa xb) := ⟨pe_orT ha.pe hb.pe, fun env t e H1 H σ F s R Q q => by
  unfold qOr at e
  cases e1 : xa env with
  | none => rw [e1] at e; cases e
  | some u =>
    rw [e1] at e
    refine ha.qr _ _ e1 _ _ _ _ s R _ fun v Ha Hb Ft x r => ?_
    simp only at e
    split at e
    · cases e
    · rename_i ht
      cases e
      exact ⟨true, tru_of x.sub r ht, iteT (q v Ha Hb Ft x r)⟩
    · rename_i ht
      exact ⟨false, tru_of x.sub r ht, iteF (hb.qr _ _ e _ _ _ _ x.sub ((x.less (F'' := F0) fun _ z => z.elim).qRepE R) _ fun w Hc Hd Fu y r2 => q w Hc Hd Fu ((x.less (F'' := F0) fun _ z => z.elim).trans y) r2)⟩⟩
theorem qe_not (ha : KE X a ta xa) : QE X (.UnaryOp .Not a pos) (tNotT X.K ta) (qNot xa) := ⟨pe_notT ha.pe, fun env t e H1 H σ F s R Q q => by
  unfold qNot at e
  cases e1 : xa env with
  | none => rw [e1] at e; cases e
  | some u =>
    rw [e1] at e
    refine ha.kr _ _ e1 _ _ _ _ s R _ fun v Ha Hb Ft x r => ?_
    simp only at e
    split at e
    · cases e
    · rename_i k ht
      cases e
      exact ⟨k, tru_of x.sub r ht, q _ Ha Hb F0 x (.sh (.bl _))⟩⟩
end
end GK

/-! GK6: argument lists, displays, items, slices, attributes, built-in calls, methods of texts. -/
namespace GK
open PySem L2
section
variable {X : Cx} {a b e : Expr} {es : List Expr} {te ta tb : TE} {tl : TA} {x xa xb : Env → Option T} {xs : Env → Option (List T)} {pos : Pos}

/-! ### argument lists -/
theorem Ext.both {H1 H Ha Hb Hc Hd : Hp} {F G : FP} (x : Ext H1 H F0 Ha Hb F) (y : Ext Ha Hb F0 Hc Hd G) : Ext H1 H F0 Hc Hd (fun b => F b ∨ G b) := by
  have back : ∀ b, Hb b = none → H b = none := fun b e => by
    rcases none_or H b with h | ⟨o, h⟩
    · exact h
    · rw [x.keep b o h fun z => z] at e; cases e
  refine ⟨x.s1.trans y.s1, y.sub, fun b o z _ => y.keep b o (x.keep b o z fun z => z) fun z => z, fun b (z : _ ∨ _) => ?_, fun b o z => ?_⟩
  · rcases z with z | z
    · exact x.foot b z
    · rcases y.foot b z with z | z
      · exact z.elim
      · exact .inr (back b z)
  · rcases y.new1 b o z with ⟨o', z⟩ | z | z
    · exact x.new1 b o' z
    · exact z.elim
    · exact .inr (.inr (back b z))
def aNil : Env → Option (List T) := fun _ => some []
def aCons (x : Env → Option T) (xs : Env → Option (List T)) : Env → Option (List T) := fun env => match x env with | none => none | some t => match xs env with | none => none | some ts => some (t :: ts)
def aStar (x : Env → Option T) (xs : Env → Option (List T)) : Env → Option (List T) := fun env => match x env with
  | none => none
  | some t => match (match t with | .tup ys => some ys | .lst _ ys => if ys.all T.sh then some ys else none | _ => none), xs env with | some ys, some ts => some (ys ++ ts) | _, _ => none
theorem qa_nil : QA X [] tNil aNil := ⟨pa_nil, fun env ts e H1 H σ F s R Q q => by cases e; exact q [] H1 H F0 (Ext.refl s) .nil⟩
theorem qa_cons (h : QE X e te x) (hr : QA X es tl xs) (hs : starEach (e :: es) X.env = (false, eval e X.env) :: starEach es X.env := by rfl) : QA X (e :: es) (tCons te tl) (aCons x xs) := ⟨pa_cons h.pe hr.pa hs, fun env ts e H1 H σ F s R Q q => by
  unfold aCons at e
  cases e1 : x env with
  | none => rw [e1] at e; cases e
  | some u =>
    cases e2 : xs env with
    | none => rw [e1, e2] at e; cases e
    | some us =>
      rw [e1, e2] at e
      cases e
      refine h.qr _ _ e1 _ _ _ _ s R _ fun v Ha Hb Ft x1 r1 => hr.qr _ _ e2 _ _ _ _ x1.sub ((x1.less (F'' := F0) fun _ z => z.elim).qRepE R) _ fun vs Hc Hd Fu x2 r2 => ?_
      obtain ⟨r3, d⟩ := x2.rep r1 fun _ _ z => z
      exact q (v :: vs) Hc Hd (fun b => Ft b ∨ Fu b) (x1.both x2) (.cons r3 r2 d)⟩

/-! ### displays -/
theorem T.fzs_sh : ∀ {ts : List T}, ts.all T.sh = true → T.fzs ts = ts
  | [], _ => by simp [T.fzs]
  | t :: r, h => by
    rw [List.all_cons, Bool.and_eq_true] at h
    simp only [T.fzs]
    rw [T.fz_sh h.1, T.fzs_sh h.2]
def qLst (xs : Env → Option (List T)) : Env → Option T := fun env => match xs env with | none => none | some ts => if ts.length ≤ maxLen then some (.lst true ts) else none
def qTup (xs : Env → Option (List T)) : Env → Option T := fun env => match xs env with | none => none | some ts => if ts.length ≤ maxLen then some (.tup (T.fzs ts)) else none
theorem qe_lst (h : QA X es tl xs) : QE X (.List es pos) (tLst tl) (qLst xs) := ⟨pe_lst h.pa, fun env t e H1 H σ F s R Q q => by
  unfold qLst at e
  cases e1 : xs env with
  | none => rw [e1] at e; cases e
  | some us =>
    rw [e1] at e
    simp only at e
    split at e
    · rename_i hz
      cases e
      exact h.qr _ _ e1 _ _ _ _ s R _ fun vs Ha Hb Ft x1 r1 => ⟨by rw [r1.len, maxLen_eq]; exact hz, newLst x1.sub r1 fun v Hc Hd Fu x2 r2 => q v Hc Hd Fu (x1.trans x2) r2⟩
    · cases e⟩
theorem qe_tup {k} (h : QA X es tl xs) : QE X (.Tuple es k pos) (tTup tl) (qTup xs) := ⟨pe_tup h.pa, fun env t e H1 H σ F s R Q q => by
  unfold qTup at e
  cases e1 : xs env with
  | none => rw [e1] at e; cases e
  | some us =>
    rw [e1] at e
    simp only at e
    split at e
    · rename_i hz
      cases e
      refine h.qr _ _ e1 _ _ _ _ s R _ fun vs Ha Hb Ft x1 r1 => ⟨by rw [r1.len, maxLen_eq]; exact hz, ?_⟩
      have x2 : Ext Ha Hb Ft (join Ha Hb Ft) Hb F0 := Ext.freeze x1.sub (fun b z => (r1.own b z).1) (fun _ _ z => z) (fun _ z => z) fun _ z => z.elim
      have f2 : Fzs X.K X.mg (join Ha Hb Ft) vs (T.fzs us) := Reps.freeze x2.s1 r1 fun b z => join_in z
      exact newFz x2.sub (fun p e => .tup (.inl (.inl upd_same)) (f2.mono e)) fun v Hc Hd Fu x3 r3 => q v Hc Hd Fu ((x1.trans x2).trans x3) r3
    · cases e⟩
def qDic0 : Env → Option T := fun _ => some (.dic true [])
theorem qe_dic0 : QE X (.Dict [] [] pos) tDNewK qDic0 := ⟨pe_dnewK, fun env t e H1 H σ F s R Q q => by cases e; exact newDic s q⟩

/-! ### items -/
def ixT (xs : List T) (i : Int) : Option T := match atI xs i with | some t => if t.sh then some t else none | none => none
theorem atI_len {α β : Type} {xs : List α} {ys : List β} (h : xs.length = ys.length) {i : Int} {y : β} (e : atI ys i = some y) : ∃ (j : Nat) (x : α), xs[j]? = some x ∧ ys[j]? = some y ∧ atI xs i = some x := by
  obtain ⟨j, h1, h2, h3, _⟩ := atI_get e
  have hj : j < xs.length := by rw [h]; exact h3
  refine ⟨j, xs[j], List.getElem?_eq_getElem hj, h2, ?_⟩
  unfold atI at e ⊢
  rw [h]
  cases hk : ixN ys.length i with
  | none => rw [hk] at e; cases e
  | some k =>
    rw [hk] at e
    obtain ⟨h5, _⟩ := ixN_seq hk
    rw [h1] at h5
    cases h5
    exact List.getElem?_eq_getElem hj
def fIx : T → T → Option T
  | .tup xs, .int i => ixT xs i
  | .lst _ xs, .int i => ixT xs i
  | .scr xs, .int i => ixT xs i
  | .str s, .int i => if s.length ≤ maxLen then (atI s i).map fun c => .str [c] else none
  | _, _ => none
def fItem (x y : T) : Option T := match x with
  | .dic _ kvs => match y.key with | none => none | some k => match tget kvs k with | some t => if t.sh then some t else none | none => none
  | x => fIx x y
section
variable {K : PySem.W.Frag} {mg : Str → Option Value}
theorem ov_ix : OpV K mg (rIx K) fIx := fun H1 H vx vy tx ty Gx Gy t s a b e Q q => by
  have seq : ∀ {xs : List T} {vs : List V} {G : FP} {i : Int}, Reps K mg H1 H vs xs G → ixT xs i = some t → ∃ v, atI vs i = some v ∧ Q v H := fun {xs vs G i} r e => by
    unfold ixT at e
    split at e
    · rename_i u hu
      split at e
      · rename_i hs
        cases e
        obtain ⟨j, v, h1, h2, h3⟩ := atI_len r.len hu
        obtain ⟨v', G', h4, h5, _⟩ := r.get h2
        rw [h1] at h4; cases h4
        exact ⟨v, h3, now s (h5.fzOf hs) q⟩
      · cases e
    · cases e
  unfold fIx at e
  split at e
  · obtain ⟨p, vs, h1, h2, h3⟩ := a.tuple s
    obtain ⟨F, r, _⟩ := h3.reps (H := H)
    obtain ⟨v, h4, h5⟩ := seq r e
    exact .inr (.inl ⟨p, vs, _, v, h1, b.intE, h2, h4, h5⟩)
  · obtain ⟨p, vs, G, h1, h2, h3⟩ := a.lst' s
    obtain ⟨v, h4, h5⟩ := seq h3 e
    exact .inl ⟨p, vs, _, v, h1, b.intE, .inl (.inl h2), h4, h5⟩
  · obtain ⟨p, vs, G, h1, h2, h3⟩ := a.list s rfl
    obtain ⟨v, h4, h5⟩ := seq h3 e
    exact .inl ⟨p, vs, _, v, h1, b.intE, h2, h4, h5⟩
  · split at e
    · rename_i hz
      rw [Option.map_eq_some_iff] at e
      obtain ⟨c, e, rfl⟩ := e
      refine .inr (.inr ⟨_, _, c, a.strE, b.intE, by rw [S_length, maxLen_eq]; exact hz, by rw [S_toList]; exact e, ?_⟩)
      exact now s (.str [c]) q
    · cases e
  · cases e
theorem qr_item {K : PySem.W.Frag} {mg : Str → Option Value} (ha : KR K mg ta xa) (hb : KR K mg tb xb) : QR K mg (teOr (tOp (rIx K) ta tb) (tDGet ta tb)) (qOp fItem xa xb) := fun env t e H1 H σ F s R Q q => by
  obtain ⟨u, w, e1, e2, e3⟩ := qop_some e
  clear e
  unfold fItem at e3
  split at e3
  · rename_i o kvs
    split at e3
    · cases e3
    · rename_i kk ek
      split at e3
      · rename_i t' ht
        split at e3
        · rename_i hs
          cases e3
          refine .inr (two ha hb e1 e2 s R _ fun v1 v2 Hc Hd G1 G2 s' x' r1 r2 => ?_)
          obtain ⟨p, vs, G, h1, h2, h3⟩ := r1.dict s'
          rcases h3.get (k := kk) with ⟨x, y⟩ | ⟨t2, v, G, x, y, z, _⟩
          · rw [ht] at x; cases x
          · rw [ht] at x; cases x
            exact ⟨p, v, h1, by rw [r2.keyE ek, ← y]; exact DGet.k h2, q v Hc Hd F0 x' (.sh (z.fzOf hs))⟩
        · cases e3
      · cases e3
  · exact .inl (qr_op ha hb ov_ix env _ (by unfold qOp; rw [e1, e2]; exact e3) H1 H σ F s R Q q)
end
theorem qe_item (hu : X.A.units + 1 < cLine) (ha : KE X a ta xa) (hb : KE X b tb xb) (hs : PlainIx b := by exact fun _ _ => rfl) : QE X (.Subscript a b pos) (teOr (tOp (rIx X.K) ta tb) (tDGet ta tb)) (qOp fItem xa xb) :=
  ⟨PE.or (pe_ix ix_seq ha.pe hb.pe hs) (pe_dget hu ha.pe hb.pe hs), qr_item ha.kr hb.kr⟩
/-- an item to be used at once (it may be owned) -/
def fPeek : T → T → Option T
  | .lst _ xs, .int i => atI xs i
  | .dic _ kvs, y => match y.key with | none => none | some k => tget kvs k
  | _, _ => none
theorem kr_item {K : PySem.W.Frag} {mg : Str → Option Value} (ha : KR K mg ta xa) (hb : KR K mg tb xb) : KR K mg (teOr (tOp (rIx K) ta tb) (tDGet ta tb)) (qOp fPeek xa xb) := fun env t e H1 H σ F s R Q q => by
  obtain ⟨u, w, e1, e2, e3⟩ := qop_some e
  clear e
  unfold fPeek at e3
  split at e3
  · refine .inl (two ha hb e1 e2 s R _ fun v1 v2 Hc Hd G1 G2 s' x' r1 r2 => ?_)
    obtain ⟨p, vs, G, h1, h2, h3⟩ := r1.lst' s'
    obtain ⟨j, v, h4, h5, h6⟩ := atI_len h3.len e3
    obtain ⟨v', G', h7, h8, _⟩ := h3.get h5
    rw [h4] at h7; cases h7
    exact .inl ⟨p, vs, _, v, h1, r2.intE, .inl (.inl h2), h6, q v Hc Hd G' x' h8⟩
  · split at e3
    · cases e3
    · rename_i kk ek
      refine .inr (two ha hb e1 e2 s R _ fun v1 v2 Hc Hd G1 G2 s' x' r1 r2 => ?_)
      obtain ⟨p, vs, G, h1, h2, h3⟩ := r1.dict s'
      rcases h3.get (k := kk) with ⟨x, y⟩ | ⟨t2, v, G, x, y, z, _⟩
      · rw [e3] at x; cases x
      · rw [e3] at x; cases x
        exact ⟨p, v, h1, by rw [r2.keyE ek, ← y]; exact DGet.k h2, q v Hc Hd G x' z⟩
  · cases e3
def fPeekU (x y : T) : Option T := match fPeek x y with | some t => some t | none => fItem x y
theorem kr_itemU {K : PySem.W.Frag} {mg : Str → Option Value} (ha : KR K mg ta xa) (hb : KR K mg tb xb) : KR K mg (teOr (tOp (rIx K) ta tb) (tDGet ta tb)) (qOp fPeekU xa xb) := fun env t e => by
  obtain ⟨u, w, e1, e2, e3⟩ := qop_some e
  unfold fPeekU at e3
  split at e3
  · rename_i e4
    cases e3
    exact kr_item ha hb env t (by unfold qOp; rw [e1, e2]; exact e4)
  · exact (qr_item ha hb).k env t (by unfold qOp; rw [e1, e2]; exact e3)
theorem ke_item (hu : X.A.units + 1 < cLine) (ha : KE X a ta xa) (hb : KE X b tb xb) (hs : PlainIx b := by exact fun _ _ => rfl) : KE X (.Subscript a b pos) (teOr (tOp (rIx X.K) ta tb) (tDGet ta tb)) (qOp fPeekU xa xb) :=
  ⟨PE.or (pe_ix ix_seq ha.pe hb.pe hs) (pe_dget hu ha.pe hb.pe hs), kr_itemU ha.kr hb.kr⟩

/-! ### slices -/
def cutL {α : Type} (xs : List α) (lo hi : Option Int) : List α := (xs.drop (HT.sIx xs.length 0 lo)).take (HT.sIx xs.length xs.length hi - HT.sIx xs.length 0 lo)
structure PartE (X : Cx) (e : Option Expr) (t : TO) (x : Env → Option (Option Int)) : Prop where
  po : PO X e t
  tr : ∀ env o, x env = some o → ∀ H1 H σ F, Same H1 H → RepE X.K X.mg H1 H σ env F → ∀ Q : Option Int → Hp → Prop, (∀ H1' H', Ext H1 H F0 H1' H' F0 → Q o H') → t σ H Q
def pNo : Env → Option (Option Int) := fun _ => some none
def pSome (x : Env → Option T) : Env → Option (Option Int) := fun env => match x env with | some (.int i) => some (some i) | _ => none
theorem part_no : PartE X none tNoPart pNo := ⟨po_none, fun env o e H1 H σ F s R Q q => by cases e; exact q H1 H (Ext.refl s)⟩
theorem part_some (h : KE X e te x) : PartE X (some e) (tPart te) (pSome x) := ⟨po_some h.pe, fun env o e H1 H σ F s R Q q => by
  unfold pSome at e
  split at e
  · rename_i i e1
    cases e
    exact h.kr _ _ e1 _ _ _ _ s R _ fun v Ha Hb G x1 r1 => ⟨i, r1.intE, q Ha Hb x1⟩
  · cases e⟩
def fSl (t : T) (lo hi : Option Int) : Option T := match t with
  | .str s => if s.length ≤ maxLen then some (.str (cutL s lo hi)) else none
  | .tup xs => some (.tup (cutL xs lo hi))
  | .lst _ xs => if xs.all T.sh then some (.lst true (cutL xs lo hi)) else none
  | .scr xs => if xs.all T.sh then some (.lst true (cutL xs lo hi)) else none
  | _ => none
def qSl (xa : Env → Option T) (l h : Env → Option (Option Int)) : Env → Option T := fun env => match xa env with | none => none | some t => match l env with | none => none | some lo => match h env with | none => none | some hi => fSl t lo hi
def rSlU (K : PySem.W.Frag) : V → Option Int → Option Int → Hp → VK → Prop := fun x lo hi H Q => rSlS x lo hi H Q ∨ (rSlA K x lo hi H Q ∨ rSlL K x lo hi H Q)
theorem cutL_sub {α : Type} {xs : List α} {lo hi : Option Int} {p : α → Bool} (h : xs.all p = true) : (cutL xs lo hi).all p = true := by
  rw [List.all_eq_true] at h ⊢
  intro y hy
  exact h y (List.mem_of_mem_drop (List.mem_of_mem_take hy))
section
variable {K : PySem.W.Frag} {mg : Str → Option Value}
theorem Fzs.drop : ∀ {vs : List V} {ts : List T} {H : Hp} (n : Nat), Fzs K mg H vs ts → Fzs K mg H (vs.drop n) (ts.drop n)
  | _, _, _, 0, h => h
  | _, _, _, _ + 1, .nil => .nil
  | _, _, _, n + 1, .cons _ r => Fzs.drop n r
theorem Fzs.take : ∀ {vs : List V} {ts : List T} {H : Hp} (n : Nat), Fzs K mg H vs ts → Fzs K mg H (vs.take n) (ts.take n)
  | _, _, _, 0, _ => .nil
  | _, _, _, _ + 1, .nil => .nil
  | _, _, _, n + 1, .cons a r => .cons a (Fzs.take n r)
theorem Fzs.cut {vs : List V} {ts : List T} {H : Hp} {lo hi : Option Int} (h : Fzs K mg H vs ts) : Fzs K mg H (cutV vs lo hi) (cutL ts lo hi) := by
  unfold cutV cutL
  rw [h.len]
  exact (h.drop _).take _
theorem cut_whole {α : Type} {xs : List α} {lo hi : Option Int} (h : HT.sIx xs.length 0 lo = 0 ∧ HT.sIx xs.length xs.length hi = xs.length) : cutL xs lo hi = xs := by
  unfold cutL
  rw [h.1, h.2]
  simp
theorem sl_road {H1 H : Hp} {v : V} {t u : T} {G : FP} {lo hi : Option Int} (s : Same H1 H) (a : Rep K mg H1 H v t G) (e : fSl t lo hi = some u) {Q : VK}
    (q : ∀ v H1' H' Ft, Ext H1 H F0 H1' H' Ft → Rep K mg H1' H' v u Ft → Q v H') : rSlU K v lo hi H Q := by
  have lst : ∀ {p : Addr} {vs : List V} {ts : List T} {G : FP}, v = .ref p → SqL K H p vs → Reps K mg H1 H vs ts G → (if ts.all T.sh then some (T.lst true (cutL ts lo hi)) else none) = some u → rSlU K v lo hi H Q := fun {p vs ts G} h1 h2 h3 e => by
    split at e
    · rename_i hs
      cases e
      obtain ⟨F, r, n⟩ := (Fzs.cut (lo := lo) (hi := hi) (h3.fzs hs)).reps (H := H)
      exact .inr (.inr ⟨p, vs, h1, h2, newLst s r fun v H1' H' Ft x => q v H1' H' Ft (x.base n)⟩)
    · cases e
  unfold fSl at e
  split at e
  · split at e
    · rename_i hz
      cases e
      refine .inl ⟨_, a.strE, by rw [S_length, maxLen_eq]; exact hz, ?_⟩
      unfold cutS
      rw [S_length, S_toList]
      exact now s (.str _) q
    · cases e
  · cases e
    obtain ⟨p, vs, h1, h2, h3⟩ := a.tuple s
    have f := a.fzOf rfl
    refine .inr (.inl ⟨p, vs, h1, h2, fun h => ?_, fun _ => ?_⟩)
    · rw [h3.len] at h
      have e := cut_whole h
      rw [e] at q
      rw [← h1]
      exact now s f q
    · exact newFz s (fun p e => .tup (.inl (.inl upd_same)) (h3.cut.mono e)) q
  · obtain ⟨p, vs, G, h1, h2, h3⟩ := a.lst' s
    exact lst h1 (.inl (.inl h2)) h3 e
  · obtain ⟨p, vs, G, h1, h2, h3⟩ := a.list s rfl
    exact lst h1 h2 h3 e
  · cases e
end
theorem qe_slice {lo hi : Option Expr} {tlo thi : TO} {l h : Env → Option (Option Int)} {p2} (ha : KE X a ta xa) (hl : PartE X lo tlo l) (hh : PartE X hi thi h) : QE X (.Subscript a (.Slice lo hi none p2) pos) (L2.tSl (rSlU X.K) ta tlo thi) (qSl xa l h) :=
  ⟨pe_slice (sl_str.or (sl_tupA.or sl_list)) ha.pe hl.po hh.po, fun env t e H1 H σ F s R Q q => by
    unfold qSl at e
    cases e1 : xa env with
    | none => rw [e1] at e; cases e
    | some u =>
      cases e2 : l env with
      | none => rw [e1, e2] at e; cases e
      | some lo' =>
        cases e3 : h env with
        | none => rw [e1, e2, e3] at e; cases e
        | some hi' =>
          rw [e1, e2, e3] at e
          exact ha.kr _ _ e1 _ _ _ _ s R _ fun v Ha Hb G x1 r1 => hl.tr _ _ e2 _ _ _ _ x1.sub (x1.qRepE R) _ fun Hc Hd x2 => hh.tr _ _ e3 _ _ _ _ x2.sub (x2.qRepE (x1.qRepE R)) _ fun He Hf x3 =>
            sl_road x3.sub (x3.qRep (x2.qRep r1)) e fun v H1' H' Ft x4 r4 => q v H1' H' Ft (((x1.trans x2).trans x3).trans x4) r4⟩
end
end GK

/-! GK7: built-in functions, methods of texts. -/
namespace GK
open PySem L2

/-! ### sorting -/
def ins {α : Type} (le : α → α → Bool) (x : α) : List α → List α
  | [] => [x]
  | y :: r => if le x y then x :: y :: r else y :: ins le x r
def isort {α : Type} (le : α → α → Bool) : List α → List α
  | [] => []
  | x :: r => ins le x (isort le r)
theorem ins_perm {α : Type} {le : α → α → Bool} (x : α) : ∀ l : List α, (ins le x l).Perm (x :: l)
  | [] => List.Perm.refl _
  | y :: r => by
    unfold ins
    split
    · exact List.Perm.refl _
    · exact ((ins_perm x r).cons y).trans (List.Perm.swap x y r)
theorem isort_perm {α : Type} {le : α → α → Bool} : ∀ l : List α, (isort le l).Perm l
  | [] => List.Perm.refl _
  | x :: r => (ins_perm x _).trans ((isort_perm r).cons x)
theorem ins_sorted {α : Type} {le : α → α → Bool} (ht : ∀ a b c, le a b = true → le b c = true → le a c = true) (hc : ∀ a b, le a b = true ∨ le b a = true) (x : α) : ∀ l : List α, l.Pairwise (fun a b => le a b = true) → (ins le x l).Pairwise (fun a b => le a b = true)
  | [], _ => by simp [ins]
  | y :: r, h => by
    rw [List.pairwise_cons] at h
    unfold ins
    split
    · rename_i hxy
      rw [List.pairwise_cons, List.pairwise_cons]
      refine ⟨fun z hz => ?_, h⟩
      rcases List.mem_cons.mp hz with rfl | hz
      · exact hxy
      · exact ht _ _ _ hxy (h.1 z hz)
    · rename_i hxy
      rw [List.pairwise_cons]
      refine ⟨fun z hz => ?_, ins_sorted ht hc x r h.2⟩
      rcases List.mem_cons.mp ((ins_perm x r).mem_iff.mp hz) with rfl | hz
      · exact (hc z y).resolve_left hxy
      · exact h.1 z hz
theorem isort_sorted {α : Type} {le : α → α → Bool} (ht : ∀ a b c, le a b = true → le b c = true → le a c = true) (hc : ∀ a b, le a b = true ∨ le b a = true) : ∀ l : List α, (isort le l).Pairwise (fun a b => le a b = true)
  | [] => List.Pairwise.nil
  | x :: r => ins_sorted ht hc x _ (isort_sorted ht hc r)
def leI (a b : Int) : Bool := decide (a ≤ b)
def leS (a b : List Nat) : Bool := !decide (b < a)
theorem isortI_eq {ns ms : List Int} (p : ms.Perm ns) (h : ms.Pairwise (· ≤ ·)) : ms = isort leI ns :=
  List.Perm.eq_of_pairwise (le := fun a b : Int => a ≤ b) (fun a b _ _ h1 h2 => Int.le_antisymm h1 h2) h
    ((isort_sorted (le := leI) (fun a b c h1 h2 => decide_eq_true (Int.le_trans (of_decide_eq_true h1) (of_decide_eq_true h2))) (fun a b => (Int.le_total a b).imp (fun h => decide_eq_true h) fun h => decide_eq_true h) ns).imp fun h => of_decide_eq_true h) (p.trans (isort_perm ns).symm)
theorem leS_iff {a b : List Nat} : leS a b = true ↔ a ≤ b := by
  unfold leS
  rw [Bool.not_eq_true', decide_eq_false_iff_not]
  exact List.not_lt
def imax : Int → List Int → Int
  | m, [] => m
  | m, x :: r => imax (if m < x then x else m) r
def imin : Int → List Int → Int
  | m, [] => m
  | m, x :: r => imin (if x < m then x else m) r
theorem imax_ge : ∀ (r : List Int) (m : Int), m ≤ imax m r ∧ ∀ y ∈ r, y ≤ imax m r
  | [], m => ⟨Int.le_refl _, fun _ h => nomatch h⟩
  | x :: r, m => by
    obtain ⟨h1, h2⟩ := imax_ge r (if m < x then x else m)
    unfold imax
    have : m ≤ (if m < x then x else m) ∧ x ≤ (if m < x then x else m) := by split <;> omega
    refine ⟨Int.le_trans this.1 h1, fun y hy => ?_⟩
    rcases List.mem_cons.mp hy with rfl | hy
    · exact Int.le_trans this.2 h1
    · exact h2 y hy
theorem imax_mem : ∀ (r : List Int) (m : Int), imax m r ∈ m :: r
  | [], m => by simp [imax]
  | x :: r, m => by
    have := imax_mem r (if m < x then x else m)
    unfold imax
    rcases List.mem_cons.mp this with h | h
    · rw [h]; split <;> simp
    · exact List.mem_cons_of_mem _ (List.mem_cons_of_mem _ h)
theorem imin_le : ∀ (r : List Int) (m : Int), imin m r ≤ m ∧ ∀ y ∈ r, imin m r ≤ y
  | [], m => ⟨Int.le_refl _, fun _ h => nomatch h⟩
  | x :: r, m => by
    obtain ⟨h1, h2⟩ := imin_le r (if x < m then x else m)
    unfold imin
    have : (if x < m then x else m) ≤ m ∧ (if x < m then x else m) ≤ x := by split <;> omega
    refine ⟨Int.le_trans h1 this.1, fun y hy => ?_⟩
    rcases List.mem_cons.mp hy with rfl | hy
    · exact Int.le_trans h1 this.2
    · exact h2 y hy
theorem imin_mem : ∀ (r : List Int) (m : Int), imin m r ∈ m :: r
  | [], m => by simp [imin]
  | x :: r, m => by
    have := imin_mem r (if x < m then x else m)
    unfold imin
    rcases List.mem_cons.mp this with h | h
    · rw [h]; split <;> simp
    · exact List.mem_cons_of_mem _ (List.mem_cons_of_mem _ h)

/-! ### arguments to be used at once -/
section
variable (K : PySem.W.Frag) (mg : Str → Option Value)
inductive RepL (H1 H : Hp) : List V → List T → Prop
  | nil : RepL H1 H [] []
  | cons {v : V} {t : T} {vs : List V} {ts : List T} {G : FP} : Rep K mg H1 H v t G → RepL H1 H vs ts → RepL H1 H (v :: vs) (t :: ts)
def KRA (ta : TA) (x : Env → Option (List T)) : Prop := ∀ env ts, x env = some ts → ∀ H1 H σ F, Same H1 H → RepE K mg H1 H σ env F → ∀ Q : List V → Hp → Prop,
  (∀ vs H1' H', Ext H1 H F0 H1' H' F0 → RepL K mg H1' H' vs ts → Q vs H') → ta σ H Q
def CallP (r : List V → Hp → VK → Prop) (f : List T → Option T) : Prop := ∀ H1 H vs ts t, Same H1 H → RepL K mg H1 H vs ts → f ts = some t → ∀ Q : VK,
  (∀ v H1' H' Ft, Ext H1 H F0 H1' H' Ft → Rep K mg H1' H' v t Ft → Q v H') → r vs H Q
end
structure KA (X : Cx) (es : List Expr) (ta : TA) (x : Env → Option (List T)) : Prop where
  pa : PA X es ta
  kr : KRA X.K X.mg ta x
section
variable {X : Cx} {a b e : Expr} {es : List Expr} {te ta tb : TE} {tl : TA} {x xa xb : Env → Option T} {xs : Env → Option (List T)} {pos p : Pos}
theorem ka_nil : KA X [] tNil aNil := ⟨pa_nil, fun env ts e H1 H σ F s R Q q => by cases e; exact q [] H1 H (Ext.refl s) .nil⟩
theorem ka_cons (h : KE X e te x) (hr : KA X es tl xs) (hs : starEach (e :: es) X.env = (false, eval e X.env) :: starEach es X.env := by rfl) : KA X (e :: es) (tCons te tl) (aCons x xs) := ⟨pa_cons h.pe hr.pa hs, fun env ts e H1 H σ F s R Q q => by
  unfold aCons at e
  cases e1 : x env with
  | none => rw [e1] at e; cases e
  | some u =>
    cases e2 : xs env with
    | none => rw [e1, e2] at e; cases e
    | some us =>
      rw [e1, e2] at e
      cases e
      exact h.kr _ _ e1 _ _ _ _ s R _ fun v Ha Hb G x1 r1 => hr.kr _ _ e2 _ _ _ _ x1.sub (x1.qRepE R) _ fun vs Hc Hd x2 r2 => q (v :: vs) Hc Hd (x1.trans x2) (.cons (x2.qRep r1) r2)⟩
def qCallB (f : List T → Option T) (xs : Env → Option (List T)) : Env → Option T := fun env => match xs env with | none => none | some ts => f ts
theorem qr_callB {K : PySem.W.Frag} {mg : Str → Option Value} {r : List V → Hp → VK → Prop} {f : List T → Option T} (ha : KRA K mg tl xs) (hv : CallP K mg r f) : QR K mg (tCB r tl) (qCallB f xs) := fun env t e H1 H σ F s R Q q => by
  unfold qCallB at e
  cases e1 : xs env with
  | none => rw [e1] at e; cases e
  | some u =>
    rw [e1] at e
    exact ha _ _ e1 _ _ _ _ s R _ fun vs Ha Hb x1 r1 => hv _ _ _ _ _ x1.sub r1 e Q fun v H1' H' Ft x2 r2 => q v H1' H' Ft (x1.trans x2) r2
theorem qe_blt {y : Str} {id : String} {r : List V → Hp → VK → Prop} {f : List T → Option T} (hc : CallR X (.builtin id) r) (hv : CallP X.K X.mg r f) (hm : X.mg y = none) (hb : bootBuiltins y = some (.builtin id)) (ha : KA X (e :: es) tl xs)
    (hg : Gl X y := by rfl) (hn : y ≠ "__name__" := by decide) (hd : (y == ("__debug__" : Str)) = false := by decide) (hs : starEach (e :: es) X.env = (false, eval e X.env) :: starEach es X.env := by rfl) (hp : (backTo pos (starEach es X.env)).any (·.1) = false := by rfl) :
    QE X (.Call (.Name y p) (e :: es) [] pos) (tCB r tl) (qCallB f xs) := ⟨pe_callB hc hg hm hb ha.pa hn hd hs hp, qr_callB ha.kr hv⟩
theorem qe_bty {y : Str} {id : String} {r : List V → Hp → VK → Prop} {f : List T → Option T} (hc : CallR X (.type id) r) (hv : CallP X.K X.mg r f) (hm : X.mg y = none) (hb : bootBuiltins y = some (.type id)) (ha : KA X (e :: es) tl xs)
    (hg : Gl X y := by rfl) (hn : y ≠ "__name__" := by decide) (hd : (y == ("__debug__" : Str)) = false := by decide) (hs : starEach (e :: es) X.env = (false, eval e X.env) :: starEach es X.env := by rfl) (hp : (backTo pos (starEach es X.env)).any (·.1) = false := by rfl) :
    QE X (.Call (.Name y p) (e :: es) [] pos) (tCB r tl) (qCallB f xs) := ⟨pe_callTy hc hg hm hb ha.pa hn hd hs hp, qr_callB ha.kr hv⟩
end

section
variable {K : PySem.W.Frag} {mg : Str → Option Value} {H1 H : Hp}
theorem RepL.one {vs : List V} {t : T} (h : RepL K mg H1 H vs [t]) : ∃ v G, vs = [v] ∧ Rep K mg H1 H v t G := by
  cases h with | cons a b => cases b; exact ⟨_, _, rfl, a⟩
theorem RepL.two {vs : List V} {t u : T} (h : RepL K mg H1 H vs [t, u]) : ∃ v w G G', vs = [v, w] ∧ Rep K mg H1 H v t G ∧ Rep K mg H1 H w u G' := by
  cases h with | cons a b => cases b with | cons b c => cases c; exact ⟨_, _, _, _, rfl, a, b⟩
/-- lists of ints, of bools, of texts -/
def T.ints : List T → Option (List Int)
  | [] => some []
  | .int i :: r => (T.ints r).map (i :: ·)
  | _ :: _ => none
def T.bls : List T → Option (List Bool)
  | [] => some []
  | .bl i :: r => (T.bls r).map (i :: ·)
  | _ :: _ => none
def T.strs : List T → Option (List (List Nat))
  | [] => some []
  | .str i :: r => (T.strs r).map (i :: ·)
  | _ :: _ => none
theorem Reps.ints : ∀ {vs : List V} {ts : List T} {F : FP} {ns : List Int}, Reps K mg H1 H vs ts F → T.ints ts = some ns → vs = ns.map V.int
  | _, _, _, _, .nil, h => by cases h; rfl
  | _, _, _, _, .cons (t := t) a r _, h => by
    cases t <;> simp only [T.ints, Option.map_eq_some_iff, reduceCtorEq] at h
    obtain ⟨ns, e, rfl⟩ := h
    rw [a.intE, Reps.ints r e]; rfl
theorem Reps.bls : ∀ {vs : List V} {ts : List T} {F : FP} {ns : List Bool}, Reps K mg H1 H vs ts F → T.bls ts = some ns → vs = ns.map V.bl
  | _, _, _, _, .nil, h => by cases h; rfl
  | _, _, _, _, .cons (t := t) a r _, h => by
    cases t <;> simp only [T.bls, Option.map_eq_some_iff, reduceCtorEq] at h
    obtain ⟨ns, e, rfl⟩ := h
    rw [a.blE, Reps.bls r e]; rfl
theorem Reps.strs : ∀ {vs : List V} {ts : List T} {F : FP} {ns : List (List Nat)}, Reps K mg H1 H vs ts F → T.strs ts = some ns → vs = ns.map fun s => V.str (S s)
  | _, _, _, _, .nil, h => by cases h; rfl
  | _, _, _, _, .cons (t := t) a r _, h => by
    cases t <;> simp only [T.strs, Option.map_eq_some_iff, reduceCtorEq] at h
    obtain ⟨ns, e, rfl⟩ := h
    rw [a.strE, Reps.strs r e]; rfl
theorem intsT {xs : List T} {vs : List V} {F : FP} {ns : List Int} (h : Reps K mg H1 H vs xs F) (e : T.ints xs = some ns) : vs = ns.map V.int := h.ints e
theorem fz_ints : ∀ (ns : List Int) (H : Hp), Fzs K mg H (ns.map V.int) (ns.map T.int)
  | [], _ => .nil
  | n :: r, H => .cons (.int n) (fz_ints r H)
theorem fz_strs : ∀ (ns : List (List Nat)) (H : Hp), Fzs K mg H (ns.map fun s => V.str (S s)) (ns.map T.str)
  | [], _ => .nil
  | n :: r, H => .cons (.str n) (fz_strs r H)
/-- a new list of frozen items -/
theorem newL {vs : List V} {ts : List T} {Q : VK} (s : Same H1 H) (f : Fzs K mg H1 vs ts) (q : ∀ v H1' H' Ft, Ext H1 H F0 H1' H' Ft → Rep K mg H1' H' v (.lst true ts) Ft → Q v H') : ∀ p, H p = none → Q (.ref p) (upd H p (.lst vs)) := by
  obtain ⟨F, r, n⟩ := f.reps (H := H)
  exact newLst s r fun v H1' H' Ft x => q v H1' H' Ft (x.base n)

/-! ### the functions -/
def fLen : List T → Option T
  | [.str s] => if s.length ≤ maxLen then some (.int s.length) else none
  | [.tup xs] => some (.int xs.length)
  | [.lst _ xs] => some (.int xs.length)
  | [.scr xs] => some (.int xs.length)
  | [.dic _ kvs] => some (.int kvs.length)
  | _ => none
def rLenU (K : PySem.W.Frag) : List V → Hp → VK → Prop := fun xs H Q => (∃ x n, xs = [x] ∧ LenV K x H n ∧ Q (.int n) H) ∨ ∃ a kvs, xs = [V.ref a] ∧ H a = some (.dK kvs) ∧ Q (.int kvs.length) H
theorem RepA.len : ∀ {vs : List (Key × V)} {ts : List (Key × T)} {F : FP}, RepA K mg H1 H vs ts F → vs.length = ts.length
  | _, _, _, .nil => rfl
  | _, _, _, .cons _ r _ => by rw [List.length_cons, List.length_cons, RepA.len r]
theorem cp_len : CallP K mg (rLenU K) fLen := fun H1 H vs ts t s a e Q q => by
  unfold fLen at e
  split at e
  · obtain ⟨v, G, rfl, r⟩ := a.one
    split at e
    · rename_i hz; cases e
      refine .inl ⟨v, _, rfl, ?_, now s (.int _) q⟩
      rw [r.strE]; exact ⟨by rw [S_length, maxLen_eq]; exact hz, (S_length _).symm⟩
    · cases e
  · cases e
    obtain ⟨v, G, rfl, r⟩ := a.one
    obtain ⟨p, vs, rfl, h2, h3⟩ := r.tuple s
    exact .inl ⟨_, _, rfl, .inr ⟨vs, h2, h3.len.symm⟩, now s (.int _) q⟩
  · cases e
    obtain ⟨v, G, rfl, r⟩ := a.one
    obtain ⟨p, vs, G, rfl, h2, h3⟩ := r.lst' s
    exact .inl ⟨_, _, rfl, .inl ⟨vs, .inl (.inl h2), h3.len.symm⟩, now s (.int _) q⟩
  · cases e
    obtain ⟨v, G, rfl, r⟩ := a.one
    obtain ⟨p, vs, G, rfl, h2, h3⟩ := r.list s rfl
    exact .inl ⟨_, _, rfl, .inl ⟨vs, h2, h3.len.symm⟩, now s (.int _) q⟩
  · cases e
    obtain ⟨v, G, rfl, r⟩ := a.one
    obtain ⟨p, vs, G, rfl, h2, h3⟩ := r.dict s
    refine .inr ⟨p, vs, rfl, h2, ?_⟩
    rw [h3.len]
    exact now s (.int _) q
  · cases e
def fAbs : List T → Option T
  | [.int i] => some (.int (if i < 0 then -i else i))
  | _ => none
theorem cp_abs : CallP K mg (fun xs H Q => ∃ i, xs = [.int i] ∧ Q (.int (if i < 0 then -i else i)) H) fAbs := fun H1 H vs ts t s a e Q q => by
  unfold fAbs at e
  split at e
  · cases e; obtain ⟨v, G, rfl, r⟩ := a.one; exact ⟨_, by rw [r.intE], now s (.int _) q⟩
  · cases e
def fMax : List T → Option T
  | [.int i, .int j] => some (.int (if j > i then j else i))
  | [.lst _ xs] => match T.ints xs with | some (n :: r) => some (.int (imax n r)) | _ => none
  | _ => none
def fMin : List T → Option T
  | [.int i, .int j] => some (.int (if j < i then j else i))
  | [.lst _ xs] => match T.ints xs with | some (n :: r) => some (.int (imin n r)) | _ => none
  | _ => none
def rMaxU (K : PySem.W.Frag) : List V → Hp → VK → Prop := fun xs H Q => (∃ i j, xs = [.int i, .int j] ∧ Q (.int (if j > i then j else i)) H) ∨ rMax K xs H Q
def rMinU (K : PySem.W.Frag) : List V → Hp → VK → Prop := fun xs H Q => (∃ i j, xs = [.int i, .int j] ∧ Q (.int (if j < i then j else i)) H) ∨ rMin K xs H Q
theorem cp_max : CallP K mg (rMaxU K) fMax := fun H1 H vs ts t s a e Q q => by
  unfold fMax at e
  split at e
  · cases e; obtain ⟨v, w, G, G', rfl, r, r'⟩ := a.two; exact .inl ⟨_, _, by rw [r.intE, r'.intE], now s (.int _) q⟩
  · split at e
    · rename_i n r hn
      cases e
      obtain ⟨v, G, rfl, rr⟩ := a.one
      obtain ⟨p, vs, G, rfl, h2, h3⟩ := rr.lst' s
      rw [h3.ints hn] at h2
      refine .inr ⟨p, _, rfl, .inl (.inl h2), by simp, fun m hm hle => ?_⟩
      obtain ⟨g1, g2⟩ := imax_ge r n
      have : m = imax n r := Int.le_antisymm ((List.mem_cons.mp hm).elim (fun e => by rw [e]; exact g1) (g2 m)) (hle _ (imax_mem r n))
      rw [this]
      exact now s (.int _) q
    · cases e
  · cases e
theorem cp_min : CallP K mg (rMinU K) fMin := fun H1 H vs ts t s a e Q q => by
  unfold fMin at e
  split at e
  · cases e; obtain ⟨v, w, G, G', rfl, r, r'⟩ := a.two; exact .inl ⟨_, _, by rw [r.intE, r'.intE], now s (.int _) q⟩
  · split at e
    · rename_i n r hn
      cases e
      obtain ⟨v, G, rfl, rr⟩ := a.one
      obtain ⟨p, vs, G, rfl, h2, h3⟩ := rr.lst' s
      rw [h3.ints hn] at h2
      refine .inr ⟨p, _, rfl, .inl (.inl h2), by simp, fun m hm hle => ?_⟩
      obtain ⟨g1, g2⟩ := imin_le r n
      have : m = imin n r := Int.le_antisymm (hle _ (imin_mem r n)) ((List.mem_cons.mp hm).elim (fun e => by rw [e]; exact g1) (g2 m))
      rw [this]
      exact now s (.int _) q
    · cases e
  · cases e
def fSum : List T → Option T
  | [.lst _ xs] => (T.ints xs).map fun ns => .int ns.sum
  | _ => none
theorem cp_sum : CallP K mg (rSum K) fSum := fun H1 H vs ts t s a e Q q => by
  unfold fSum at e
  split at e
  · rw [Option.map_eq_some_iff] at e
    obtain ⟨ns, hn, rfl⟩ := e
    obtain ⟨v, G, rfl, r⟩ := a.one
    obtain ⟨p, vs, G, rfl, h2, h3⟩ := r.lst' s
    rw [h3.ints hn] at h2
    exact ⟨p, ns, rfl, .inl (.inl h2), now s (.int _) q⟩
  · cases e
def fAll : List T → Option T
  | [.lst _ xs] => (T.bls xs).map fun ns => .bl (ns.all id)
  | _ => none
def fAny : List T → Option T
  | [.lst _ xs] => (T.bls xs).map fun ns => .bl (ns.any id)
  | _ => none
theorem cp_all : CallP K mg (rAll K) fAll := fun H1 H vs ts t s a e Q q => by
  unfold fAll at e
  split at e
  · rw [Option.map_eq_some_iff] at e
    obtain ⟨ns, hn, rfl⟩ := e
    obtain ⟨v, G, rfl, r⟩ := a.one
    obtain ⟨p, vs, G, rfl, h2, h3⟩ := r.lst' s
    rw [h3.bls hn] at h2
    exact ⟨p, ns, rfl, .inl (.inl h2), now s (.bl _) q⟩
  · cases e
theorem cp_any : CallP K mg (rAny K) fAny := fun H1 H vs ts t s a e Q q => by
  unfold fAny at e
  split at e
  · rw [Option.map_eq_some_iff] at e
    obtain ⟨ns, hn, rfl⟩ := e
    obtain ⟨v, G, rfl, r⟩ := a.one
    obtain ⟨p, vs, G, rfl, h2, h3⟩ := r.lst' s
    rw [h3.bls hn] at h2
    exact ⟨p, ns, rfl, .inl (.inl h2), now s (.bl _) q⟩
  · cases e
def fTuple : List T → Option T
  | [.lst _ xs] => if xs.all T.sh then some (.tup xs) else none
  | [.tup xs] => some (.tup xs)
  | _ => none
theorem cp_tuple : CallP K mg (fun xs H Q => ∃ p ys, xs = [.ref p] ∧ ((SqL K H p ys ∧ ∀ l, H l = none → Q (.ref l) (upd H l (.tup ys))) ∨ (SqT K H p ys ∧ Q (.ref p) H))) fTuple := fun H1 H vs ts t s a e Q q => by
  unfold fTuple at e
  split at e
  · split at e
    · rename_i hs
      cases e
      obtain ⟨v, G, rfl, r⟩ := a.one
      obtain ⟨p, vs, G, rfl, h2, h3⟩ := r.lst' s
      exact ⟨p, vs, rfl, .inl ⟨.inl (.inl h2), newFz s (fun p e => .tup (.inl (.inl upd_same)) ((h3.fzs hs).mono e)) q⟩⟩
    · cases e
  · cases e
    obtain ⟨v, G, rfl, r⟩ := a.one
    have f := r.fzOf rfl
    obtain ⟨p, vs, rfl, h2, h3⟩ := r.tuple s
    exact ⟨p, vs, rfl, .inr ⟨h2, now s f q⟩⟩
  · cases e
def fList : List T → Option T
  | [.lst _ xs] => if xs.all T.sh then some (.lst true xs) else none
  | [.scr xs] => if xs.all T.sh then some (.lst true xs) else none
  | [.tup xs] => some (.lst true xs)
  | _ => none
theorem cp_list : CallP K mg (fun xs H Q => ∃ p ys, xs = [.ref p] ∧ (SqL K H p ys ∨ SqT K H p ys) ∧ ∀ l, H l = none → Q (.ref l) (upd H l (.lst ys))) fList := fun H1 H vs ts t s a e Q q => by
  unfold fList at e
  split at e
  · split at e
    · rename_i hs
      cases e
      obtain ⟨v, G, rfl, r⟩ := a.one
      obtain ⟨p, vs, G, rfl, h2, h3⟩ := r.lst' s
      exact ⟨p, vs, rfl, .inl (.inl (.inl h2)), newL s (h3.fzs hs) q⟩
    · cases e
  · split at e
    · rename_i hs
      cases e
      obtain ⟨v, G, rfl, r⟩ := a.one
      obtain ⟨p, vs, G, rfl, h2, h3⟩ := r.list s rfl
      exact ⟨p, vs, rfl, .inl h2, newL s (h3.fzs hs) q⟩
    · cases e
  · cases e
    obtain ⟨v, G, rfl, r⟩ := a.one
    obtain ⟨p, vs, rfl, h2, h3⟩ := r.tuple s
    exact ⟨p, vs, rfl, .inr h2, newL s h3 q⟩
  · cases e
def fDivmod : List T → Option T
  | [.int i, .int j] => if decide (0 < j) && decide (j < 1073741824) then some (.tup [.int (i / j), .int (i % j)]) else none
  | _ => none
theorem cp_divmod : CallP K mg (fun xs H Q => ∃ i j, xs = [.int i, .int j] ∧ CDiv i j ∧ ∀ p, H p = none → Q (.ref p) (upd H p (.tup [.int (i / j), .int (i % j)]))) fDivmod := fun H1 H vs ts t s a e Q q => by
  unfold fDivmod at e
  split at e
  · split at e
    · rename_i hz
      rw [Bool.and_eq_true, decide_eq_true_eq, decide_eq_true_eq] at hz
      cases e
      obtain ⟨v, w, G, G', rfl, r, r'⟩ := a.two
      exact ⟨_, _, by rw [r.intE, r'.intE], hz, newFz s (fun p e => .tup (.inl (.inl upd_same)) (.cons (.int _) (.cons (.int _) .nil))) q⟩
    · cases e
  · cases e
/-- int: of an int, a bool, a text of figures -/
def digits (n : Int) : List Nat → Option Int
  | [] => some n
  | c :: r => if 48 ≤ c && c ≤ 57 then digits (n * 10 + ((c : Int) - 48)) r else none
def fInt : List T → Option T
  | [.int i] => some (.int i)
  | [.bl b] => some (.int (if b then 1 else 0))
  | [.str [c]] => if decide (48 ≤ c) && decide (c ≤ 57) then some (.int ((c : Int) - 48)) else none
  | _ => none
def rIntU : List V → Hp → VK → Prop := fun xs H Q => ((∃ i, xs = [.int i] ∧ Q (.int i) H) ∨ ∃ k, xs = [.bl k] ∧ Q (.int (if k then 1 else 0)) H) ∨ ∃ a n, xs = [.str a] ∧ PySem.intText? a = some n ∧ a.length ≤ 640 ∧ Q (.int n) H
theorem int_sign : ∀ c : Nat, 48 ≤ c → c ≤ 57 → PySem.intText? (S [c]) = some ((c : Int) - 48) := by
  intro c h1 h2
  have : c = 48 ∨ c = 49 ∨ c = 50 ∨ c = 51 ∨ c = 52 ∨ c = 53 ∨ c = 54 ∨ c = 55 ∨ c = 56 ∨ c = 57 := by omega
  rcases this with rfl | rfl | rfl | rfl | rfl | rfl | rfl | rfl | rfl | rfl <;> decide +kernel
theorem cp_int : CallP K mg rIntU fInt := fun H1 H vs ts t s a e Q q => by
  unfold fInt at e
  split at e
  · cases e; obtain ⟨v, G, rfl, r⟩ := a.one; exact .inl (.inl ⟨_, by rw [r.intE], now s (.int _) q⟩)
  · cases e; obtain ⟨v, G, rfl, r⟩ := a.one; exact .inl (.inr ⟨_, by rw [r.blE], now s (.int _) q⟩)
  · split at e
    · rename_i c hz
      rw [Bool.and_eq_true, decide_eq_true_eq, decide_eq_true_eq] at hz
      cases e
      obtain ⟨v, G, rfl, r⟩ := a.one
      exact .inr ⟨_, _, by rw [r.strE], int_sign c hz.1 hz.2, by rw [S_length]; show 1 ≤ 640; decide, now s (.int _) q⟩
    · cases e
  · cases e
/-- str of an int, of a text -/
def fStr : List T → Option T
  | [.int i] => if i.natAbs.log2 < 1920 then some (.str (toString i : Str).cps.toList) else none
  | [.str s] => some (.str s)
  | _ => none
def rStrU : List V → Hp → VK → Prop := fun xs H Q => (∃ i, xs = [.int i] ∧ i.natAbs.log2 < 1920 ∧ Q (.str (toString i)) H) ∨ ∃ a, xs = [.str a] ∧ Q (.str a) H
theorem cp_str : CallP K mg rStrU fStr := fun H1 H vs ts t s a e Q q => by
  unfold fStr at e
  split at e
  · split at e
    · rename_i hz; cases e; obtain ⟨v, G, rfl, r⟩ := a.one
      refine .inl ⟨_, by rw [r.intE], hz, ?_⟩
      have := now (K := K) (mg := mg) s (.str _) q
      rw [← S_of] at this
      exact this
    · cases e
  · cases e; obtain ⟨v, G, rfl, r⟩ := a.one; exact .inr ⟨_, by rw [r.strE], now s (.str _) q⟩
  · cases e
def fSorted : List T → Option T
  | [.lst _ xs] => match T.ints xs with | some ns => some (.lst true ((isort leI ns).map .int)) | none => none
  | _ => none
theorem cp_sorted : CallP K mg (rSortedI K) fSorted := fun H1 H vs ts t s a e Q q => by
  unfold fSorted at e
  split at e
  · split at e
    · rename_i ns hn
      cases e
      obtain ⟨v, G, rfl, r⟩ := a.one
      obtain ⟨p, vs, G, rfl, h2, h3⟩ := r.lst' s
      rw [h3.ints hn] at h2
      refine ⟨p, ns, rfl, .inl (.inl h2), fun ms p' pm pw => ?_⟩
      rw [isortI_eq pm pw]
      exact newL s (fz_ints _ _) q p'
    · cases e
  · cases e
end
end GK

/-! GK8: attributes, effects, places, targets, statements. -/
namespace GK
open PySem L2

/-- what is known of the classes: AF c f: instances of the class named c have plain attributes named f -/
structure Cls' (K : PySem.W.Frag) (mg : Str → Option Value) (AF : List (String × List String)) : Prop where
  ok : ∀ c fs C, (c, fs) ∈ AF → mg (Str.ofString c) = some (.ref C) → Cls K C ∧ ∀ f ∈ fs, NoAttr K C (Str.ofString f)
def afHas (AF : List (String × List String)) (c f : String) : Bool := AF.any fun p => p.1 == c && p.2.contains f
theorem Cls'.get {K : PySem.W.Frag} {mg : Str → Option Value} {AF : List (String × List String)} (h : Cls' K mg AF) {c f : String} {C : Addr} (e : afHas AF c f = true) (m : mg (Str.ofString c) = some (.ref C)) : Cls K C ∧ NoAttr K C (Str.ofString f) := by
  unfold afHas at e
  rw [List.any_eq_true] at e
  obtain ⟨⟨c', fs⟩, hm, h2⟩ := e
  rw [Bool.and_eq_true, beq_iff_eq, List.contains_iff_mem] at h2
  obtain ⟨rfl, h3⟩ := h2
  exact ⟨(h.ok _ _ _ hm m).1, (h.ok _ _ _ hm m).2 _ h3⟩

section
variable {X : Cx} {a b e : Expr} {te ta tb : TE} {x xa xb : Env → Option T} {pos : Pos} {AF : List (String × List String)}
def fFld (AF : List (String × List String)) (f : String) (t : T) : Option T := match t with
  | .obj _ c fs => if afHas AF c f then fs.lookup f else none
  | _ => none
def kFld (AF : List (String × List String)) (f : String) (xa : Env → Option T) : Env → Option T := fun env => match xa env with | none => none | some t => fFld AF f t
def qFld (AF : List (String × List String)) (f : String) (xa : Env → Option T) : Env → Option T := fun env => match xa env with | none => none | some t => match fFld AF f t with | some u => if u.sh then some u else none | none => none
theorem fld_road {K : PySem.W.Frag} {mg : Str → Option Value} (hc : Cls' K mg AF) {f : String} {H1 H : Hp} {v : V} {t u : T} {G : FP} (s : Same H1 H) (r : Rep K mg H1 H v t G) (e : fFld AF f t = some u) :
    ∃ a C dx fs w G', v = .ref a ∧ H a = some (.ins C dx fs) ∧ Cls K C ∧ NoAttr K C (Str.ofString f) ∧ fs.lookup (Str.ofString f) = some w ∧ Rep K mg H1 H w u G' := by
  unfold fFld at e
  split at e
  · split at e
    · rename_i ha
      obtain ⟨p, C, dx, vs, G, rfl, h2, h3, h4⟩ := r.ins s
      obtain ⟨w, G', h5, h6, _⟩ := h4.get e
      obtain ⟨c1, c2⟩ := hc.get ha h3
      exact ⟨p, C, dx, vs, w, G', rfl, h2, c1, c2, h5, h6⟩
    · cases e
  · cases e
theorem ke_fld {f : String} (hc : Cls' X.K X.mg AF) (ha : KE X a ta xa) (hb : attributeBase a (Str.ofString f) X.env (eval a X.env) = eval a X.env := by rfl) : KE X (.Attribute a (Str.ofString f) pos) (tFld X.K ta (Str.ofString f)) (kFld AF f xa) :=
  ⟨pe_fld ha.pe hb, fun env t e H1 H σ F s R Q q => by
    unfold kFld at e
    cases e1 : xa env with
    | none => rw [e1] at e; cases e
    | some u =>
      rw [e1] at e
      refine ha.kr _ _ e1 _ _ _ _ s R _ fun v Ha Hb G x1 r1 => ?_
      obtain ⟨p, C, dx, fs, w, G', h1, h2, h3, h4, h5, h6⟩ := fld_road hc x1.sub r1 e
      exact ⟨p, C, dx, fs, w, h1, h2, h3, h4, h5, q w Ha Hb G' x1 h6⟩⟩
theorem qe_fld {f : String} (hc : Cls' X.K X.mg AF) (ha : KE X a ta xa) (hb : attributeBase a (Str.ofString f) X.env (eval a X.env) = eval a X.env := by rfl) : QE X (.Attribute a (Str.ofString f) pos) (tFld X.K ta (Str.ofString f)) (qFld AF f xa) :=
  ⟨pe_fld ha.pe hb, fun env t e H1 H σ F s R Q q => by
    unfold qFld at e
    cases e1 : xa env with
    | none => rw [e1] at e; cases e
    | some u =>
      rw [e1] at e
      simp only at e
      split at e
      · rename_i u' hu
        split at e
        · rename_i hs
          cases e
          refine ha.kr _ _ e1 _ _ _ _ s R _ fun v Ha Hb G x1 r1 => ?_
          obtain ⟨p, C, dx, fs, w, G', h1, h2, h3, h4, h5, h6⟩ := fld_road hc x1.sub r1 hu
          exact ⟨p, C, dx, fs, w, h1, h2, h3, h4, h5, q w Ha Hb F0 x1 (.sh (h6.fzOf hs))⟩
        · cases e
      · cases e⟩
/-- what is made is frozen -/
def qFz (x : Env → Option T) : Env → Option T := fun env => match x env with | none => none | some t => some t.fz
theorem qe_fz (h : QE X e te x) : QE X e te (qFz x) := ⟨h.pe, fun env t e H1 H σ F s R Q q => by
  unfold qFz at e
  cases e1 : x env with
  | none => rw [e1] at e; cases e
  | some u =>
    rw [e1] at e
    cases e
    refine h.qr _ _ e1 _ _ _ _ s R _ fun v Ha Hb Ft x1 r1 => ?_
    have x2 : Ext Ha Hb Ft (join Ha Hb Ft) Hb F0 := Ext.freeze x1.sub (fun b z => (r1.own b z).1) (fun _ _ z => z) (fun _ z => z) fun _ z => z.elim
    exact q v _ Hb F0 (x1.trans x2) (.sh (r1.freeze x2.s1 fun b z => join_in z))⟩
end

/-! ### effects -/
section
variable (K : PySem.W.Frag) (mg : Str → Option Value)
def ER (te : TE) (x : Env → Option (T × Env)) : Prop := ∀ env t env', x env = some (t, env') → ∀ H1 H σ F, Same H1 H → RepE K mg H1 H σ env F → ∀ Q : VK,
  (∀ v H1' H' F' Ft, Ext H1 H F H1' H' (fun b => F' b ∨ Ft b) → RepE K mg H1' H' σ env' F' → Rep K mg H1' H' v t Ft → (∀ b, F' b → ¬ Ft b) → Q v H') → te σ H Q
/-- a place: what stands there, how it is changed -/
def PR (te : TE) (get : Env → Option T) (put : T → Env → Option Env) : Prop := ∀ env t, get env = some t → ∀ H1 H σ F, Same H1 H → RepE K mg H1 H σ env F → ∀ Q : VK,
  (∀ v H1' H' G, Ext H1 H F0 H1' H' F0 → RepE K mg H1' H' σ env F → Rep K mg H1' H' v t G → (∀ b, G b → F b) →
    (∀ t' env', put t' env = some env' → ∀ H2 H2' G', Same H1' H2 → (∀ b, F b → ¬ G b → H2' b = H' b ∧ H2 b = none) → Rep K mg H2 H2' v t' G' → (∀ b, G' b → F b → G b) →
      ∃ F', RepE K mg H2 H2' σ env' F' ∧ ∀ b, F' b → (F b ∧ ¬ G b) ∨ G' b) → Q v H') → te σ H Q
/-- a target: how a value is stored; P: slots that are not stored to -/
def GR (P : Nat → Bool) (g : TG) (f : T → Env → Option Env) : Prop := ∀ t env env', f t env = some env' → ∀ H1 H σ F v Fv, Same H1 H → RepE K mg H1 H σ env F → Rep K mg H1 H v t Fv → (∀ b, F b → ¬ Fv b) → ∀ Q : L2.St → Hp → Prop,
  (∀ σ' H1' H' F', Ext H1 H (fun b => F b ∨ Fv b) H1' H' F' → RepE K mg H1' H' σ' env' F' → (∀ i, P i = true → σ'[i]? = σ[i]?) → Q σ' H') → g v σ H Q
inductive Out where
  | nx (env : Env) | rt (t : T) (env : Env) | bk (env : Env) | ct (env : Env)
def SPost (P : Nat → Bool) (H1 H : Hp) (σ : L2.St) (F : FP) (D : Ends) : Out → Prop
  | .nx env' => ∀ σ' H1' H' F', Ext H1 H F H1' H' F' → RepE K mg H1' H' σ' env' F' → (∀ i, P i = true → σ'[i]? = σ[i]?) → D.nx σ' H'
  | .bk env' => ∀ σ' H1' H' F', Ext H1 H F H1' H' F' → RepE K mg H1' H' σ' env' F' → (∀ i, P i = true → σ'[i]? = σ[i]?) → D.bk σ' H'
  | .ct env' => ∀ σ' H1' H' F', Ext H1 H F H1' H' F' → RepE K mg H1' H' σ' env' F' → (∀ i, P i = true → σ'[i]? = σ[i]?) → D.ct σ' H'
  | .rt t env' => ∀ v σ' H1' H' F' Ft, Ext H1 H F H1' H' (fun b => F' b ∨ Ft b) → RepE K mg H1' H' σ' env' F' → Rep K mg H1' H' v t Ft → (∀ b, F' b → ¬ Ft b) → (∀ i, P i = true → σ'[i]? = σ[i]?) → D.rt v H'
def SR (P : Nat → Bool) (ts : TS) (b : Env → Option Out) : Prop := ∀ env o, b env = some o → ∀ H1 H σ F, Same H1 H → RepE K mg H1 H σ env F → ∀ D : Ends, SPost K mg P H1 H σ F D o → ts D σ H
end
structure EE (X : Cx) (e : Expr) (te : TE) (x : Env → Option (T × Env)) : Prop where
  pe : PE X e te
  er : ER X.K X.mg te x
structure PL (X : Cx) (e : Expr) (te : TE) (get : Env → Option T) (put : T → Env → Option Env) : Prop where
  pe : PE X e te
  pr : PR X.K X.mg te get put
structure GE (X : Cx) (P : Nat → Bool) (e : Expr) (g : TG) (f : T → Env → Option Env) : Prop where
  pg : PG X e g
  gr : GR X.K X.mg P g f
structure SE (X : Cx) (P : Nat → Bool) (st : Stmt) (ts : TS) (b : Env → Option Out) : Prop where
  ps : PS X st ts
  sr : SR X.K X.mg P ts b
structure SEs (X : Cx) (P : Nat → Bool) (st : List Stmt) (ts : TS) (b : Env → Option Out) : Prop where
  ps : PSs X st ts
  sr : SR X.K X.mg P ts b

section
variable {K : PySem.W.Frag} {mg : Str → Option Value} {P : Nat → Bool}
theorem ext_or {H1 H H1' H' : Hp} {F Ft : FP} (x : Ext H1 H F0 H1' H' Ft) : Ext H1 H F H1' H' (fun b => F b ∨ Ft b) :=
  ⟨x.s1, x.sub, fun b o e _ => x.keep b o e fun z => z, fun b (z : _ ∨ _) => z.elim .inl fun z => (x.foot b z).elim (fun z => z.elim) .inr, fun b o e => (x.new1 b o e).imp id fun z => z.elim (fun z => z.elim) .inr⟩
theorem QR.e {te : TE} {x : Env → Option T} (h : QR K mg te x) : ER K mg te (fun env => match x env with | none => none | some t => some (t, env)) := fun env t env' e H1 H σ F s R Q q => by
  dsimp only at e
  cases e1 : x env with
  | none => rw [e1] at e; cases e
  | some u =>
    rw [e1] at e
    cases e
    exact h _ _ e1 _ _ _ _ s R _ fun v H1' H' Ft x1 r1 => q v H1' H' F Ft (ext_or x1) (x1.qRepE R) r1 (fun b z => (x1.repE R fun _ _ z => z).2 b z)
end
section
variable {X : Cx} {P : Nat → Bool} {a b e : Expr} {te ta tb tv ti : TE} {x xa xb xi xv : Env → Option T} {y : Env → Option (T × Env)} {get : Env → Option T} {put : T → Env → Option Env} {pos : Pos} {AF : List (String × List String)}
def eQ (x : Env → Option T) : Env → Option (T × Env) := fun env => match x env with | none => none | some t => some (t, env)
theorem QE.eff (h : QE X e te x) : EE X e te (eQ x) := ⟨h.pe, h.qr.e⟩
/-- a name, what it holds being frozen -/
def eVar (i : Nat) : Env → Option (T × Env) := fun env => match env[i]? with | some (some t) => some (t.fz, if t.sh then env else env.set i (some t.fz)) | _ => none
theorem ee_var (i : Nat) {y : Str} (h : PE X (.Name y pos) (tVar i)) : EE X (.Name y pos) (tVar i) (eVar i) := ⟨h, fun env t env' e H1 H σ F s R Q q => by
  unfold eVar at e
  split at e
  · rename_i t' e1
    cases e
    obtain ⟨v, Fi, G, h1, h2, h3, h4, h5, h6⟩ := R.take e1
    refine ⟨v, h1, ?_⟩
    by_cases hs : t'.sh = true
    · rw [if_pos hs, T.fz_sh hs] at q
      exact q v H1 H F F0 (ext_or (Ext.refl s)) R (.sh (h2.fzOf hs)) fun _ _ z => z
    · rw [if_neg hs] at q
      have x1 : Ext H1 H F (join H1 H Fi) H G := Ext.freeze s (fun b z => (h2.own b z).1) (fun b z1 z2 => h4 b z1 z2) h5 h6
      have f1 := h2.freeze (H2 := join H1 H Fi) x1.s1 fun b z => join_in z
      have R1 : RepE X.K X.mg (join H1 H Fi) H σ (env.set i none) G := h3.frame x1.s1 fun b z => ⟨rfl, by rw [join_out fun w => h4 b w z]; exact (h3.own b z).1⟩
      have hi : i < env.length := (List.getElem?_eq_some_iff.mp e1).1
      obtain ⟨F', R2, hF⟩ := R1.put (i := i) (v := v) (t := t'.fz) (by rw [List.length_set]; exact hi) (.sh f1) fun _ z => z.elim
      rw [List.set_set] at R2
      have e2 : σ.set i (some v) = σ := by
        apply List.ext_getElem?
        intro j
        by_cases hj : j = i
        · subst hj; rw [List.getElem?_set_self (by exact (List.getElem?_eq_some_iff.mp h1).1), h1]
        · rw [List.getElem?_set_ne (fun z => hj z.symm)]
      rw [e2] at R2
      exact q v _ H F' F0 (x1.less fun b z => z.elim (fun z => (hF b z).elim (fun z => z.elim) id) fun z => z.elim) R2 (.sh f1) fun _ _ z => z
  · cases e⟩

/-! ### places -/
def pVar (i : Nat) : Env → Option T := fun env => match env[i]? with | some o => o | none => none
def pVarPut (i : Nat) : T → Env → Option Env := fun t env => some (env.set i (some t))
theorem set_id {σ : L2.St} {i : Nat} {v : V} (h1 : σ[i]? = some (some v)) : σ.set i (some v) = σ := by
  apply List.ext_getElem?
  intro j
  by_cases hj : j = i
  · subst hj; rw [List.getElem?_set_self (by exact (List.getElem?_eq_some_iff.mp h1).1), h1]
  · rw [List.getElem?_set_ne (fun z => hj z.symm)]
theorem pl_var (i : Nat) {y : Str} (h : PE X (.Name y pos) (tVar i)) : PL X (.Name y pos) (tVar i) (pVar i) (pVarPut i) := ⟨h, fun env t e H1 H σ F s R Q q => by
  unfold pVar at e
  cases e1 : env[i]? with
  | none => rw [e1] at e; cases e
  | some o =>
    rw [e1] at e
    simp only at e
    subst e
    obtain ⟨v, Fi, G, h1, h2, h3, h4, h5, h6⟩ := R.take e1
    refine ⟨v, h1, q v H1 H Fi (Ext.refl s) R h2 h5 fun t' env' ep H2 H2' G' s2 k r hg => ?_⟩
    cases ep
    have hi : i < env.length := (List.getElem?_eq_some_iff.mp e1).1
    have R1 : RepE X.K X.mg H2 H2' σ (env.set i none) G := h3.frame s2 fun b z => k b (h6 b z) fun w => h4 b w z
    obtain ⟨F', R2, hF⟩ := R1.put (i := i) (v := v) (t := t') (by rw [List.length_set]; exact hi) r fun b z w => h4 b (hg b z (h6 b w)) w
    rw [List.set_set, set_id h1] at R2
    exact ⟨F', R2, fun b z => (hF b z).elim .inr fun z => .inl ⟨h6 b z, fun w => h4 b w z⟩⟩⟩
/-- an attribute of an owned object -/
def pFld (AF : List (String × List String)) (f : String) (get : Env → Option T) : Env → Option T := fun env => match get env with
  | some (.obj true c fs) => if afHas AF c f then fs.lookup f else none
  | _ => none
def fput {α : Type} (fs : List (String × α)) (f : String) (t : α) : List (String × α) := match fs with
  | [] => [(f, t)]
  | (g, u) :: r => if g = f then (g, t) :: r else (g, u) :: fput r f t
def pFldPut (f : String) (get : Env → Option T) (put : T → Env → Option Env) : T → Env → Option Env := fun t env => match get env with
  | some (.obj true c fs) => put (.obj true c (fput fs f t)) env
  | _ => none
theorem RepF.focus {K : PySem.W.Frag} {mg : Str → Option Value} : ∀ {vs : List (Str × V)} {ts : List (String × T)} {H1 H : Hp} {F : FP} {f : String} {t : T}, RepF K mg H1 H vs ts F → ts.lookup f = some t →
    ∃ v G, vs.lookup (Str.ofString f) = some v ∧ Rep K mg H1 H v t G ∧ (∀ b, G b → F b) ∧ ∀ H2 H2' t' G', Same H1 H2 → (∀ b, F b → ¬ G b → H2' b = H b ∧ H2 b = none) → Rep K mg H2 H2' v t' G' → (∀ b, G' b → F b → G b) →
      ∃ F', RepF K mg H2 H2' vs (fput ts f t') F' ∧ ∀ b, F' b → (F b ∧ ¬ G b) ∨ G' b
  | _, _, _, _, _, f, t, .nil, h => by simp at h
  | _, _, H1, H, _, f, t, .cons (k := k') (v := v) (t := t') (vs := vs) (ts := ts) (F := F1) (G := F2) a r d, h => by
    by_cases e : f = k'
    · subst e
      rw [List.lookup_cons, beq_self_eq_true] at h
      cases h
      refine ⟨v, F1, by rw [List.lookup_cons, beq_self_eq_true], a, fun _ z => .inl z, fun H2 H2' t' G' s2 k r' hg => ?_⟩
      refine ⟨fun b => G' b ∨ F2 b, ?_, fun b z => z.elim .inr fun z => .inl ⟨.inr z, fun w => d b w z⟩⟩
      unfold fput
      rw [if_pos rfl]
      exact .cons r' (r.frame s2 fun b z => k b (.inr z) fun w => d b w z) fun b z w => d b (hg b z (.inr w)) w
    · have e1 : (f == k') = false := beq_eq_false_iff_ne.mpr e
      rw [List.lookup_cons, e1] at h
      obtain ⟨w, G, h1, h2, h3, h4⟩ := RepF.focus r h
      refine ⟨w, G, by rw [List.lookup_cons, ofString_beq, e1]; exact h1, h2, fun b z => .inr (h3 b z), fun H2 H2' t2 G' s2 k r' hg => ?_⟩
      obtain ⟨F', R, hF⟩ := h4 H2 H2' t2 G' s2 (fun b z1 z2 => k b (.inr z1) z2) r' fun b z w => hg b z (.inr w)
      refine ⟨fun b => F1 b ∨ F' b, ?_, fun b z => z.elim (fun z => .inl ⟨.inl z, fun w => d b z (h3 b w)⟩) fun z => (hF b z).imp (fun z => ⟨.inr z.1, z.2⟩) id⟩
      unfold fput
      rw [if_neg fun q => e q.symm]
      exact .cons (a.frame s2 fun b z => k b (.inl z) fun w => d b z (h3 b w)) R fun b z w => (hF b w).elim (fun w => d b z w.1) fun w => d b z (h3 b (hg b w (.inl z)))
theorem pl_fld {f : String} (hc : Cls' X.K X.mg AF) (h : PL X a ta get put) (hb : attributeBase a (Str.ofString f) X.env (eval a X.env) = eval a X.env := by rfl) :
    PL X (.Attribute a (Str.ofString f) pos) (tFld X.K ta (Str.ofString f)) (pFld AF f get) (pFldPut f get put) := ⟨pe_fld h.pe hb, fun env t e H1 H σ F s R Q q => by
  unfold pFld at e
  split at e
  · rename_i c fs e1
    split at e
    · rename_i ha
      refine h.pr _ _ e1 _ _ _ _ s R _ fun v Ha Hb G x1 R1 r1 hG foc => ?_
      cases r1 with
      | sh r => cases r
      | obj h1 h2 h3 h4 h5 =>
        rename_i p C dx vs F1
        obtain ⟨c1, c2⟩ := hc.get ha h3
        obtain ⟨w, G2, g1, g2, g3, g4⟩ := h4.focus e
        refine ⟨p, C, dx, vs, w, rfl, h1, c1, c2, g1, q w Ha Hb G2 x1 R1 g2 (fun b z => hG b (.inr (g3 b z))) fun t' env' ep H2 H2' G' s2 k r hg => ?_⟩
        unfold pFldPut at ep
        rw [e1] at ep
        have kp : H2' p = Hb p ∧ H2 p = none := k p (hG p (.inl rfl)) fun z => h5 (g3 p z)
        obtain ⟨F', R3, hF⟩ := g4 H2 H2' t' G' s2 (fun b z1 z2 => k b (hG b (.inr z1)) z2) r fun b z w => hg b z (hG b (.inr w))
        have np : ¬ F' p := fun z => (hF p z).elim (fun z => h5 z.1) fun z => h5 (g3 p (hg p z (hG p (.inl rfl))))
        have r2 : Rep X.K X.mg H2 H2' (.ref p) (.obj true c (fput fs f t')) (fun b => b = p ∨ F' b) := .obj (kp.1.trans h1) kp.2 h3 R3 np
        obtain ⟨F'', R4, hF2⟩ := foc _ _ ep H2 H2' _ s2 (fun b z1 z2 => k b z1 fun w => z2 (.inr (g3 b w))) r2 fun b z w => z.elim (fun z => .inl z) fun z => (hF b z).elim (fun z => .inr z.1) fun z => .inr (g3 b (hg b z w))
        refine ⟨F'', R4, fun b z => (hF2 b z).elim (fun z => .inl ⟨z.1, fun w => z.2 (.inr (g3 b w))⟩) fun z => z.elim (fun z => .inl (by rw [z]; exact ⟨hG p (.inl rfl), fun w => h5 (g3 p w)⟩)) fun z => (hF b z).elim (fun z => .inl ⟨hG b (.inr z.1), z.2⟩) .inr⟩
    · cases e
  · cases e⟩
end
end GK

/-! GK9: items as places, methods of lists, stores, targets. -/
namespace GK
open PySem L2

section
variable {K : PySem.W.Frag} {mg : Str → Option Value}
theorem Reps.focus : ∀ {vs : List V} {ts : List T} {H1 H : Hp} {F : FP} {j : Nat} {t : T}, Reps K mg H1 H vs ts F → ts[j]? = some t →
    ∃ v G, vs[j]? = some v ∧ Rep K mg H1 H v t G ∧ (∀ b, G b → F b) ∧ ∀ H2 H2' v' t' G', Same H1 H2 → (∀ b, F b → ¬ G b → H2' b = H b ∧ H2 b = none) → Rep K mg H2 H2' v' t' G' → (∀ b, G' b → F b → G b) →
      ∃ F', Reps K mg H2 H2' (vs.set j v') (ts.set j t') F' ∧ ∀ b, F' b → (F b ∧ ¬ G b) ∨ G' b
  | _, _, _, _, _, j, t, .nil, h => by simp at h
  | _, _, H1, H, _, 0, t, .cons (v := v) (t := t') (vs := vs) (ts := ts) (F := F1) (G := F2) a r d, h => by
    simp at h
    subst h
    refine ⟨v, F1, rfl, a, fun _ z => .inl z, fun H2 H2' v' t' G' s2 k r' hg => ?_⟩
    exact ⟨fun b => G' b ∨ F2 b, .cons r' (r.frame s2 fun b z => k b (.inr z) fun w => d b w z) (fun b z w => d b (hg b z (.inr w)) w), fun b z => z.elim .inr fun z => .inl ⟨.inr z, fun w => d b w z⟩⟩
  | _, _, H1, H, _, j + 1, t, .cons (v := v) (t := t') (vs := vs) (ts := ts) (F := F1) (G := F2) a r d, h => by
    obtain ⟨w, G, h1, h2, h3, h4⟩ := Reps.focus (j := j) r (by simpa using h)
    refine ⟨w, G, by simpa using h1, h2, fun b z => .inr (h3 b z), fun H2 H2' v2 t2 G' s2 k r' hg => ?_⟩
    obtain ⟨F', R, hF⟩ := h4 H2 H2' v2 t2 G' s2 (fun b z1 z2 => k b (.inr z1) z2) r' fun b z w => hg b z (.inr w)
    exact ⟨fun b => F1 b ∨ F' b, .cons (a.frame s2 fun b z => k b (.inl z) fun w => d b z (h3 b w)) R (fun b z w => (hF b w).elim (fun w => d b z w.1) fun w => d b z (h3 b (hg b w (.inl z)))),
      fun b z => z.elim (fun z => .inl ⟨.inl z, fun w => d b z (h3 b w)⟩) fun z => (hF b z).imp (fun z => ⟨.inr z.1, z.2⟩) id⟩
theorem Reps.erase : ∀ {vs : List V} {ts : List T} {H1 H : Hp} {F : FP} {j : Nat} {t : T}, Reps K mg H1 H vs ts F → ts[j]? = some t →
    ∃ v G R, vs[j]? = some v ∧ Rep K mg H1 H v t G ∧ Reps K mg H1 H (vs.eraseIdx j) (ts.eraseIdx j) R ∧ (∀ b, G b → ¬ R b) ∧ (∀ b, G b → F b) ∧ ∀ b, R b → F b
  | _, _, _, _, _, j, t, .nil, h => by simp at h
  | _, _, H1, H, _, 0, t, .cons (F := F1) (G := F2) a r d, h => by
    simp at h
    subst h
    exact ⟨_, F1, F2, rfl, a, r, d, fun _ z => .inl z, fun _ z => .inr z⟩
  | _, _, H1, H, _, j + 1, t, .cons (F := F1) (G := F2) a r d, h => by
    obtain ⟨v, G, R, h1, h2, h3, h4, h5, h6⟩ := Reps.erase (j := j) r (by simpa using h)
    exact ⟨v, G, fun b => F1 b ∨ R b, by simpa using h1, h2, .cons a h3 fun b z w => d b z (h6 b w), fun b z w => w.elim (fun w => d b w (h5 b z)) (h4 b z), fun b z => .inr (h5 b z), fun b z => z.imp id (h6 b)⟩
theorem Reps.snoc : ∀ {vs : List V} {ts : List T} {H1 H : Hp} {F G : FP} {v : V} {t : T}, Reps K mg H1 H vs ts F → Rep K mg H1 H v t G → (∀ b, F b → ¬ G b) → ∃ F', Reps K mg H1 H (vs ++ [v]) (ts ++ [t]) F' ∧ ∀ b, F' b ↔ F b ∨ G b
  | _, _, _, _, _, G, v, t, .nil, r, d => ⟨_, .cons r .nil fun _ _ z => z, fun b => ⟨fun z => z.elim .inr fun z => z.elim, fun z => z.elim (fun z => z.elim) .inl⟩⟩
  | _, _, _, _, _, G, v, t, .cons (F := F1) (G := F2) a s e, r, d => by
    obtain ⟨F', h1, h2⟩ := Reps.snoc s r fun b z => d b (.inr z)
    exact ⟨_, .cons a h1 fun b z w => ((h2 b).mp w).elim (e b z) (d b (.inl z)), fun b => ⟨fun z => z.elim (fun z => .inl (.inl z)) fun z => ((h2 b).mp z).imp .inr id, fun z => z.elim (fun z => z.imp id fun z => (h2 b).mpr (.inl z)) fun z => .inr ((h2 b).mpr (.inr z))⟩⟩
/-- dicts: a value in the focus; a key put -/
theorem RepA.focus : ∀ {vs : List (Key × V)} {ts : List (Key × T)} {H1 H : Hp} {F : FP} {k : Key} {t : T}, RepA K mg H1 H vs ts F → tget ts k = some t →
    ∃ v G, valV vs k = some v ∧ Rep K mg H1 H v t G ∧ (∀ b, G b → F b) ∧ ∀ H2 H2' t' G', Same H1 H2 → (∀ b, F b → ¬ G b → H2' b = H b ∧ H2 b = none) → Rep K mg H2 H2' v t' G' → (∀ b, G' b → F b → G b) →
      ∃ F', RepA K mg H2 H2' vs (tput ts k t') F' ∧ ∀ b, F' b → (F b ∧ ¬ G b) ∨ G' b
  | _, _, _, _, _, k, t, .nil, h => by simp [tget] at h
  | _, _, H1, H, _, k, t, .cons (k := k') (v := v) (t := t') (vs := vs) (ts := ts) (F := F1) (G := F2) a r d, h => by
    by_cases e : k' = k
    · subst e
      simp only [tget, if_true] at h
      cases h
      refine ⟨v, F1, valV_pos (p := (k', v)) rfl, a, fun _ z => .inl z, fun H2 H2' t' G' s2 kk r' hg => ?_⟩
      refine ⟨fun b => G' b ∨ F2 b, ?_, fun b z => z.elim .inr fun z => .inl ⟨.inr z, fun w => d b w z⟩⟩
      simp only [tput, if_true]
      exact .cons r' (r.frame s2 fun b z => kk b (.inr z) fun w => d b w z) fun b z w => d b (hg b z (.inr w)) w
    · simp only [tget, if_neg e] at h
      obtain ⟨w, G, h1, h2, h3, h4⟩ := RepA.focus r h
      have e1 : valV ((k', v) :: vs) k = valV vs k := by simp [valV, List.find?_cons, e]
      refine ⟨w, G, e1.trans h1, h2, fun b z => .inr (h3 b z), fun H2 H2' t2 G' s2 kk r' hg => ?_⟩
      obtain ⟨F', R, hF⟩ := h4 H2 H2' t2 G' s2 (fun b z1 z2 => kk b (.inr z1) z2) r' fun b z w => hg b z (.inr w)
      refine ⟨fun b => F1 b ∨ F' b, ?_, fun b z => z.elim (fun z => .inl ⟨.inl z, fun w => d b z (h3 b w)⟩) fun z => (hF b z).imp (fun z => ⟨.inr z.1, z.2⟩) id⟩
      simp only [tput, if_neg e]
      exact .cons (a.frame s2 fun b z => kk b (.inl z) fun w => d b z (h3 b w)) R fun b z w => (hF b w).elim (fun w => d b z w.1) fun w => d b z (h3 b (hg b w (.inl z)))
/-- HandS' putK, by recursion -/
def vput (kvs : List (Key × V)) (k : Key) (v : V) : List (Key × V) := match kvs with
  | [] => [(k, v)]
  | (k', u) :: r => if k' = k then (k', v) :: r else (k', u) :: vput r k v
theorem RepA.put : ∀ {vs : List (Key × V)} {ts : List (Key × T)} {H1 H : Hp} {F G : FP} {k : Key} {v : V} {t : T}, RepA K mg H1 H vs ts F → Rep K mg H1 H v t G → (∀ b, F b → ¬ G b) → ∃ F', RepA K mg H1 H (vput vs k v) (tput ts k t) F' ∧ ∀ b, F' b → F b ∨ G b
  | _, _, _, _, _, G, k, v, t, .nil, r, d => ⟨_, .cons r .nil fun _ _ z => z, fun b z => z.elim .inr fun z => z.elim⟩
  | _, _, _, _, _, G, k, v, t, .cons (k := k') (F := F1) (G := F2) a s e, r, d => by
    by_cases h : k' = k
    · simp only [vput, tput, if_pos h]
      exact ⟨_, .cons r s fun b z w => d b (.inr w) z, fun b z => z.elim .inr fun z => .inl (.inr z)⟩
    · simp only [vput, tput, if_neg h]
      obtain ⟨F', h1, h2⟩ := RepA.put s r fun b z => d b (.inr z)
      exact ⟨_, .cons a h1 fun b z w => (h2 b w).elim (e b z) (d b (.inl z)), fun b z => z.elim (fun z => .inl (.inl z)) fun z => (h2 b z).imp .inr id⟩
theorem vput_eq : ∀ {kvs : List (Key × V)} {k : Key} {v : V}, (kvs.map (·.1)).Nodup → putK kvs k v = vput kvs k v
  | [], k, v, _ => rfl
  | (k', u) :: r, k, v, h => by
    rw [List.map_cons, List.nodup_cons] at h
    have ih := vput_eq (kvs := r) (k := k) (v := v) h.2
    unfold putK at ih ⊢
    by_cases e : k' = k
    · subst e
      have hn : ∀ p ∈ r, p.1 ≠ k' := fun p hp q => h.1 (List.mem_map.mpr ⟨p, hp, q⟩)
      have hm : r.map (fun kv => if kv.1 = k' then (kv.1, v) else kv) = r := by
        have : ∀ l : List (Key × V), (∀ p ∈ l, p.1 ≠ k') → l.map (fun kv => if kv.1 = k' then (kv.1, v) else kv) = l := by
          intro l
          induction l with
          | nil => intro _; rfl
          | cons p q ih => intro hl; rw [List.map_cons, if_neg (hl p List.mem_cons_self), ih fun x hx => hl x (List.mem_cons_of_mem _ hx)]
        exact this r hn
      simp only [vput, if_true, List.any_cons, decide_true, Bool.true_or, List.map_cons, hm]
    · simp only [vput, if_neg e, List.any_cons, decide_eq_false e, Bool.false_or, List.map_cons, List.cons_append]
      split at ih
      · rename_i ha
        rw [if_pos ha, ih]
      · rename_i ha
        rw [if_neg ha, ih]
theorem vput_nodup : ∀ {kvs : List (Key × V)} {k : Key} {v : V}, (kvs.map (·.1)).Nodup → ((vput kvs k v).map (·.1)).Nodup ∧ ∀ x, x ∈ (vput kvs k v).map (·.1) → x = k ∨ x ∈ kvs.map (·.1)
  | [], k, v, _ => ⟨by simp [vput], fun x h => by simp [vput] at h; exact .inl h⟩
  | (k', u) :: r, k, v, h => by
    rw [List.map_cons, List.nodup_cons] at h
    by_cases e : k' = k
    · simp only [vput, if_pos e, List.map_cons, List.nodup_cons]
      exact ⟨h, fun x hx => .inr hx⟩
    · obtain ⟨h1, h2⟩ := vput_nodup (kvs := r) (k := k) (v := v) h.2
      simp only [vput, if_neg e, List.map_cons, List.nodup_cons]
      refine ⟨⟨fun hm => (h2 _ hm).elim e h.1, h1⟩, fun x hx => ?_⟩
      rcases List.mem_cons.mp hx with rfl | hx
      · exact .inr List.mem_cons_self
      · exact (h2 x hx).imp id fun z => List.mem_cons_of_mem _ z
end
end GK

/-! GK10: items as places, methods of lists, stores, targets, statements. -/
namespace GK
open PySem L2

section
variable {K : PySem.W.Frag} {mg : Str → Option Value}
/-- an owned list, changed -/
theorem rep_relist {H1 H : Hp} {p : Addr} {vs' : List V} {ts' : List T} {F : FP} (n : H1 p = none) (r : Reps K mg H1 H vs' ts' F) (nf : ¬ F p) : Rep K mg H1 (upd H p (.lst vs')) (.ref p) (.lst true ts') (fun b => b = p ∨ F b) :=
  .lst upd_same n (r.frame (Same.refl _) fun b z => ⟨upd_ne (fun w => nf (w ▸ z)), (r.own b z).1⟩) nf
theorem rep_redict {H1 H : Hp} {p : Addr} {vs' : List (Key × V)} {ts' : List (Key × T)} {F : FP} (n : H1 p = none) (nd : (vs'.map (·.1)).Nodup) (r : RepA K mg H1 H vs' ts' F) (nf : ¬ F p) : Rep K mg H1 (upd H p (.dK vs')) (.ref p) (.dic true ts') (fun b => b = p ∨ F b) :=
  .dic upd_same n nd (r.frame (Same.refl _) fun b z => ⟨upd_ne (fun w => nf (w ▸ z)), (r.own b z).1⟩) nf
end

section
variable {X : Cx} {P : Nat → Bool} {a b e i : Expr} {te ta tb tv ti : TE} {x xa xb xi xv : Env → Option T} {y : Env → Option (T × Env)} {get : Env → Option T} {put : T → Env → Option Env} {pos apos : Pos} {AF : List (String × List String)}
theorem atI_ix {α β : Type} {xs : List α} {ys : List β} (h : xs.length = ys.length) {i : Int} {y : β} (e : atI ys i = some y) : ∃ (j : Nat) (x : α), ixN ys.length i = some j ∧ xs[j]? = some x ∧ ys[j]? = some y ∧ atI xs i = some x := by
  unfold atI at e
  cases hk : ixN ys.length i with
  | none => rw [hk] at e; cases e
  | some j =>
    rw [hk] at e
    have hy : ys[j]? = some y := e
    have hj : j < xs.length := by rw [h]; exact (List.getElem?_eq_some_iff.mp hy).1
    refine ⟨j, xs[j], rfl, List.getElem?_eq_getElem hj, hy, ?_⟩
    unfold atI
    rw [h, hk]
    exact List.getElem?_eq_getElem hj
/-- an item of an owned list, a value of an owned dict -/
def ixGet (t : T) (k : Option T) : Option T := match t, k with
  | .lst true xs, some (.int i) => atI xs i
  | .dic true kvs, some k => (match k.key with | some k => tget kvs k | none => none)
  | _, _ => none
def ixPut (t : T) (k : Option T) (u : T) : Option T := match t, k with
  | .lst true xs, some (.int i) => (match ixN xs.length i with | some j => some (.lst true (xs.set j u)) | none => none)
  | .dic true kvs, some k => (match k.key with | some k => some (.dic true (tput kvs k u)) | none => none)
  | _, _ => none
def pIx (get xi : Env → Option T) : Env → Option T := fun env => match get env with | some t => ixGet t (xi env) | none => none
def pIxPut (get xi : Env → Option T) (put : T → Env → Option Env) : T → Env → Option Env := fun u env => match get env with | some t => (match ixPut t (xi env) u with | some t' => put t' env | none => none) | none => none
theorem pl_ix (hu : X.A.units + 1 < cLine) (h : PL X a ta get put) (hi : KE X i ti xi) (hs : PlainIx i := by exact fun _ _ => rfl) : PL X (.Subscript a i pos) (teOr (tOp (rIx X.K) ta ti) (tDGet ta ti)) (pIx get xi) (pIxPut get xi put) :=
  ⟨PE.or (pe_ix ix_seq h.pe hi.pe hs) (pe_dget hu h.pe hi.pe hs), fun env t e H1 H σ F s R Q q => by
    unfold pIx at e
    cases e1 : get env with
    | none => rw [e1] at e; cases e
    | some tb =>
      rw [e1] at e
      simp only at e
      unfold ixGet at e
      split at e
      · rename_i xs k e2
        refine .inl (h.pr _ _ e1 _ _ _ _ s R _ fun v Ha Hb G x1 R1 r1 hG foc => hi.kr _ _ e2 _ _ _ _ x1.sub R1 _ fun w Hc Hd G' x2 r2 => ?_)
        have kb : ∀ b, F b → Hd b = Hb b ∧ Hc b = none := fun b z => (x2.apart R1.own fun _ _ z => z).1 b z
        cases r1 with
        | sh r => cases r
        | lst h1 h2 h3 h4 =>
          rename_i p vs F1
          have h5 := (x2.reps h3 fun _ _ z => z).1
          obtain ⟨j, w0, hk, g1, g2, g3⟩ := atI_ix h5.len e
          obtain ⟨w1, G1, f1, f2, f3, f4⟩ := h5.focus g2
          rw [g1] at f1; cases f1
          refine .inl ⟨p, vs, k, w0, rfl, r2.intE, .inl (.inl ((kb p (hG p (.inl rfl))).1.trans h1)), g3, q w0 Hc Hd G1 (x1.trans x2) (x2.qRepE R1) f2 (fun b z => hG b (.inr (f3 b z))) fun t' env' ep H2 H2' G2 s2 kk r hg => ?_⟩
          unfold pIxPut ixPut at ep
          simp only [e1, e2, hk] at ep
          have kp := kk p (hG p (.inl rfl)) fun z => h4 (f3 p z)
          obtain ⟨F', R3, hF⟩ := f4 H2 H2' w0 t' G2 s2 (fun b z1 z2 => kk b (hG b (.inr z1)) z2) r fun b z w => hg b z (hG b (.inr w))
          have ev : vs.set j w0 = vs := by
            apply List.ext_getElem?
            intro m
            by_cases hm : m = j
            · subst hm; rw [List.getElem?_set_self ((List.getElem?_eq_some_iff.mp g1).1), g1]
            · rw [List.getElem?_set_ne (fun z => hm z.symm)]
          rw [ev] at R3
          have np : ¬ F' p := fun z => (hF p z).elim (fun z => h4 z.1) fun z => h4 (f3 p (hg p z (hG p (.inl rfl))))
          have r3 : Rep X.K X.mg H2 H2' (.ref p) (.lst true (xs.set j t')) (fun b => b = p ∨ F' b) := .lst (kp.1.trans ((kb p (hG p (.inl rfl))).1.trans h1)) kp.2 R3 np
          obtain ⟨F'', R4, hF2⟩ := foc _ _ ep H2 H2' _ (x2.s1.trans s2) (fun b z1 z2 => let ⟨u1, u2⟩ := kk b z1 fun w => z2 (.inr (f3 b w)); ⟨u1.trans (kb b z1).1, u2⟩) r3 fun b z w => z.elim (fun z => .inl z) fun z => (hF b z).elim (fun z => .inr z.1) fun z => .inr (f3 b (hg b z w))
          exact ⟨F'', R4, fun b z => (hF2 b z).elim (fun z => .inl ⟨z.1, fun w => z.2 (.inr (f3 b w))⟩) fun z => z.elim (fun z => .inl (by rw [z]; exact ⟨hG p (.inl rfl), fun w => h4 (f3 p w)⟩)) fun z => (hF b z).elim (fun z => .inl ⟨hG b (.inr z.1), z.2⟩) .inr⟩
      · rename_i kvs kt e2
        split at e
        · rename_i k ek
          refine .inr (h.pr _ _ e1 _ _ _ _ s R _ fun v Ha Hb G x1 R1 r1 hG foc => hi.kr _ _ e2 _ _ _ _ x1.sub R1 _ fun w Hc Hd G' x2 r2 => ?_)
          have kb : ∀ b, F b → Hd b = Hb b ∧ Hc b = none := fun b z => (x2.apart R1.own fun _ _ z => z).1 b z
          cases r1 with
          | sh r => cases r
          | dic h1 h2 hn h3 h4 =>
            rename_i p vs F1
            have h5 : RepA X.K X.mg Hc Hd vs kvs F1 := h3.frame x2.s1 fun b z => kb b (hG b (.inr z))
            obtain ⟨w1, G1, f1, f2, f3, f4⟩ := h5.focus e
            have hp : Hd p = some (.dK vs) := (kb p (hG p (.inl rfl))).1.trans h1
            refine ⟨p, w1, rfl, by rw [r2.keyE ek, ← f1]; exact DGet.k hp, q w1 Hc Hd G1 (x1.trans x2) (x2.qRepE R1) f2 (fun b z => hG b (.inr (f3 b z))) fun t' env' ep H2 H2' G2 s2 kk r hg => ?_⟩
            unfold pIxPut ixPut at ep
            simp only [e1, e2, ek] at ep
            have kp := kk p (hG p (.inl rfl)) fun z => h4 (f3 p z)
            obtain ⟨F', R3, hF⟩ := f4 H2 H2' t' G2 s2 (fun b z1 z2 => kk b (hG b (.inr z1)) z2) r fun b z w => hg b z (hG b (.inr w))
            have np : ¬ F' p := fun z => (hF p z).elim (fun z => h4 z.1) fun z => h4 (f3 p (hg p z (hG p (.inl rfl))))
            have r3 : Rep X.K X.mg H2 H2' (.ref p) (.dic true (tput kvs k t')) (fun b => b = p ∨ F' b) := .dic (kp.1.trans hp) kp.2 hn R3 np
            obtain ⟨F'', R4, hF2⟩ := foc _ _ ep H2 H2' _ (x2.s1.trans s2) (fun b z1 z2 => let ⟨u1, u2⟩ := kk b z1 fun w => z2 (.inr (f3 b w)); ⟨u1.trans (kb b z1).1, u2⟩) r3 fun b z w => z.elim (fun z => .inl z) fun z => (hF b z).elim (fun z => .inr z.1) fun z => .inr (f3 b (hg b z w))
            exact ⟨F'', R4, fun b z => (hF2 b z).elim (fun z => .inl ⟨z.1, fun w => z.2 (.inr (f3 b w))⟩) fun z => z.elim (fun z => .inl (by rw [z]; exact ⟨hG p (.inl rfl), fun w => h4 (f3 p w)⟩)) fun z => (hF b z).elim (fun z => .inl ⟨hG b (.inr z.1), z.2⟩) .inr⟩
        · cases e
      · cases e⟩

/-- what a method's call o.name(e) needs of its text -/
structure BM1 (X : Cx) (o : Expr) (name : Str) (e : Expr) (apos cpos : Pos) : Prop where
  base : attributeBase o name X.env (eval o X.env) = eval o X.env
  few : ((backTo cpos (starEach [e] X.env)).all (fun x => !x.1) && (backToKw cpos (keywordEach [] X.env)).all (fun x => x.1.isSome) && decide ([e].length + ([] : List Keyword).length + (if ([] : List Keyword).isEmpty then 0 else 1) < 30)) = true
  line : (apos.endLine == cpos.line) = true
  star : starEach [e] X.env = (false, eval e X.env) :: starEach [] X.env
  plain : (backTo cpos (starEach [] X.env)).any (·.1) = false
structure BM0 (X : Cx) (o : Expr) (name : Str) (apos cpos : Pos) : Prop where
  base : attributeBase o name X.env (eval o X.env) = eval o X.env
  line : (apos.endLine == cpos.line) = true
/-! ### append -/
def eAppend (get : Env → Option T) (put : T → Env → Option Env) (x : Env → Option T) : Env → Option (T × Env) := fun env => match get env with
  | some (.lst true xs) => (match x env with
    | some t => if xs.length < maxLen then (match put (.lst true (xs ++ [t])) env with | some env' => some (.non, env') | none => none) else none
    | none => none)
  | _ => none
theorem ee_append (h : PL X a ta get put) (ha : QE X b tb xb) (m : BM1 X a "append" b apos pos := by exact ⟨rfl, rfl, rfl, rfl, rfl⟩) :
    EE X (.Call (.Attribute a "append" apos) [b] [] pos) (tBM X.K "list" rAppend ta (tCons tb tNil)) (eAppend get put xb) :=
  ⟨pe_bm PySem.F.plainAttrs_list PySem.F.slot_list_append PySem.F.type_list_append mt_append h.pe (pa_cons ha.pe pa_nil m.star) m.base m.few m.line m.star m.plain, fun env t env' e H1 H σ F s R Q q => by
    unfold eAppend at e
    split at e
    · rename_i xs e1
      split at e
      · rename_i u e2
        split at e
        · rename_i hz
          split at e
          · rename_i env2 ep
            cases e
            refine h.pr _ _ e1 _ _ _ _ s R _ fun v Ha Hb G x1 R1 r1 hG foc => ?_
            cases r1 with
            | sh r => cases r
            | lst h1 h2 h3 h4 =>
              rename_i p vs F1
              refine ⟨.inl ⟨rfl, vs, .inl (.inl h1)⟩, ha.qr _ _ e2 _ _ _ _ x1.sub R1 _ fun w Hc Hd Ft x2 r2 => ?_⟩
              have kb : ∀ b, F b → Hd b = Hb b ∧ Hc b = none := fun b z => (x2.apart R1.own fun _ _ z => z).1 b z
              have dj : ∀ b, F b → ¬ Ft b := fun b z => (x2.apart R1.own fun _ _ z => z).2 b z
              have hp := kb p (hG p (.inl rfl))
              have h5 := (x2.reps h3 fun _ _ z => z).1
              obtain ⟨F2, h6, h7⟩ := h5.snoc r2 fun b z => dj b (hG b (.inr z))
              have np : ¬ F2 p := fun z => ((h7 p).mp z).elim h4 (dj p (hG p (.inl rfl)))
              have r3 := rep_relist (H := Hd) hp.2 h6 np
              obtain ⟨F', R4, hF⟩ := foc _ _ ep Hc (upd Hd p (.lst (vs ++ [w]))) _ x2.s1 (fun b z1 z2 => ⟨(upd_ne fun z => z2 (.inl z)).trans (kb b z1).1, (kb b z1).2⟩) r3 fun b z w => z.elim .inl fun z => ((h7 b).mp z).elim .inr fun z => absurd z (dj b w)
              refine ⟨p, vs, w, rfl, rfl, hp.1.trans h1, by rw [h5.len, maxLen_eq]; exact hz, q .non Hc _ F' F0 ⟨x1.s1.trans x2.s1, ?_, ?_, ?_, ?_⟩ R4 (.sh .non) fun _ _ z => z⟩
              · exact (Ext.wr x2.sub hp.2 (F := F) (hG p (.inl rfl))).sub
              · intro b o z n
                rw [upd_ne fun w => n (by rw [w]; exact hG p (.inl rfl))]
                exact x2.keep b o (x1.keep b o z fun z => z) fun z => z
              · intro b z
                rcases z with z | z
                · rcases hF b z with z | z
                  · exact .inl z.1
                  · rcases z with z | z
                    · rw [z]; exact .inl (hG p (.inl rfl))
                    · rcases (h7 b).mp z with z | z
                      · exact .inl (hG b (.inr z))
                      · rcases x2.foot b z with z | z
                        · exact z.elim
                        · refine .inr ?_
                          rcases none_or H b with z' | ⟨o, z'⟩
                          · exact z'
                          · rw [x1.keep b o z' fun z => z] at z; cases z
                · exact z.elim
              · intro b o z
                rcases (x1.trans x2).new1 b o z with z | z | z
                · exact .inl z
                · exact z.elim
                · exact .inr (.inr z)
          · cases e
        · cases e
      · cases e
    · cases e⟩
end
end GK

/-! GK11: targets, statements. -/
namespace GK
open PySem L2

section
variable {K : PySem.W.Frag} {mg : Str → Option Value} {P : Nat → Bool}
theorem back_none {H1 H H1' H' : Hp} {F F' : FP} (x : Ext H1 H F H1' H' F') {b : Addr} (e : H' b = none) : H b = none ∨ F b := by
  by_cases q : F b
  · exact .inr q
  · rcases none_or H b with h | ⟨o, h⟩
    · exact .inl h
    · rw [x.keep b o h q] at e; cases e
theorem Ext.more0 {H1 H H1' H' : Hp} {F F' G : FP} (x : Ext H1 H F H1' H' F') (h : ∀ b, F b → G b) : Ext H1 H G H1' H' F' := x.more h
/-- a slot is stored to -/
def gSet (i : Nat) : T → Env → Option Env := fun t env => if i < env.length then some (env.set i (some t)) else none
theorem gr_name {i : Nat} (hp : P i = false) : GR K mg P (gName i) (gSet i) := fun t env env' e H1 H σ F v Fv s R r d Q q => by
  unfold gSet at e
  split at e
  · rename_i hi
    cases e
    obtain ⟨G, R1, hG⟩ := R.weak i
    obtain ⟨F', R2, hF⟩ := R1.put (i := i) (v := v) (t := t) (by rw [List.length_set]; exact hi) r fun b z w => d b (hG b w) z
    rw [List.set_set] at R2
    refine q _ H1 H F' ((Ext.refl s).less fun b z => (hF b z).elim .inr fun z => .inl (hG b z)) R2 fun j hj => ?_
    rw [List.getElem?_set_ne]
    rintro rfl
    rw [hp] at hj; cases hj
  · cases e
/-- a tuple is unpacked -/
def gUn (f : List T → Env → Option Env) : T → Env → Option Env := fun t env => match t with | .tup xs => f xs env | _ => none
def GsR (P : Nat → Bool) (K : PySem.W.Frag) (mg : Str → Option Value) (n : Nat) (g : TGs) (f : List T → Env → Option Env) : Prop := ∀ ts env env', f ts env = some env' → ts.length = n ∧ ∀ H1 H σ F vs, Same H1 H → RepE K mg H1 H σ env F → Fzs K mg H1 vs ts → ∀ Q : L2.St → Hp → Prop,
  (∀ σ' H1' H' F', Ext H1 H F H1' H' F' → RepE K mg H1' H' σ' env' F' → (∀ i, P i = true → σ'[i]? = σ[i]?) → Q σ' H') → g vs σ H Q
def gNilC : List T → Env → Option Env := fun ts env => match ts with | [] => some env | _ => none
def gConsC (f : T → Env → Option Env) (g : List T → Env → Option Env) : List T → Env → Option Env := fun ts env => match ts with | t :: r => (match f t env with | some env1 => g r env1 | none => none) | [] => none
theorem gs_nil : GsR P K mg 0 gNil gNilC := fun ts env env' e => by
  unfold gNilC at e
  split at e
  · cases e
    refine ⟨rfl, fun H1 H σ F vs s R f Q q => ?_⟩
    cases f
    exact ⟨rfl, q σ H1 H F (Ext.refl s) R fun _ _ => rfl⟩
  · cases e
theorem gs_cons {t : TG} {u : TGs} {f : T → Env → Option Env} {g : List T → Env → Option Env} {n : Nat} (h : GR K mg P t f) (h' : GsR P K mg n u g) : GsR P K mg (n + 1) (gCons t u) (gConsC f g) := fun ts env env' e => by
  unfold gConsC at e
  split at e
  · rename_i t0 r
    split at e
    · rename_i env1 e1
      obtain ⟨hl, hg⟩ := h' _ _ _ e
      refine ⟨by rw [List.length_cons, hl], fun H1 H σ F vs s R f Q q => ?_⟩
      cases f with
      | cons f1 f2 =>
        refine ⟨_, _, rfl, h _ _ _ e1 _ _ _ _ _ _ s R (.sh f1) (fun _ _ z => z) _ fun σ' H1' H' F' x R' pn => ?_⟩
        refine hg _ _ _ _ _ x.sub R' (f2.mono x.s1) _ fun σ'' H1'' H'' F'' x' R'' pn' => ?_
        exact q σ'' H1'' H'' F'' ((x.trans x').more0 fun b (z : _ ∨ _) => z.elim id fun z => z.elim) R'' fun i hi => (pn' i hi).trans (pn i hi)
    · cases e
  · cases e
theorem gr_tup {n : Nat} {t : TGs} {f : List T → Env → Option Env} (h : GsR P K mg n t f) : GR K mg P (gTup K n t) (gUn f) := fun u env env' e H1 H σ F v Fv s R r d Q q => by
  unfold gUn at e
  split at e
  · rename_i xs
    obtain ⟨hl, hg⟩ := h _ _ _ e
    obtain ⟨a, vs, rfl, h2, h3⟩ := r.tuple s
    exact ⟨a, vs, rfl, h2, by rw [h3.len, hl], hg _ _ _ _ _ s R h3 Q fun σ' H1' H' F' x R' pn => q σ' H1' H' F' (x.more fun b z => .inl z) R' pn⟩
  · cases e
theorem RepF.put : ∀ {vs : List (Str × V)} {ts : List (String × T)} {H1 H : Hp} {F G : FP} {k : String} {v : V} {t : T}, RepF K mg H1 H vs ts F → Rep K mg H1 H v t G → (∀ b, F b → ¬ G b) → ∃ F', RepF K mg H1 H (putF (Str.ofString k) v vs) (fput ts k t) F' ∧ ∀ b, F' b → F b ∨ G b
  | _, _, _, _, _, G, k, v, t, .nil, r, d => ⟨_, .cons r .nil fun _ _ z => z, fun b z => z.elim .inr fun z => z.elim⟩
  | _, _, _, _, _, G, k, v, t, .cons (k := k') (F := F1) (G := F2) a s e, r, d => by
    by_cases h : k' = k
    · subst h
      have e1 : putF (Str.ofString k') v ((Str.ofString k', ‹V›) :: ‹List (Str × V)›) = (Str.ofString k', v) :: ‹List (Str × V)› := by unfold putF; rw [if_pos rfl]
      rw [e1]
      simp only [fput, if_true]
      exact ⟨_, .cons r s fun b z w => d b (.inr w) z, fun b z => z.elim .inr fun z => .inl (.inr z)⟩
    · have h2 : ¬ Str.ofString k' = Str.ofString k := fun q => h (ofString_inj q)
      have e1 : ∀ (u : V) (l : List (Str × V)), putF (Str.ofString k) v ((Str.ofString k', u) :: l) = (Str.ofString k', u) :: putF (Str.ofString k) v l := fun u l => by
        show (if Str.ofString k' = Str.ofString k then _ else _) = _
        rw [if_neg h2]
      rw [e1]
      simp only [fput, if_neg h]
      obtain ⟨F', h3, h4⟩ := RepF.put s r fun b z => d b (.inr z)
      exact ⟨_, .cons a h3 fun b z w => (h4 b w).elim (e b z) (d b (.inl z)), fun b z => z.elim (fun z => .inl (.inl z)) fun z => (h4 b z).imp .inr id⟩
theorem RepF.len : ∀ {vs : List (Str × V)} {ts : List (String × T)} {H1 H : Hp} {F : FP}, RepF K mg H1 H vs ts F → vs.length = ts.length
  | _, _, _, _, _, .nil => rfl
  | _, _, _, _, _, .cons _ r _ => by rw [List.length_cons, List.length_cons, RepF.len r]
end
section
variable {X : Cx} {P : Nat → Bool} {a b e i : Expr} {te ta tb tv ti : TE} {x xa xb xi xv : Env → Option T} {y : Env → Option (T × Env)} {get : Env → Option T} {put : T → Env → Option Env} {pos apos : Pos} {AF : List (String × List String)}
/-- o.f = v, as a target -/
def gFld (K : PySem.W.Frag) (ta : TE) (f : Str) : TG := fun v σ H Q => ta σ H fun x H1 => ∃ a C dx fs, x = .ref a ∧ H1 a = some (.ins C dx fs) ∧ Cls K C ∧ NoAttr K C f ∧ fs.length < 1000 ∧ Q σ (upd H1 a (.ins C dx (putF f v fs)))
theorem pg_attr {f : Str} (ha : PE X a ta) (hs : ∀ v, assign (.Attribute a f pos) X.env v = (do
    let ov ← holding [v] (eval a X.env)
    standAt pos.atName
    holding [v, ov] (setAttr ov f v)
    release [v, ov] []) := by intro _; rfl) : PG X (.Attribute a f pos) (gFld X.K ta f) := by
  refine ⟨fun pins s σ H v u Q I r h => ?_⟩
  rw [hs]
  refine wpAny_bind (wpAny_holding (thn (ha.run pins s σ H _ I h) fun ov s1 ⟨x, H1, I1, r1, o, C, dx, fs, e1, e2, e3, e4, e5, q1⟩ => wpAny_bind (wpAny_standAt ?_)))
  subst e1
  obtain rfl : ov = Value.ref o := r1
  exact wpAny_bind (wpAny_holding (setattr_ok I1 e2 e3 e4 e5 r fun s3 I3 => wpAny_release ⟨σ, _, I3, q1⟩))
def gAttr (AF : List (String × List String)) (f : String) (get : Env → Option T) (put : T → Env → Option Env) : T → Env → Option Env := fun t env => match get env with
  | some (.obj true c fs) => if afHas AF c f && decide (fs.length < 1000) then put (.obj true c (fput fs f t)) env else none
  | _ => none
theorem ge_attr {f : String} (hc : Cls' X.K X.mg AF) (h : PL X a ta get put) (hs : ∀ v, assign (.Attribute a (Str.ofString f) pos) X.env v = (do
    let ov ← holding [v] (eval a X.env)
    standAt pos.atName
    holding [v, ov] (setAttr ov (Str.ofString f) v)
    release [v, ov] []) := by intro _; rfl) : GE X P (.Attribute a (Str.ofString f) pos) (gFld X.K ta (Str.ofString f)) (gAttr AF f get put) := ⟨pg_attr h.pe hs, fun t env env' e H1 H σ F v Fv s R r d Q q => by
  unfold gAttr at e
  split at e
  · rename_i c fs e1
    split at e
    · rename_i hk
      rw [Bool.and_eq_true, decide_eq_true_eq] at hk
      refine h.pr _ _ e1 _ _ _ _ s R _ fun w Ha Hb G x1 R1 r1 hG foc => ?_
      cases r1 with
      | sh r => cases r
      | obj h1 h2 h3 h4 h5 =>
        rename_i p C dx vs F1
        obtain ⟨c1, c2⟩ := hc.get hk.1 h3
        have r' := (x1.rep r fun _ _ z => z).1
        obtain ⟨F2, h6, h7⟩ := h4.put (k := f) r' fun b z => d b (hG b (.inr z))
        have np : ¬ F2 p := fun z => (h7 p z).elim h5 (d p (hG p (.inl rfl)))
        have r3 : Rep X.K X.mg Ha (upd Hb p (.ins C dx (putF (Str.ofString f) v vs))) (.ref p) (.obj true c (fput fs f t)) (fun b => b = p ∨ F2 b) :=
          .obj upd_same h2 h3 (h6.frame (Same.refl _) fun b z => ⟨upd_ne fun w => np (w ▸ z), (h6.own b z).1⟩) np
        obtain ⟨F', R4, hF⟩ := foc _ _ e Ha _ _ (Same.refl _) (fun b z1 z2 => ⟨upd_ne fun z => z2 (.inl z), (R1.own b z1).1⟩) r3 fun b z w => z.elim .inl fun z => (h7 b z).elim .inr fun z => absurd z (d b w)
        refine ⟨p, C, dx, vs, rfl, h1, c1, c2, by rw [h4.len]; exact hk.2, q σ Ha _ F' ⟨x1.s1, ?_, ?_, ?_, ?_⟩ R4 fun _ _ => rfl⟩
        · exact (Ext.wr x1.sub h2 (F := F) (hG p (.inl rfl))).sub
        · intro b o z n
          rw [upd_ne fun w => n (by rw [w]; exact .inl (hG p (.inl rfl)))]
          exact x1.keep b o z fun z => z
        · intro b z
          rcases hF b z with z | z
          · exact .inl (.inl z.1)
          · rcases z with z | z
            · rw [z]; exact .inl (.inl (hG p (.inl rfl)))
            · exact .inl ((h7 b z).imp (fun z => hG b (.inr z)) id)
        · intro b o z
          rcases x1.new1 b o z with z | z | z
          · exact .inl z
          · exact z.elim
          · exact .inr (.inr z)
    · cases e
  · cases e⟩
theorem ge_name {i : Nat} {y : Str} (h : PG X (.Name y pos) (gName i)) (hp : P i = false) : GE X P (.Name y pos) (gName i) (gSet i) := ⟨h, gr_name hp⟩
structure GsE (X : Cx) (P : Nat → Bool) (n : Nat) (es : List Expr) (g : TGs) (f : List T → Env → Option Env) : Prop where
  pg : PGs X es g
  gr : GsR P X.K X.mg n g f
theorem gse_nil : GsE X P 0 [] gNil gNilC := ⟨pgs_nil, gs_nil⟩
theorem gse_cons {es : List Expr} {t : TG} {u : TGs} {f : T → Env → Option Env} {g : List T → Env → Option Env} {n : Nat} (h : GE X P e t f) (h' : GsE X P n es u g) (ha : (assignEach (e :: es) X.env).map (·.2) = assign e X.env :: (assignEach es X.env).map (·.2) := by rfl) :
    GsE X P (n + 1) (e :: es) (gCons t u) (gConsC f g) := ⟨pgs_cons h.pg h'.pg ha, gs_cons h.gr h'.gr⟩
theorem ge_tup {es : List Expr} {u : TGs} {g : List T → Env → Option Env} {n k : Nat} (hc : X.calm = true) (h : GsE X P n es u g) (h1 : (assignEach es X.env).length = n := by rfl) (h2 : (assignEach es X.env).findIdx? (·.1) = none := by rfl) :
    GE X P (.Tuple es k pos) (gTup X.K n u) (gUn g) := ⟨pg_tup hc h.pg h1 h2, gr_tup h.gr⟩
end
end GK

/-! GK12: stores to items; pop; statements. -/
namespace GK
open PySem L2
section
variable {X : Cx} {P : Nat → Bool} {a b e i : Expr} {te ta tb tv ti : TE} {x xa xb xi xv : Env → Option T} {y : Env → Option (T × Env)} {get : Env → Option T} {put : T → Env → Option Env} {pos apos : Pos} {AF : List (String × List String)}
def ixStore (t : T) (k : Option T) (u : T) : Option T := match t, k with
  | .lst true xs, some (.int i) => (match ixN xs.length i with | some j => some (.lst true (xs.set j u)) | none => none)
  | .dic true kvs, some k => (match k.key with | some k => if kvs.length < maxLen then some (.dic true (tput kvs k u)) else none | none => none)
  | _, _ => none
def gIx (get xi : Env → Option T) (put : T → Env → Option Env) : T → Env → Option Env := fun u env => match get env with | some t => (match ixStore t (xi env) u with | some t' => put t' env | none => none) | none => none
def rSetU : TSet := fun o i v H Q => rSetL o i v H Q ∨ rSetD o i v H Q
theorem set_U (hu : X.A.units + 1 < cLine) : PSet X rSetU := fun pins s σ H o i v ov iv u Q I ro ri rv h => h.elim (set_list pins s σ H o i v ov iv u Q I ro ri rv) (set_dict hu pins s σ H o i v ov iv u Q I ro ri rv)
theorem ge_ix (hu : X.A.units + 1 < cLine) (h : PL X a ta get put) (hi : KE X i ti xi) (hs : ∀ v, assign (.Subscript a i pos) X.env v = (do
    let ov ← holding [v] (eval a X.env)
    let iv ← holding [v, ov] (eval i X.env)
    standAt pos
    holding [v, ov, iv] (setItem ov iv v)
    release [v, ov, iv] []) := by intro _; rfl) : GE X P (.Subscript a i pos) (gSub ta ti rSetU) (gIx get xi put) := ⟨pg_sub h.pe hi.pe (set_U hu) hs, fun t env env' e H1 H σ F v Fv s R r d Q q => by
  unfold gIx at e
  cases e1 : get env with
  | none => rw [e1] at e; cases e
  | some t0 =>
    rw [e1] at e
    simp only at e
    cases e3 : ixStore t0 (xi env) t with
    | none => rw [e3] at e; cases e
    | some t1 =>
      rw [e3] at e
      simp only at e
      unfold ixStore at e3
      split at e3
      · rename_i xs k e2
        split at e3
        · rename_i j hk
          cases e3
          refine h.pr _ _ e1 _ _ _ _ s R _ fun w Ha Hb G x1 R1 r1 hG foc => hi.kr _ _ e2 _ _ _ _ x1.sub R1 _ fun w2 Hc Hd G2 x2 r2 => ?_
          have kb : ∀ b, F b → Hd b = Hb b ∧ Hc b = none := fun b z => (x2.apart R1.own fun _ _ z => z).1 b z
          have r' := (x2.rep (x1.rep r fun _ _ z => z).1 fun _ _ z => z).1
          cases r1 with
          | sh r => cases r
          | lst h1 h2 h3 h4 =>
            rename_i p vs F1
            have hp := kb p (hG p (.inl rfl))
            have h5 := (x2.reps h3 fun _ _ z => z).1
            have hj : j < xs.length := (ixN_seq hk).2.1
            obtain ⟨w0, G0, f1, f2, f3, f4⟩ := h5.focus (List.getElem?_eq_getElem hj)
            obtain ⟨F2, h6, h7⟩ := f4 Hc Hd v t Fv (Same.refl _) (fun b z _ => ⟨rfl, (h5.own b z).1⟩) r' fun b z w => absurd z (d b (hG b (.inr w)))
            have np : ¬ F2 p := fun z => (h7 p z).elim (fun z => h4 z.1) (d p (hG p (.inl rfl)))
            have r3 := rep_relist (H := Hd) hp.2 h6 np
            obtain ⟨F', R4, hF⟩ := foc _ _ e Hc (upd Hd p (.lst (vs.set j v))) _ x2.s1 (fun b z1 z2 => ⟨(upd_ne fun z => z2 (.inl z)).trans (kb b z1).1, (kb b z1).2⟩) r3 fun b z w => z.elim .inl fun z => (h7 b z).elim (fun z => .inr z.1) fun z => absurd z (d b w)
            refine .inl ⟨p, vs, k, j, rfl, r2.intE, hp.1.trans h1, by rw [h5.len]; exact hk, q σ Hc _ F' ⟨x1.s1.trans x2.s1, (Ext.wr x2.sub hp.2 (F := F) (hG p (.inl rfl))).sub, fun b o z n => ?_, fun b z => ?_, fun b o z => ?_⟩ R4 fun _ _ => rfl⟩
            · rw [upd_ne fun w => n (by rw [w]; exact .inl (hG p (.inl rfl)))]
              exact (x1.trans x2).keep b o z fun z => z
            · rcases hF b z with z | z
              · exact .inl (.inl z.1)
              · rcases z with z | z
                · rw [z]; exact .inl (.inl (hG p (.inl rfl)))
                · exact .inl ((h7 b z).imp (fun z => hG b (.inr z.1)) id)
            · rcases (x1.trans x2).new1 b o z with z | z | z
              · exact .inl z
              · exact z.elim
              · exact .inr (.inr z)
        · cases e3
      · rename_i kvs kt e2
        split at e3
        · rename_i k ek
          split at e3
          · rename_i hz
            cases e3
            refine h.pr _ _ e1 _ _ _ _ s R _ fun w Ha Hb G x1 R1 r1 hG foc => hi.kr _ _ e2 _ _ _ _ x1.sub R1 _ fun w2 Hc Hd G2 x2 r2 => ?_
            have kb : ∀ b, F b → Hd b = Hb b ∧ Hc b = none := fun b z => (x2.apart R1.own fun _ _ z => z).1 b z
            have r' := (x2.rep (x1.rep r fun _ _ z => z).1 fun _ _ z => z).1
            cases r1 with
            | sh r => cases r
            | dic h1 h2 hn h3 h4 =>
              rename_i p vs F1
              have hp := kb p (hG p (.inl rfl))
              have h5 : RepA X.K X.mg Hc Hd vs kvs F1 := h3.frame x2.s1 fun b z => kb b (hG b (.inr z))
              obtain ⟨F2, h6, h7⟩ := h5.put (k := k) r' fun b z => d b (hG b (.inr z))
              have np : ¬ F2 p := fun z => (h7 p z).elim h4 (d p (hG p (.inl rfl)))
              have r3 := rep_redict (H := Hd) hp.2 (vput_nodup hn).1 h6 np
              obtain ⟨F', R4, hF⟩ := foc _ _ e Hc (upd Hd p (.dK (vput vs k v))) _ x2.s1 (fun b z1 z2 => ⟨(upd_ne fun z => z2 (.inl z)).trans (kb b z1).1, (kb b z1).2⟩) r3 fun b z w => z.elim .inl fun z => (h7 b z).elim .inr fun z => absurd z (d b w)
              refine .inr ⟨p, _, rfl, by rw [r2.keyE ek]; exact DPut.k (hp.1.trans h1) (by rw [RepA.len h5, maxLen_eq]; exact hz), ?_⟩
              rw [vput_eq hn]
              refine q σ Hc _ F' ⟨x1.s1.trans x2.s1, (Ext.wr x2.sub hp.2 (F := F) (hG p (.inl rfl))).sub, fun b o z n => ?_, fun b z => ?_, fun b o z => ?_⟩ R4 fun _ _ => rfl
              · rw [upd_ne fun w => n (by rw [w]; exact .inl (hG p (.inl rfl)))]
                exact (x1.trans x2).keep b o z fun z => z
              · rcases hF b z with z | z
                · exact .inl (.inl z.1)
                · rcases z with z | z
                  · rw [z]; exact .inl (.inl (hG p (.inl rfl)))
                  · exact .inl ((h7 b z).imp (fun z => hG b (.inr z)) id)
              · rcases (x1.trans x2).new1 b o z with z | z | z
                · exact .inl z
                · exact z.elim
                · exact .inr (.inr z)
          · cases e3
        · cases e3
      · cases e3⟩

/-! ### pop -/
def popAt (xs : List T) (k : Nat) (put : T → Env → Option Env) (env : Env) : Option (T × Env) := match xs[k]? with
  | some t => (match put (.lst true (xs.eraseIdx k)) env with | some env' => some (t, env') | none => none)
  | none => none
def ePop (get : Env → Option T) (put : T → Env → Option Env) : Env → Option (T × Env) := fun env => match get env with
  | some (.lst true xs) => popAt xs (xs.length - 1) put env
  | _ => none
def ePopAt (get : Env → Option T) (put : T → Env → Option Env) (x : Env → Option T) : Env → Option (T × Env) := fun env => match get env with
  | some (.lst true xs) => (match x env with
    | some (.int i) => if decide (-(2 ^ 63) ≤ i) && decide (i < 2 ^ 63) then (match seqIndex? i xs.length with | some k => popAt xs k put env | none => none) else none
    | _ => none)
  | _ => none
theorem pop_core {K : PySem.W.Frag} {mg : Str → Option Value} {env env2 : Env} {xs : List T} {u : T} {k : Nat} {σ : L2.St} {H1 H Hc Hd : Hp} {F F1 : FP} {p : Addr} {vs : List V} {Q : VK} {put : T → Env → Option Env}
    (x : Ext H1 H F0 Hc Hd F0) (R1 : RepE K mg Hc Hd σ env F) (hG : ∀ b, (b = p ∨ F1 b) → F b) (h1 : Hd p = some (.lst vs)) (h2 : Hc p = none) (h3 : Reps K mg Hc Hd vs xs F1) (h4 : ¬ F1 p)
    (foc : ∀ (t' : T) (env' : Env), put t' env = some env' → ∀ (H2 H2' : Hp) (G' : FP), Same Hc H2 → (∀ b, F b → ¬ (b = p ∨ F1 b) → H2' b = Hd b ∧ H2 b = none) → Rep K mg H2 H2' (.ref p) t' G' → (∀ b, G' b → F b → (b = p ∨ F1 b)) →
      ∃ F', RepE K mg H2 H2' σ env' F' ∧ ∀ b, F' b → (F b ∧ ¬ (b = p ∨ F1 b)) ∨ G' b)
    (e : popAt xs k put env = some (u, env2)) (q : ∀ v H1' H' F' Ft, Ext H1 H F H1' H' (fun b => F' b ∨ Ft b) → RepE K mg H1' H' σ env2 F' → Rep K mg H1' H' v u Ft → (∀ b, F' b → ¬ Ft b) → Q v H') :
    ∃ w, vs[k]? = some w ∧ Q w (upd Hd p (.lst (vs.eraseIdx k))) := by
  unfold popAt at e
  split at e
  · rename_i t hk
    split at e
    · rename_i env3 ep
      cases e
      obtain ⟨w, G, R, g1, g2, g3, g4, g5, g6⟩ := h3.erase hk
      have np : ¬ R p := fun z => h4 (g6 p z)
      have r3 := rep_relist (H := Hd) h2 g3 np
      obtain ⟨F', R4, hF⟩ := foc _ _ ep Hc (upd Hd p (.lst (vs.eraseIdx k))) _ (Same.refl _) (fun b z1 z2 => ⟨upd_ne fun z => z2 (.inl z), (R1.own b z1).1⟩) r3 fun b z w => z.imp id (g6 b)
      refine ⟨w, g1, q w Hc _ F' G ⟨x.s1, (Ext.wr x.sub h2 (F := F) (hG p (.inl rfl))).sub, fun b o z n => ?_, fun b z => ?_, fun b o z => ?_⟩ R4 (g2.frame (Same.refl _) fun b z => ⟨upd_ne fun w => h4 (by rw [← w]; exact g5 b z), (g2.own b z).1⟩) fun b z w => ?_⟩
      · rw [upd_ne fun w => n (by rw [w]; exact hG p (.inl rfl))]
        exact x.keep b o z fun z => z
      · rcases z with z | z
        · rcases hF b z with z | z
          · exact .inl z.1
          · exact .inl (hG b (z.imp id (g6 b)))
        · exact .inl (hG b (.inr (g5 b z)))
      · rcases x.new1 b o z with z | z | z
        · exact .inl z
        · exact z.elim
        · exact .inr (.inr z)
      · rcases hF b z with z | z
        · exact z.2 (.inr (g5 b w))
        · rcases z with z | z
          · exact h4 (by rw [← z]; exact g5 b w)
          · exact g4 b w z
    · cases e
  · cases e
theorem dropLast_erase {α : Type} (l : List α) : l.dropLast = l.eraseIdx (l.length - 1) := by
  rw [List.dropLast_eq_take]
  by_cases h : l = []
  · subst h; rfl
  · rw [List.eraseIdx_eq_take_drop_succ]
    have : 0 < l.length := List.length_pos_iff.mpr h
    rw [show l.length - 1 + 1 = l.length by omega, List.drop_length, List.append_nil]
theorem ee_pop (h : PL X a ta get put) (m : BM0 X a "pop" apos pos := by exact ⟨rfl, rfl⟩) : EE X (.Call (.Attribute a "pop" apos) [] [] pos) (tBM0 X.K "list" rPop ta) (ePop get put) :=
  ⟨pe_bm0 PySem.F.plainAttrs_list PySem.F.slot_list_pop PySem.F.type_list_pop mt_pop h.pe m.base m.line, fun env t env' e H1 H σ F s R Q q => by
    unfold ePop at e
    split at e
    · rename_i xs e1
      refine h.pr _ _ e1 _ _ _ _ s R _ fun v Ha Hb G x1 R1 r1 hG foc => ?_
      cases r1 with
      | sh r => cases r
      | lst h1 h2 h3 h4 =>
        rename_i p vs F1
        obtain ⟨w, g1, g2⟩ := pop_core x1 R1 hG h1 h2 h3 h4 foc e q
        exact ⟨.inl ⟨rfl, vs, .inl (.inl h1)⟩, p, vs, w, rfl, rfl, h1, by rw [h3.len]; exact g1, by rw [dropLast_erase, h3.len]; exact g2⟩
    · cases e⟩
theorem ee_popAt (h : PL X a ta get put) (hb : KE X b tb xb) (m : BM1 X a "pop" b apos pos := by exact ⟨rfl, rfl, rfl, rfl, rfl⟩) : EE X (.Call (.Attribute a "pop" apos) [b] [] pos) (tBM X.K "list" rPopAt ta (tCons tb tNil)) (ePopAt get put xb) :=
  ⟨pe_bm PySem.F.plainAttrs_list PySem.F.slot_list_pop PySem.F.type_list_pop mt_popAt h.pe (pa_cons hb.pe pa_nil m.star) m.base m.few m.line m.star m.plain, fun env t env' e H1 H σ F s R Q q => by
    unfold ePopAt at e
    split at e
    · rename_i xs e1
      split at e
      · rename_i i e2
        split at e
        · rename_i hz
          rw [Bool.and_eq_true, decide_eq_true_eq, decide_eq_true_eq] at hz
          split at e
          · rename_i k hk
            refine h.pr _ _ e1 _ _ _ _ s R _ fun v Ha Hb G x1 R1 r1 hG foc => ?_
            cases r1 with
            | sh r => cases r
            | lst h1 h2 h3 h4 =>
              rename_i p vs F1
              refine ⟨.inl ⟨rfl, vs, .inl (.inl h1)⟩, hb.kr _ _ e2 _ _ _ _ x1.sub R1 _ fun w2 Hc Hd G2 x2 r2 => ?_⟩
              have kb : ∀ b, F b → Hd b = Hb b ∧ Hc b = none := fun b z => (x2.apart R1.own fun _ _ z => z).1 b z
              have hp := kb p (hG p (.inl rfl))
              have h5 := (x2.reps h3 fun _ _ z => z).1
              obtain ⟨w, g1, g2⟩ := pop_core (x1.trans x2) (x2.qRepE R1) hG (hp.1.trans h1) hp.2 h5 h4 (fun t' env' ep H2 H2' G' s2 kk r hg => foc t' env' ep H2 H2' G' (x2.s1.trans s2) (fun b z1 z2 => ⟨(kk b z1 z2).1.trans (kb b z1).1, (kk b z1 z2).2⟩) r hg) e q
              exact ⟨p, vs, i, k, w, rfl, by rw [r2.intE], hp.1.trans h1, hz.1, hz.2, by rw [h5.len]; exact hk, g1, g2⟩
          · cases e
        · cases e
      · cases e
    · cases e⟩
end
end GK

/-! GK13: expressions with effects, statements. -/
namespace GK
open PySem L2
section
variable (K : PySem.W.Frag) (mg : Str → Option Value)
def EAR (ta : TA) (x : Env → Option (List T × Env)) : Prop := ∀ env ts env', x env = some (ts, env') → ∀ H1 H σ F, Same H1 H → RepE K mg H1 H σ env F → ∀ Q : List V → Hp → Prop,
  (∀ vs H1' H' F' Ft, Ext H1 H F H1' H' (fun b => F' b ∨ Ft b) → RepE K mg H1' H' σ env' F' → Reps K mg H1' H' vs ts Ft → (∀ b, F' b → ¬ Ft b) → Q vs H') → ta σ H Q
def ETR (tt : TT) (c : Env → Option (Bool × Env)) : Prop := ∀ env b env', c env = some (b, env') → ∀ H1 H σ F, Same H1 H → RepE K mg H1 H σ env F → ∀ Q : Bool → Hp → Prop,
  (∀ H1' H' F', Ext H1 H F H1' H' F' → RepE K mg H1' H' σ env' F' → Q b H') → tt σ H Q
end
structure EA (X : Cx) (es : List Expr) (ta : TA) (x : Env → Option (List T × Env)) : Prop where
  pa : PA X es ta
  er : EAR X.K X.mg ta x
structure ET (X : Cx) (e : Expr) (tt : TT) (c : Env → Option (Bool × Env)) : Prop where
  pt : PT X e tt
  tr : ETR X.K X.mg tt c
structure EW (X : Cx) (e : Expr) (tt : TT) (c : Env → Option (Bool × Env)) : Prop where
  pw : PW X e tt
  tr : ETR X.K X.mg tt c

section
variable {X : Cx} {P : Nat → Bool} {a b e i : Expr} {es rest : List Expr} {te ta tb tv ti : TE} {tl : TA} {tA tB' : TT} {c d : Env → Option Bool} {x xa xb xi xv : Env → Option T} {xs : Env → Option (List T)} {y ya yb : Env → Option (T × Env)} {ys : Env → Option (List T × Env)} {ec ed : Env → Option (Bool × Env)} {get : Env → Option T} {put : T → Env → Option Env} {pos apos p : Pos} {AF : List (String × List String)}
/-- a temporary behind more effects -/
theorem eff2 {H1 H Ha Hb Hc Hd : Hp} {F F1 G1 F2 G2 : FP} (x : Ext H1 H F Ha Hb (fun b => F1 b ∨ G1 b)) (y : Ext Ha Hb F1 Hc Hd (fun b => F2 b ∨ G2 b)) (ow : ∀ b, G1 b → Ha b = none ∧ ∃ o, Hb b = some o) (d : ∀ b, F1 b → ¬ G1 b) :
    Ext H1 H F Hc Hd (fun b => F2 b ∨ (G1 b ∨ G2 b)) ∧ (∀ b, G1 b → Hd b = Hb b ∧ Hc b = none) ∧ (∀ b, G1 b → ¬ (F2 b ∨ G2 b)) := by
  have ap := y.apart ow fun b z w => d b w z
  refine ⟨⟨x.s1.trans y.s1, y.sub, fun b o z n => y.keep b o (x.keep b o z n) fun w => ?_, fun b z => ?_, fun b o z => ?_⟩, ap.1, ap.2⟩
  · rcases x.foot b (.inl w) with q | q
    · exact n q
    · rw [q] at z; cases z
  · rcases z with z | z | z
    · rcases y.foot b (.inl z) with q | q
      · exact x.foot b (.inl q)
      · exact (back_none x q).symm
    · exact x.foot b (.inr z)
    · rcases y.foot b (.inr z) with q | q
      · exact x.foot b (.inl q)
      · exact (back_none x q).symm
  · rcases y.new1 b o z with q | q | q
    · obtain ⟨o', q⟩ := q; exact x.new1 b o' q
    · exact .inr (x.foot b (.inl q))
    · exact .inr (back_none x q).symm
def eaQ (xs : Env → Option (List T)) : Env → Option (List T × Env) := fun env => match xs env with | none => none | some ts => some (ts, env)
theorem QA.eff (h : QA X es tl xs) : EA X es tl (eaQ xs) := ⟨h.pa, fun env ts env' e H1 H σ F s R Q q => by
  unfold eaQ at e
  cases e1 : xs env with
  | none => rw [e1] at e; cases e
  | some u =>
    rw [e1] at e
    cases e
    exact h.qr _ _ e1 _ _ _ _ s R _ fun v H1' H' Ft x1 r1 => q v H1' H' F Ft (ext_or x1) (x1.qRepE R) r1 (fun b z => (x1.repE R fun _ _ z => z).2 b z)⟩
def eaCons (y : Env → Option (T × Env)) (ys : Env → Option (List T × Env)) : Env → Option (List T × Env) := fun env => match y env with | none => none | some (t, env1) => (match ys env1 with | none => none | some (ts, env2) => some (t :: ts, env2))
theorem ea_cons (h : EE X e te y) (hr : EA X es tl ys) (hs : starEach (e :: es) X.env = (false, eval e X.env) :: starEach es X.env := by rfl) : EA X (e :: es) (tCons te tl) (eaCons y ys) := ⟨pa_cons h.pe hr.pa hs, fun env ts env' e H1 H σ F s R Q q => by
  unfold eaCons at e
  split at e
  · cases e
  · rename_i t env1 e1
    split at e
    · cases e
    · rename_i us env2 e2
      cases e
      refine h.er _ _ _ e1 _ _ _ _ s R _ fun v Ha Hb F1 G1 x1 R1 r1 d1 => hr.er _ _ _ e2 _ _ _ _ x1.sub R1 _ fun vs Hc Hd F2 G2 x2 R2 r2 d2 => ?_
      obtain ⟨x3, k, n⟩ := eff2 x1 x2 r1.own d1
      exact q (v :: vs) Hc Hd F2 _ x3 R2 (.cons (r1.frame x2.s1 k) r2 fun b z w => n b z (.inr w)) fun b z w => w.elim (fun w => n b w (.inl z)) (d2 b z)⟩
/-- displays -/
def eLst (ys : Env → Option (List T × Env)) : Env → Option (T × Env) := fun env => match ys env with | none => none | some (ts, env') => if ts.length ≤ maxLen then some (.lst true ts, env') else none
def eTup (ys : Env → Option (List T × Env)) : Env → Option (T × Env) := fun env => match ys env with | none => none | some (ts, env') => if ts.length ≤ maxLen then some (.tup (T.fzs ts), env') else none
theorem ee_tup {k} (h : EA X es tl ys) : EE X (.Tuple es k pos) (tTup tl) (eTup ys) := ⟨pe_tup h.pa, fun env t env' e H1 H σ F s R Q q => by
  unfold eTup at e
  split at e
  · cases e
  · rename_i us env1 e1
    split at e
    · rename_i hz
      cases e
      refine h.er _ _ _ e1 _ _ _ _ s R _ fun vs Ha Hb F1 G1 x1 R1 r1 d1 => ⟨by rw [r1.len, maxLen_eq]; exact hz, fun p n => ?_⟩
      have x2 : Ext Ha Hb (fun b => F1 b ∨ G1 b) (join Ha Hb G1) Hb F1 := Ext.freeze x1.sub (fun b z => (r1.own b z).1) (fun b z w => d1 b w z) (fun _ z => .inr z) fun _ z => .inl z
      have f2 : Fzs X.K X.mg (join Ha Hb G1) vs (T.fzs us) := Reps.freeze x2.s1 r1 fun b z => join_in z
      have R2 := (R1.frame (H' := Hb) x2.s1 fun b z => ⟨rfl, by rw [join_out (d1 b z)]; exact (R1.own b z).1⟩)
      have x3 : Ext (join Ha Hb G1) Hb F1 (upd (join Ha Hb G1) p (.tup vs)) (upd Hb p (.tup vs)) F1 := Ext.newS x2.sub n
      have pn : ∀ b, F1 b → b ≠ p := fun b z w => by
        obtain ⟨_, o, h⟩ := R2.own b z
        rw [w, n] at h
        cases h
      have R3 := R2.frame (H' := upd Hb p (.tup vs)) x3.s1 fun b z => ⟨upd_ne (pn b z), (upd_ne (pn b z)).trans (R2.own b z).1⟩
      refine q _ _ _ F1 F0 (((x1.trans x2).trans x3).less fun b z => z.elim id fun z => z.elim) R3 (.sh (.tup (.inl (.inl upd_same)) (f2.mono x3.s1))) fun _ _ z => z
    · cases e⟩
theorem ee_lst (h : EA X es tl ys) : EE X (.List es pos) (tLst tl) (eLst ys) := ⟨pe_lst h.pa, fun env t env' e H1 H σ F s R Q q => by
  unfold eLst at e
  split at e
  · cases e
  · rename_i us env1 e1
    split at e
    · rename_i hz
      cases e
      refine h.er _ _ _ e1 _ _ _ _ s R _ fun vs Ha Hb F1 G1 x1 R1 r1 d1 => ⟨by rw [r1.len, maxLen_eq]; exact hz, ?_⟩
      refine newLst x1.sub r1 fun v Hc Hd Fu x2 r2 => ?_
      have ap := x2.apart R1.own fun b z w => d1 b z w
      refine q v Hc Hd F1 Fu ⟨x1.s1.trans x2.s1, x2.sub, fun b o z n => ?_, fun b z => ?_, fun b o z => ?_⟩ (R1.frame x2.s1 ap.1) r2 ap.2
      · refine x2.keep b o (x1.keep b o z n) fun w => ?_
        rcases x1.foot b (.inr w) with q | q
        · exact n q
        · rw [q] at z; cases z
      · rcases z with z | z
        · exact x1.foot b (.inl z)
        · rcases x2.foot b z with q | q
          · exact x1.foot b (.inr q)
          · exact (back_none x1 q).symm
      · rcases x2.new1 b o z with q | q | q
        · obtain ⟨o', q⟩ := q; exact x1.new1 b o' q
        · exact .inr (x1.foot b (.inr q))
        · exact .inr (back_none x1 q).symm
    · cases e⟩
/-- operators -/
def eOp (f : T → T → Option T) (ya yb : Env → Option (T × Env)) : Env → Option (T × Env) := fun env => match ya env with | none => none | some (a, env1) => (match yb env1 with | none => none | some (b, env2) => (match f a b with | some t => some (t, env2) | none => none))
theorem er_op {K : PySem.W.Frag} {mg : Str → Option Value} {r : R2} {f : T → T → Option T} (ha : ER K mg ta ya) (hb : ER K mg tb yb) (hv : OpV K mg r f) : ER K mg (tOp r ta tb) (eOp f ya yb) := fun env t env' e H1 H σ F s R Q q => by
  unfold eOp at e
  split at e
  · cases e
  · rename_i u env1 e1
    split at e
    · cases e
    · rename_i w env2 e2
      split at e
      · rename_i t' e3
        cases e
        refine ha _ _ _ e1 _ _ _ _ s R _ fun v1 Ha Hb F1 G1 x1 R1 r1 d1 => hb _ _ _ e2 _ _ _ _ x1.sub R1 _ fun v2 Hc Hd F2 G2 x2 R2 r2 d2 => ?_
        obtain ⟨x3, k, n⟩ := eff2 x1 x2 r1.own d1
        refine hv _ _ _ _ _ _ _ _ _ x2.sub (r1.frame x2.s1 k) r2 e3 Q fun v H1' H' Ft x4 r4 => ?_
        have ap := x4.apart R2.own fun _ _ z => z
        refine q v H1' H' F2 Ft ⟨x3.s1.trans x4.s1, x4.sub, fun b o z n => x4.keep b o (x3.keep b o z n) fun z => z, fun b z => ?_, fun b o z => ?_⟩ (R2.frame x4.s1 ap.1) r4 ap.2
        · rcases z with z | z
          · exact x3.foot b (.inl z)
          · rcases x4.foot b z with q | q
            · exact q.elim
            · exact (back_none x3 q).symm
        · rcases x4.new1 b o z with q | q | q
          · obtain ⟨o', q⟩ := q; exact x3.new1 b o' q
          · exact q.elim
          · exact .inr (back_none x3 q).symm
      · cases e
theorem ee_bin {op : Operator} {r : R2} {f : T → T → Option T} (ho : OpR X (binaryOp op) r) (hv : OpV X.K X.mg r f) (ha : EE X a ta ya) (hb : EE X b tb yb) : EE X (.BinOp a op b pos) (tOp r ta tb) (eOp f ya yb) := ⟨pe_op ho ha.pe hb.pe, er_op ha.er hb.er hv⟩
theorem ee_cmp {op : CmpOp} {r : R2} {f : T → T → Option T} (ho : OpR X (compareOp op) r) (hv : OpV X.K X.mg r f) (ha : EE X a ta ya) (hb : EE X b tb yb) (hm : behindInMarks op b = false := by first | exact nomark _ | rfl) : EE X (.Compare a [op] [b] pos) (tOp r ta tb) (eOp f ya yb) := ⟨pe_cmpR ho ha.pe hb.pe hm, er_op ha.er hb.er hv⟩
theorem ee_item (ha : EE X a ta ya) (hb : EE X b tb yb) (hs : PlainIx b := by exact fun _ _ => rfl) : EE X (.Subscript a b pos) (tOp (rIx X.K) ta tb) (eOp fIx ya yb) := ⟨pe_ix ix_seq ha.pe hb.pe hs, er_op ha.er hb.er ov_ix⟩
/-- built-in calls with effects in the arguments -/
def eCallB (f : List T → Option T) (ys : Env → Option (List T × Env)) : Env → Option (T × Env) := fun env => match ys env with | none => none | some (ts, env1) => (match f ts with | some t => some (t, env1) | none => none)
theorem Reps.repL {K : PySem.W.Frag} {mg : Str → Option Value} {H1 H : Hp} : ∀ {vs : List V} {ts : List T} {F : FP}, Reps K mg H1 H vs ts F → RepL K mg H1 H vs ts
  | _, _, _, .nil => .nil
  | _, _, _, .cons a r _ => .cons a (Reps.repL r)
theorem er_callB {K : PySem.W.Frag} {mg : Str → Option Value} {r : List V → Hp → VK → Prop} {f : List T → Option T} (ha : EAR K mg tl ys) (hv : CallP K mg r f) : ER K mg (tCB r tl) (eCallB f ys) := fun env t env' e H1 H σ F s R Q q => by
  unfold eCallB at e
  split at e
  · cases e
  · rename_i u env1 e1
    split at e
    · rename_i t' e3
      cases e
      refine ha _ _ _ e1 _ _ _ _ s R _ fun vs Ha Hb F1 G1 x1 R1 r1 d1 => hv _ _ _ _ _ x1.sub r1.repL e3 Q fun v H1' H' Ft x4 r4 => ?_
      have ap := x4.apart R1.own fun _ _ z => z
      refine q v H1' H' F1 Ft ⟨x1.s1.trans x4.s1, x4.sub, fun b o z n => x4.keep b o (x1.keep b o z n) fun z => z, fun b z => ?_, fun b o z => ?_⟩ (R1.frame x4.s1 ap.1) r4 ap.2
      · rcases z with z | z
        · exact x1.foot b (.inl z)
        · rcases x4.foot b z with q | q
          · exact q.elim
          · exact (back_none x1 q).symm
      · rcases x4.new1 b o z with q | q | q
        · obtain ⟨o', q⟩ := q; exact x1.new1 b o' q
        · exact q.elim
        · exact .inr (back_none x1 q).symm
    · cases e
theorem ee_blt {y' : Str} {id : String} {r : List V → Hp → VK → Prop} {f : List T → Option T} (hc : CallR X (.builtin id) r) (hv : CallP X.K X.mg r f) (hm : X.mg y' = none) (hb : bootBuiltins y' = some (.builtin id)) (ha : EA X (e :: es) tl ys)
    (hg : Gl X y' := by rfl) (hn : y' ≠ "__name__" := by decide) (hd : (y' == ("__debug__" : Str)) = false := by decide) (hs : starEach (e :: es) X.env = (false, eval e X.env) :: starEach es X.env := by rfl) (hp : (backTo pos (starEach es X.env)).any (·.1) = false := by rfl) :
    EE X (.Call (.Name y' p) (e :: es) [] pos) (tCB r tl) (eCallB f ys) := ⟨pe_callB hc hg hm hb ha.pa hn hd hs hp, er_callB ha.er hv⟩
theorem ee_bty {y' : Str} {id : String} {r : List V → Hp → VK → Prop} {f : List T → Option T} (hc : CallR X (.type id) r) (hv : CallP X.K X.mg r f) (hm : X.mg y' = none) (hb : bootBuiltins y' = some (.type id)) (ha : EA X (e :: es) tl ys)
    (hg : Gl X y' := by rfl) (hn : y' ≠ "__name__" := by decide) (hd : (y' == ("__debug__" : Str)) = false := by decide) (hs : starEach (e :: es) X.env = (false, eval e X.env) :: starEach es X.env := by rfl) (hp : (backTo pos (starEach es X.env)).any (·.1) = false := by rfl) :
    EE X (.Call (.Name y' p) (e :: es) [] pos) (tCB r tl) (eCallB f ys) := ⟨pe_callTy hc hg hm hb ha.pa hn hd hs hp, er_callB ha.er hv⟩
/-- tests -/
def etQ (c : Env → Option Bool) : Env → Option (Bool × Env) := fun env => match c env with | none => none | some b => some (b, env)
theorem TE'.eff (h : TE' X e tA c) : ET X e tA (etQ c) := ⟨h.pt, fun env b env' e H1 H σ F s R Q q => by
  unfold etQ at e
  split at e
  · cases e
  · rename_i b' e1
    cases e
    exact h.tr _ _ e1 _ _ _ _ s R _ fun H1' H' x => q H1' H' F ((ext_or (F := F) x).less fun _ z => .inl z) (x.qRepE R)⟩
def etTruth (y : Env → Option (T × Env)) : Env → Option (Bool × Env) := fun env => match y env with | none => none | some (t, env1) => (match t.truth with | some b => some (b, env1) | none => none)
theorem et_truth (h : EE X a ta y) (he : ∀ whole, isTrue a X.env whole = (do let v ← whole; standAt a.pos; holding [v] (truthy v)) := by intro _; rfl) : ET X a (fun σ H Q => ta σ H fun x H' => ∃ k, TruV X.K x H' k ∧ Q k H') (etTruth y) :=
  ⟨pt_truth h.pe he, fun env b env' e H1 H σ F s R Q q => by
    unfold etTruth at e
    split at e
    · cases e
    · rename_i u env1 e1
      split at e
      · rename_i b' e2
        cases e
        exact h.er _ _ _ e1 _ _ _ _ s R _ fun v Ha Hb F1 G1 x1 R1 r1 d1 => ⟨_, tru_of x1.sub r1 e2, q Ha Hb F1 (x1.less fun _ z => .inl z) R1⟩
      · cases e⟩
def etB (y : Env → Option (T × Env)) : Env → Option (Bool × Env) := fun env => match y env with | some (.bl b, env1) => some (b, env1) | _ => none
theorem et_cmp {op : CmpOp} {r : R2} {f : T → T → Option T} (ho : OpR X (compareOp op) r) (hv : OpV X.K X.mg r f) (ha : EE X a ta ya) (hb : EE X b tb yb) (hm : behindInMarks op b = false := by first | exact nomark _ | rfl) : ET X (.Compare a [op] [b] pos) (tTest (tOp r ta tb)) (etB (eOp f ya yb)) :=
  ⟨pt_cmpR ho ha.pe hb.pe hm, fun env b env' e H1 H σ F s R Q q => by
    unfold etB at e
    split at e
    · rename_i b' env1 e1
      cases e
      exact er_op ha.er hb.er hv _ _ _ e1 _ _ _ _ s R _ fun v Ha Hb F1 G1 x1 R1 r1 d1 => ⟨_, r1.blE, q Ha Hb F1 (x1.less fun _ z => .inl z) R1⟩
    · cases e⟩
def etNot (c : Env → Option (Bool × Env)) : Env → Option (Bool × Env) := fun env => match c env with | none => none | some (b, env1) => some (!b, env1)
theorem et_not (h : ET X a tA ec) : ET X (.UnaryOp .Not a pos) (tNot tA) (etNot ec) := ⟨pt_not h.pt, fun env b env' e H1 H σ F s R Q q => by
  unfold etNot at e
  split at e
  · cases e
  · rename_i b' env1 e1
    cases e
    exact h.tr _ _ _ e1 _ _ _ _ s R _ fun Ha Hb F1 x1 R1 => q Ha Hb F1 x1 R1⟩
theorem EW.asT (h : EW X e tA ec) : ET X e tA ec := ⟨h.pw.pt, h.tr⟩
theorem ew_and1 (h : ET X a tA ec) : EW X (.BoolOp .And [a] pos) tA ec := ⟨pw_and1 h.pt, h.tr⟩
theorem ew_or1 (h : ET X a tA ec) : EW X (.BoolOp .Or [a] pos) tA ec := ⟨pw_or1 h.pt, h.tr⟩
def etAnd (c d : Env → Option (Bool × Env)) : Env → Option (Bool × Env) := fun env => match c env with | none => none | some (true, env1) => d env1 | some (false, env1) => some (false, env1)
def etOr (c d : Env → Option (Bool × Env)) : Env → Option (Bool × Env) := fun env => match c env with | none => none | some (true, env1) => some (true, env1) | some (false, env1) => d env1
theorem ew_and (h : ET X a tA ec) (h' : EW X (.BoolOp .And (b :: rest) pos) tB' ed) : EW X (.BoolOp .And (a :: b :: rest) pos) (tAnd tA tB') (etAnd ec ed) := ⟨pw_and h.pt h'.pw, fun env k env' e H1 H σ F s R Q q => by
  unfold etAnd at e
  split at e
  · cases e
  · rename_i env1 e1
    exact h.tr _ _ _ e1 _ _ _ _ s R _ fun Ha Hb F1 x1 R1 => iteT (h'.tr _ _ _ e _ _ _ _ x1.sub R1 _ fun Hc Hd F2 x2 R2 => q Hc Hd F2 (x1.trans x2) R2)
  · rename_i env1 e1
    cases e
    exact h.tr _ _ _ e1 _ _ _ _ s R _ fun Ha Hb F1 x1 R1 => iteF (q Ha Hb F1 x1 R1)⟩
theorem ew_or (h : ET X a tA ec) (h' : EW X (.BoolOp .Or (b :: rest) pos) tB' ed) : EW X (.BoolOp .Or (a :: b :: rest) pos) (tOr tA tB') (etOr ec ed) := ⟨pw_or h.pt h'.pw, fun env k env' e H1 H σ F s R Q q => by
  unfold etOr at e
  split at e
  · cases e
  · rename_i env1 e1
    cases e
    exact h.tr _ _ _ e1 _ _ _ _ s R _ fun Ha Hb F1 x1 R1 => iteT (q Ha Hb F1 x1 R1)
  · rename_i env1 e1
    exact h.tr _ _ _ e1 _ _ _ _ s R _ fun Ha Hb F1 x1 R1 => iteF (h'.tr _ _ _ e _ _ _ _ x1.sub R1 _ fun Hc Hd F2 x2 R2 => q Hc Hd F2 (x1.trans x2) R2)⟩
def eIf (c : Env → Option (Bool × Env)) (ya yb : Env → Option (T × Env)) : Env → Option (T × Env) := fun env => match c env with | none => none | some (true, env1) => ya env1 | some (false, env1) => yb env1
theorem ee_if {e : Expr} (h : ET X e tA ec) (ha : EE X a ta ya) (hb : EE X b tb yb) : EE X (.IfExp e a b pos) (tIf tA ta tb) (eIf ec ya yb) := ⟨pe_ifExp h.pt ha.pe hb.pe, fun env t env' e H1 H σ F s R Q q => by
  unfold eIf at e
  split at e
  · cases e
  · rename_i env1 e1
    exact h.tr _ _ _ e1 _ _ _ _ s R _ fun Ha Hb F1 x1 R1 => iteT (ha.er _ _ _ e _ _ _ _ x1.sub R1 _ fun v Hc Hd F2 G2 x2 R2 r2 d2 => q v Hc Hd F2 G2 (x1.trans x2) R2 r2 d2)
  · rename_i env1 e1
    exact h.tr _ _ _ e1 _ _ _ _ s R _ fun Ha Hb F1 x1 R1 => iteF (hb.er _ _ _ e _ _ _ _ x1.sub R1 _ fun v Hc Hd F2 G2 x2 R2 r2 d2 => q v Hc Hd F2 G2 (x1.trans x2) R2 r2 d2)⟩
end
end GK

/-! GK14: statements; what is walked; for, while. -/
namespace GK
open PySem L2

section
variable {K : PySem.W.Frag} {mg : Str → Option Value} {P : Nat → Bool}
theorem SPost.step {H1 H H1' H' : Hp} {σ σ' : L2.St} {F F' : FP} {D : Ends} {o : Out} (h : SPost K mg P H1 H σ F D o) (x : Ext H1 H F H1' H' F') (pn : ∀ i, P i = true → σ'[i]? = σ[i]?) : SPost K mg P H1' H' σ' F' D o := by
  cases o with
  | nx env => exact fun σ2 H2 H2' F2 x2 R2 pn2 => h σ2 H2 H2' F2 (x.trans x2) R2 fun i hi => (pn2 i hi).trans (pn i hi)
  | bk env => exact fun σ2 H2 H2' F2 x2 R2 pn2 => h σ2 H2 H2' F2 (x.trans x2) R2 fun i hi => (pn2 i hi).trans (pn i hi)
  | ct env => exact fun σ2 H2 H2' F2 x2 R2 pn2 => h σ2 H2 H2' F2 (x.trans x2) R2 fun i hi => (pn2 i hi).trans (pn i hi)
  | rt t env => exact fun v σ2 H2 H2' F2 Ft x2 R2 r2 d2 pn2 => h v σ2 H2 H2' F2 Ft (x.trans x2) R2 r2 d2 fun i hi => (pn2 i hi).trans (pn i hi)
def sSeq (b c : Env → Option Out) : Env → Option Out := fun env => match b env with | some (.nx env1) => c env1 | o => o
theorem sr_seq {t u : TS} {b c : Env → Option Out} (h : SR K mg P t b) (h' : SR K mg P u c) : SR K mg P (tSeq t u) (sSeq b c) := fun env o e H1 H σ F s R D q => by
  unfold sSeq at e
  split at e
  · rename_i env1 e1
    exact h _ _ e1 _ _ _ _ s R _ fun σ1 H1' H' F1 x R1 pn => h' _ _ e _ _ _ _ x.sub R1 D (q.step x pn)
  · rename_i o' hn
    refine h _ _ e _ _ _ _ s R _ ?_
    cases o with
    | nx env1 => exact absurd e (hn env1)
    | bk env1 => exact q
    | ct env1 => exact q
    | rt t env1 => exact q
end
section
variable {X : Cx} {P : Nat → Bool} {a b e i : Expr} {st : Stmt} {sts sts2 : List Stmt} {es rest : List Expr} {te ta tb tv ti : TE} {tl : TA} {tA tB' : TT} {ts ts' : TS} {sb sc : Env → Option Out} {x xa xb xi xv : Env → Option T} {xs : Env → Option (List T)} {y ya yb : Env → Option (T × Env)} {ys : Env → Option (List T × Env)} {ec ed : Env → Option (Bool × Env)} {g : TG} {f : T → Env → Option Env} {get : Env → Option T} {put : T → Env → Option Env} {pos apos p : Pos}
theorem ses_cons (h : SE X P st ts sb) (h' : SEs X P sts ts' sc) : SEs X P (st :: sts) (tSeq ts ts') (sSeq sb sc) := ⟨pss_cons h.ps h'.ps, sr_seq h.sr h'.sr⟩
theorem ses_one (h : SE X P st ts sb) : SEs X P [st] ts sb := ⟨pss_one h.ps, h.sr⟩
def sNext : Env → Option Out := fun env => some (.nx env)
theorem sr_next {K : PySem.W.Frag} {mg : Str → Option Value} : SR K mg P tNext sNext := fun env o e H1 H σ F s R D q => by
  cases e; exact q σ H1 H F (Ext.refl s) R fun _ _ => rfl
theorem ses_nil : SEs X P [] tNext sNext := ⟨pss_nil, sr_next⟩
theorem se_pass : SE X P (.Pass pos) tNext sNext := ⟨ps_pass, sr_next⟩
theorem se_doc {z : Str} {j : Nat} {pos'} : SE X P (.Expr (.Constant (.str z) j pos) pos') tNext sNext := ⟨ps_doc, sr_next⟩
def sBreak : Env → Option Out := fun env => some (.bk env)
def sCont : Env → Option Out := fun env => some (.ct env)
def sNever : Env → Option Out := fun _ => none
theorem se_break : SE X P (.Break pos) tBreak sBreak := ⟨ps_break, fun env o e H1 H σ F s R D q => by cases e; exact q σ H1 H F (Ext.refl s) R fun _ _ => rfl⟩
theorem se_cont : SE X P (.Continue pos) tCont sCont := ⟨ps_continue, fun env o e H1 H σ F s R D q => by cases e; exact q σ H1 H F (Ext.refl s) R fun _ _ => rfl⟩
theorem se_never : SE X P st tNever sNever := ⟨ps_never, fun env o e => nomatch e⟩
/-- target = value -/
def sAsg (y : Env → Option (T × Env)) (f : T → Env → Option Env) : Env → Option Out := fun env => match y env with | none => none | some (t, env1) => (match f t env1 with | some env2 => some (.nx env2) | none => none)
theorem sr_asg {K : PySem.W.Frag} {mg : Str → Option Value} (h : ER K mg te y) (hg : GR K mg P g f) : SR K mg P (tAsg te g) (sAsg y f) := fun env o e H1 H σ F s R D q => by
  unfold sAsg at e
  split at e
  · cases e
  · rename_i t env1 e1
    split at e
    · rename_i env2 e2
      cases e
      exact h _ _ _ e1 _ _ _ _ s R _ fun v Ha Hb F1 G1 x1 R1 r1 d1 => hg _ _ _ e2 _ _ _ _ _ _ x1.sub R1 r1 d1 _ fun σ' H1' H' F' x2 R2 pn => q σ' H1' H' F' (x1.trans x2) R2 pn
    · cases e
theorem se_asg (h : EE X e te y) (hg : GE X P a g f) (h1 : swapsWithSole [a] e pos.line X.env = pure false := by rfl) (h2 : swappedStores [a] e X.env = pure none := by rfl) (h3 : (assignEach [a] X.env).map (·.2) = [assign a X.env] := by rfl) :
    SE X P (.Assign [a] e pos) (tAsg te g) (sAsg y f) := ⟨ps_asg h.pe hg.pg h1 h2 h3, sr_asg h.er hg.gr⟩
/-- an expression alone -/
def sExpr (y : Env → Option (T × Env)) : Env → Option Out := fun env => match y env with | none => none | some (t, env1) => some (.nx env1)
theorem se_expr (h : EE X e te y) (h1 : swapsWith e none pos.line X.env = pure false := by rfl) : SE X P (.Expr e pos) (tDrop te) (sExpr y) := ⟨ps_expr h.pe h1, fun env o e H1 H σ F s R D q => by
  unfold sExpr at e
  split at e
  · cases e
  · rename_i t env1 e1
    cases e
    exact h.er _ _ _ e1 _ _ _ _ s R _ fun v Ha Hb F1 G1 x1 R1 r1 d1 => q σ Ha Hb F1 (x1.less fun _ z => .inl z) R1 fun _ _ => rfl⟩
def sRet (y : Env → Option (T × Env)) : Env → Option Out := fun env => match y env with | none => none | some (t, env1) => some (.rt t env1)
theorem se_ret (h : EE X e te y) : SE X P (.Return (some e) pos) (tRet te) (sRet y) := ⟨ps_ret h.pe, fun env o e H1 H σ F s R D q => by
  unfold sRet at e
  split at e
  · cases e
  · rename_i t env1 e1
    cases e
    exact h.er _ _ _ e1 _ _ _ _ s R _ fun v Ha Hb F1 G1 x1 R1 r1 d1 => q v σ Ha Hb F1 G1 x1 R1 r1 d1 fun _ _ => rfl⟩
def sRetN : Env → Option Out := fun env => some (.rt .non env)
theorem se_retN : SE X P (.Return none pos) tRetN sRetN := ⟨ps_retN, fun env o e H1 H σ F s R D q => by
  cases e
  exact q .non σ H1 H F F0 ((Ext.refl s).less fun b z => z.elim id fun z => z.elim) R (.sh .non) (fun _ _ z => z) fun _ _ => rfl⟩
def sIf (c : Env → Option (Bool × Env)) (b d : Env → Option Out) : Env → Option Out := fun env => match c env with | none => none | some (true, env1) => b env1 | some (false, env1) => d env1
theorem se_if {sts2 : List Stmt} (h : ET X e tA ec) (ha : SEs X P sts ts sb) (hb : SEs X P sts2 ts' sc) : SE X P (.If e sts sts2 pos) (tIfS tA ts ts') (sIf ec sb sc) := ⟨ps_if h.pt ha.ps hb.ps, fun env o e H1 H σ F s R D q => by
  unfold sIf at e
  split at e
  · cases e
  · rename_i env1 e1
    exact h.tr _ _ _ e1 _ _ _ _ s R _ fun Ha Hb F1 x1 R1 => iteT (ha.sr _ _ e _ _ _ _ x1.sub R1 D (q.step x1 fun _ _ => rfl))
  · rename_i env1 e1
    exact h.tr _ _ _ e1 _ _ _ _ s R _ fun Ha Hb F1 x1 R1 => iteF (hb.sr _ _ e _ _ _ _ x1.sub R1 D (q.step x1 fun _ _ => rfl))⟩
/-- a, b = e1, e2 -/
def sPar (is : List Nat) (ys : Env → Option (List T × Env)) : Env → Option Out := fun env => match ys env with | none => none | some (ts, env1) => if ts.length = is.length ∧ is.all (fun i => decide (i < env1.length)) then some (.nx ((is.zip ts).foldl (fun env p => env.set p.1 (some p.2)) env1)) else none
theorem put1 {K : PySem.W.Frag} {mg : Str → Option Value} {H1 H : Hp} {σ : L2.St} {env : Env} {F G : FP} {i : Nat} {v : V} {t : T} (R : RepE K mg H1 H σ env F) (hi : i < env.length) (r : Rep K mg H1 H v t G) (d : ∀ b, F b → ¬ G b) :
    ∃ F', RepE K mg H1 H (σ.set i (some v)) (env.set i (some t)) F' ∧ ∀ b, F' b → F b ∨ G b := by
  obtain ⟨G0, R1, hG⟩ := R.weak i
  obtain ⟨F', R2, hF⟩ := R1.put (i := i) (v := v) (t := t) (by rw [List.length_set]; exact hi) r fun b z w => d b (hG b w) z
  rw [List.set_set] at R2
  exact ⟨F', R2, fun b z => (hF b z).elim .inr fun z => .inl (hG b z)⟩
theorem set_pin {σ : L2.St} {i : Nat} {o : Option V} (hp : P i = false) : ∀ j, P j = true → (σ.set i o)[j]? = σ[j]? := fun j hj => by
  rw [List.getElem?_set_ne]
  rintro rfl
  rw [hp] at hj; cases hj
theorem se_par {i j : Nat} {z w : Str} {px py pt : Pos} {kt k2 : Nat} {pt2 : Pos} (hc : X.calm = true) (hN : X.N.Nodup) (hi : X.N[i]? = some z) (hj : X.N[j]? = some w) (hij : i ≠ j) (hlx : X.env.scope.names.lookup z = some .local) (hly : X.env.scope.names.lookup w = some .local)
    (ha : EA X [a, b] tl ys) (hs : swappedStores [.Tuple [.Name z px, .Name w py] kt pt] (.Tuple [a, b] k2 pt2) X.env = pure (some [z, w])) (hpi : P i = false) (hpj : P j = false)
    (hw : swapsWithSole [.Tuple [.Name z px, .Name w py] kt pt] (.Tuple [a, b] k2 pt2) pos.line X.env = pure false := by rfl) :
    SE X P (.Assign [.Tuple [.Name z px, .Name w py] kt pt] (.Tuple [a, b] k2 pt2) pos) (tPar i j tl) (sPar [i, j] ys) := ⟨ps_par hc hN hi hj hij hlx hly ha.pa hs hw, fun env o e H1 H σ F s R D q => by
  unfold sPar at e
  split at e
  · cases e
  · rename_i us env1 e1
    split at e
    · rename_i hh
      obtain ⟨hl, hb⟩ := hh
      obtain ⟨t1, t2, rfl⟩ : ∃ t1 t2, us = [t1, t2] := by
        match us, hl with
        | [t1, t2], _ => exact ⟨t1, t2, rfl⟩
      simp only [List.all_cons, List.all_nil, Bool.and_true, Bool.and_eq_true, decide_eq_true_eq] at hb
      cases e
      refine ha.er _ _ _ e1 _ _ _ _ s R _ fun vs Ha Hb F1 G1 x1 R1 r1 d1 => ?_
      cases r1 with
      | cons a1 r2 b1 =>
        cases r2 with
        | cons a2 r3 b2 =>
          cases r3
          rename_i v1 A1 v2 A2
          obtain ⟨F2, R2, hF2⟩ := put1 R1 hb.1 a1 fun b z w => d1 b z (.inl w)
          obtain ⟨F3, R3, hF3⟩ := put1 R2 (by rw [List.length_set]; exact hb.2) a2 fun b z w => (hF2 b z).elim (fun z => d1 b z (.inr (.inl w))) fun z => b1 b z (.inl w)
          exact ⟨v1, v2, rfl, q _ Ha Hb F3 (x1.less fun b z => (hF3 b z).elim (fun z => (hF2 b z).imp id .inl) fun z => .inr (.inr (.inl z))) R3 fun i hi => (set_pin hpj i hi).trans (set_pin hpi i hi)⟩
    · cases e⟩
theorem se_par3 {i j l : Nat} {z w u : Str} {c : Expr} {px py pz pt : Pos} {kt k2 : Nat} {pt2 : Pos} (hc : X.calm = true) (hN : X.N.Nodup) (hi : X.N[i]? = some z) (hj : X.N[j]? = some w) (hl : X.N[l]? = some u) (hij : i ≠ j) (hil : i ≠ l) (hjl : j ≠ l)
    (hlx : X.env.scope.names.lookup z = some .local) (hly : X.env.scope.names.lookup w = some .local) (hlz : X.env.scope.names.lookup u = some .local)
    (ha : EA X [a, b, c] tl ys) (hs : swappedStores [.Tuple [.Name z px, .Name w py, .Name u pz] kt pt] (.Tuple [a, b, c] k2 pt2) X.env = pure (some [z, w, u])) (hpi : P i = false) (hpj : P j = false) (hpl : P l = false)
    (hw : swapsWithSole [.Tuple [.Name z px, .Name w py, .Name u pz] kt pt] (.Tuple [a, b, c] k2 pt2) pos.line X.env = pure false := by rfl) :
    SE X P (.Assign [.Tuple [.Name z px, .Name w py, .Name u pz] kt pt] (.Tuple [a, b, c] k2 pt2) pos) (tPar3 i j l tl) (sPar [i, j, l] ys) := ⟨ps_par3 hc hN hi hj hl hij hil hjl hlx hly hlz ha.pa hs hw, fun env o e H1 H σ F s R D q => by
  unfold sPar at e
  split at e
  · cases e
  · rename_i us env1 e1
    split at e
    · rename_i hh
      obtain ⟨hl, hb⟩ := hh
      obtain ⟨t1, t2, t3, rfl⟩ : ∃ t1 t2 t3, us = [t1, t2, t3] := by
        match us, hl with
        | [t1, t2, t3], _ => exact ⟨t1, t2, t3, rfl⟩
      simp only [List.all_cons, List.all_nil, Bool.and_true, Bool.and_eq_true, decide_eq_true_eq] at hb
      cases e
      refine ha.er _ _ _ e1 _ _ _ _ s R _ fun vs Ha Hb F1 G1 x1 R1 r1 d1 => ?_
      cases r1 with
      | cons a1 r2 b1 =>
        cases r2 with
        | cons a2 r3 b2 =>
          cases r3 with
          | cons a3 r4 b3 =>
            cases r4
            rename_i v1 A1 v2 A2 v3 A3
            obtain ⟨F2, R2, hF2⟩ := put1 R1 hb.1 a1 fun b z w => d1 b z (.inl w)
            obtain ⟨F3, R3, hF3⟩ := put1 R2 (by rw [List.length_set]; exact hb.2.1) a2 fun b z w => (hF2 b z).elim (fun z => d1 b z (.inr (.inl w))) fun z => b1 b z (.inl w)
            obtain ⟨F4, R4, hF4⟩ := put1 R3 (by rw [List.length_set, List.length_set]; exact hb.2.2) a3 fun b z w => (hF3 b z).elim (fun z => (hF2 b z).elim (fun z => d1 b z (.inr (.inr (.inl w)))) fun z => b1 b z (.inr (.inl w))) fun z => b2 b z (.inl w)
            exact ⟨v1, v2, v3, rfl, q _ Ha Hb F4 (x1.less fun b z => (hF4 b z).elim (fun z => (hF3 b z).elim (fun z => (hF2 b z).imp id .inl) fun z => .inr (.inr (.inl z))) fun z => .inr (.inr (.inr (.inl z)))) R4 fun i hi => ((set_pin hpl i hi).trans (set_pin hpj i hi)).trans (set_pin hpi i hi)⟩
    · cases e⟩

/-! ### what is walked -/
/-- from (Ha, Hb), where F may change: J gives the items ts, frozen ones -/
structure WalkT (K : PySem.W.Frag) (mg : Str → Option Value) (J : It) (Ha Hb : Hp) (F : FP) (ts : List T) : Prop where
  ex : ∃ (G : Hp → Prop) (Y : Nat → Hp → V → Hp → Prop), Walk J ts.length G Y ∧ (∀ H1' H' F', Ext Ha Hb F H1' H' F' → G H') ∧
    ∀ i H1' H' F' v H'', i < ts.length → Ext Ha Hb F H1' H' F' → Y i H' v H'' → ∃ t H1'', ts[i]? = some t ∧ Ext H1' H' F0 H1'' H'' F0 ∧ Fz K mg H1'' v t
def IR (K : PySem.W.Frag) (mg : Str → Option Value) (wi : TI) (src : Env → Option (List T × Env)) : Prop := ∀ env ts env', src env = some (ts, env') → ∀ H1 H σ F, Same H1 H → RepE K mg H1 H σ env F → ∀ R : It → Hp → Prop,
  (∀ J H1' H' F', Ext H1 H F H1' H' F' → RepE K mg H1' H' σ env' F' → WalkT K mg J H1' H' F' ts → R J H') → wi σ H R
structure IE (X : Cx) (tg iter : Expr) (wi : TI) (src : Env → Option (List T × Env)) : Prop where
  pi : PI X tg iter wi
  ir : IR X.K X.mg wi src
def loop (f : T → Env → Option Env) (b : Env → Option Out) : List T → Env → Option Out
  | [], env => some (.nx env)
  | t :: r, env => match f t env with
    | none => none
    | some env1 => match b env1 with
      | some (.nx env2) => loop f b r env2
      | some (.ct env2) => loop f b r env2
      | some (.bk env2) => some (.nx env2)
      | some (.rt u env2) => some (.rt u env2)
      | none => none
def sFor (src : Env → Option (List T × Env)) (f : T → Env → Option Env) (b : Env → Option Out) : Env → Option Out := fun env => match src env with | none => none | some (ts, env1) => loop f b ts env1
theorem sr_for {K : PySem.W.Frag} {mg : Str → Option Value} {wi : TI} {src : Env → Option (List T × Env)} (hi : IR K mg wi src) (hg : GR K mg P g f) (hb : SR K mg P ts sb) : SR K mg P (tFor wi g ts) (sFor src f sb) := fun env o e H1 H σ F s R D q => by
  unfold sFor at e
  split at e
  · cases e
  · rename_i us env1 e1
    refine hi _ _ _ e1 _ _ _ _ s R _ fun J Ha Hb Fa xa Ra w => ?_
    obtain ⟨G, Y, wk, hG, hY⟩ := w.ex
    have q1 : SPost K mg P Ha Hb σ Fa D o := q.step xa fun _ _ => rfl
    refine for_it wk (D := D) (tb := ts) (g := g) (fun i σ' H' => ∃ envi H1' F', Ext Ha Hb Fa H1' H' F' ∧ RepE K mg H1' H' σ' envi F' ∧ (∀ j, P j = true → σ'[j]? = σ[j]?) ∧ loop f sb (us.drop i) envi = some o)
      ⟨env1, Ha, Fa, Ext.refl xa.sub, Ra, fun _ _ => rfl, by rw [List.drop_zero]; exact e⟩ (fun i σ' H' _ ⟨_, H1', F', x, _⟩ => hG H1' H' F' x) ?_ ?_
    · rintro i v σ' H' H'' hlt ⟨envi, H1', F', x, Ri, pn, el⟩ hy
      obtain ⟨t, H1'', ht, x2, fz⟩ := hY i H1' H' F' v H'' hlt x hy
      have ed : us.drop i = t :: us.drop (i + 1) := by
        rw [List.drop_eq_getElem_cons hlt]
        rw [List.getElem?_eq_getElem hlt] at ht
        rw [Option.some.inj ht]
      rw [ed] at el
      unfold loop at el
      split at el
      · cases el
      · rename_i env2 e2
        have R2 := x2.qRepE Ri
        have x3 : Ext Ha Hb Fa H1'' H'' F' := x.trans ((ext_or x2).less fun b z => .inl z)
        refine hg _ _ _ e2 _ _ _ _ _ _ x2.sub R2 (.sh fz) (fun _ _ z => z) _ fun σ2 H3 H3' F3 x4 R3 pn3 => ?_
        have x5 : Ext Ha Hb Fa H3 H3' F3 := x3.trans (x4.more fun b z => z.elim id fun z => z.elim)
        have pn5 : ∀ j, P j = true → σ2[j]? = σ[j]? := fun j hj => (pn3 j hj).trans (pn j hj)
        split at el
        · rename_i env3 e3
          exact hb _ _ e3 _ _ _ _ x5.sub R3 _ fun σ4 H4 H4' F4 x6 R4 pn4 => ⟨env3, H4, F4, x5.trans x6, R4, fun j hj => (pn4 j hj).trans (pn5 j hj), el⟩
        · rename_i env3 e3
          exact hb _ _ e3 _ _ _ _ x5.sub R3 _ fun σ4 H4 H4' F4 x6 R4 pn4 => ⟨env3, H4, F4, x5.trans x6, R4, fun j hj => (pn4 j hj).trans (pn5 j hj), el⟩
        · rename_i env3 e3
          cases el
          exact hb _ _ e3 _ _ _ _ x5.sub R3 _ fun σ4 H4 H4' F4 x6 R4 pn4 => q1 σ4 H4 H4' F4 (x5.trans x6) R4 fun j hj => (pn4 j hj).trans (pn5 j hj)
        · rename_i u env3 e3
          cases el
          exact hb _ _ e3 _ _ _ _ x5.sub R3 _ fun v σ4 H4 H4' F4 Ft x6 R4 r4 d4 pn4 => q1 v σ4 H4 H4' F4 Ft (x5.trans x6) R4 r4 d4 fun j hj => (pn4 j hj).trans (pn5 j hj)
        · cases el
    · rintro σ' H' ⟨envi, H1', F', x, Ri, pn, el⟩
      rw [List.drop_length] at el
      cases el
      exact q1 σ' H1' H' F' x Ri pn
theorem se_for {tg iter : Expr} {body : List Stmt} {wi : TI} {src : Env → Option (List T × Env)} (hp : PassesOwn (model X.prog X.w) X.A X.env X.xe) (hc : X.calm = true) (hi : IE X tg iter wi src) (hg : GE X P tg g f) (hb : SEs X P body ts sb)
    (hs : ∀ x, foldedSetIterable iter X.env x = pure x := by intro _; rfl) : SE X P (.For tg iter body [] pos) (tFor wi g ts) (sFor src f sb) := ⟨ps_for hp hc hi.pi hg.pg hb.ps hs, sr_for hi.ir hg.gr hb.sr⟩
/-- while, by fuel -/
def wloop (c : Env → Option (Bool × Env)) (b : Env → Option Out) : Nat → Env → Option Out
  | 0, _ => none
  | n + 1, env => match c env with
    | none => none
    | some (false, env1) => some (.nx env1)
    | some (true, env1) => match b env1 with
      | some (.nx env2) => wloop c b n env2
      | some (.ct env2) => wloop c b n env2
      | some (.bk env2) => some (.nx env2)
      | some (.rt u env2) => some (.rt u env2)
      | none => none
theorem sr_while {K : PySem.W.Frag} {mg : Str → Option Value} {n : Nat} (hc : ETR K mg tA ec) (hb : SR K mg P ts sb) : SR K mg P (tWhile tA ts) (wloop ec sb n) := fun env o e H1 H σ F s R D q => by
  refine ⟨fun m σ' H' => ∃ envi H1' F', Ext H1 H F H1' H' F' ∧ RepE K mg H1' H' σ' envi F' ∧ (∀ j, P j = true → σ'[j]? = σ[j]?) ∧ wloop ec sb m envi = some o, ⟨n, env, H1, F, Ext.refl s, R, fun _ _ => rfl, e⟩, ?_⟩
  rintro m σ' H' ⟨envi, H1', F', x, Ri, pn, el⟩
  cases m with
  | zero => cases el
  | succ m =>
    unfold wloop at el
    split at el
    · cases el
    · rename_i env1 e1
      cases el
      exact hc _ _ _ e1 _ _ _ _ x.sub Ri _ fun Ha Hb F1 x1 R1 => iteF (q σ' Ha Hb F1 (x.trans x1) R1 pn)
    · rename_i env1 e1
      refine hc _ _ _ e1 _ _ _ _ x.sub Ri _ fun Ha Hb F1 x1 R1 => iteT ⟨fun σ2 H2 => ∃ envi H1' F', Ext H1 H F H1' H2 F' ∧ RepE K mg H1' H2 σ2 envi F' ∧ (∀ j, P j = true → σ2[j]? = σ[j]?) ∧ wloop ec sb m envi = some o, fun σ2 H2 h => ⟨m, Nat.lt_succ_self m, h⟩, ?_⟩
      have x2 := x.trans x1
      split at el
      · rename_i env3 e3
        exact hb _ _ e3 _ _ _ _ x2.sub R1 _ fun σ4 H4 H4' F4 x6 R4 pn4 => ⟨env3, H4, F4, x2.trans x6, R4, fun j hj => (pn4 j hj).trans (pn j hj), el⟩
      · rename_i env3 e3
        exact hb _ _ e3 _ _ _ _ x2.sub R1 _ fun σ4 H4 H4' F4 x6 R4 pn4 => ⟨env3, H4, F4, x2.trans x6, R4, fun j hj => (pn4 j hj).trans (pn j hj), el⟩
      · rename_i env3 e3
        cases el
        exact hb _ _ e3 _ _ _ _ x2.sub R1 _ fun σ4 H4 H4' F4 x6 R4 pn4 => q σ4 H4 H4' F4 (x2.trans x6) R4 fun j hj => (pn4 j hj).trans (pn j hj)
      · rename_i u env3 e3
        cases el
        exact hb _ _ e3 _ _ _ _ x2.sub R1 _ fun v σ4 H4 H4' F4 Ft x6 R4 r4 d4 pn4 => q v σ4 H4 H4' F4 Ft (x2.trans x6) R4 r4 d4 fun j hj => (pn4 j hj).trans (pn j hj)
      · cases el
theorem se_while {body : List Stmt} (n : Nat) (hp : PassesOwn (model X.prog X.w) X.A X.env X.xe) (hc : ET X e tA ec) (hb : SEs X P body ts sb) : SE X P (.While e body [] pos) (tWhile tA ts) (wloop ec sb n) := ⟨ps_while hp hc.pt hb.ps, sr_while hc.tr hb.sr⟩
end
end GK

/-! GK15: walks, quiet targets, list comprehensions. -/
namespace GK
open PySem L2

theorem PI.or {X : Cx} {tg e : Expr} {wi wi' : TI} (h : PI X tg e wi) (h' : PI X tg e wi') : PI X tg e (fun σ H R => wi σ H R ∨ wi' σ H R) :=
  ⟨fun pins s σ H R I q => q.elim (h.run pins s σ H R I) (h'.run pins s σ H R I)⟩

/-! ### walks that change nothing -/
section
variable (K : PySem.W.Frag) (mg : Str → Option Value)
def IQR (wi : TI) (src : Env → Option (List T)) : Prop := ∀ env ts, src env = some ts → ∀ H1 H σ F, Same H1 H → RepE K mg H1 H σ env F → ∀ R : It → Hp → Prop,
  (∀ J H1' H', Ext H1 H F0 H1' H' F0 → (∀ G, WalkT K mg J H1' H' G ts) → R J H') → wi σ H R
end
structure IQ (X : Cx) (tg iter : Expr) (wi : TI) (src : Env → Option (List T)) : Prop where
  pi : PI X tg iter wi
  ir : IQR X.K X.mg wi src
def iQ (src : Env → Option (List T)) : Env → Option (List T × Env) := fun env => match src env with | none => none | some ts => some (ts, env)
section
variable {X : Cx} {tg e a b : Expr} {te ta tb : TE} {tl : TA} {x xa xb : Env → Option T} {xs : Env → Option (List T)} {y : Env → Option (T × Env)} {ys : Env → Option (List T × Env)} {wi : TI} {src : Env → Option (List T)} {pos p : Pos}
theorem Ext.wk {H1 H H1' H' : Hp} {F : FP} (x : Ext H1 H F0 H1' H' F0) : Ext H1 H F H1' H' F := (ext_or x).less fun _ z => .inl z
theorem IQ.toE (h : IQ X tg e wi src) : IE X tg e wi (iQ src) := ⟨h.pi, fun env ts env' e H1 H σ F s R Q q => by
  unfold iQ at e
  split at e
  · cases e
  · rename_i us e1
    cases e
    exact h.ir _ _ e1 _ _ _ _ s R _ fun J H1' H' x w => q J H1' H' F x.wk (x.qRepE R) (w F)⟩
/-- what a frozen value gives, walked -/
def T.walk : T → Option (List T)
  | .lst _ xs => some xs
  | .scr xs => some xs
  | .tup xs => some xs
  | .str s => some (s.map fun c => .str [c])
  | _ => none
def iAny (K : PySem.W.Frag) (te : TE) : TI := fun σ H R => iList K te σ H R ∨ (iTup K te σ H R ∨ iStr te σ H R)
theorem pi_any (h : PE X e te) : PI X tg e (iAny X.K te) := PI.or (pi_list h) (PI.or (pi_tup h) (pi_str h))
theorem walkL {K : PySem.W.Frag} {mg : Str → Option Value} {H1 H : Hp} {a : Addr} {vs : List V} {ts : List T} (h : SqL K H1 a vs) (f : Fzs K mg H1 vs ts) : ∀ G, WalkT K mg (Itl K a) H1 H G ts := fun G =>
  ⟨⟨fun H => SqL K H a vs, YAt vs, (by rw [← f.len]; exact walk_list (K := K) (a := a) (xs := vs)), fun H1' H' F' x => x.sub.seq (x.s1.seq h), fun i H1' H' F' v H'' hi x ⟨h1, h2⟩ => by
    subst h1
    rw [List.getElem?_eq_some_iff] at h2
    obtain ⟨h2, h3⟩ := h2
    obtain ⟨v', e1, f1⟩ := f.get (List.getElem?_eq_getElem hi)
    rw [List.getElem?_eq_getElem h2, h3] at e1
    cases e1
    exact ⟨_, H1', List.getElem?_eq_getElem hi, Ext.refl x.sub, f1.mono x.s1⟩⟩⟩
theorem walkTu {K : PySem.W.Frag} {mg : Str → Option Value} {H1 H : Hp} {a : Addr} {vs : List V} {ts : List T} (h : SqT K H1 a vs) (f : Fzs K mg H1 vs ts) : ∀ G, WalkT K mg (Itt K a) H1 H G ts := fun G =>
  ⟨⟨fun H => SqT K H a vs, YAt vs, (by rw [← f.len]; exact walk_tup (K := K) (a := a) (xs := vs)), fun H1' H' F' x => Same.seqT x.sub (Same.seqT x.s1 h), fun i H1' H' F' v H'' hi x ⟨h1, h2⟩ => by
    subst h1
    rw [List.getElem?_eq_some_iff] at h2
    obtain ⟨h2, h3⟩ := h2
    obtain ⟨v', e1, f1⟩ := f.get (List.getElem?_eq_getElem hi)
    rw [List.getElem?_eq_getElem h2, h3] at e1
    cases e1
    exact ⟨_, H1', List.getElem?_eq_getElem hi, Ext.refl x.sub, f1.mono x.s1⟩⟩⟩
theorem walkS {K : PySem.W.Frag} {mg : Str → Option Value} {H1 H : Hp} {z : List Nat} : ∀ G, WalkT K mg (Its (S z)) H1 H G (z.map fun c => .str [c]) := fun G => by
  have hl : (S z).cps.size = (z.map fun c => T.str [c]).length := by simp [S]
  refine ⟨⟨fun _ => True, fun i H v H' => H' = H ∧ ∃ c, (S z).cps[i]? = some c ∧ v = .str ⟨#[c]⟩, (by rw [← hl]; exact walk_str (z := S z)), fun _ _ _ _ => trivial, fun i H1' H' F' v H'' hi x ⟨h1, c, h2, h3⟩ => ?_⟩⟩
  subst h1
  have hi' : i < z.length := by simpa using hi
  refine ⟨.str [c], H1', ?_, Ext.refl x.sub, by rw [h3]; exact .str [c]⟩
  have h2' : z[i]? = some c := by simpa [S] using h2
  rw [List.getElem?_map, h2']
  rfl
/-- the road: a frozen value at hand -/
theorem any_core {K : PySem.W.Frag} {mg : Str → Option Value} {H1 H : Hp} {v : V} {t : T} {ts : List T} {R : It → Hp → Prop} (s : Same H1 H) (f : Fz K mg H1 v t) (e : t.walk = some ts) (q : ∀ J, (∀ G, WalkT K mg J H1 H G ts) → R J H) :
    (match t with
      | .tup _ => ∃ a, v = .ref a ∧ (∃ xs, SqT K H a xs) ∧ R (Itt K a) H
      | .str _ => ∃ x, v = .str x ∧ R (Its x) H
      | _ => ∃ a, v = .ref a ∧ (∃ xs, SqL K H a xs) ∧ R (Itl K a) H) := by
  cases f with
  | str z => cases e; exact ⟨_, rfl, q _ walkS⟩
  | tup h r => cases e; exact ⟨_, rfl, ⟨_, Same.seqT s h⟩, q _ (walkTu h r)⟩
  | lst h r => cases e; exact ⟨_, rfl, ⟨_, .inl (.inl (s _ _ h))⟩, q _ (walkL (.inl (.inl h)) r)⟩
  | scr h r => cases e; exact ⟨_, rfl, ⟨_, s.seq h⟩, q _ (walkL h r)⟩
  | _ => cases e
def qWalk (x : Env → Option T) : Env → Option (List T) := fun env => match x env with | none => none | some t => t.fz.walk
theorem iq_any (h : QE X e te x) : IQ X tg e (iAny X.K te) (qWalk x) := ⟨pi_any h.pe, fun env ts e H1 H σ F s R Q q => by
  unfold qWalk at e
  cases e1 : x env with
  | none => rw [e1] at e; cases e
  | some t =>
    rw [e1] at e
    simp only at e
    have road : ∀ (A : V → Hp → Prop), (∀ v H1' H', Ext H1 H F0 H1' H' F0 → Fz X.K X.mg H1' v t.fz → A v H') → te σ H A := fun A hA =>
      h.qr _ _ e1 _ _ _ _ s R _ fun v Ha Hb Ft x1 r1 => by
        have x2 : Ext Ha Hb Ft (join Ha Hb Ft) Hb F0 := Ext.freeze x1.sub (fun b z => (r1.own b z).1) (fun _ _ z => z) (fun _ z => z) fun _ z => z.elim
        exact hA v _ Hb (x1.trans x2) (r1.freeze x2.s1 fun b z => join_in z)
    cases ht : t.fz with
    | tup us =>
      refine .inr (.inl (road _ fun v H1' H' x1 f => ?_))
      rw [ht] at f e
      exact any_core x1.sub f e fun J w => q J H1' H' x1 w
    | str us =>
      refine .inr (.inr (road _ fun v H1' H' x1 f => ?_))
      rw [ht] at f e
      exact any_core x1.sub f e fun J w => q J H1' H' x1 w
    | lst o us =>
      refine .inl (road _ fun v H1' H' x1 f => ?_)
      rw [ht] at f e
      exact any_core x1.sub f e fun J w => q J H1' H' x1 w
    | scr us =>
      refine .inl (road _ fun v H1' H' x1 f => ?_)
      rw [ht] at f e
      exact any_core x1.sub f e fun J w => q J H1' H' x1 w
    | _ => rw [ht] at e; cases e⟩
/-- .. of an expression with effects -/
def eWalk (y : Env → Option (T × Env)) : Env → Option (List T × Env) := fun env => match y env with | none => none | some (t, env1) => match t.fz.walk with | none => none | some ts => some (ts, env1)
theorem ie_any (h : EE X e te y) : IE X tg e (iAny X.K te) (eWalk y) := ⟨pi_any h.pe, fun env ts env' e H1 H σ F s R Q q => by
  unfold eWalk at e
  split at e
  · cases e
  · rename_i t env1 e1
    split at e
    · cases e
    · rename_i us e2
      cases e
      have e := e2
      have road : ∀ (A : V → Hp → Prop), (∀ v H1' H' F', Ext H1 H F H1' H' F' → RepE X.K X.mg H1' H' σ env' F' → Fz X.K X.mg H1' v t.fz → A v H') → te σ H A := fun A hA =>
        h.er _ _ _ e1 _ _ _ _ s R _ fun v Ha Hb F1 Ft x1 R1 r1 d1 => by
          have x2 : Ext Ha Hb (fun b => F1 b ∨ Ft b) (join Ha Hb Ft) Hb F1 := Ext.freeze x1.sub (fun b z => (r1.own b z).1) (fun b z w => d1 b w z) (fun _ z => .inr z) fun _ z => .inl z
          have R2 := R1.frame (H' := Hb) x2.s1 fun b z => ⟨rfl, by rw [join_out (d1 b z)]; exact (R1.own b z).1⟩
          exact hA v _ Hb F1 (x1.trans x2) R2 (r1.freeze x2.s1 fun b z => join_in z)
      cases ht : t.fz with
      | tup us =>
        refine .inr (.inl (road _ fun v H1' H' F' x1 R1 f => ?_))
        rw [ht] at f e
        exact any_core x1.sub f e fun J w => q J H1' H' F' x1 R1 (w F')
      | str us =>
        refine .inr (.inr (road _ fun v H1' H' F' x1 R1 f => ?_))
        rw [ht] at f e
        exact any_core x1.sub f e fun J w => q J H1' H' F' x1 R1 (w F')
      | lst o us =>
        refine .inl (road _ fun v H1' H' F' x1 R1 f => ?_)
        rw [ht] at f e
        exact any_core x1.sub f e fun J w => q J H1' H' F' x1 R1 (w F')
      | scr us =>
        refine .inl (road _ fun v H1' H' F' x1 R1 f => ?_)
        rw [ht] at f e
        exact any_core x1.sub f e fun J w => q J H1' H' F' x1 R1 (w F')
      | _ => rw [ht] at e; cases e⟩
/-! ranges -/
def rangeT (lo : Int) (n : Nat) : List T := (List.range n).map fun (i : Nat) => .int (lo + i)
def two62 : Int := 4611686018427387904
theorem two62_eq : (2 : Int) ^ 62 = two62 := by decide
def rng : List T → Option (List T)
  | [.int j] => if -two62 ≤ j ∧ j < two62 then some (rangeT 0 j.toNat) else none
  | [.int i, .int j] => if (-two62 ≤ i ∧ i < two62) ∧ -two62 ≤ j ∧ j < two62 then some (rangeT i (j - i).toNat) else none
  | _ => none
theorem walkR {K : PySem.W.Frag} {mg : Str → Option Value} {H1 H : Hp} {lo : Int} {n : Nat} : ∀ G, WalkT K mg (Itr lo n) H1 H G (rangeT lo n) := fun G => by
  have hl : (rangeT lo n).length = n := by simp [rangeT]
  refine ⟨⟨fun _ => True, YFn fun i => .int (lo + i), (by rw [hl]; exact walk_range (lo := lo) (n := n)), fun _ _ _ _ => trivial, fun i H1' H' F' v H'' hi x ⟨h1, h2⟩ => ?_⟩⟩
  subst h1 h2
  rw [hl] at hi
  refine ⟨.int (lo + i), H1', ?_, Ext.refl x.sub, .int _⟩
  unfold rangeT
  rw [List.getElem?_map, List.getElem?_range hi]
  rfl
def qRng (xs : Env → Option (List T)) : Env → Option (List T) := fun env => match xs env with | none => none | some ts => rng ts
def eRng (ys : Env → Option (List T × Env)) : Env → Option (List T × Env) := fun env => match ys env with | none => none | some (ts, env1) => match rng ts with | none => none | some us => some (us, env1)
theorem rng_road {K : PySem.W.Frag} {mg : Str → Option Value} {H1 H : Hp} {vs : List V} {ts us : List T} {F : FP} (r : Reps K mg H1 H vs ts F) (e : rng ts = some us) :
    (ts.length = 1 ∧ ∃ j : Int, vs = [.int j] ∧ -(2 ^ 62) ≤ j ∧ j < 2 ^ 62 ∧ us = rangeT 0 j.toNat) ∨ (ts.length = 2 ∧ ∃ i j : Int, vs = [.int i, .int j] ∧ (-(2 ^ 62) ≤ i ∧ i < 2 ^ 62 ∧ -(2 ^ 62) ≤ j ∧ j < 2 ^ 62) ∧ us = rangeT i (j - i).toNat) := by
  rw [two62_eq]
  unfold rng at e
  split at e
  · rename_i j
    split at e
    · rename_i hh
      cases e
      cases r with
      | cons r1 r2 _ => cases r2; rw [r1.intE]; exact .inl ⟨rfl, j, rfl, hh.1, hh.2, rfl⟩
    · cases e
  · rename_i i j
    split at e
    · rename_i hh
      cases e
      cases r with
      | cons r1 r2 _ =>
        cases r2 with
        | cons r3 r4 _ => cases r4; rw [r1.intE, r3.intE]; exact .inr ⟨rfl, i, j, rfl, ⟨hh.1.1, hh.1.2, hh.2.1, hh.2.2⟩, rfl⟩
    · cases e
  · cases e
theorem iq_rng1 (hg : Gl X "range") (hm : X.mg "range" = none) (h : QA X [a] tl xs) (hx : ∀ env ts, xs env = some ts → ts.length = 1) (hs : starEach [a] X.env = [(false, eval a X.env)] := by rfl) : IQ X tg (.Call (.Name "range" p) [a] [] pos) (iRng1 tl) (qRng xs) := ⟨pi_range1 hg hm h.pa hs, fun env ts e H1 H σ F s R Q q => by
  unfold qRng at e
  cases e1 : xs env with
  | none => rw [e1] at e; cases e
  | some us =>
    rw [e1] at e
    refine h.qr _ _ e1 _ _ _ _ s R _ fun vs Ha Hb Ft x1 r1 => ?_
    rcases rng_road r1 e with ⟨_, j, h1, h2, h3, rfl⟩ | ⟨h1, _⟩
    · exact ⟨j, h1, h2, h3, q _ Ha Hb (x1.less fun _ z => z.elim) walkR⟩
    · rw [hx _ _ e1] at h1; cases h1⟩
theorem iq_rng2 (hg : Gl X "range") (hm : X.mg "range" = none) (h : QA X [a, b] tl xs) (hx : ∀ env ts, xs env = some ts → ts.length = 2) (hs : starEach [a, b] X.env = [(false, eval a X.env), (false, eval b X.env)] := by rfl) (hs2 : starEach [b] X.env = [(false, eval b X.env)] := by rfl) : IQ X tg (.Call (.Name "range" p) [a, b] [] pos) (iRng2 tl) (qRng xs) := ⟨pi_range2 hg hm h.pa hs hs2, fun env ts e H1 H σ F s R Q q => by
  unfold qRng at e
  cases e1 : xs env with
  | none => rw [e1] at e; cases e
  | some us =>
    rw [e1] at e
    refine h.qr _ _ e1 _ _ _ _ s R _ fun vs Ha Hb Ft x1 r1 => ?_
    rcases rng_road r1 e with ⟨h1, _⟩ | ⟨_, i, j, h1, h2, rfl⟩
    · rw [hx _ _ e1] at h1; cases h1
    · exact ⟨i, j, h1, h2, q _ Ha Hb (x1.less fun _ z => z.elim) walkR⟩⟩
theorem len_nil {env : Env} {ts : List T} (e : aNil env = some ts) : ts.length = 0 := by cases e; rfl
theorem len_cons {n : Nat} {x : Env → Option T} {xs : Env → Option (List T)} (h : ∀ env ts, xs env = some ts → ts.length = n) : ∀ env ts, aCons x xs env = some ts → ts.length = n + 1 := fun env ts e => by
  unfold aCons at e
  split at e
  · cases e
  · split at e
    · cases e
    · rename_i h1; cases e; rw [List.length_cons, h _ _ h1]
theorem elen_cons {n : Nat} {y : Env → Option (T × Env)} {ys : Env → Option (List T × Env)} (h : ∀ env ts env', ys env = some (ts, env') → ts.length = n) : ∀ env ts env', eaCons y ys env = some (ts, env') → ts.length = n + 1 := fun env ts env' e => by
  unfold eaCons at e
  split at e
  · cases e
  · split at e
    · cases e
    · rename_i h1; cases e; rw [List.length_cons, h _ _ _ h1]
theorem elen_q {n : Nat} {xs : Env → Option (List T)} (h : ∀ env ts, xs env = some ts → ts.length = n) : ∀ env ts env', eaQ xs env = some (ts, env') → ts.length = n := fun env ts env' e => by
  unfold eaQ at e
  split at e
  · cases e
  · rename_i h1; cases e; exact h _ _ h1
theorem ie_rng1 (hg : Gl X "range") (hm : X.mg "range" = none) (h : EA X [a] tl ys) (hx : ∀ env ts env', ys env = some (ts, env') → ts.length = 1) (hs : starEach [a] X.env = [(false, eval a X.env)] := by rfl) : IE X tg (.Call (.Name "range" p) [a] [] pos) (iRng1 tl) (eRng ys) := ⟨pi_range1 hg hm h.pa hs, fun env ts env' e H1 H σ F s R Q q => by
  unfold eRng at e
  split at e
  · cases e
  · rename_i us env1 e1
    split at e
    · cases e
    · rename_i e2
      cases e
      refine h.er _ _ _ e1 _ _ _ _ s R _ fun vs Ha Hb F1 Ft x1 R1 r1 d1 => ?_
      rcases rng_road r1 e2 with ⟨_, j, h1, h2, h3, rfl⟩ | ⟨h1, _⟩
      · exact ⟨j, h1, h2, h3, q _ Ha Hb F1 (x1.less fun _ z => .inl z) R1 (walkR F1)⟩
      · rw [hx _ _ _ e1] at h1; cases h1⟩
theorem ie_rng2 (hg : Gl X "range") (hm : X.mg "range" = none) (h : EA X [a, b] tl ys) (hx : ∀ env ts env', ys env = some (ts, env') → ts.length = 2) (hs : starEach [a, b] X.env = [(false, eval a X.env), (false, eval b X.env)] := by rfl) (hs2 : starEach [b] X.env = [(false, eval b X.env)] := by rfl) : IE X tg (.Call (.Name "range" p) [a, b] [] pos) (iRng2 tl) (eRng ys) := ⟨pi_range2 hg hm h.pa hs hs2, fun env ts env' e H1 H σ F s R Q q => by
  unfold eRng at e
  split at e
  · cases e
  · rename_i us env1 e1
    split at e
    · cases e
    · rename_i e2
      cases e
      refine h.er _ _ _ e1 _ _ _ _ s R _ fun vs Ha Hb F1 Ft x1 R1 r1 d1 => ?_
      rcases rng_road r1 e2 with ⟨h1, _⟩ | ⟨_, i, j, h1, h2, rfl⟩
      · rw [hx _ _ _ e1] at h1; cases h1
      · exact ⟨i, j, h1, h2, q _ Ha Hb F1 (x1.less fun _ z => .inl z) R1 (walkR F1)⟩⟩
end

/-! ### targets that change the names alone -/
section
variable (K : PySem.W.Frag) (mg : Str → Option Value)
def GQR (P : Nat → Bool) (g : TG) (f : T → Env → Option Env) : Prop := ∀ t env env', f t env = some env' → ∀ H1 H σ F v, Same H1 H → RepE K mg H1 H σ env F → Fz K mg H1 v t → ∀ Q : L2.St → Hp → Prop,
  (∀ σ' F', RepE K mg H1 H σ' env' F' → (∀ b, F' b → F b) → (∀ i, P i = true → σ'[i]? = σ[i]?) → Q σ' H) → g v σ H Q
def GQsR (P : Nat → Bool) (n : Nat) (g : TGs) (f : List T → Env → Option Env) : Prop := ∀ ts env env', f ts env = some env' → ts.length = n ∧ ∀ H1 H σ F vs, Same H1 H → RepE K mg H1 H σ env F → Fzs K mg H1 vs ts → ∀ Q : L2.St → Hp → Prop,
  (∀ σ' F', RepE K mg H1 H σ' env' F' → (∀ b, F' b → F b) → (∀ i, P i = true → σ'[i]? = σ[i]?) → Q σ' H) → g vs σ H Q
end
structure GQ (X : Cx) (P : Nat → Bool) (e : Expr) (g : TG) (f : T → Env → Option Env) : Prop where
  pg : PG X e g
  gr : GQR X.K X.mg P g f
structure GQs (X : Cx) (P : Nat → Bool) (n : Nat) (es : List Expr) (g : TGs) (f : List T → Env → Option Env) : Prop where
  pg : PGs X es g
  gr : GQsR X.K X.mg P n g f
section
variable {X : Cx} {P : Nat → Bool} {e : Expr} {pos : Pos}
theorem gq_name {i : Nat} {y : Str} (h : PG X (.Name y pos) (gName i)) (hp : P i = false) : GQ X P (.Name y pos) (gName i) (gSet i) := ⟨h, fun t env env' e H1 H σ F v s R r Q q => by
  unfold gSet at e
  split at e
  · rename_i hi
    cases e
    obtain ⟨F', R2, hF⟩ := put1 R hi (.sh r) fun _ _ z => z
    exact q _ F' R2 (fun b z => (hF b z).elim id fun z => z.elim) fun j hj => set_pin hp j hj
  · cases e⟩
theorem gqs_nil : GQs X P 0 [] gNil gNilC := ⟨pgs_nil, fun ts env env' e => by
  unfold gNilC at e
  split at e
  · cases e
    refine ⟨rfl, fun H1 H σ F vs s R f Q q => ?_⟩
    cases f
    exact ⟨rfl, q σ F R (fun _ z => z) fun _ _ => rfl⟩
  · cases e⟩
theorem gqs_cons {es : List Expr} {t : TG} {u : TGs} {f : T → Env → Option Env} {g : List T → Env → Option Env} {n : Nat} (h : GQ X P e t f) (h' : GQs X P n es u g) (ha : (assignEach (e :: es) X.env).map (·.2) = assign e X.env :: (assignEach es X.env).map (·.2) := by rfl) :
    GQs X P (n + 1) (e :: es) (gCons t u) (gConsC f g) := ⟨pgs_cons h.pg h'.pg ha, fun ts env env' e => by
  unfold gConsC at e
  split at e
  · rename_i t0 r
    split at e
    · rename_i env1 e1
      obtain ⟨hl, hg⟩ := h'.gr _ _ _ e
      refine ⟨by rw [List.length_cons, hl], fun H1 H σ F vs s R f Q q => ?_⟩
      cases f with
      | cons f1 f2 =>
        refine ⟨_, _, rfl, h.gr _ _ _ e1 _ _ _ _ _ s R f1 _ fun σ' F' R' hF pn => ?_⟩
        exact hg _ _ _ _ _ s R' f2 _ fun σ'' F'' R'' hF' pn' => q σ'' F'' R'' (fun b z => hF b (hF' b z)) fun i hi => (pn' i hi).trans (pn i hi)
    · cases e
  · cases e⟩
theorem gq_tup {es : List Expr} {u : TGs} {g : List T → Env → Option Env} {n k : Nat} (hc : X.calm = true) (h : GQs X P n es u g) (h1 : (assignEach es X.env).length = n := by rfl) (h2 : (assignEach es X.env).findIdx? (·.1) = none := by rfl) :
    GQ X P (.Tuple es k pos) (gTup X.K n u) (gUn g) := ⟨pg_tup hc h.pg h1 h2, fun t env env' e H1 H σ F v s R r Q q => by
  unfold gUn at e
  split at e
  · rename_i xs
    obtain ⟨hl, hg⟩ := h.gr _ _ _ e
    cases r with
    | tup h2 h3 => exact ⟨_, _, rfl, Same.seqT s h2, by rw [h3.len, hl], hg _ _ _ _ _ s R h3 Q q⟩
  · cases e⟩
end
end GK

/-! GK16: comprehensions. -/
namespace GK
open PySem L2

def wipeE (env : Env) : List Nat → Env
  | [] => env
  | v :: vs => (wipeE env vs).set v none
theorem wipeE_len (env : Env) : ∀ vs, (wipeE env vs).length = env.length
  | [] => rfl
  | v :: vs => by unfold wipeE; rw [List.length_set, wipeE_len env vs]
section
variable {K : PySem.W.Frag} {mg : Str → Option Value} {H H1 : Hp} {σ : L2.St} {env : Env} {F : FP}
theorem RepE.wipe (R : RepE K mg H1 H σ env F) : ∀ vs : List Nat, ∃ G, RepE K mg H1 H (L2.wipe σ vs) (wipeE env vs) G ∧ ∀ b, G b → F b
  | [] => ⟨F, R, fun _ z => z⟩
  | v :: vs => by
    obtain ⟨G, R1, h1⟩ := RepE.wipe R vs
    obtain ⟨G', R2, h2⟩ := R1.drop v none
    exact ⟨G', R2, fun b z => h1 b (h2 b z)⟩
theorem wipe_in {σ : L2.St} {i : Nat} : ∀ {vs : List Nat}, i ∈ vs → i < σ.length → (L2.wipe σ vs)[i]? = some none
  | [], h, _ => by cases h
  | v :: vs, h, hl => by
    unfold L2.wipe
    by_cases e : v = i
    · subst e
      rw [List.getElem?_set_self (by rw [wipe_length]; exact hl)]
    · rw [List.getElem?_set_ne e]
      exact wipe_in ((List.mem_cons.mp h).resolve_left fun q => e q.symm) hl
theorem wipe_pin {σ σ2 : L2.St} {vs : List Nat} (hl : σ2.length = σ.length) (pn : ∀ i, (!vs.contains i) = true → σ2[i]? = (L2.wipe σ vs)[i]?) : L2.wipe σ2 vs = L2.wipe σ vs := by
  apply List.ext_getElem?
  intro i
  by_cases h : i ∈ vs
  · by_cases hi : i < σ.length
    · rw [wipe_in h hi, wipe_in h (hl ▸ hi)]
    · rw [List.getElem?_eq_none (by rw [wipe_length]; omega), List.getElem?_eq_none (by rw [wipe_length]; omega)]
  · rw [wipe_out h, pn i (by simpa using h)]
end
/-- the slots that a comprehension's block leaves -/
abbrev pinC (vs : List Nat) : Nat → Bool := fun i => !vs.contains i

/-! ### quiet ones -/
def lcGo (f : T → Env → Option Env) (c : Env → Option Bool) (x : Env → Option T) (env0 : Env) : List T → Option (List T)
  | [] => some []
  | t :: r => match f t env0 with
    | none => none
    | some env1 => if env1.length = env0.length then (match c env1 with
      | none => none
      | some false => lcGo f c x env0 r
      | some true => match x env1 with
        | none => none
        | some u => match lcGo f c x env0 r with
          | none => none
          | some us => some (u :: us)) else none
def qLc (vs : List Nat) (src : Env → Option (List T)) (f : T → Env → Option Env) (c : Env → Option Bool) (x : Env → Option T) : Env → Option T := fun env => match src env with
  | none => none
  | some ts => match lcGo f c x (wipeE env vs) ts with
    | none => none
    | some us => if us.length ≤ maxLen then some (.lst true us) else none
def cYes : Env → Option Bool := fun _ => some true
theorem tr_yes {K : PySem.W.Frag} {mg : Str → Option Value} : TR K mg tYes cYes := fun env b e H1 H σ F s R Q q => by cases e; exact q H1 H (Ext.refl s)
section
variable {K : PySem.W.Frag} {mg : Str → Option Value} {wi : TI} {src : Env → Option (List T)} {g : TG} {f : T → Env → Option Env} {tt : TT} {c : Env → Option Bool} {te tk : TE} {x xk : Env → Option T} {vs : List Nat}
theorem Reps.out {H1 H : Hp} {vs : List V} {ts : List T} {F : FP} {D : Addr} (r : Reps K mg H1 H vs ts F) (n : H D = none) : ¬ F D := fun z => by
  obtain ⟨_, o, e⟩ := r.own D z
  rw [n] at e; cases e
theorem Reps.append : ∀ {vs ws : List V} {ts us : List T} {H1 H : Hp} {F G : FP}, Reps K mg H1 H vs ts F → Reps K mg H1 H ws us G → (∀ b, F b → ¬ G b) → ∃ F', Reps K mg H1 H (vs ++ ws) (ts ++ us) F' ∧ ∀ b, F' b ↔ F b ∨ G b
  | _, _, _, _, _, _, _, G, .nil, r, _ => ⟨G, r, fun b => ⟨.inr, fun z => z.elim (fun z => z.elim) id⟩⟩
  | _, _, _, _, _, _, _, G, .cons a r d, r', d' => by
    obtain ⟨F', q, hF⟩ := Reps.append r r' fun b z => d' b (.inr z)
    refine ⟨_, .cons a q fun b z w => ((hF b).mp w).elim (d b z) (d' b (.inl z)), fun b => ⟨fun z => z.elim (fun z => .inl (.inl z)) fun z => ((hF b).mp z).elim (fun z => .inl (.inr z)) .inr, fun z => z.elim (fun z => z.elim .inl fun z => .inr ((hF b).mpr (.inl z))) fun z => .inr ((hF b).mpr (.inr z))⟩⟩
/-- what a comprehension has laid: the list at D, its items -/
structure LcInv (K : PySem.W.Frag) (mg : Str → Option Value) (Ha Hb : Hp) (D : Addr) (H1 H : Hp) (ts : List T) : Prop where
  ex : ∃ (acc : List V) (Fa : FP), Ext Ha Hb F0 H1 H (fun b => b = D ∨ Fa b) ∧ H D = some (.lst acc) ∧ H1 D = none ∧ Reps K mg H1 H acc ts Fa ∧ ¬ Fa D
theorem LcInv.start {Ha Hb : Hp} {D : Addr} (s : Same Ha Hb) (n : Hb D = none) : LcInv K mg Ha Hb D Ha (upd Hb D (.lst [])) [] :=
  ⟨⟨[], F0, Ext.newO s n, upd_same, s.free n, .nil, fun z => z⟩⟩
/-- a quiet step beside it -/
theorem LcInv.quiet {Ha Hb H1 H H1' H' : Hp} {D : Addr} {ts : List T} {Ft : FP} (h : LcInv K mg Ha Hb D H1 H ts) (x : Ext H1 H F0 H1' H' Ft) : LcInv K mg Ha Hb D H1' H' ts ∧ ∀ b, Ft b → Hb b = none := by
  obtain ⟨acc, Fa, x1, h1, h2, h3, h4⟩ := h.ex
  have ap := x.apart (G := fun b => b = D ∨ Fa b) (fun b z => z.elim (fun z => by rw [z]; exact ⟨h2, _, h1⟩) fun z => h3.own b z) (fun _ _ z => z)
  refine ⟨⟨acc, Fa, (x1.trans ((ext_or x).less fun b z => .inl z)), (ap.1 D (.inl rfl)).1.trans h1, (ap.1 D (.inl rfl)).2, h3.frame x.s1 fun b z => ap.1 b (.inr z), h4⟩, fun b z => ?_⟩
  rcases x.foot b z with q | q
  · exact q.elim
  · rcases back_none x1 q with e | e
    · exact e
    · exact e.elim
/-- an item added -/
theorem LcInv.add {Ha Hb H1 H H1' H' : Hp} {D : Addr} {ts : List T} {Ft : FP} {y : V} {u : T} (h : LcInv K mg Ha Hb D H1 H ts) (x : Ext H1 H F0 H1' H' Ft) (r : Rep K mg H1' H' y u Ft) (hz : ts.length < maxLen) :
    ∃ acc, H' D = some (.lst acc) ∧ acc.length < sizeLine ∧ LcInv K mg Ha Hb D H1' (upd H' D (.lst (acc ++ [y]))) (ts ++ [u]) := by
  obtain ⟨acc, Fa, x1, h1, h2, h3, h4⟩ := h.ex
  have ap := x.apart (G := fun b => b = D ∨ Fa b) (fun b z => z.elim (fun z => by rw [z]; exact ⟨h2, _, h1⟩) fun z => h3.own b z) (fun _ _ z => z)
  have hD := ap.1 D (.inl rfl)
  refine ⟨acc, hD.1.trans h1, by rw [h3.len, maxLen_eq]; exact hz, ?_⟩
  have r3 : Reps K mg H1' H' acc ts Fa := h3.frame x.s1 fun b z => ap.1 b (.inr z)
  obtain ⟨F', r4, hF⟩ := r3.snoc r fun b z w => ap.2 b (.inr z) w
  have nD : ¬ F' D := fun z => ((hF D).mp z).elim h4 (ap.2 D (.inl rfl))
  have x2 : Ext Ha Hb F0 H1' H' (fun b => (b = D ∨ Fa b) ∨ Ft b) := x1.trans (ext_or x)
  have x3 : Ext H1' H' (fun b => (b = D ∨ Fa b) ∨ Ft b) H1' (upd H' D (.lst (acc ++ [y]))) (fun b => (b = D ∨ Fa b) ∨ Ft b) := Ext.wr x2.sub hD.2 (.inl (.inl rfl))
  refine ⟨⟨acc ++ [y], F', (x2.trans x3).less fun b z => z.elim (fun z => .inl (.inl z)) fun z => ((hF b).mp z).elim (fun z => .inl (.inr z)) .inr, upd_same, hD.2, r4.frame (Same.refl _) fun b z => ⟨upd_ne fun w => nD (by rw [← w]; exact z), (r4.own b z).1⟩, nD⟩⟩
theorem LcInv.done {Ha Hb H1 H : Hp} {D : Addr} {ts : List T} (h : LcInv K mg Ha Hb D H1 H ts) : ∃ F, Ext Ha Hb F0 H1 H F ∧ Rep K mg H1 H (.ref D) (.lst true ts) F := by
  obtain ⟨acc, Fa, x1, h1, h2, h3, h4⟩ := h.ex
  exact ⟨_, x1, .lst h1 h2 h3 h4⟩
theorem qr_lc (hi : IQR K mg wi src) (hg : GQR K mg (pinC vs) g f) (ht : TR K mg tt c) (he : QR K mg te x) : QR K mg (tLc wi g tt te vs) (qLc vs src f c x) := fun env t e H1 H σ F s R Q q => by
  unfold qLc at e
  split at e
  · cases e
  · rename_i ts e1
    split at e
    · cases e
    · rename_i us e2
      split at e
      · rename_i hz
        cases e
        refine hi _ _ e1 _ _ _ _ s R _ fun J Ha Hb xa w D hD => ?_
        obtain ⟨G, Y, wk, hG, hY⟩ := (w fun b => True).ex
        have Ra := xa.qRepE R
        refine lc_it wk (fun i H => ∃ H1 ts' r, LcInv K mg Ha Hb D H1 H ts' ∧ lcGo f c x (wipeE env vs) (ts.drop i) = some r ∧ ts' ++ r = us) ⟨Ha, [], us, LcInv.start xa.sub hD, by rw [List.drop_zero]; exact e2, rfl⟩ ?_ ?_ ?_
        · rintro i H _ ⟨H1, ts', r, h, _, _⟩
          obtain ⟨acc, Fa, x1, _⟩ := h.ex
          exact hG H1 H _ (x1.more fun _ _ => trivial)
        · rintro i v Hi Hi' hlt ⟨H1i, ts', r, h, el, er⟩ hy
          obtain ⟨acc, Fa, x1, _⟩ := h.ex
          obtain ⟨t, H1'', htt, x2, fz⟩ := hY i H1i Hi _ v Hi' hlt (x1.more fun _ _ => trivial) hy
          have ed : ts.drop i = t :: ts.drop (i + 1) := by
            rw [List.drop_eq_getElem_cons hlt]
            rw [List.getElem?_eq_getElem hlt] at htt
            rw [Option.some.inj htt]
          have h2 := (h.quiet x2).1
          obtain ⟨Gw, Rw, _⟩ := ((x1.base fun b z => z).less (F'' := F0) (fun _ z => z.elim) |>.qRepE Ra |> x2.qRepE).wipe vs
          rw [ed] at el
          unfold lcGo at el
          split at el
          · cases el
          · rename_i env1 e3
            split at el
            · rename_i hl
              refine hg _ _ _ e3 _ _ _ _ _ x2.sub Rw fz _ fun σ2 F2 R2 _ pn => ⟨?_, ?_⟩
              · refine wipe_pin ?_ pn
                have l1 := R2.len
                have l2 := Rw.len
                rw [wipe_length] at l2
                rw [l1, hl, ← l2]
              · split at el
                · cases el
                · rename_i e4
                  refine ht _ _ e4 _ _ _ _ x2.sub R2 _ fun H3 H3' x3 => ?_
                  rw [if_neg Bool.false_ne_true]
                  exact ⟨H3, ts', r, (h2.quiet x3).1, el, er⟩
                · rename_i e4
                  refine ht _ _ e4 _ _ _ _ x2.sub R2 _ fun H3 H3' x3 => ?_
                  rw [if_pos rfl]
                  have h3 := (h2.quiet x3).1
                  split at el
                  · cases el
                  · rename_i u e5
                    split at el
                    · cases el
                    · rename_i us' e6
                      cases el
                      refine he _ _ e5 _ _ _ _ x3.sub (x3.qRepE R2) _ fun y H4 H4' Ft x4 r4 => ?_
                      obtain ⟨acc, k1, k2, k3⟩ := h3.add x4 r4 (by rw [← er] at hz; simp at hz; omega)
                      exact ⟨acc, k1, k2, H4, ts' ++ [u], us', k3, e6, by rw [← er]; simp⟩
            · cases el
        · rintro Hc ⟨H1, ts', r, h, el, er⟩
          rw [List.drop_length] at el
          cases el
          rw [List.append_nil] at er
          subst er
          obtain ⟨F', x1, r1⟩ := h.done
          exact q _ H1 Hc F' (xa.trans x1) r1
      · cases e
/-! dict comprehensions -/
def dcGo (f : T → Env → Option Env) (c : Env → Option Bool) (xk x : Env → Option T) (env0 : Env) : List T → List (Key × T) → Option (List (Key × T))
  | [], acc => some acc
  | t :: r, acc => match f t env0 with
    | none => none
    | some env1 => if env1.length = env0.length ∧ acc.length < maxLen then (match c env1 with
      | none => none
      | some false => dcGo f c xk x env0 r acc
      | some true => match xk env1, x env1 with
        | some k, some u => (match k.key with | some k => dcGo f c xk x env0 r (tput acc k u) | none => none)
        | _, _ => none) else none
def qDc (vs : List Nat) (src : Env → Option (List T)) (f : T → Env → Option Env) (c : Env → Option Bool) (xk x : Env → Option T) : Env → Option T := fun env => match src env with
  | none => none
  | some ts => match dcGo f c xk x (wipeE env vs) ts [] with
    | none => none
    | some us => some (.dic true us)
structure DcInv (K : PySem.W.Frag) (mg : Str → Option Value) (Ha Hb : Hp) (D : Addr) (H1 H : Hp) (ts : List (Key × T)) : Prop where
  ex : ∃ (acc : List (Key × V)) (Fa : FP), Ext Ha Hb F0 H1 H (fun b => b = D ∨ Fa b) ∧ H D = some (.dK acc) ∧ H1 D = none ∧ RepA K mg H1 H acc ts Fa ∧ ¬ Fa D ∧ (acc.map (·.1)).Nodup
theorem DcInv.start {Ha Hb : Hp} {D : Addr} (s : Same Ha Hb) (n : Hb D = none) : DcInv K mg Ha Hb D Ha (upd Hb D (.dK [])) [] :=
  ⟨⟨[], F0, Ext.newO s n, upd_same, s.free n, .nil, fun z => z, List.nodup_nil⟩⟩
theorem DcInv.quiet {Ha Hb H1 H H1' H' : Hp} {D : Addr} {ts : List (Key × T)} {Ft : FP} (h : DcInv K mg Ha Hb D H1 H ts) (x : Ext H1 H F0 H1' H' Ft) : DcInv K mg Ha Hb D H1' H' ts := by
  obtain ⟨acc, Fa, x1, h1, h2, h3, h4, h5⟩ := h.ex
  have ap := x.apart (G := fun b => b = D ∨ Fa b) (fun b z => z.elim (fun z => by rw [z]; exact ⟨h2, _, h1⟩) fun z => h3.own b z) (fun _ _ z => z)
  exact ⟨acc, Fa, (x1.trans ((ext_or x).less fun b z => .inl z)), (ap.1 D (.inl rfl)).1.trans h1, (ap.1 D (.inl rfl)).2, h3.frame x.s1 fun b z => ap.1 b (.inr z), h4, h5⟩
theorem DcInv.add {Ha Hb H1 H H1' H' : Hp} {D : Addr} {ts : List (Key × T)} {Ft : FP} {y : V} {u : T} {k : Key} (h : DcInv K mg Ha Hb D H1 H ts) (x : Ext H1 H F0 H1' H' Ft) (r : Rep K mg H1' H' y u Ft) (hz : ts.length < maxLen) :
    ∃ acc, H' D = some (.dK acc) ∧ acc.length < sizeLine ∧ DcInv K mg Ha Hb D H1' (upd H' D (.dK (putK acc k y))) (tput ts k u) := by
  obtain ⟨acc, Fa, x1, h1, h2, h3, h4, h5⟩ := h.ex
  have ap := x.apart (G := fun b => b = D ∨ Fa b) (fun b z => z.elim (fun z => by rw [z]; exact ⟨h2, _, h1⟩) fun z => h3.own b z) (fun _ _ z => z)
  have hD := ap.1 D (.inl rfl)
  refine ⟨acc, hD.1.trans h1, by rw [h3.len, maxLen_eq]; exact hz, ?_⟩
  have r3 : RepA K mg H1' H' acc ts Fa := h3.frame x.s1 fun b z => ap.1 b (.inr z)
  obtain ⟨F', r4, hF⟩ := r3.put (k := k) r fun b z w => ap.2 b (.inr z) w
  have nD : ¬ F' D := fun z => (hF D z).elim h4 (ap.2 D (.inl rfl))
  have x2 : Ext Ha Hb F0 H1' H' (fun b => (b = D ∨ Fa b) ∨ Ft b) := x1.trans (ext_or x)
  rw [vput_eq h5]
  have x3 : Ext H1' H' (fun b => (b = D ∨ Fa b) ∨ Ft b) H1' (upd H' D (.dK (vput acc k y))) (fun b => (b = D ∨ Fa b) ∨ Ft b) := Ext.wr x2.sub hD.2 (.inl (.inl rfl))
  exact ⟨vput acc k y, F', (x2.trans x3).less fun b z => z.elim (fun z => .inl (.inl z)) fun z => (hF b z).elim (fun z => .inl (.inr z)) .inr, upd_same, hD.2, r4.frame (Same.refl _) fun b z => ⟨upd_ne fun w => nD (by rw [← w]; exact z), (r4.own b z).1⟩, nD, (vput_nodup h5).1⟩
theorem qr_dc (hi : IQR K mg wi src) (hg : GQR K mg (pinC vs) g f) (ht : TR K mg tt c) (hk : QR K mg tk xk) (he : QR K mg te x) : QR K mg (tDc wi g tt tk te vs) (qDc vs src f c xk x) := fun env t e H1 H σ F s R Q q => by
  unfold qDc at e
  split at e
  · cases e
  · rename_i ts e1
    split at e
    · cases e
    · rename_i us e2
      cases e
      refine hi _ _ e1 _ _ _ _ s R _ fun J Ha Hb xa w D hD => ?_
      obtain ⟨G, Y, wk, hG, hY⟩ := (w fun b => True).ex
      have Ra := xa.qRepE R
      refine ⟨fun i m H => m = ts.length - i ∧ i ≤ ts.length ∧ ∃ H1 ts', DcInv K mg Ha Hb D H1 H ts' ∧ dcGo f c xk x (wipeE env vs) (ts.drop i) ts' = some us, ⟨ts.length, by simp, Nat.zero_le _, Ha, [], DcInv.start xa.sub hD, by rw [List.drop_zero]; exact e2⟩, ?_⟩
      rintro i m Hi ⟨rfl, hil, H1i, ts', h, el⟩
      obtain ⟨acc, Fa, x1, _⟩ := h.ex
      by_cases hlt : i < ts.length
      · refine .inr ⟨wk.goes i Hi hlt (hG H1i Hi _ (x1.more fun _ _ => trivial)), fun H' => ∃ H1 ts', DcInv K mg Ha Hb D H1 H' ts' ∧ dcGo f c xk x (wipeE env vs) (ts.drop (i + 1)) ts' = some us, fun H' h' => ⟨ts.length - (i + 1), by omega, rfl, hlt, h'⟩, fun v Hi' hy => ?_⟩
        have hy := wk.yields i Hi v Hi' hlt (hG H1i Hi _ (x1.more fun _ _ => trivial)) hy
        obtain ⟨t, H1'', htt, x2, fz⟩ := hY i H1i Hi _ v Hi' hlt (x1.more fun _ _ => trivial) hy
        have ed : ts.drop i = t :: ts.drop (i + 1) := by
          rw [List.drop_eq_getElem_cons hlt]
          rw [List.getElem?_eq_getElem hlt] at htt
          rw [Option.some.inj htt]
        have h2 := h.quiet x2
        obtain ⟨Gw, Rw, _⟩ := ((x1.base fun b z => z).less (F'' := F0) (fun _ z => z.elim) |>.qRepE Ra |> x2.qRepE).wipe vs
        rw [ed] at el
        unfold dcGo at el
        split at el
        · cases el
        · rename_i env1 e3
          split at el
          · rename_i hl
            refine hg _ _ _ e3 _ _ _ _ _ x2.sub Rw fz _ fun σ2 F2 R2 _ pn => ⟨?_, ?_⟩
            · refine wipe_pin ?_ pn
              have l1 := R2.len
              have l2 := Rw.len
              rw [wipe_length] at l2
              rw [l1, hl.1, ← l2]
            · split at el
              · cases el
              · rename_i e4
                refine ht _ _ e4 _ _ _ _ x2.sub R2 _ fun H3 H3' x3 => ?_
                rw [if_neg Bool.false_ne_true]
                exact ⟨H3, ts', h2.quiet x3, el⟩
              · rename_i e4
                refine ht _ _ e4 _ _ _ _ x2.sub R2 _ fun H3 H3' x3 => ?_
                rw [if_pos rfl]
                have h3 := h2.quiet x3
                split at el
                · rename_i kt u e5 e6
                  split at el
                  · rename_i k ek
                    refine hk _ _ e5 _ _ _ _ x3.sub (x3.qRepE R2) _ fun yk H5 H5' Fk x5 r5 => ?_
                    refine he _ _ e6 _ _ _ _ x5.sub (x5.qRepE (x3.qRepE R2)) _ fun y H4 H4' Ft x4 r4 => ?_
                    obtain ⟨acc, k1, k2, k3⟩ := (h3.quiet (x5.less (F'' := F0) fun _ z => z.elim)).add (k := k) x4 r4 hl.2
                    exact ⟨acc, k, r5.keyE ek, k1, k2, H4, _, k3, el⟩
                  · cases el
                · cases el
          · cases el
      · have e : i = ts.length := by omega
        subst e
        rw [List.drop_length] at el
        cases el
        obtain ⟨acc, Fa, x1, h1, h2, h3, h4, h5⟩ := h.ex
        exact .inl ⟨wk.stops Hi (hG H1i Hi _ (x1.more fun _ _ => trivial)), q _ H1i Hi _ (xa.trans x1) (.dic h1 h2 h5 h3 h4)⟩
end
section
variable {X : Cx} {P : Nat → Bool}
/-- what a block's parts must be, at each of its contexts -/
abbrev AtBlk (X : Cx) (scope : Scope) (Φ : Cx → Prop) : Prop := ∀ (s : Shared) (H : Hp) (C : Addr) (cl : List (Str × Addr)) (fp : List Addr), Φ (X.blk s H scope (compEnvC scope cl C X.env) fp)
structure TS' (X : Cx) (ifs : List Expr) (tt : TT) (c : Env → Option Bool) : Prop where
  pt : PTs X ifs tt
  tr : TR X.K X.mg tt c
theorem ts_nil : TS' X [] tYes cYes := ⟨pts_nil, tr_yes⟩
theorem ts_one {e : Expr} {tt : TT} {c : Env → Option Bool} (h : TE' X e tt c) : TS' X [e] tt c := ⟨pts_one h.pt, h.tr⟩
variable {elt tg iter kx : Expr} {ifs : List Expr} {scope : Scope} {own : List (Str × Nat)} {pos : Pos} {wi : TI} {src : Env → Option (List T)} {f : T → Env → Option Env} {c : Env → Option Bool} {x xk : Env → Option T}
/-- readings that serve at each of a block's contexts -/
def eAll (X : Cx) (scope : Scope) (elt : Expr) (x : Env → Option T) : TE := fun σ H Q => ∀ (s : Shared) (H' : Hp) (C : Addr) (cl : List (Str × Addr)) (fp : List Addr) (te : TE), QE (X.blk s H' scope (compEnvC scope cl C X.env) fp) elt te x → te σ H Q
def tAll (X : Cx) (scope : Scope) (ifs : List Expr) (c : Env → Option Bool) : TT := fun σ H Q => ∀ (s : Shared) (H' : Hp) (C : Addr) (cl : List (Str × Addr)) (fp : List Addr) (tt : TT), TS' (X.blk s H' scope (compEnvC scope cl C X.env) fp) ifs tt c → tt σ H Q
def gAll (X : Cx) (scope : Scope) (P : Nat → Bool) (tg : Expr) (f : T → Env → Option Env) : TG := fun v σ H Q => ∀ (s : Shared) (H' : Hp) (C : Addr) (cl : List (Str × Addr)) (fp : List Addr) (g : TG), GQ (X.blk s H' scope (compEnvC scope cl C X.env) fp) P tg g f → g v σ H Q
section
variable (s : Shared) (H : Hp) (C : Addr) (cl : List (Str × Addr)) (fp : List Addr)
theorem e_all (h : ∃ te, QE (X.blk s H scope (compEnvC scope cl C X.env) fp) elt te x) : PE (X.blk s H scope (compEnvC scope cl C X.env) fp) elt (eAll X scope elt x) := by
  obtain ⟨te, h⟩ := h
  exact ⟨fun pins s' σ H' Q I q => h.pe.run pins s' σ H' Q I (q s H C cl fp te h)⟩
theorem t_all (h : ∃ tt, TS' (X.blk s H scope (compEnvC scope cl C X.env) fp) ifs tt c) : PTs (X.blk s H scope (compEnvC scope cl C X.env) fp) ifs (tAll X scope ifs c) := by
  obtain ⟨tt, h⟩ := h
  exact ⟨fun pins s' σ H' Q I q => h.pt.run pins s' σ H' Q I (q s H C cl fp tt h)⟩
theorem g_all (h : ∃ g, GQ (X.blk s H scope (compEnvC scope cl C X.env) fp) P tg g f) : PG (X.blk s H scope (compEnvC scope cl C X.env) fp) tg (gAll X scope P tg f) := by
  obtain ⟨g, h⟩ := h
  exact ⟨fun pins s' σ H' v u Q I r q => h.pg.run pins s' σ H' v u Q I r (q s H C cl fp g h)⟩
end
theorem e_allR : QR X.K X.mg (eAll X scope elt x) x := fun env t e H1 H σ F s R Q q s' H' C cl fp te h => h.qr env t e H1 H σ F s R Q q
theorem t_allR : TR X.K X.mg (tAll X scope ifs c) c := fun env t e H1 H σ F s R Q q s' H' C cl fp te h => h.tr env t e H1 H σ F s R Q q
theorem g_allR : GQR X.K X.mg P (gAll X scope P tg f) f := fun t env env' e H1 H σ F v s R r Q q s' H' C cl fp g h => h.gr t env env' e H1 H σ F v s R r Q q
theorem qe_lc (hc : X.calm = true) (hN : X.N.Nodup) (hi : IQ X tg iter wi src) (ok : BlkOk X.N X.env.scope scope own)
    (hg : ∀ (s : Shared) (H : Hp) (C : Addr) (cl : List (Str × Addr)) (fp : List Addr), ∃ g, GQ (X.blk s H scope (compEnvC scope cl C X.env) fp) (pinC (own.map (·.2))) tg g f)
    (ht : ∀ (s : Shared) (H : Hp) (C : Addr) (cl : List (Str × Addr)) (fp : List Addr), ∃ tt, TS' (X.blk s H scope (compEnvC scope cl C X.env) fp) ifs tt c)
    (he : ∀ (s : Shared) (H : Hp) (C : Addr) (cl : List (Str × Addr)) (fp : List Addr), ∃ te, QE (X.blk s H scope (compEnvC scope cl C X.env) fp) elt te x)
    (hs : ∀ x, foldedSetIterable iter X.env x = pure x := by intro _; rfl) :
    QE X (.ListComp elt [⟨tg, iter, ifs, 0⟩] scope pos) (tLc wi (gAll X scope (pinC (own.map (·.2))) tg f) (tAll X scope ifs c) (eAll X scope elt x) (own.map (·.2))) (qLc (own.map (·.2)) src f c x) :=
  ⟨pe_lc hc hN hi.pi ok (fun s H C cl fp => g_all s H C cl fp (hg s H C cl fp)) (fun s H C cl fp => t_all s H C cl fp (ht s H C cl fp)) (fun s H C cl fp => e_all s H C cl fp (he s H C cl fp)) hs, qr_lc hi.ir g_allR t_allR e_allR⟩
theorem qe_dc (hc : X.calm = true) (hN : X.N.Nodup) (hi : IQ X tg iter wi src) (ok : BlkOk X.N X.env.scope scope own)
    (hg : ∀ (s : Shared) (H : Hp) (C : Addr) (cl : List (Str × Addr)) (fp : List Addr), ∃ g, GQ (X.blk s H scope (compEnvC scope cl C X.env) fp) (pinC (own.map (·.2))) tg g f)
    (ht : ∀ (s : Shared) (H : Hp) (C : Addr) (cl : List (Str × Addr)) (fp : List Addr), ∃ tt, TS' (X.blk s H scope (compEnvC scope cl C X.env) fp) ifs tt c)
    (hk : ∀ (s : Shared) (H : Hp) (C : Addr) (cl : List (Str × Addr)) (fp : List Addr), ∃ te, QE (X.blk s H scope (compEnvC scope cl C X.env) fp) kx te xk)
    (he : ∀ (s : Shared) (H : Hp) (C : Addr) (cl : List (Str × Addr)) (fp : List Addr), ∃ te, QE (X.blk s H scope (compEnvC scope cl C X.env) fp) elt te x)
    (hs : ∀ x, foldedSetIterable iter X.env x = pure x := by intro _; rfl) :
    QE X (.DictComp kx elt [⟨tg, iter, ifs, 0⟩] scope pos) (tDc wi (gAll X scope (pinC (own.map (·.2))) tg f) (tAll X scope ifs c) (eAll X scope kx xk) (eAll X scope elt x) (own.map (·.2))) (qDc (own.map (·.2)) src f c xk x) :=
  ⟨pe_dc hc hN hi.pi ok (fun s H C cl fp => g_all s H C cl fp (hg s H C cl fp)) (fun s H C cl fp => t_all s H C cl fp (ht s H C cl fp)) (fun s H C cl fp => e_all s H C cl fp (hk s H C cl fp)) (fun s H C cl fp => e_all s H C cl fp (he s H C cl fp)) hs, qr_dc hi.ir g_allR t_allR e_allR e_allR⟩
/-- name = [..] -/
theorem se_setLc0 {i : Nat} {y : Str} {py spos : Pos} {x' : Env → Option T} (hc : X.calm = true) (hN : X.N.Nodup) (hy : X.N[i]? = some y) (hyl : X.env.scope.names.lookup y = some .local)
    (hsw : swapsWith (.ListComp elt [⟨tg, iter, ifs, 0⟩] scope pos) (some (.Name y py)) spos.line X.env = pure true) (hi : IQ X tg iter wi src) (ok : BlkOk X.N X.env.scope scope own)
    (hg : ∀ (s : Shared) (H : Hp) (C : Addr) (cl : List (Str × Addr)) (fp : List Addr), ∃ g, GQ (X.blk s H scope (compEnvC scope cl C X.env) fp) (pinC (own.map (·.2))) tg g f)
    (ht : ∀ (s : Shared) (H : Hp) (C : Addr) (cl : List (Str × Addr)) (fp : List Addr), ∃ tt, TS' (X.blk s H scope (compEnvC scope cl C X.env) fp) ifs tt c)
    (he : ∀ (s : Shared) (H : Hp) (C : Addr) (cl : List (Str × Addr)) (fp : List Addr), ∃ te, QE (X.blk s H scope (compEnvC scope cl C X.env) fp) elt te x) (hp : P i = false)
    (hx : QR X.K X.mg (tLc wi (gAll X scope (pinC (own.map (·.2))) tg f) (tAll X scope ifs c) (eAll X scope elt x) (own.map (·.2))) x')
    (hs : ∀ x, foldedSetIterable iter X.env x = pure x := by intro _; rfl) :
    SE X P (.Assign [.Name y py] (.ListComp elt [⟨tg, iter, ifs, 0⟩] scope pos) spos) (tAsg (tLc wi (gAll X scope (pinC (own.map (·.2))) tg f) (tAll X scope ifs c) (eAll X scope elt x) (own.map (·.2))) (gName i)) (sAsg (eQ x') (gSet i)) :=
  ⟨ps_setLc hc hN hy hyl hsw hi.pi ok (fun s H C cl fp => g_all s H C cl fp (hg s H C cl fp)) (fun s H C cl fp => t_all s H C cl fp (ht s H C cl fp)) (fun s H C cl fp => e_all s H C cl fp (he s H C cl fp)) hs, sr_asg hx.e (gr_name hp)⟩
theorem se_setLc {i : Nat} {y : Str} {py spos : Pos} (hc : X.calm = true) (hN : X.N.Nodup) (hy : X.N[i]? = some y) (hyl : X.env.scope.names.lookup y = some .local)
    (hsw : swapsWith (.ListComp elt [⟨tg, iter, ifs, 0⟩] scope pos) (some (.Name y py)) spos.line X.env = pure true) (hi : IQ X tg iter wi src) (ok : BlkOk X.N X.env.scope scope own)
    (hg : ∀ (s : Shared) (H : Hp) (C : Addr) (cl : List (Str × Addr)) (fp : List Addr), ∃ g, GQ (X.blk s H scope (compEnvC scope cl C X.env) fp) (pinC (own.map (·.2))) tg g f)
    (ht : ∀ (s : Shared) (H : Hp) (C : Addr) (cl : List (Str × Addr)) (fp : List Addr), ∃ tt, TS' (X.blk s H scope (compEnvC scope cl C X.env) fp) ifs tt c)
    (he : ∀ (s : Shared) (H : Hp) (C : Addr) (cl : List (Str × Addr)) (fp : List Addr), ∃ te, QE (X.blk s H scope (compEnvC scope cl C X.env) fp) elt te x) (hp : P i = false)
    (hs : ∀ x, foldedSetIterable iter X.env x = pure x := by intro _; rfl) :
    SE X P (.Assign [.Name y py] (.ListComp elt [⟨tg, iter, ifs, 0⟩] scope pos) spos) (tAsg (tLc wi (gAll X scope (pinC (own.map (·.2))) tg f) (tAll X scope ifs c) (eAll X scope elt x) (own.map (·.2))) (gName i)) (sAsg (eQ (qLc (own.map (·.2)) src f c x)) (gSet i)) :=
  se_setLc0 hc hN hy hyl hsw hi ok hg ht he hp (qr_lc hi.ir g_allR t_allR e_allR) hs
end
end GK

/-! GK17: defs and calls. -/
namespace GK
open PySem L2 PySem.Spec PyProof.Rows

/-- a promise by trees: fn gives the value and what became of the arguments -/
def spV (K : PySem.W.Frag) (mg : Str → Option Value) (fn : List T → Option (T × List T)) (vs : List V) (H : Hp) (Q : VK) : Prop := ∃ H1 F ts t ts', Same H1 H ∧ Reps K mg H1 H vs ts F ∧ fn ts = some (t, ts') ∧
  ∀ v H1' H' F' Ft, Ext H1 H F H1' H' (fun b => F' b ∨ Ft b) → Reps K mg H1' H' vs ts' F' → Rep K mg H1' H' v t Ft → (∀ b, F' b → ¬ Ft b) → Q v H'
/-- a def, called where no guard stands -/
structure FnG (P : Program) (w : World) (K : PySem.W.Frag) (mg : Str → Option Value) (base : Heap) (k : Nat) (f : Addr) (fd : FuncData) (ps : List Str) (fn : List T → Option (T × List T)) : Prop where
  arity : ∀ ts r, fn ts = some r → ts.length = ps.length
  meets : ∀ (A : Around) (outer : List PySem.Env) (s : Shared) (H : Hp) (args : Args) (us : List Value) (vs : List V) (Q : VK), Room k A → A.guards = some [] → Env0 P w K mg base A outer s H → BindsTo s fd args (ps.zip us) → Vals vs us → spV K mg fn vs H Q →
    codeAny (model P w) A (.call (.ref f) args) (CR CX0 outer P w H s Q E0) s
/-- what may be called in a body: with us, and ws under the names ks -/
structure Callee (X : Cx) (f : Value) (ks : List Str) (fn : List T → Option (T × List T)) : Prop where
  keep : PySem.W.keepIn X.K f = true
  run : ∀ (pins : List (Addr × Obj)) (σ : L2.St) (H : Hp) (s : Shared) (Q : VK) (us ws : List Value) (vs zs : List V), Inv X pins σ H s → Vals vs us → Vals zs ws → zs.length = ks.length → spV X.K X.mg fn (vs ++ zs) H Q →
    wpAny (model X.prog X.w) X.A (call f us (ks.zip ws)) (EP X pins σ Q) X.xe s
theorem guards_deep {A : Around} {e : PySem.Env} (h : A.guards = some []) : (A.deeper e).guards = some [] := by
  first
    | exact h
    | simpa [Around.deeper] using h
theorem guards_make {A : Around} {C : Addr} {us : List Value} {kw : List (Str × Value)} (h : A.guards = some []) : (A.under (.builtin "type.__call__" ⟨.ref C :: us, kw⟩)).guards = some [] := by
  have e : (Code.builtin "type.__call__" ⟨.ref C :: us, kw⟩).guards = [] := by
    first
      | rfl
      | decide
      | simp [Code.guards, Code.isGuard, guardIds]
  show pushGuards (Code.builtin "type.__call__" ⟨.ref C :: us, kw⟩).guards A.guards = some []
  rw [e, h]
  rfl
section
variable {X : Cx} {k : Nat} {f C : Addr} {fd : FuncData} {ps : List Str} {fn : List T → Option (T × List T)}
theorem Reps.len2 {vs : List V} {ts : List T} {H1 H : Hp} {F : FP} {K : PySem.W.Frag} {mg : Str → Option Value} (r : Reps K mg H1 H vs ts F) : ts.length = vs.length := r.len.symm
/-- a def of the module -/
theorem callee_fn (F : FnG X.prog X.w X.K X.mg X.base k f fd ps fn) (hr : Room k X.A) (hg : X.A.guards = some []) (kp : PySem.W.keepIn X.K (.ref f) = true) (hb : Binds X.K fd ps []) : Callee X (.ref f) [] fn :=
  ⟨kp, fun pins σ H s Q us ws vs zs I r rz hl h => by
    obtain rfl : zs = [] := List.eq_nil_of_length_eq_zero hl
    cases rz
    rw [List.append_nil] at h
    have hn : us.length = ps.length := by
      obtain ⟨H1, G, ts, t, ts', s1, rr, e, q⟩ := h
      rw [← r.length, rr.len, F.arity _ _ e]
    refine wpAny_call (codeAny_mono (F.meets X.A X.stack s H ⟨us, []⟩ us vs Q hr hg I.env0 (by
      have hb' := hb s us I.kIn (by rw [List.append_nil]; exact hn)
      rw [List.append_nil] at hb'
      exact hb') r h) fun o s' ho => ?_)
    cases o with
    | error e => exact False.elim ho
    | ok fl =>
      cases fl with
      | ret u => exact I.after ho
      | next => exact False.elim ho
      | brk => exact False.elim ho
      | cont => exact False.elim ho⟩
/-- a constructor: what __init__ makes of a new object -/
def mkMake (c : String) (fn : List T → Option (T × List T)) (ts : List T) : Option (T × List T) := match fn (.obj true c [] :: ts) with
  | some (.non, o :: ts') => some (o, ts')
  | _ => none
theorem make_road {K : PySem.W.Frag} {mg : Str → Option Value} {c : String} {H : Hp} {vs : List V} {Q : VK} {x dx : Addr} (hc : mg (Str.ofString c) = some (.ref C)) (h : spV K mg (mkMake c fn) vs H Q) (nx : H x = none) (nd : H dx = none) (ne : dx ≠ x) :
    spV K mg fn (.ref x :: vs) (upd (upd H dx (.own x)) x (.ins C dx [])) (fun v H2 => v = .non ∧ Q (.ref x) H2) := by
  obtain ⟨H1, F, ts, t, ts', s, r, e, q⟩ := h
  unfold mkMake at e
  split at e
  · rename_i o tr e1
    cases e
    have x1 : Ext H1 H F H1 (upd H dx (.own x)) (fun b => b = dx ∨ F b) := Ext.newO s nd
    have nx' : upd H dx (.own x) x = none := by rw [upd_ne (fun z => ne z.symm)]; exact nx
    have x2 : Ext H1 (upd H dx (.own x)) (fun b => b = dx ∨ F b) H1 (upd (upd H dx (.own x)) x (.ins C dx [])) (fun b => b = x ∨ (b = dx ∨ F b)) := Ext.newO x1.sub nx'
    have out : ∀ {a : Addr}, H a = none → ¬ F a := fun {a} n z => by
      obtain ⟨_, o, e⟩ := r.own a z
      rw [n] at e; cases e
    have r1 : Reps K mg H1 (upd (upd H dx (.own x)) x (.ins C dx [])) vs ts F := r.frame (Same.refl _) fun b z => ⟨by rw [upd_ne (by rintro rfl; exact out nx z), upd_ne (by rintro rfl; exact out nd z)], (r.own b z).1⟩
    refine ⟨H1, fun b => (b = x ∨ F0 b) ∨ F b, .obj true c [] :: ts, .non, _, x2.sub, .cons (.obj upd_same (s.free nx) hc .nil fun z => z) r1 (fun b z w => z.elim (fun z => out nx (z ▸ w)) id), e1, fun v H1' H' F' Ft x3 r3 rv d => ?_⟩
    cases rv with
    | sh rv =>
      cases rv
      refine ⟨rfl, ?_⟩
      cases r3 with
      | cons a1 a2 a3 =>
        rename_i Fo Fr
        refine q (.ref x) H1' H' Fr Fo ?_ a2 a1 fun b z w => a3 b w z
        have x4 := (x1.trans x2).trans (x3.more (G := fun b => b = x ∨ (b = dx ∨ F b)) fun b z => z.elim (fun z => z.elim .inl fun z => z.elim) fun z => .inr (.inr z))
        exact x4.less fun b z => .inl (z.symm)
  · cases e
theorem callee_make {c : String} (M : Mk X.K C f) (F : FnG X.prog X.w X.K X.mg X.base k f fd ps fn) (hr : Room (k + 1) X.A) (hg : X.A.guards = some []) (hc : X.mg (Str.ofString c) = some (.ref C)) (hb : Binds X.K fd ps []) : Callee X (.ref C) [] (mkMake c fn) :=
  ⟨M.kp, fun pins σ H s Q us ws vs zs I r rz hl h => by
    obtain rfl : zs = [] := List.eq_nil_of_length_eq_zero hl
    cases rz
    rw [List.append_nil] at h
    have hq := make_road (x := s.heap.objs.size + 1) (dx := s.heap.objs.size) hc h (I.hok.fresh (Nat.le_succ _)) (I.hok.fresh (Nat.le_refl _)) (Nat.ne_of_lt (Nat.lt_succ_self _))
    have J := Inv.made (C := C) I
    have r2 : Vals (V.ref (s.heap.objs.size + 1) :: vs) (Value.ref (s.heap.objs.size + 1) :: us) := .cons rfl r
    have hn : (Value.ref (s.heap.objs.size + 1) :: us).length = ps.length := by
      obtain ⟨H1, G, ts, t, ts', s1, rr, e, q⟩ := hq
      rw [← r2.length, rr.len, F.arity _ _ e]
    have hb' := hb _ (Value.ref (s.heap.objs.size + 1) :: us) J.kIn (by rw [List.append_nil]; exact hn)
    rw [List.append_nil] at hb'
    refine wpAny_call (make_map (f := f) I.kIn M.makes M.init (beq_iff_eq.mp M.fn) (codeAny_mono (F.meets _ X.stack _ _ ⟨Value.ref (s.heap.objs.size + 1) :: us, []⟩ _ _ _ (hr.make C us []) (guards_make hg) (J.env0.make C us []) hb' r2 hq) fun o s' ho => ?_))
    cases o with
    | error e => exact False.elim ho
    | ok fl =>
      cases fl with
      | ret u =>
        obtain ⟨v, H', J2, rv, ev, q2⟩ := J.after ho
        subst ev
        exact ⟨rv, ⟨V.ref (s.heap.objs.size + 1), H', J2, rfl, q2⟩⟩
      | next => exact False.elim ho
      | brk => exact False.elim ho
      | cont => exact False.elim ho⟩
end

/-! ### calls by name -/
def tCallF (K : PySem.W.Frag) (mg : Str → Option Value) (fn : List T → Option (T × List T)) (t : TA) : TE := fun σ H Q => t σ H fun vs H1 => spV K mg fn vs H1 Q
section
variable {X : Cx} {f : Value} {fn : List T → Option (T × List T)} {x : Str} {p pos : Pos} {e : Expr} {es : List Expr} {tl : TA} {te : TE} {xs : Env → Option (List T)} {y : Env → Option (T × Env)}
theorem pe_callF (C : Callee X f [] fn) (hg : Gl X x) (hm : X.mg x = some f) (hv : ∃ a, f = .ref a) (ha : PA X (e :: es) tl) (hdb : (x == ("__debug__" : Str)) = false := by decide) (he : starEach (e :: es) X.env = (false, eval e X.env) :: starEach es X.env := by rfl)
    (hpl : (backTo pos (starEach es X.env)).any (·.1) = false := by rfl) : PE X (.Call (.Name x p) (e :: es) [] pos) (tCallF X.K X.mg fn tl) := by
  obtain ⟨a, rfl⟩ := hv
  refine ⟨fun pins s σ H Q I h => wpAny_Call_Name_kw (ld_glob I hg hm (PySem.W.callWith_K (h₀ := X.base) I.ok.mod.kin C.keep (thn (ha.run pos pins s σ H _ I h) fun us s1 ⟨vs, H1, I1, r, q⟩ => ⟨I1.kIn, ?_⟩) he hpl) hdb)⟩
  exact C.run pins σ H1 s1 Q us [] vs [] I1 r .nil rfl (by rw [List.append_nil]; exact q)
/-- nothing of the environment is changed -/
def qCall (fn : List T → Option (T × List T)) (xs : Env → Option (List T)) : Env → Option T := fun env => match xs env with
  | none => none
  | some ts => match fn ts with
    | some (t, _) => some t
    | none => none
theorem qe_call (C : Callee X f [] fn) (hg : Gl X x) (hm : X.mg x = some f) (hv : ∃ a, f = .ref a) (ha : QA X (e :: es) tl xs) (hdb : (x == ("__debug__" : Str)) = false := by decide) (he : starEach (e :: es) X.env = (false, eval e X.env) :: starEach es X.env := by rfl)
    (hpl : (backTo pos (starEach es X.env)).any (·.1) = false := by rfl) : QE X (.Call (.Name x p) (e :: es) [] pos) (tCallF X.K X.mg fn tl) (qCall fn xs) := ⟨pe_callF C hg hm hv ha.pa hdb he hpl, fun env t e H1 H σ F s R Q q => by
  unfold qCall at e
  split at e
  · cases e
  · rename_i ts e1
    split at e
    · rename_i u us e2
      cases e
      exact ha.qr _ _ e1 _ _ _ _ s R _ fun vs Ha Hb Ft x1 r1 => ⟨Ha, Ft, ts, _, us, x1.sub, r1, e2, fun v H1' H' F' Fv x2 r2 rv d => q v H1' H' Fv ((x1.trans x2).less fun _ z => .inr z) rv⟩
    · cases e⟩

/-! ### names lent -/
inductive Ar where
  | lent (i : Nat) | val (t : T)
inductive ArR (K : PySem.W.Frag) (mg : Str → Option Value) (H1 H : Hp) (σ : L2.St) : List V → List Ar → FP → Prop
  | nil : ArR K mg H1 H σ [] [] F0
  | lent {i : Nat} {v : V} {vs : List V} {as : List Ar} {F : FP} : σ[i]? = some (some v) → ArR K mg H1 H σ vs as F → ArR K mg H1 H σ (v :: vs) (.lent i :: as) F
  | val {t : T} {v : V} {vs : List V} {as : List Ar} {F G : FP} : Rep K mg H1 H v t F → ArR K mg H1 H σ vs as G → (∀ b, F b → ¬ G b) → ArR K mg H1 H σ (v :: vs) (.val t :: as) (fun b => F b ∨ G b)
def ELR (K : PySem.W.Frag) (mg : Str → Option Value) (ta : TA) (x : Env → Option (List Ar × Env)) : Prop := ∀ env as env', x env = some (as, env') → ∀ H1 H σ F, Same H1 H → RepE K mg H1 H σ env F → ∀ Q : List V → Hp → Prop,
  (∀ vs H1' H' F' Ft, Ext H1 H F H1' H' (fun b => F' b ∨ Ft b) → RepE K mg H1' H' σ env' F' → ArR K mg H1' H' σ vs as Ft → (∀ b, F' b → ¬ Ft b) → Q vs H') → ta σ H Q
structure EL (X : Cx) (es : List Expr) (ta : TA) (x : Env → Option (List Ar × Env)) : Prop where
  pa : PA X es ta
  er : ELR X.K X.mg ta x
def lNil : Env → Option (List Ar × Env) := fun env => some ([], env)
def lLent (i : Nat) (ys : Env → Option (List Ar × Env)) : Env → Option (List Ar × Env) := fun env => match env[i]? with
  | some (some _) => (match ys env with | some (as, env1) => some (.lent i :: as, env1) | none => none)
  | _ => none
def lVal (y : Env → Option (T × Env)) (ys : Env → Option (List Ar × Env)) : Env → Option (List Ar × Env) := fun env => match y env with
  | some (t, env1) => (match ys env1 with | some (as, env2) => some (.val t :: as, env2) | none => none)
  | none => none
theorem ArR.own {K : PySem.W.Frag} {mg : Str → Option Value} {H1 H : Hp} {σ : L2.St} : ∀ {vs : List V} {as : List Ar} {F : FP}, ArR K mg H1 H σ vs as F → ∀ b, F b → H1 b = none ∧ ∃ o, H b = some o
  | _, _, _, .nil, b, h => h.elim
  | _, _, _, .lent _ r, b, h => ArR.own r b h
  | _, _, _, .val a r _, b, h => h.elim (a.own b) (ArR.own r b)
theorem el_nil : EL X [] tNil lNil := ⟨pa_nil, fun env as env' e H1 H σ F s R Q q => by cases e; exact q [] H1 H F F0 ((Ext.refl s).less fun b z => z.elim id fun z => z.elim) R .nil fun _ _ z => z⟩
variable {ls : Env → Option (List Ar × Env)}
theorem el_lent (i : Nat) {z : Str} {zp : Pos} (h : PE X (.Name z zp) (tVar i)) (hr : EL X es tl ls) (hs : starEach (.Name z zp :: es) X.env = (false, eval (.Name z zp) X.env) :: starEach es X.env := by rfl) : EL X (.Name z zp :: es) (tCons (tVar i) tl) (lLent i ls) := ⟨pa_cons h hr.pa hs, fun env as env' e H1 H σ F s R Q q => by
  unfold lLent at e
  split at e
  · rename_i t e1
    split at e
    · rename_i bs env1 e2
      cases e
      obtain ⟨v, Fi, h1, h2, h3⟩ := R.get e1
      refine ⟨v, h1, hr.er _ _ _ e2 _ _ _ _ s R _ fun vs H1' H' F' Ft x1 R1 r1 d1 => q (v :: vs) H1' H' F' Ft x1 R1 (.lent h1 r1) d1⟩
    · cases e
  · cases e⟩
theorem el_val (h : EE X e te y) (hr : EL X es tl ls) (hs : starEach (e :: es) X.env = (false, eval e X.env) :: starEach es X.env := by rfl) : EL X (e :: es) (tCons te tl) (lVal y ls) := ⟨pa_cons h.pe hr.pa hs, fun env as env' e H1 H σ F s R Q q => by
  unfold lVal at e
  split at e
  · rename_i t env1 e1
    split at e
    · rename_i bs env2 e2
      cases e
      refine h.er _ _ _ e1 _ _ _ _ s R _ fun v Ha Hb F1 G1 x1 R1 r1 d1 => hr.er _ _ _ e2 _ _ _ _ x1.sub R1 _ fun vs Hc Hd F2 G2 x2 R2 r2 d2 => ?_
      obtain ⟨x3, k, n⟩ := eff2 x1 x2 r1.own d1
      exact q (v :: vs) Hc Hd F2 _ x3 R2 (.val (r1.frame x2.s1 k) r2 fun b z w => n b z (.inr w)) fun b z w => w.elim (fun w => n b w (.inl z)) (d2 b z)
    · cases e
  · cases e⟩
def fill : List Ar → Env → Option (List T × Env)
  | [], env => some ([], env)
  | .lent i :: r, env => match env[i]? with
    | some (some t) => (match fill r (env.set i none) with | some (ts, env1) => some (t :: ts, env1) | none => none)
    | _ => none
  | .val t :: r, env => match fill r env with | some (ts, env1) => some (t :: ts, env1) | none => none
theorem fill_rep {K : PySem.W.Frag} {mg : Str → Option Value} {H1 H : Hp} {σ : L2.St} : ∀ {vs : List V} {as : List Ar} {F Fa : FP} {env env1 : Env} {ts : List T}, ArR K mg H1 H σ vs as Fa → RepE K mg H1 H σ env F → (∀ b, F b → ¬ Fa b) → fill as env = some (ts, env1) →
    ∃ G G1, Reps K mg H1 H vs ts G ∧ RepE K mg H1 H σ env1 G1 ∧ (∀ b, G b → ¬ G1 b) ∧ (∀ b, G b → F b ∨ Fa b) ∧ ∀ b, G1 b → F b
  | _, _, F, _, env, env1, ts, .nil, R, d, e => by
    cases e
    exact ⟨F0, F, .nil, R, fun _ z => z.elim, fun _ z => z.elim, fun _ z => z⟩
  | _, _, F, _, env, env1, ts, .lent (i := i) (v := v) h r, R, d, e => by
    unfold fill at e
    split at e
    · rename_i t e1
      split at e
      · rename_i us env2 e2
        cases e
        obtain ⟨v', Fi, G0, h1, h2, h3, h4, h5, h6⟩ := R.take e1
        rw [h] at h1
        cases h1
        obtain ⟨G, G1, k1, k2, k3, k4, k5⟩ := fill_rep r h3 (fun b z => d b (h6 b z)) e2
        refine ⟨_, G1, .cons h2 k1 fun b z w => (k4 b w).elim (h4 b z) (d b (h5 b z)), k2, fun b z w => z.elim (fun z => h4 b z (k5 b w)) fun z => k3 b z w, fun b z => z.elim (fun z => .inl (h5 b z)) fun z => (k4 b z).imp (h6 b) id, fun b z => h6 b (k5 b z)⟩
      · cases e
    · cases e
  | _, _, F, _, env, env1, ts, .val (v := v) a r d1, R, d, e => by
    unfold fill at e
    split at e
    · rename_i us env2 e2
      cases e
      obtain ⟨G, G1, k1, k2, k3, k4, k5⟩ := fill_rep r R (fun b z w => d b z (.inr w)) e2
      exact ⟨_, G1, .cons a k1 fun b z w => (k4 b w).elim (fun q => d b q (.inl z)) (d1 b z), k2, fun b z w => z.elim (fun z => d b (k5 b w) (.inl z)) fun z => k3 b z w, fun b z => z.elim (fun z => .inr (.inl z)) fun z => (k4 b z).imp id .inr, k5⟩
    · cases e
def unfill : List Ar → List T → Env → Option Env
  | [], [], env => some env
  | .lent i :: r, t :: ts, env => if i < env.length then unfill r ts (env.set i (some t)) else none
  | .val _ :: r, _ :: ts, env => unfill r ts env
  | _, _, _ => none
theorem unfill_rep {K : PySem.W.Frag} {mg : Str → Option Value} {H1 H H2 H2' : Hp} {σ : L2.St} : ∀ {vs : List V} {as : List Ar} {Fa F' G : FP} {env env1 : Env} {ts : List T}, ArR K mg H1 H σ vs as Fa → Reps K mg H2 H2' vs ts F' → RepE K mg H2 H2' σ env G → (∀ b, F' b → ¬ G b) → unfill as ts env = some env1 →
    ∃ F2, RepE K mg H2 H2' σ env1 F2 ∧ ∀ b, F2 b → F' b ∨ G b
  | _, _, _, _, G, env, env1, _, .nil, .nil, R, d, e => by
    cases e
    exact ⟨G, R, fun _ z => .inr z⟩
  | _, _, _, _, G, env, env1, _, .lent (i := i) (v := v) h r, .cons a r2 d2, R, d, e => by
    unfold unfill at e
    split at e
    · rename_i hi
      obtain ⟨F1, R1, h1⟩ := R.put (i := i) hi a fun b z => d b (.inl z)
      rw [set_id h] at R1
      obtain ⟨F2, R2, h2⟩ := unfill_rep r r2 R1 (fun b z w => (h1 b w).elim (fun w => d2 b w z) (d b (.inr z))) e
      exact ⟨F2, R2, fun b z => (h2 b z).elim (fun z => .inl (.inr z)) fun z => (h1 b z).elim (fun z => .inl (.inl z)) .inr⟩
    · cases e
  | _, _, _, _, G, env, env1, _, .val a r d1, .cons a2 r2 d2, R, d, e => by
    unfold unfill at e
    obtain ⟨F2, R2, h2⟩ := unfill_rep r r2 R (fun b z => d b (.inr z)) e
    exact ⟨F2, R2, fun b z => (h2 b z).imp .inr id⟩
def eCall (fn : List T → Option (T × List T)) (ls : Env → Option (List Ar × Env)) : Env → Option (T × Env) := fun env => match ls env with
  | none => none
  | some (as, env1) => match fill as env1 with
    | none => none
    | some (ts, env2) => match fn ts with
      | none => none
      | some (t, ts') => match unfill as ts' env2 with
        | none => none
        | some env3 => some (t, env3)
theorem ee_call (C : Callee X f [] fn) (hg : Gl X x) (hm : X.mg x = some f) (hv : ∃ a, f = .ref a) (ha : EL X (e :: es) tl ls) (hdb : (x == ("__debug__" : Str)) = false := by decide) (he : starEach (e :: es) X.env = (false, eval e X.env) :: starEach es X.env := by rfl)
    (hpl : (backTo pos (starEach es X.env)).any (·.1) = false := by rfl) : EE X (.Call (.Name x p) (e :: es) [] pos) (tCallF X.K X.mg fn tl) (eCall fn ls) := ⟨pe_callF C hg hm hv ha.pa hdb he hpl, fun env t env' e H1 H σ F s R Q q => by
  unfold eCall at e
  split at e
  · cases e
  · rename_i as env1 e1
    split at e
    · cases e
    · rename_i ts env2 e2
      split at e
      · cases e
      · rename_i u ts' e3
        split at e
        · cases e
        · rename_i env3 e4
          cases e
          refine ha.er _ _ _ e1 _ _ _ _ s R _ fun vs Ha Hb F1 Ft x1 R1 r1 d1 => ?_
          obtain ⟨G, G1, k1, k2, k3, k4, k5⟩ := fill_rep r1 R1 d1 e2
          refine ⟨Ha, G, ts, _, ts', x1.sub, k1, e3, fun v H1' H' F' Fv x2 r2 rv d2 => ?_⟩
          obtain ⟨R2, n2⟩ := x2.repE k2 fun b z w => k3 b w z
          obtain ⟨F2, R3, h3⟩ := unfill_rep r1 r2 R2 (fun b z w => n2 b w (.inl z)) e4
          have x3 : Ext Ha Hb (fun b => F1 b ∨ Ft b) H1' H' (fun b => F2 b ∨ Fv b) :=
            ⟨x2.s1, x2.sub, fun b o z n => x2.keep b o z fun w => n (k4 b w), fun b z => z.elim (fun z => (h3 b z).elim (fun z => (x2.foot b (.inl z)).imp (k4 b) id) fun z => .inl (.inl (k5 b z))) fun z => (x2.foot b (.inr z)).imp (k4 b) id, fun b o z => (x2.new1 b o z).imp id fun z => z.imp (k4 b) id⟩
          exact q v H1' H' F2 Fv (x1.trans x3) R3 rv fun b z w => (h3 b z).elim (fun z => d2 b z w) fun z => n2 b z (.inr w)⟩
end

/-! ### a def, by its body -/
def back (P : Nat → Bool) : Nat → List T → Env → Option (List T)
  | _, [], _ => some []
  | k, t :: r, env => if t.sh then (match back P (k + 1) r env with | some us => some (t :: us) | none => none) else
    if P k then (match env[k]? with
      | some (some u) => (match back P (k + 1) r (env.set k none) with | some us => some (u :: us) | none => none)
      | _ => none) else none
def mkFn (n m : Nat) (P : Nat → Bool) (body : Env → Option Out) (ts : List T) : Option (T × List T) :=
  if ts.length = n then (match body (ts.map some ++ List.replicate (m - n) none) with
    | some (.nx env') => (match back P 0 ts env' with | some ts' => some (.non, ts') | none => none)
    | some (.rt t env') => (match back P 0 ts env' with | some ts' => some (t, ts') | none => none)
    | _ => none) else none
section
variable {K : PySem.W.Frag} {mg : Str → Option Value}
theorem repE_none {H1 H : Hp} : ∀ j : Nat, RepE K mg H1 H (List.replicate j none) (List.replicate j none) F0
  | 0 => .nil
  | j + 1 => .no (repE_none j)
theorem repE_start {H1 H : Hp} (j : Nat) : ∀ {vs : List V} {ts : List T} {F : FP}, Reps K mg H1 H vs ts F → ∃ F', RepE K mg H1 H (vs.map some ++ List.replicate j none) (ts.map some ++ List.replicate j none) F' ∧ ∀ b, F' b ↔ F b
  | _, _, _, .nil => ⟨F0, repE_none j, fun _ => Iff.rfl⟩
  | _, _, _, .cons a r d => by
    obtain ⟨F', R, h⟩ := repE_start j r
    exact ⟨_, .cons a R fun b z w => d b z ((h b).mp w), fun b => ⟨fun z => z.imp id (h b).mp, fun z => z.imp id (h b).mpr⟩⟩
theorem back_rep {P : Nat → Bool} {H1 H H1' H' : Hp} {σ : L2.St} (s1 : Same H1 H1') : ∀ {vs : List V} {ts us : List T} {F F' : FP} {k : Nat} {env : Env}, Reps K mg H1 H vs ts F → RepE K mg H1' H' σ env F' → (∀ j v, vs[j]? = some v → P (k + j) = true → σ[k + j]? = some (some v)) → back P k ts env = some us →
    ∃ G, Reps K mg H1' H' vs us G ∧ ∀ b, G b → F' b
  | _, _, _, _, F', k, env, .nil, R, h, e => by
    cases e
    exact ⟨F0, .nil, fun _ z => z.elim⟩
  | _, _, us, _, F', k, env, .cons (v := v) (vs := vs) a r d, R, h, e => by
    have h' : ∀ j w, vs[j]? = some w → P (k + 1 + j) = true → σ[k + 1 + j]? = some (some w) := fun j w hj hp => by
      have q := h (j + 1) w (by simpa using hj)
      rw [show k + (j + 1) = k + 1 + j by omega] at q
      exact q hp
    unfold back at e
    split at e
    · rename_i hs
      split at e
      · rename_i ws e1
        cases e
        obtain ⟨G, r1, h1⟩ := back_rep s1 r R h' e1
        exact ⟨_, .cons (.sh ((a.fzOf hs).mono s1)) r1 fun _ z => z.elim, fun b z => z.elim (fun z => z.elim) (h1 b)⟩
      · cases e
    · split at e
      · rename_i hp
        split at e
        · rename_i u e1
          split at e
          · rename_i ws e2
            cases e
            obtain ⟨v', Fi, G0, k1, k2, k3, k4, k5, k6⟩ := R.take e1
            have q := h 0 v rfl (by simpa using hp)
            rw [Nat.add_zero, k1] at q
            cases q
            obtain ⟨G, r1, h1⟩ := back_rep s1 r k3 h' e2
            exact ⟨_, .cons k2 r1 fun b z w => k4 b z (h1 b w), fun b z => z.elim (k5 b) fun z => k6 b (h1 b z)⟩
          · cases e
        · cases e
      · cases e
variable {P : Program} {w : World} {base : Heap} {x qual : Str} {st : Stmt} {f : Addr} {fd : FuncData} {N ps : List Str} {k : Nat}
/-- the context of a def's body -/
abbrev bodyCx (P : Program) (w : World) (K : PySem.W.Frag) (mg : Str → Option Value) (base : Heap) (N : List Str) (qual : Str) (st : Stmt) (f : Addr) (cdv : Value) (A : Around) (outer : List PySem.Env) (s : Shared) (H : Hp) : Cx :=
  (cxOf CX0 P w K mg base N qual (defScope st) f cdv A outer s H E0).nox
theorem fn_ok (F : Fun K x qual st f fd) (S : FnScope N ps (defScope st)) {pin : Nat → Bool} {b : Env → Option Out}
    (hbody : ∀ (cdv : Value) (A : Around) (outer : List PySem.Env) (s : Shared) (H : Hp), Room k (A.deeper (envOfC qual (defScope st) s.heap.objs.size f cdv)) → (A.deeper (envOfC qual (defScope st) s.heap.objs.size f cdv)).guards = some [] →
      ∃ ts, SEs (bodyCx P w K mg base N qual st f cdv A outer s H) pin (defBody st) ts b) : FnG P w K mg base (k + 1) f fd ps (mkFn ps.length N.length pin b) := by
  have ar : ∀ ts r, mkFn ps.length N.length pin b ts = some r → ts.length = ps.length := fun ts r e => by
    unfold mkFn at e
    split at e
    · assumption
    · cases e
  refine ⟨ar, fun A outer s H args us vs Q hr hg e0 hb rv h => ?_⟩
  obtain ⟨oc, od, kV, doc, pm, an, cdv, ct, osl, rfl, lk, hcd⟩ := F.ex
  obtain ⟨H1, Fv, ts, t, ts', s0, rr, efn, q⟩ := h
  have hl : vs.length = ps.length := by rw [rr.len]; exact ar _ _ efn
  have KX : K.In s.heap := e0.mod.kin.keeps fun b o e => (e0.bs b o e).1
  have lim : s.heap.NoLimit := e0.mod.nolimit.keeps fun b o e => (e0.bs b o e).1
  refine codeAny_call_function hr.depth (KX _ _ lk) rfl S.co S.gen rfl (PySem.W.codeRec_of KX hcd) (hb _ _ _ _ ?_)
  refine wpAny_newFunctionEnv_cells S.kind (fun ⟨n, v⟩ hy => (S.par n (List.of_mem_zip hy).1).imp id fun q => ⟨q, PySem.W.cellsFrom_some _ _ _ (.inl q)⟩) fun env he s1 xx => ?_
  subst he
  refine ⟨lim.keeps xx.toInCall.keep, codeAny_func ?_⟩
  obtain ⟨tS, hS⟩ := hbody cdv A outer s H (hr.deeper _) (guards_deep hg)
  have I : Inv (cxOf CX0 P w K mg base N qual (defScope st) f cdv A outer s H E0) [] (L2.start N vs) H s1 := inv_start S hr.hd e0 hl rv xx
  have fin : ∀ {s' : Shared} {σ' : L2.St} {H' : Hp} {v : V} {u : Value}, Inv (cxOf CX0 P w K mg base N qual (defScope st) f cdv A outer s H E0) [] σ' H' s' → RelV v u → Q v H' → L2.CE outer P w H s Q u s' :=
    fun {s' σ' H' v u} J rv q => ⟨v, H', J.os, J.bare, J.base, J.hok, rv, q⟩
  obtain ⟨Fe, Re, hFe⟩ := repE_start (N.length - ps.length) rr
  have hst : L2.start N vs = vs.map some ++ List.replicate (N.length - ps.length) none := by unfold L2.start; rw [hl]
  have pinned : ∀ {σ' : L2.St}, (∀ i, pin i = true → σ'[i]? = (vs.map some ++ List.replicate (N.length - ps.length) none)[i]?) → ∀ j v, vs[j]? = some v → pin (0 + j) = true → σ'[0 + j]? = some (some v) := fun {σ'} pn j v hj hp => by
    rw [pn _ hp, Nat.zero_add, List.getElem?_append_left (by rw [List.length_map]; exact (List.getElem?_eq_some_iff.mp hj).1), List.getElem?_map, hj]
    rfl
  have hq : tS { nx := fun _ H' => Q .non H', rt := Q } (L2.start N vs) H := by
    rw [hst]
    unfold mkFn at efn
    rw [if_pos (ar _ _ (by unfold mkFn; exact efn))] at efn
    split at efn
    · rename_i env' eb
      split at efn
      · rename_i us' ek
        cases efn
        refine hS.sr _ _ eb _ _ _ _ s0 Re _ fun σ' H1' H' F' x1 R1 pn => ?_
        obtain ⟨G, r2, hG⟩ := back_rep x1.s1 rr R1 (pinned pn) ek
        exact q .non H1' H' G F0 ((x1.more fun b z => (hFe b).mp z).less fun b z => z.elim (hG b) fun z => z.elim) r2 (.sh .non) fun _ _ z => z
      · cases efn
    · rename_i t0 env' eb
      split at efn
      · rename_i us' ek
        cases efn
        refine hS.sr _ _ eb _ _ _ _ s0 Re _ fun v σ' H1' H' F' Ft x1 R1 r1 d1 pn => ?_
        obtain ⟨G, r2, hG⟩ := back_rep x1.s1 rr R1 (pinned pn) ek
        exact q v H1' H' G Ft ((x1.more fun b z => (hFe b).mp z).less fun b z => z.imp (hG b) id) r2 r1 fun b z => d1 b (hG b z)
      · cases efn
    · cases efn
  refine wpAny_mono (hS.ps.nox.run [] s1 (L2.start N vs) H _ I hq) (fun fl s' hs => ?_) fun e s' hs => hs
  cases fl with
  | ret u =>
    obtain ⟨v, σ', H', J, rv, q⟩ := hs
    exact fin J rv q
  | next =>
    obtain ⟨σ', H', J, q⟩ := hs
    exact fin (v := V.non) (u := Value.none) J rfl q
  | brk => obtain ⟨_, _, _, q⟩ := hs; exact False.elim q
  | cont => obtain ⟨_, _, _, q⟩ := hs; exact False.elim q
end
end GK

/-! GKZ: dict(zip(a text, a tuple)): zip over iterators of any kind, its last tuple still held. -/
namespace GKZ
open PySem
section
variable {prog : Program} {w : World} {A : Around} {E : Value → Shared → Prop} {s : Shared} {z TI TO T i1 i2 : Addr} {fp1 fp2 : List Addr} {n1 n2 i : Nat} {P1 P2 : Nat → Value → Prop} {St1 St2 : Nat → Heap → Prop} {b : Bool} {oT : Obj}
theorem held_item {Q : Value → Shared → Prop} (S : ZipSep2 z TI TO i1 i2 fp1 fp2) (D1 : Draws prog w A i1 fp1 n1 P1 St1) (D2 : Draws prog w A i2 fp2 n2 P2 St2)
    (hz : IsZipHeld s.heap z TI TO T b) (hT : s.heap.get? T = some oT) (hI : IsTupOf2 s.heap TI (.ref i1) (.ref i2)) (st1 : St1 i s.heap) (st2 : St2 i s.heap) (l1 : i < n1) (l2 : i < n2)
    (fin : ∀ x1 x2 h' tk, P1 i x1 → P2 i x2 → IsZipHeld h' z TI TO T true → St1 (i + 1) h' → St2 (i + 1) h' → IsTupOf2 h' s.heap.objs.size x1 x2 → h'.objs.size = s.heap.objs.size + 1 →
      (∀ c o, c ≠ z → c ≠ i1 → c ≠ i2 → s.heap.get? c = some o → h'.get? c = some o) → Q (.ref s.heap.objs.size) { s with heap := h', toks := tk }) :
    wpAny (model prog w) A (Builtin.«zip.__next__» ⟨[.ref z], []⟩) (fun fin s' => ∃ v, fin = .done (.ret v) ∧ Q v s') E s := by
  obtain ⟨hp, g, d, tk0, os⟩ := s
  show wpAny _ _ (field (.ref z) 2 >>= _) _ _ _
  refine wpAny_bind (wpAny_field hz rfl (x := .bool false) rfl ?_)
  show wpAny _ _ (field (.ref z) 3 >>= _) _ _ _
  refine wpAny_bind (wpAny_field hz rfl (x := .ref TI) rfl ?_)
  refine wpAny_bind (wpAny_seqItems hI rfl ?_)
  show wpAny _ _ (Builtin.SmallTypes.ownedTupleIsFree (.ref z) >>= _) _ _ _
  refine wpAny_bind (wpAny_tupleHeld_zip hz hT fun g0 hz0 hs0 => ?_)
  replace hs0 : Heap.SameBut z hp g0 := hs0
  simp only [Bool.false_eq_true, if_false]
  refine wpAny_bind ?_
  rw [← Array.forIn_toList]
  simp only [List.forIn_cons, List.forIn_nil]
  refine wpAny_bind (wpAny_bind (wpAny_holding ?_))
  show wpAny _ _ (Builtin.SmallTypes.nextOf (.ref i1) >>= _) _ _ ⟨g0, g, d, tk0, os⟩
  refine wpAny_bind (D1.item i ⟨g0, g, d, tk0, os⟩ _ _ l1 (D1.over st1 hs0 S.zf1) fun x1 p1 tk1 hx1 sn1 hp1 => wpAny_pure (wpAny_pure ?_))
  replace hp1 : Heap.SameBut i1 g0 p1 := hp1
  refine wpAny_bind (wpAny_bind (wpAny_holding ?_))
  show wpAny _ _ (Builtin.SmallTypes.nextOf (.ref i2) >>= _) _ _ ⟨p1, g, d, tk1, os⟩
  refine wpAny_bind (D2.item i ⟨p1, g, d, tk1, os⟩ _ _ l2 (D2.over (D2.over st2 hs0 S.zf2) hp1 S.sep1_2) fun x2 p2 tk2 hx2 sn2 hp2 => wpAny_pure (wpAny_pure (wpAny_pure ?_)))
  replace hp2 : Heap.SameBut i2 p1 p2 := hp2
  show wpAny _ _ (newTuple [x1, x2] >>= _) _ _ _
  refine wpAny_bind (wpAny_newTuple (wpAny_pure ⟨_, rfl, ?_⟩))
  have hsz : p2.objs.size = hp.objs.size := by rw [hp2.1, hp1.1, hs0.1]
  have hz2 : IsZipHeld p2 z TI TO T true := hp2.extBut _ _ S.zi2 (hp1.extBut _ _ S.zi1 hz0)
  have kk : ∀ c o, c ≠ z → c ≠ i1 → c ≠ i2 → hp.get? c = some o → p2.get? c = some o := fun c o c1 c2 c3 e => hp2.extBut _ _ c3 (hp1.extBut _ _ c2 (hs0.extBut _ _ c1 e))
  have up : ∀ c o, p2.get? c = some o → (p2.push { cls := .type "tuple", data := .seq #[x1, x2] }).get? c = some o := fun c o e => Heap.get?_push_of_some _ e
  have hnew : IsTupOf2 (p2.push { cls := .type "tuple", data := .seq #[x1, x2] }) p2.objs.size x1 x2 := Heap.get?_push_size _ rfl
  have hsz' : (p2.push { cls := .type "tuple", data := .seq #[x1, x2] }).objs.size = p2.objs.size + 1 := Heap.size_push ..
  show Q (.ref p2.objs.size) ⟨p2.push { cls := .type "tuple", data := .seq #[x1, x2] }, g, d, tk2, os⟩
  rw [hsz] at hnew hsz' ⊢
  exact fin x1 x2 _ tk2 hx1 hx2 (up _ _ hz2) (D1.frame _ _ _ (D1.over sn1 hp2 S.sep2_1) fun c _ o e => up c o e) (D2.frame _ _ _ sn2 fun c _ o e => up c o e) hnew hsz' fun c o c1 c2 c3 e => up _ _ (kk c o c1 c2 c3 e)
theorem held_end {Q : Fin → Shared → Prop} (S : ZipSep2 z TI TO i1 i2 fp1 fp2) (D1 : Draws prog w A i1 fp1 n1 P1 St1) (D2 : Draws prog w A i2 fp2 n2 P2 St2)
    (hz : IsZipHeld s.heap z TI TO T b) (hT : s.heap.get? T = some oT) (hI : IsTupOf2 s.heap TI (.ref i1) (.ref i2)) (st1 : St1 i s.heap) (st2 : St2 i s.heap) (l1 : i ≤ n1) (l2 : i ≤ n2) (hend : i = n1 ∨ i = n2)
    (fin : ∀ h' tk e, (∀ c o, c ≠ z → c ≠ i1 → c ≠ i2 → s.heap.get? c = some o → h'.get? c = some o) → (∃ o, h'.get? e = some o ∧ o.cls = .type "StopIteration") → E (.ref e) { s with heap := h', toks := tk }) :
    wpAny (model prog w) A (Builtin.«zip.__next__» ⟨[.ref z], []⟩) Q E s := by
  obtain ⟨hp, g, d, tk0, os⟩ := s
  show wpAny _ _ (field (.ref z) 2 >>= _) _ _ _
  refine wpAny_bind (wpAny_field hz rfl (x := .bool false) rfl ?_)
  show wpAny _ _ (field (.ref z) 3 >>= _) _ _ _
  refine wpAny_bind (wpAny_field hz rfl (x := .ref TI) rfl ?_)
  refine wpAny_bind (wpAny_seqItems hI rfl ?_)
  show wpAny _ _ (Builtin.SmallTypes.ownedTupleIsFree (.ref z) >>= _) _ _ _
  refine wpAny_bind (wpAny_tupleHeld_zip hz hT fun g0 hz0 hs0 => ?_)
  replace hs0 : Heap.SameBut z hp g0 := hs0
  simp only [Bool.false_eq_true, if_false]
  refine wpAny_bind ?_
  rw [← Array.forIn_toList]
  simp only [List.forIn_cons, List.forIn_nil]
  refine wpAny_bind (wpAny_bind (wpAny_holding ?_))
  show wpAny _ _ (Builtin.SmallTypes.nextOf (.ref i1) >>= _) _ _ ⟨g0, g, d, tk0, os⟩
  by_cases hlt : i < n1
  · have e2 : i = n2 := hend.resolve_left (Nat.ne_of_lt hlt)
    refine wpAny_bind (D1.item i ⟨g0, g, d, tk0, os⟩ _ _ hlt (D1.over st1 hs0 S.zf1) fun x1 p1 tk1 hx1 sn1 hp1 => wpAny_pure (wpAny_pure ?_))
    replace hp1 : Heap.SameBut i1 g0 p1 := hp1
    refine wpAny_bind (wpAny_bind (wpAny_holding ?_))
    show wpAny _ _ (Builtin.SmallTypes.nextOf (.ref i2) >>= _) _ _ ⟨p1, g, d, tk1, os⟩
    refine wpAny_bind (D2.done ⟨p1, g, d, tk1, os⟩ _ _ (by rw [← e2]; exact D2.over (D2.over st2 hs0 S.zf2) hp1 S.sep1_2) fun q e hq he => ?_)
    exact fin q tk1 e (fun c o c1 c2 c3 x => hq _ _ c3 (hp1.extBut _ _ c2 (hs0.extBut _ _ c1 x))) he
  · have e1 : i = n1 := Nat.le_antisymm l1 (Nat.le_of_not_lt hlt)
    refine wpAny_bind (D1.done ⟨g0, g, d, tk0, os⟩ _ _ (by rw [← e1]; exact D1.over st1 hs0 S.zf1) fun q e hq he => ?_)
    exact fin q tk0 e (fun c o c1 c2 _ x => hq _ _ c2 (hs0.extBut _ _ c1 x)) he
theorem pyNext_held_item {Q : Option Value → Shared → Prop} (S : ZipSep2 z TI TO i1 i2 fp1 fp2) (D1 : Draws prog w A.in1 i1 fp1 n1 P1 St1) (D2 : Draws prog w A.in1 i2 fp2 n2 P2 St2)
    (hz : IsZipHeld s.heap z TI TO T b) (hT : s.heap.get? T = some oT) (hI : IsTupOf2 s.heap TI (.ref i1) (.ref i2)) (st1 : St1 i s.heap) (st2 : St2 i s.heap) (l1 : i < n1) (l2 : i < n2)
    (fin : ∀ x1 x2 h' tk, P1 i x1 → P2 i x2 → IsZipHeld h' z TI TO T true → St1 (i + 1) h' → St2 (i + 1) h' → IsTupOf2 h' s.heap.objs.size x1 x2 → h'.objs.size = s.heap.objs.size + 1 →
      (∀ c o, c ≠ z → c ≠ i1 → c ≠ i2 → s.heap.get? c = some o → h'.get? c = some o) → Q (some (.ref s.heap.objs.size)) { s with heap := h', toks := tk }) :
    wpAny (model prog w) A (pyNext (.ref z)) Q E s := by
  have ty : s.TypeIs (.ref z) "zip" := ⟨_, hz, rfl⟩
  unfold pyNext
  exact wpAny_bind (wpAny_attempt (wpAny_callSpecial?_slot (name := Str.ofString "__next__") ty F.slot_zip_next (wpAny_call_entry F.slot_zip_next ty F.entry_zip_next
    (held_item S D1 D2 hz hT hI st1 st2 l1 l2 fun x1 x2 h' tk a1 a2 a3 a4 a5 a6 a7 a8 => wpAny_pure (fin x1 x2 h' tk a1 a2 a3 a4 a5 a6 a7 a8)) (F.args_zip_next_1 _))))
theorem pyNext_held_end {Q : Option Value → Shared → Prop} (S : ZipSep2 z TI TO i1 i2 fp1 fp2) (D1 : Draws prog w A.in1 i1 fp1 n1 P1 St1) (D2 : Draws prog w A.in1 i2 fp2 n2 P2 St2)
    (hz : IsZipHeld s.heap z TI TO T b) (hT : s.heap.get? T = some oT) (hI : IsTupOf2 s.heap TI (.ref i1) (.ref i2)) (st1 : St1 i s.heap) (st2 : St2 i s.heap) (l1 : i ≤ n1) (l2 : i ≤ n2) (hend : i = n1 ∨ i = n2)
    (fin : ∀ h' tk, (∀ c o, c ≠ z → c ≠ i1 → c ≠ i2 → s.heap.get? c = some o → h'.get? c = some o) → Q none { s with heap := h', toks := tk }) : wpAny (model prog w) A (pyNext (.ref z)) Q E s := by
  have ty : s.TypeIs (.ref z) "zip" := ⟨_, hz, rfl⟩
  unfold pyNext
  refine wpAny_bind (wpAny_attempt (wpAny_callSpecial?_slot (name := Str.ofString "__next__") ty F.slot_zip_next (wpAny_call_entry F.slot_zip_next ty F.entry_zip_next
    (held_end S D1 D2 hz hT hI st1 st2 l1 l2 hend fun h' tk e hk he => ?_) (F.args_zip_next_1 _))))
  obtain ⟨o, ho, hc⟩ := he
  exact wpAny_bind (wpAny_isInstance (T := "StopIteration") (b := true) ⟨o, ho, hc⟩ isSubtype_stop (wpAny_pure (fin _ _ hk)))
end
section
variable {prog : Program} {w : World} {z TI TO i1 i2 : Addr} {fp1 fp2 : List Addr} {n1 n2 : Nat} {P1 P2 : Nat → Value → Prop} {St1 St2 : Nat → Heap → Prop}
/-- zip over two iterators of any kind, as dict()'s argument -/
theorem arg_zip (S : ZipSep2 z TI TO i1 i2 fp1 fp2) (D1 : ∀ A : Around, A.handled = none → Draws prog w A i1 fp1 n1 P1 St1) (D2 : ∀ A : Around, A.handled = none → Draws prog w A i2 fp2 n2 P2 St2)
    (th1 : ∀ h, St1 0 h → ∀ b ∈ fp1, ∃ o, h.get? b = some o) (th2 : ∀ h, St2 0 h → ∀ b ∈ fp2, ∃ o, h.get? b = some o) (A0 : Around) (h0 : A0.handled = none) :
    PairArg prog w "zip" z (z :: TI :: TO :: (fp1 ++ fp2)) [z, TO, i1, i2] (min n1 n2) (fun i k v => P1 i k ∧ P2 i v)
      (fun h => IsZip h z TI TO .none ∧ IsTupOf2 h TI (.ref i1) (.ref i2) ∧ (∃ a b, IsTupOf2 h TO a b) ∧ St1 0 h ∧ St2 0 h) where
  type := fun s ok => ⟨_, ok.1, rfl⟩
  notDict := by decide
  keep := fun h h' ok hk => by
    obtain ⟨a1, a2, ⟨a, b, a3⟩, a4, a5⟩ := ok
    exact ⟨hk _ _ a1, hk _ _ a2, ⟨a, b, hk _ _ a3⟩, (D1 A0 h0).frame _ _ _ a4 fun c _ o e => hk c o e, (D2 A0 h0).frame _ _ _ a5 fun c _ o e => hk c o e⟩
  there := fun h ok b hb => by
    obtain ⟨a1, a2, ⟨a, c, a3⟩, a4, a5⟩ := ok
    simp only [List.mem_cons, List.mem_append] at hb
    rcases hb with rfl | rfl | rfl | hb | hb
    · exact ⟨_, a1⟩
    · exact ⟨_, a2⟩
    · exact ⟨_, a3⟩
    · exact th1 h a4 b hb
    · exact th2 h a5 b hb
  sub := fun b hb => by
    simp only [List.mem_cons, List.mem_append, List.not_mem_nil, or_false] at hb ⊢
    rcases hb with rfl | rfl | rfl | rfl
    · exact .inl rfl
    · exact .inr (.inr (.inl rfl))
    · exact .inr (.inr (.inr (.inl S.mem1)))
    · exact .inr (.inr (.inr (.inr S.mem2)))
  noKeys := fun A s Q E hA ok h => getAttrOr_miss_zip ok.1 rfl rfl rfl zip_no_keys (by decide +kernel) hA h
  iter := fun A s d Q E hA ok hd hdf h => by
    obtain ⟨a1, a2, ⟨a, b, a3⟩, a4, a5⟩ := ok
    simp only [List.mem_cons, List.mem_append, not_or] at hdf
    obtain ⟨dz, dTI, dTO, df1, df2⟩ := hdf
    have di1 : d ≠ i1 := fun e => df1 (e ▸ S.mem1)
    have di2 : d ≠ i2 := fun e => df2 (e ▸ S.mem2)
    refine wpAny_pyIter_zip a1 (h z [z, TO, i1, i2] (fun i h => IsTupOf2 h TI (.ref i1) (.ref i2) ∧ St1 i h ∧ St2 i h ∧
      ((IsZip h z TI TO .none ∧ ∃ a b, IsTupOf2 h TO a b) ∨ ∃ T f oT, IsZipHeld h z TI TO T f ∧ h.get? T = some oT ∧ T ≠ z ∧ T ≠ i1 ∧ T ≠ i2 ∧ T ≠ d)) s.heap s.toks ?_
      ⟨a2, a4, a5, .inl ⟨a1, a, b, a3⟩⟩ (fun _ _ e => e) fun b hb => .inl hb)
    exact {
      off := fun hm => by
        simp only [List.mem_cons, List.not_mem_nil, or_false] at hm
        rcases hm with e | e | e | e
        · exact dz e
        · exact dTO e
        · exact di1 e
        · exact di2 e
      frame := fun i h₁ h₂ st hk => by
        obtain ⟨b1, b2, b3, b4⟩ := st
        refine ⟨hk _ _ (Ne.symm dTI) b1, (D1 A hA).frame _ _ _ b2 fun c hc o e => hk c o (fun q => df1 (q ▸ hc)) e, (D2 A hA).frame _ _ _ b3 fun c hc o e => hk c o (fun q => df2 (q ▸ hc)) e, ?_⟩
        rcases b4 with ⟨b4, a, b, b5⟩ | ⟨T, f, oT, b4, b5, r1, r2, r3, r4⟩
        · exact .inl ⟨hk _ _ (Ne.symm dz) b4, a, b, hk _ _ (Ne.symm dTO) b5⟩
        · exact .inr ⟨T, f, oT, hk _ _ (Ne.symm dz) b4, hk _ _ r4 b5, r1, r2, r3, r4⟩
      item := fun i s₁ Q₁ E₁ hi st hds hQ => by
        obtain ⟨b1, b2, b3, b4⟩ := st
        have m1 : i < n1 := Nat.lt_of_lt_of_le hi (Nat.min_le_left ..)
        have m2 : i < n2 := Nat.lt_of_lt_of_le hi (Nat.min_le_right ..)
        have lt : ∀ {c o}, s₁.heap.get? c = some o → s₁.heap.objs.size ≠ c := fun e => Nat.ne_of_gt (Heap.lt_size e)
        have x1 : s₁.heap.objs.size ≠ i1 := let ⟨_, e⟩ := (D1 A hA).live _ _ b2; lt e
        have x2 : s₁.heap.objs.size ≠ i2 := let ⟨_, e⟩ := (D2 A hA).live _ _ b3; lt e
        rcases b4 with ⟨b4, a, b, b5⟩ | ⟨T, f, oT, b4, b5, r1, r2, r3, r4⟩
        · refine wpAny_pyNext_zipD2_item S (D1 A.in1 hA) (D2 A.in1 hA) b4 b1 b5 b2 b3 m1 m2 fun y1 y2 h' tk p1 p2 c1 c2 c3 c4 c5 c6 hk => ?_
          exact hQ s₁.heap.objs.size _ _ h' tk ⟨p1, p2⟩ (.inl ⟨_, c5, rfl, _, rfl⟩)
            ⟨hk _ _ S.TIz S.TITO S.TIi1 S.TIi2 b1, c3, c4, .inr ⟨s₁.heap.objs.size, false, _, c1, c5, lt b4, x1, x2, Nat.ne_of_gt hds⟩⟩
            fun c o hc e => hk c o (fun x => hc (by simp [x])) (fun x => hc (by simp [x])) (fun x => hc (by simp [x])) (fun x => hc (by simp [x])) e
        · refine pyNext_held_item S (D1 A.in1 hA) (D2 A.in1 hA) b4 b5 b1 b2 b3 m1 m2 fun y1 y2 h' tk p1 p2 c1 c3 c4 c5 c6 hk => ?_
          exact hQ s₁.heap.objs.size _ _ h' tk ⟨p1, p2⟩ (.inl ⟨_, c5, rfl, _, rfl⟩)
            ⟨hk _ _ S.TIz S.TIi1 S.TIi2 b1, c3, c4, .inr ⟨T, true, oT, c1, hk _ _ r1 r2 r3 b5, r1, r2, r3, r4⟩⟩
            fun c o hc e => hk c o (fun x => hc (by simp [x])) (fun x => hc (by simp [x])) (fun x => hc (by simp [x])) e
      done := fun s₁ Q₁ E₁ st hQ => by
        obtain ⟨b1, b2, b3, b4⟩ := st
        have hend : min n1 n2 = n1 ∨ min n1 n2 = n2 := by omega
        rcases b4 with ⟨b4, a, b, b5⟩ | ⟨T, f, oT, b4, b5, r1, r2, r3, r4⟩
        · exact wpAny_pyNext_zipD2_end S (D1 A.in1 hA) (D2 A.in1 hA) b4 b1 b5 b2 b3 (Nat.min_le_left ..) (Nat.min_le_right ..) hend fun h' tk hk => hQ h' tk fun c o hc e => hk c o (fun x => hc (by simp [x])) (fun x => hc (by simp [x])) (fun x => hc (by simp [x])) (fun x => hc (by simp [x])) e
        · exact pyNext_held_end S (D1 A.in1 hA) (D2 A.in1 hA) b4 b5 b1 b2 b3 (Nat.min_le_left ..) (Nat.min_le_right ..) hend fun h' tk hk => hQ h' tk fun c o hc e => hk c o (fun x => hc (by simp [x])) (fun x => hc (by simp [x])) (fun x => hc (by simp [x])) e }
end
end GKZ

/-! GK18: dict(zip(a text, a tuple)). -/
namespace GK
open PySem L2 PySem.Spec PyProof.Rows

def zipKeys (z : List Nat) (ys : List T) : List (Key × T) := (z.zip ys).map fun p => (.inr (S [p.1]), p.2)
def zipV (z : List Nat) (ys : List V) : List (Key × V) := (z.zip ys).map fun p => (.inr (S [p.1]), p.2)
def zipU (z : List Nat) (ys : List Value) : List (Key × Value) := (z.zip ys).map fun p => (.inr (S [p.1]), p.2)
def mergeT (kvs more : List (Key × T)) : List (Key × T) := more.foldl (fun acc kv => tput acc kv.1 kv.2) kvs
def rDictZ (K : PySem.W.Frag) : List V → Hp → VK → Prop := fun vs H Q => ∃ (z : List Nat) (q : Addr) (ys : List V), vs = [.str (S z), .ref q] ∧ SqT K H q ys ∧ ∀ p, H p = none → Q (.ref p) (upd H p (.dK (mergeK [] (zipV z ys))))
theorem kv_zip : ∀ (z : List Nat) {ys : List V} {its : List Value}, Vals ys its → KV (zipV z ys) (zipU z its)
  | [], _, _, _ => by unfold zipV zipU; exact .nil
  | _ :: _, _, _, .nil => by unfold zipV zipU; exact .nil
  | c :: z, _, _, .cons r rs => by
    have h := kv_zip z rs
    unfold zipV zipU at h ⊢
    exact .cons ⟨rfl, r⟩ h
theorem nat_no {x y : Nat} (h : x ≠ y) : ¬ (x : Addr) = (y : Addr) := h
theorem sep_new {n q : Nat} (h : q < n) : ZipSep2 (n + 4) (n + 2) (n + 3) n (n + 1) [n] [n + 1, q] := by
  have out1 : ∀ {x y : Nat}, x ≠ y → (x : Addr) ∉ ([y] : List Addr) := fun hxy hm => hxy (List.mem_singleton.mp hm)
  have out2 : ∀ {x y z : Nat}, x ≠ y → x ≠ z → (x : Addr) ∉ ([y, z] : List Addr) := fun hxy hxz hm => by
    rcases List.mem_cons.mp hm with e | e
    · exact hxy e
    · exact hxz (List.mem_singleton.mp e)
  exact ⟨nat_no (by omega), nat_no (by omega), nat_no (by omega), nat_no (by omega), List.mem_singleton.mpr rfl, out1 (by omega), out1 (by omega), nat_no (by omega), List.mem_cons_self, out2 (by omega) (by omega), out2 (by omega) (by omega), out2 (by omega) (by omega), out1 (by omega)⟩
theorem call_dictZ {X : Cx} {pins : List (Addr × Obj)} {σ : L2.St} {H : Hp} {s : Shared} {us : List Value} {vs : List V} {Q : VK} (hc : X.calm = true) (I : Inv X pins σ H s) (r : Vals vs us) (h : rDictZ X.K vs H Q) :
    wpAny (model X.prog X.w) X.A (call (.type "zip") us) (fun v s1 => wpAny (model X.prog X.w) X.A (call (.type "dict") [v]) (EP X pins σ Q) X.xe s1) X.xe s := by
  obtain ⟨z, q, ys, rfl, hq, k⟩ := h
  obtain ⟨u1, u2, rfl, r1, r2⟩ := vals2 r
  obtain ⟨tk, rfl⟩ := r1
  cases r2
  obtain ⟨its, rv, ht, hz⟩ := I.tuple hq
  have ht' : s.heap.IsTuple q its.toArray := ht
  have lq : q < s.heap.objs.size := ht.lt
  refine zip_begins2 (begins_text (S z) tk) (begins_tuple q its.toArray) trivial ht' fun h' hZ hI hO g1 g2 hsz hk => ?_
  have hh : ∀ A : Around, A.handled = none → True := fun _ _ => trivial
  have n0 : s.heap.objs.size ≠ q := Nat.ne_of_gt lq
  have sep := sep_new lq
  have st1 : h'.IsStrIter s.heap.objs.size (strIterType (S z)) (S z) tk 0 := ⟨_, g1, rfl, rfl⟩
  have st2 : h'.IsTupleIter (s.heap.objs.size + 1) q 0 ∧ h'.IsTuple q its.toArray := ⟨⟨_, g2, rfl, rfl⟩, ht'.at fun o e => hk _ o e⟩
  have hd : X.A.handled = none := I.ok.hd hc
  have P := GKZ.arg_zip (prog := X.prog) (w := X.w) sep (fun A hA => Draws.text hA s.heap.objs.size (S z) tk) (fun A hA => Draws.tuple hA (s.heap.objs.size + 1) q (Nat.ne_of_lt (Nat.lt_succ_of_lt lq)) its.toArray)
    (fun h st b hb => by rw [List.mem_singleton.mp hb]; obtain ⟨o, e, _⟩ := st; exact ⟨o, e⟩) (fun h st b hb => by
      simp only [List.mem_cons, List.not_mem_nil, or_false] at hb
      rcases hb with rfl | rfl
      · obtain ⟨⟨o, e, _⟩, _⟩ := st; exact ⟨o, e⟩
      · obtain ⟨_, ⟨o, e, _⟩⟩ := st; exact ⟨o, e⟩) X.A hd
  have lz : (zipU z its).length = min (S z).cps.size its.toArray.size := by simp [zipU, S]
  refine call_dict_pairs (knd := mixKind X.prog X.w) (kvs := zipU z its) P hd ⟨hZ, hI, ⟨_, _, hO⟩, st1, st2⟩ ⟨lz, fun i key v hr => ?_⟩ ?_ fun h2 tk2 hd2 hk2 => ?_
  · obtain ⟨⟨c, u, e1, rfl⟩, e2⟩ := hr
    refine ⟨.inr (S [c]), ?_, mixKind_str _ _ _ _⟩
    have e1' : z[i]? = some c := by simpa [S] using e1
    have e2' : its[i]? = some v := by simpa using e2
    unfold zipU
    rw [List.getElem?_map, (List.getElem?_zip_eq_some (z := (c, v))).mpr ⟨e1', e2'⟩]
    rfl
  · refine Nat.le_trans (Nat.min_le_right _ _) ?_
    rw [List.size_toArray, ← rv.length]
    exact hz
  · have kk : ∀ b o, s.heap.get? b = some o → h2.get? b = some o := fun b o e => hk2 b o (fun hm => by
      have lb := Heap.lt_size e
      simp only [List.mem_cons, List.not_mem_nil, or_false] at hm
      rcases hm with hm | hm | hm | hm
      all_goals exact absurd hm (Nat.ne_of_lt (by first | exact Nat.lt_of_lt_of_le lb (Nat.le_add_right _ _) | exact lb))) (hk _ _ e)
    have big : s.heap.objs.size ≤ h'.objs.size := by rw [hsz]; omega
    have hm : (h'.objs.size == sysModules) = false := beq_eq_false_iff_ne.mpr (Nat.ne_of_gt (Nat.lt_of_lt_of_le I.big big))
    have rel := kv_zip z rv
    have hlen : (mergeK [] (zipV z ys)).length ≤ sizeLine := by
      refine Nat.le_trans (length_mergeK _ []) ?_
      rw [List.length_nil, Nat.zero_add]
      have : (zipV z ys).length ≤ ys.length := by simp [zipV]; omega
      exact Nat.le_trans this hz
    exact ⟨.ref h'.objs.size, upd H h'.objs.size (.dK (mergeK [] (zipV z ys))), I.laid (t' := tk2) kk big (show ObjOk X.prog X.w _ _ _ (.dK (mergeK [] (zipV z ys))) from ⟨hlen, hm, merged [] (zipU z its), KV.merge rel .nil, hd2⟩), rfl, k _ (I.hok.fresh big)⟩
def tDictZ (K : PySem.W.Frag) (t : TA) : TE := fun σ H Q => t σ H fun vs H1 => rDictZ K vs H1 Q
section
variable {X : Cx} {a b : Expr} {tl : TA} {xs : Env → Option (List T)} {p p2 pos pos2 : Pos}
theorem pe_dictZ (hc : X.calm = true) (hgd : Gl X "dict") (hmd : X.mg "dict" = none) (hgz : Gl X "zip") (hmz : X.mg "zip" = none) (ha : PA X [a, b] tl)
    (hs : starEach [a, b] X.env = (false, eval a X.env) :: starEach [b] X.env := by rfl) (hpl : (backTo pos2 (starEach [b] X.env)).any (·.1) = false := by rfl)
    (hs2 : starEach [.Call (.Name "zip" p2) [a, b] [] pos2] X.env = [(false, eval (.Call (.Name "zip" p2) [a, b] [] pos2) X.env)] := by rfl) :
    PE X (.Call (.Name "dict" p) [.Call (.Name "zip" p2) [a, b] [] pos2] [] pos) (tDictZ X.K tl) := by
  refine ⟨fun pins s σ H Q I h => Call_ (ld_blt I hgd hmd (show bootBuiltins "dict" = some (.type "dict") by decide +kernel) (callWith_type1 ?_ hs2 rfl))⟩
  rw [hs2]
  show wpAny _ _ (spliced ((false, eval (.Call (.Name "zip" p2) [a, b] [] pos2) X.env) :: backTo pos [])) _ _ s
  refine Calls.spliced_cons ?_
  refine (Call_ (ld_blt I hgz hmz PyProof.Rows.boot_zip (callWith_type1 (thn (ha.run pos2 pins s σ H _ I h) fun us s1 ⟨vs, H1, I1, r1, q1⟩ => ?_) hs hpl)))
  refine wpAny_mono (call_dictZ hc I1 r1 q1) (fun v s2 hv => ?_) fun _ _ z => z
  exact Calls.spliced_nil hv
def fDictZ : List T → Option T
  | [.str z, .tup ys] => some (.dic true (mergeT [] (zipKeys z ys)))
  | _ => none
theorem merge_rep {K : PySem.W.Frag} {mg : Str → Option Value} {H1 H : Hp} : ∀ (z : List Nat) {ys : List V} {ts : List T} {acc : List (Key × V)} {at_ : List (Key × T)} {F : FP}, Fzs K mg H1 ys ts → RepA K mg H1 H acc at_ F → (∀ b, ¬ F b) → (acc.map (·.1)).Nodup →
    ∃ G, RepA K mg H1 H (mergeK acc (zipV z ys)) (mergeT at_ (zipKeys z ts)) G ∧ (∀ b, ¬ G b) ∧ ((mergeK acc (zipV z ys)).map (·.1)).Nodup
  | [], _, _, _, _, F, f, r, hF, nd => by unfold mergeK mergeT zipV zipKeys; exact ⟨F, r, hF, nd⟩
  | _ :: _, _, _, _, _, F, .nil, r, hF, nd => by unfold mergeK mergeT zipV zipKeys; exact ⟨F, r, hF, nd⟩
  | c :: z, _, _, acc, _, F, .cons f fs, r, hF, nd => by
    obtain ⟨F1, r1, h1⟩ := r.put (k := .inr (S [c])) (.sh f) fun b z => (hF b z).elim
    obtain ⟨G, r2, h2, h3⟩ := merge_rep z fs r1 (fun b z => (h1 b z).elim (hF b) id) (vput_nodup nd).1
    rw [← vput_eq nd] at r2 h3
    exact ⟨G, r2, h2, h3⟩
theorem qe_dictZ (hc : X.calm = true) (hgd : Gl X "dict") (hmd : X.mg "dict" = none) (hgz : Gl X "zip") (hmz : X.mg "zip" = none) (ha : KA X [a, b] tl xs)
    (hs : starEach [a, b] X.env = (false, eval a X.env) :: starEach [b] X.env := by rfl) (hpl : (backTo pos2 (starEach [b] X.env)).any (·.1) = false := by rfl)
    (hs2 : starEach [.Call (.Name "zip" p2) [a, b] [] pos2] X.env = [(false, eval (.Call (.Name "zip" p2) [a, b] [] pos2) X.env)] := by rfl) :
    QE X (.Call (.Name "dict" p) [.Call (.Name "zip" p2) [a, b] [] pos2] [] pos) (tDictZ X.K tl) (qCallB fDictZ xs) := ⟨pe_dictZ hc hgd hmd hgz hmz ha.pa hs hpl hs2, fun env t e H1 H σ F s R Q q => by
  unfold qCallB at e
  cases e1 : xs env with
  | none => rw [e1] at e; cases e
  | some ts =>
    rw [e1] at e
    simp only at e
    unfold fDictZ at e
    split at e
    · rename_i z ys
      cases e
      refine ha.kr _ _ e1 _ _ _ _ s R _ fun vs Ha Hb x1 r1 => ?_
      obtain ⟨v1, v2, G, G', rfl, r2, r3⟩ := r1.two
      obtain ⟨q', ws, rfl, h2, h3⟩ := r3.tuple x1.sub
      refine ⟨z, q', ws, by rw [r2.strE], h2, fun p n => ?_⟩
      obtain ⟨G1, r4, h4, h5⟩ := merge_rep (H := Hb) z h3 .nil (fun _ z => z) List.nodup_nil
      refine q _ _ _ _ (x1.trans (Ext.newO (F := F0) x1.sub n)) ?_
      have r5 : Rep X.K X.mg Ha (upd Hb p (.dK (mergeK [] (zipV z ws)))) (.ref p) (.dic true (mergeT [] (zipKeys z ys))) (fun b => b = p ∨ G1 b) := .dic upd_same (x1.sub.free n) h5 (r4.frame (Same.refl _) fun b z => (h4 b z).elim) (h4 p)
      have eG : (fun b => b = p ∨ G1 b) = fun b => b = p ∨ F0 b := funext fun b => propext ⟨fun z => z.imp id fun z => h4 b z, fun z => z.imp id fun z => z.elim⟩
      rw [eG] at r5
      exact r5
    · cases e⟩
end
end GK

/-! GK19: texts sorted, split, joined; isinstance; chains of comparisons; starred items. -/
namespace GK
open PySem L2 PySem.Spec PyProof.Rows

/-! ### sorted, of texts and of a text's signs -/
def rSortTx (K : PySem.W.Frag) : List V → Hp → VK → Prop := fun vs H Q => ∃ (xs : List Str), ((∃ a, vs = [V.ref a] ∧ SqL K H a (xs.map V.str)) ∨ ∃ z : Str, vs = [.str z] ∧ z.cps.size ≤ sizeLine ∧ xs = z.cps.toList.map fun c => ⟨#[c]⟩) ∧
  ∀ (ys : List Str) (p : Addr), ys.Perm xs → sortedS ys = true → H p = none → Q (.ref p) (upd H p (.lst (ys.map V.str)))
theorem strs_signs {z : Str} {acc : Array Value} (h : ItemsOf (SignAt z) acc z.cps.size) : StrsAre acc.toList (z.cps.toList.map fun c => ⟨#[c]⟩) := by
  have key : ∀ (l : List Nat) (vs : List Value), vs.length = l.length → (∀ i (hi : i < vs.length) (hj : i < l.length), ∃ t, vs[i] = .str ⟨#[l[i]]⟩ t) → StrsAre vs (l.map fun c => ⟨#[c]⟩) := by
    intro l
    induction l with
    | nil => intro vs hl _; rw [List.eq_nil_of_length_eq_zero hl]; exact .nil
    | cons c l ih =>
      intro vs hl hv
      cases vs with
      | nil => simp at hl
      | cons v vs =>
        obtain ⟨t, e⟩ := hv 0 (by simp) (by simp)
        simp at e
        rw [e]
        exact .cons _ t (ih vs (by simpa using hl) fun i hi hj => by
          obtain ⟨t, e⟩ := hv (i + 1) (by simpa using hi) (by simpa using hj)
          exact ⟨t, by simpa using e⟩)
  obtain ⟨h1, h2⟩ := h
  refine key _ _ (by simpa using h1) fun i hi hj => ?_
  have hi' : i < acc.size := by simpa using hi
  obtain ⟨c, u, e1, e2⟩ := h2 i acc[i] (Array.getElem?_eq_getElem hi')
  refine ⟨u, ?_⟩
  rw [Array.getElem_toList, e2]
  have e3 : z.cps.toList[i]? = some c := by rw [Array.getElem?_toList]; exact e1
  rw [List.getElem?_eq_getElem hj] at e3
  rw [Option.some.inj e3]
theorem call_sortTx {X : Cx} (hc : X.calm = true) : CallR X (.builtin "sorted") (rSortTx X.K) := by
  intro pins s σ H vs us Q I r h
  obtain ⟨xs, h, q⟩ := h
  rcases h with ⟨a, rfl, hs⟩ | ⟨z, rfl, hz, rfl⟩
  · obtain ⟨its, rv, hl, hz⟩ := I.list hs
    rw [Vals.ref1 r]
    have hlen0 := rv.length
    refine sorted_strsAny hl.isList rv.strs (by rw [← hlen0]; exact hz) fun out ys h1 h2 h3 => ?_
    obtain ⟨ep, he'⟩ := sortedAll_at s.heap its out
    have hlen : (ys.map V.str).length ≤ sizeLine := by rw [List.length_map, h2.length_eq]; rw [List.length_map] at hz; exact hz
    exact ⟨.ref _, upd H (s.heap.objs.size + 1) (.lst (ys.map V.str)), I.laid (t' := s.toks) (fun _ _ => sortedAll_old) (Nat.le_succ _) ⟨hlen, out.toList, ep, vals_of_strs h1, he'⟩, rfl, q ys _ h2 h3 (I.hok.fresh (Nat.le_succ _))⟩
  · cases r with
    | cons r1 r2 =>
      cases r2
      obtain ⟨tk, rfl⟩ := r1
      refine Calls.call_function_entry kind_sorted plain_sorted entry_sorted (args_sorted1 _) ?_
      unfold Builtin.«sorted»
      refine wpAny_bind (m := checkCount "sorted" 1 1 _) (wpAny_pure ?_)
      refine wpAny_bind (wpAny_collect_str (show X.A.in1.handled = none from I.ok.hd hc) z tk (fun s1 acc k1 g1 d1 o1 hit => ?_) hz)
      have hS := strs_signs hit
      have hl : acc.toList.length = z.cps.size := by rw [hS.length]; simp
      refine wpAny_bind (wpAny_newList ?_ (by rw [hl]; exact hz))
      have hoL : (s1.heap.push (seqObj "list" acc.toList.toArray 0)).get? s1.heap.objs.size = some (seqObj "list" acc.toList.toArray 0) := Heap.get?_push_size _ rfl
      refine wpAny_bind (wpAny_holding (wpAny_call_entry slot_list_sort ⟨_, hoL, rfl⟩ entry_list_sort (list_sort_treeKAny strKind_oneLt hoL hS.keysOf (fun v₁ v₂ rest e => keyKind_strs (by rw [← e]; exact hS)) (by rw [hl]; exact hz) fun st' hp hsd => ⟨_, rfl, ?_⟩) (args_list_sort _)))
      obtain ⟨ys, a1, a2, a3⟩ := sorted_out_str hS hp hsd
      obtain ⟨c, hcc⟩ := sortedHeap_at (vs := acc.toList) (out := (arrOf st').map (·.2)) hoL
      refine wpAny_pure ⟨_, rfl, ?_⟩
      have kk : ∀ b o, s1.heap.get? b = some o → (sortedHeap (s1.heap.push (seqObj "list" acc.toList.toArray 0)) s1.heap.objs.size acc.toList ((arrOf st').map (·.2))).get? b = some o := fun b o e1 => by
        have hlt := Heap.lt_size e1
        rw [sortedHeap_old (Nat.ne_of_lt hlt) (by rw [size_push']; exact Nat.lt_succ_of_lt hlt)]
        exact Heap.get?_push_of_some _ e1
      have hlen : (ys.map V.str).length ≤ sizeLine := by rw [List.length_map, a2.length_eq]; simpa using hz
      obtain ⟨hp, gg, dd, tt, oo⟩ := s
      obtain ⟨hp1, gg1, dd1, tt1, oo1⟩ := s1
      cases g1
      cases d1
      cases o1
      have J : Inv X pins σ H ⟨hp1, gg, dd, tt1, oo⟩ := I.kept (h' := hp1) (t' := tt1) k1
      exact ⟨.ref hp1.objs.size, upd H hp1.objs.size (.lst (ys.map V.str)), J.laid (t' := tt1) kk (Nat.le_refl _) ⟨hlen, ((arrOf st').map (·.2)).toList, c, vals_of_strs a1, hcc⟩, rfl, q ys _ a2 a3 (J.hok.fresh (Nat.le_refl _))⟩

def fSortTx : List T → Option T
  | [.str z] => if z.length ≤ maxLen then some (.lst true ((isort leS (z.map fun c => [c])).map .str)) else none
  | [.lst _ xs] => match T.ints xs with
    | some ns => some (.lst true ((isort leI ns).map .int))
    | none => match T.strs xs with
      | some zs => some (.lst true ((isort leS zs).map .str))
      | none => none
  | _ => none
theorem sorted_pw : ∀ {ys : List Str}, sortedS ys = true → ys.Pairwise fun a b => leS a.cps.toList b.cps.toList = true := by
  intro ys
  induction ys with
  | nil => intro _; exact .nil
  | cons x r ih =>
    intro h
    have key : ∀ (r : List Str) (x : Str), risingS x r = true → sortedS r = true ∧ ∀ y ∈ r, leS x.cps.toList y.cps.toList = true := by
      intro r
      induction r with
      | nil => intro x _; exact ⟨rfl, fun _ h => nomatch h⟩
      | cons y r ih2 =>
        intro x h
        have h' : (!ltCps y.cps.toList x.cps.toList && risingS y r) = true := by
          first
            | exact h
            | (unfold risingS at h; simpa using h)
        rw [Bool.and_eq_true] at h'
        have h1 : leS x.cps.toList y.cps.toList = true := by
          unfold leS
          rw [← ltCps_eq]
          exact h'.1
        refine ⟨h'.2, fun z hz => ?_⟩
        rcases List.mem_cons.mp hz with rfl | hz
        · exact h1
        · have h2 := (ih2 y h'.2).2 z hz
          rw [leS_iff] at h1 h2 ⊢
          exact List.le_trans h1 h2
    obtain ⟨h1, h2⟩ := key r x h
    exact List.pairwise_cons.mpr ⟨h2, ih h1⟩
theorem isortS_eq {zs : List (List Nat)} {ys : List Str} (p : ys.Perm (zs.map S)) (h : sortedS ys = true) : ys = (isort leS zs).map S := by
  have e1 : ys = (ys.map fun y => y.cps.toList).map S := by
    rw [List.map_map]
    conv => lhs; rw [← List.map_id ys]
    exact List.map_congr_left fun a _ => S_of a
  have p2 : (ys.map fun y => y.cps.toList).Perm zs := by
    have q := p.map fun y => y.cps.toList
    rw [List.map_map] at q
    have e : (zs.map ((fun y : Str => y.cps.toList) ∘ S)) = zs := by
      conv => rhs; rw [← List.map_id zs]
      exact List.map_congr_left fun a _ => S_toList a
    rw [e] at q
    exact q
  have pw : (ys.map fun y => y.cps.toList).Pairwise fun a b => leS a b = true := List.pairwise_map.mpr (sorted_pw h)
  rw [e1]
  congr 1
  refine List.Perm.eq_of_pairwise (le := fun a b : List Nat => leS a b = true) (fun a b _ _ h1 h2 => ?_) pw (isort_sorted (le := leS) (fun a b c h1 h2 => ?_) (fun a b => ?_) zs) (p2.trans (isort_perm zs).symm)
  · rw [leS_iff] at h1 h2
    exact List.le_antisymm h1 h2
  · rw [leS_iff] at h1 h2 ⊢
    exact List.le_trans h1 h2
  · rw [leS_iff, leS_iff]
    exact List.le_total a b
section
variable {K : PySem.W.Frag} {mg : Str → Option Value}
def rSortU (K : PySem.W.Frag) : List V → Hp → VK → Prop := fun xs H Q => rSortedI K xs H Q ∨ rSortTx K xs H Q
theorem cp_sortTx : CallP K mg (rSortU K) fSortTx := fun H1 H vs ts t s a e Q q => by
  unfold fSortTx at e
  split at e
  · rename_i z
    split at e
    · rename_i hz
      cases e
      obtain ⟨v, G, rfl, r⟩ := a.one
      rw [r.strE]
      refine .inr ⟨(z.map fun c => [c]).map S, .inr ⟨S z, rfl, by rw [maxLen_eq]; simpa [S] using hz, by rw [List.map_map, S_toList]; rfl⟩, fun ys p pm hs n => ?_⟩
      rw [isortS_eq pm hs, List.map_map]
      exact newL s (fz_strs _ _) q p n
    · cases e
  · split at e
    · rename_i ns hn
      cases e
      obtain ⟨v, G, rfl, r⟩ := a.one
      obtain ⟨p, vs, G, rfl, h2, h3⟩ := r.lst' s
      rw [h3.ints hn] at h2
      refine .inl ⟨p, ns, rfl, .inl (.inl h2), fun ms p' pm pw => ?_⟩
      rw [isortI_eq pm pw]
      exact newL s (fz_ints _ _) q p'
    · split at e
      · rename_i zs hz
        cases e
        obtain ⟨v, G, rfl, r⟩ := a.one
        obtain ⟨p, vs, G, rfl, h2, h3⟩ := r.lst' s
        rw [h3.strs hz] at h2
        refine .inr ⟨zs.map S, .inl ⟨p, rfl, by rw [List.map_map]; exact .inl (.inl h2)⟩, fun ys p' pm hs n => ?_⟩
        rw [isortS_eq pm hs, List.map_map]
        exact newL s (fz_strs _ _) q p' n
      · cases e
  · cases e
/-! ### split, join -/
def fSplit : T → T → Option T
  | .str a, .str [c] => if c < 256 ∧ a.length + 2 ≤ maxLen then some (.lst true ((TL.spl [c] 0 [] a).map .str)) else none
  | _, _ => none
theorem split_S1 {a : List Nat} {c : Nat} (hc : c < 256) : Txt.split (S a) (S [c]) = (TL.spl [c] 0 [] a).map S := by
  refine TL.map_tl_inj ?_
  rw [TL.split_spl (S a) (S [c]) (by simp [TL.tl, S]) (TL.kind_ok (by simp [S, hc]))]
  rw [List.map_map]
  have e : ∀ l : List (List Nat), l.map (TL.tl ∘ S) = l := fun l => by
    conv => rhs; rw [← List.map_id l]
    exact List.map_congr_left fun a _ => S_toList a
  rw [e]
  simp [TL.tl, S]
def fJoin : T → T → Option T
  | .str a, t => match (match t with | .lst _ xs => T.strs xs | .tup xs => T.strs xs | _ => none) with
    | some zs => if (zs.map (·.length)).sum + zs.length * a.length ≤ maxLen then some (.str (TL.joinL a zs)) else none
    | none => none
  | _, _ => none
theorem join_S (a : List Nat) (zs : List (List Nat)) : Txt.join (S a) (zs.map S) = S (TL.joinL a zs) := by
  have e := TL.tl_join (S a) (zs.map S)
  have e2 : (zs.map S).map TL.tl = zs := by
    rw [List.map_map]
    conv => rhs; rw [← List.map_id zs]
    exact List.map_congr_left fun a _ => S_toList a
  rw [e2] at e
  refine TL.ext_tl ((congrArg TL.tl (TL.join_eq (S a) (zs.map S))).trans (e.trans ?_))
  simp [TL.tl, S]
end
section
variable {X : Cx} {o e : Expr} {to te : TE} {xo x : Env → Option T} {apos pos : Pos}
theorem qe_split (ho : KE X o to xo) (he : KE X e te x) (hs : starEach [e] X.env = [(false, eval e X.env)] := by rfl) (hbase : attributeBase o "split" X.env (eval o X.env) = eval o X.env := by rfl) (hline : (apos.endLine == pos.line) = true := by rfl) :
    QE X (.Call (.Attribute o "split" apos) [e] [] pos) (tM1 (fun x xs H Q => ∃ a b, x = .str a ∧ xs = [.str b] ∧ (b.length == 0) = false ∧ a.length + 2 ≤ sizeLine ∧ rNewStrs (Txt.split a b) H Q) to te) (qOp fSplit xo x) :=
  ⟨pe_split ho.pe he.pe hs hbase hline, fun env t e H1 H σ F s R Q q => by
    obtain ⟨u, w, e1, e2, e3⟩ := qop_some e
    unfold fSplit at e3
    split at e3
    · rename_i a c
      split at e3
      · rename_i hh
        cases e3
        refine ho.kr _ _ e1 _ _ _ _ s R _ fun v1 Ha Hb G1 x1 r1 => ?_
        rw [r1.strE]
        refine ⟨⟨_, rfl⟩, he.kr _ _ e2 _ _ _ _ x1.sub (x1.qRepE R) _ fun v2 Hc Hd G2 x2 r2 => ?_⟩
        refine ⟨S a, S [c], rfl, by rw [r2.strE], by simp [S, Str.length], by rw [S_length, maxLen_eq]; exact hh.2, fun p n => ?_⟩
        rw [split_S1 hh.1, List.map_map]
        exact newL x2.sub (fz_strs _ _) (fun v H1' H' Ft x3 r3 => q v H1' H' Ft ((x1.trans x2).trans x3) r3) p n
      · cases e3
    · cases e3⟩
theorem qe_join (ho : KE X o to xo) (he : KE X e te x) (hs : starEach [e] X.env = [(false, eval e X.env)] := by rfl) (hbase : attributeBase o "join" X.env (eval o X.env) = eval o X.env := by rfl) (hline : (apos.endLine == pos.line) = true := by rfl) :
    QE X (.Call (.Attribute o "join" apos) [e] [] pos) (tM1 (fun x xs H Q => ∃ a p, ∃ ys : List Str, x = .str a ∧ xs = [.ref p] ∧ (SqL X.K H p (ys.map V.str) ∨ SqT X.K H p (ys.map V.str)) ∧ (ys.map (·.length)).sum + ys.length * a.length ≤ 16777216 ∧ Q (.str (Txt.join a ys)) H) to te) (qOp fJoin xo x) :=
  ⟨pe_m1 PySem.F.slot_str_join PySem.F.type_str_join mt_join ho.pe he.pe hs hbase hline, fun env t e H1 H σ F s R Q q => by
    obtain ⟨u, w, e1, e2, e3⟩ := qop_some e
    unfold fJoin at e3
    split at e3
    · rename_i a
      split at e3
      · rename_i zs hz
        split at e3
        · rename_i hl
          cases e3
          refine ho.kr _ _ e1 _ _ _ _ s R _ fun v1 Ha Hb G1 x1 r1 => ?_
          rw [r1.strE]
          refine ⟨⟨_, rfl⟩, he.kr _ _ e2 _ _ _ _ x1.sub (x1.qRepE R) _ fun v2 Hc Hd G2 x2 r2 => ?_⟩
          have road : ∃ p, v2 = .ref p ∧ (SqL X.K Hd p ((zs.map S).map V.str) ∨ SqT X.K Hd p ((zs.map S).map V.str)) := by
            split at hz
            · obtain ⟨p, vs, G, rfl, h2, h3⟩ := r2.lst' x2.sub
              rw [h3.strs hz] at h2
              exact ⟨p, rfl, .inl (by rw [List.map_map]; exact .inl (.inl h2))⟩
            · obtain ⟨p, vs, rfl, h2, h3⟩ := r2.tuple x2.sub
              obtain ⟨G, h4, _⟩ := h3.reps (H := Hd)
              rw [h4.strs hz] at h2
              exact ⟨p, rfl, .inr (by rw [List.map_map]; exact h2)⟩
            · cases hz
          obtain ⟨p, rfl, hp⟩ := road
          refine ⟨S a, p, zs.map S, rfl, rfl, hp, ?_, ?_⟩
          · rw [List.map_map, List.length_map, S_length]
            have e : (zs.map ((fun z : Str => z.length) ∘ S)) = zs.map (·.length) := List.map_congr_left fun a _ => S_length a
            rw [e]
            exact hl
          · rw [join_S]
            exact now (x1.trans x2).sub (.str _) fun v H1' H' Ft x3 r3 => q v H1' H' Ft ((x1.trans x2).trans x3) r3
        · cases e3
      · cases e3
    · cases e3⟩
end
end GK

/-! GK20: isinstance, chains, starred items. -/
namespace GK
open PySem L2 PySem.Spec PyProof.Rows
def T.tyName : T → Option String
  | .non => some "NoneType" | .bl _ => some "bool" | .int _ => some "int" | .str _ => some "str" | .tup _ => some "tuple" | .lst _ _ => some "list" | .scr _ => some "list" | .dic _ _ => some "dict" | .obj _ _ _ => none
section
variable {K : PySem.W.Frag} {mg : Str → Option Value}
theorem tyx_of {H1 H : Hp} {v : V} {t : T} {F : FP} {n : String} (s : Same H1 H) (r : Rep K mg H1 H v t F) (e : t.tyName = some n) : TyX K H v (.type n) := by
  have seqL : ∀ {a : Addr} {vs : List V}, SqL K H a vs → TyX K H (.ref a) (.type "list") := fun h => by
    rcases h with (h | ⟨o, h⟩) | ⟨o, its, m, h, hc, _⟩
    · exact .base (.lst h)
    · exact .base (.frz h)
    · exact .kList h hc
  have seqT : ∀ {a : Addr} {vs : List V}, SqT K H a vs → TyX K H (.ref a) (.type "tuple") := fun h => by
    rcases h with (h | ⟨o, h⟩) | ⟨o, its, m, h, hc, _⟩
    · exact .base (.tup h)
    · exact .fTuple h
    · exact .kTuple h hc
  cases t with
  | non => cases e; rw [r.nonE]; exact .base .non
  | bl b => cases e; rw [r.blE]; exact .base (.bl b)
  | int i => cases e; rw [r.intE]; exact .base (.int i)
  | str z => cases e; rw [r.strE]; exact .base (.str _)
  | tup xs => cases e; obtain ⟨a, vs, rfl, h2, h3⟩ := r.tuple s; exact seqT h2
  | lst o xs => cases e; obtain ⟨a, vs, G, rfl, h2, h3⟩ := r.list s rfl; exact seqL h2
  | scr xs => cases e; obtain ⟨a, vs, G, rfl, h2, h3⟩ := r.list s rfl; exact seqL h2
  | dic o kvs => cases e; obtain ⟨a, vs, G, rfl, h2, h3⟩ := r.dict s; exact .base (.dK h2)
  | obj o c fs => cases e
/-- isinstance(x, str) -/
def fIsStr : T → Option T
  | .str _ => some (.bl true)
  | .obj _ _ _ => none
  | _ => some (.bl false)
theorem kit_str {t : T} {n : String} {b : Bool} (e : t.tyName = some n) (h : fIsStr t = some (.bl b)) : PySem.W.kitOne K (.type n) (.type "str") = some b := by
  refine kit_ty ?_
  cases t <;> cases e <;> cases h <;> decide +kernel
theorem fIsStr_bl {t u : T} (h : fIsStr t = some u) : ∃ b n, u = .bl b ∧ t.tyName = some n := by
  cases t <;> cases h <;> exact ⟨_, _, rfl, rfl⟩
/-- what isinstance of an own class asks of it -/
structure OwnC (K : PySem.W.Frag) (C : Addr) : Prop where
  cl : Cls K C
  h1 : PySem.W.findIn K (.ref C) "__class__" = some (some (.builtin "object.__class__"))
  h2 : PySem.W.specialIn K (.builtin "object.__class__") "__get__" = some (some (.builtin "getset_descriptor.__get__"))
  h3 : PySem.W.takesIn K (.builtin "object.__class__") = some true
  h4 : PySem.W.mroIn K C (.type "object") = some true
def fIsOwn (c : String) : T → Option T
  | .obj _ d _ => if d = c then some (.bl true) else none
  | _ => none
end
section
variable {X : Cx} {a b c e : Expr} {es : List Expr} {ta tb tc te : TE} {tl : TA} {x xa xb xc : Env → Option T} {xs : Env → Option (List T)} {p p2 pos : Pos}
theorem qe_isStr (hg : Gl X "isinstance") (hm : X.mg "isinstance" = none) (hg2 : Gl X "str") (hm2 : X.mg "str" = none) (ha : KE X a ta x)
    (h1 : starEach [a, .Name "str" p2] X.env = (false, eval a X.env) :: starEach [.Name "str" p2] X.env := by rfl) (h2 : starEach [.Name "str" p2] X.env = (false, eval (.Name "str" p2) X.env) :: starEach [] X.env := by rfl) (hpl : (backTo pos (starEach [.Name "str" p2] X.env)).any (·.1) = false := by rfl) :
    QE X (.Call (.Name "isinstance" p) [a, .Name "str" p2] [] pos) (tCB (rIsi X.K) (tCons ta (tCons (tC (.ty "str")) tNil))) (qUn fIsStr x) :=
  ⟨pe_callB call_isi hg hm (by decide +kernel) (pa_cons ha.pe (pa_cons (pe_bltn (v := .ty "str") hg2 hm2 (by decide +kernel) rfl) pa_nil h2) h1) (by decide) (by decide) h1 hpl, fun env t e H1 H σ F s R Q q => by
    unfold qUn at e
    split at e
    · cases e
    · rename_i u e1
      obtain ⟨k, n, rfl, hn⟩ := fIsStr_bl e
      exact ha.kr _ _ e1 _ _ _ _ s R _ fun v Ha Hb G x1 r1 => ⟨v, .ty "str", .type n, .type "str", k, rfl, .ty "str", tyx_of x1.sub r1 hn, kit_str hn e, now x1.sub (.bl k) fun v H1' H' Ft x2 r2 => q v H1' H' Ft (x1.trans x2) r2⟩⟩
theorem qe_isOwn {y : String} {C : Addr} (hg : Gl X "isinstance") (hm : X.mg "isinstance" = none) (hg2 : Gl X (Str.ofString y)) (hm2 : X.mg (Str.ofString y) = some (.ref C)) (hC : OwnC X.K C) (ha : KE X a ta x) (hd : (Str.ofString y == ("__debug__" : Str)) = false := by decide)
    (h1 : starEach [a, .Name (Str.ofString y) p2] X.env = (false, eval a X.env) :: starEach [.Name (Str.ofString y) p2] X.env := by rfl) (h2 : starEach [.Name (Str.ofString y) p2] X.env = (false, eval (.Name (Str.ofString y) p2) X.env) :: starEach [] X.env := by rfl) (hpl : (backTo pos (starEach [.Name (Str.ofString y) p2] X.env)).any (·.1) = false := by rfl) :
    QE X (.Call (.Name "isinstance" p) [a, .Name (Str.ofString y) p2] [] pos) (tCB (rIsi X.K) (tCons ta (tCons (tC (.ref C)) tNil))) (qUn (fIsOwn y) x) :=
  ⟨pe_callB call_isi hg hm (by decide +kernel) (pa_cons ha.pe (pa_cons (pe_glob hg2 hm2 rfl hd) pa_nil h2) h1) (by decide) (by decide) h1 hpl, fun env t e H1 H σ F s R Q q => by
    unfold qUn at e
    split at e
    · cases e
    · rename_i u e1
      unfold fIsOwn at e
      split at e
      · rename_i o d fs
        split at e
        · rename_i hd
          subst hd
          cases e
          refine ha.kr _ _ e1 _ _ _ _ s R _ fun v Ha Hb G x1 r1 => ?_
          obtain ⟨p', C', dx, vs, G', rfl, g2, g3, g4⟩ := r1.ins x1.sub
          rw [hm2] at g3
          cases g3
          exact ⟨.ref p', .ref C, .ref C, .ref C, true, rfl, .own C, .base (.ins g2 hC.cl hC.h1 hC.h2 hC.h3 hC.h4), by unfold PySem.W.kitOne; rw [if_pos (by simp)], now x1.sub (.bl true) fun v H1' H' Ft x2 r2 => q v H1' H' Ft (x1.trans x2) r2⟩
        · cases e
      · cases e⟩
/-! ### a op1 b op2 c -/
def qChain (f f' : T → T → Option T) (xa xb xc : Env → Option T) : Env → Option T := fun env => match xa env, xb env with
  | some a, some b => (match f a b with
    | some (.bl true) => (match xc env with | some c => f' b c | none => none)
    | some (.bl false) => some (.bl false)
    | _ => none)
  | _, _ => none
theorem qr_chain {K : PySem.W.Frag} {mg : Str → Option Value} {r r' : R2} {f f' : T → T → Option T} (ha : KR K mg ta xa) (hb : KR K mg tb xb) (hc : KR K mg tc xc) (h : OpV K mg r f) (h' : OpV K mg r' f') : QR K mg (tChain r r' ta tb tc) (qChain f f' xa xb xc) := fun env t e H1 H σ F s R Q q => by
  unfold qChain at e
  split at e
  · rename_i u w e1 e2
    refine ha _ _ e1 _ _ _ _ s R _ fun v1 Ha Hb G1 x1 r1 => hb _ _ e2 _ _ _ _ x1.sub (x1.qRepE R) _ fun v2 Hc Hd G2 x2 r2 => ?_
    split at e
    · rename_i e3
      refine h _ _ _ _ _ _ _ _ _ x2.sub (x2.qRep r1) r2 e3 _ fun v He Hf Gv x3 r3 => ⟨true, r3.blE, ?_⟩
      rw [if_pos rfl]
      split at e
      · rename_i z e4
        exact hc _ _ e4 _ _ _ _ x3.sub (x3.qRepE (x2.qRepE (x1.qRepE R))) _ fun v3 Hg Hh G3 x4 r4 => h' _ _ _ _ _ _ _ _ _ x4.sub (x4.qRep (x3.qRep r2)) r4 e Q fun v H1' H' Ft x5 r5 => q v H1' H' Ft ((((x1.trans x2).trans (x3.less fun _ z => z.elim)).trans x4).trans x5) r5
      · cases e
    · rename_i e3
      cases e
      refine h _ _ _ _ _ _ _ _ _ x2.sub (x2.qRep r1) r2 e3 _ fun v He Hf Gv x3 r3 => ⟨false, r3.blE, ?_⟩
      rw [if_neg Bool.false_ne_true]
      exact now x3.sub (.bl false) fun v H1' H' Ft x5 r5 => q v H1' H' Ft (((x1.trans x2).trans (x3.less fun _ z => z.elim)).trans x5) r5
    · cases e
  · cases e
theorem qe_chain {op op' : CmpOp} {r r' : R2} {f f' : T → T → Option T} (ho : OpR X (compareOp op) r) (hv : OpV X.K X.mg r f) (ho' : OpR X (compareOp op') r') (hv' : OpV X.K X.mg r' f') (ha : KE X a ta xa) (hb : KE X b tb xb) (hc : KE X c tc xc)
    (hm : lastMarks [op, op'] [b, c] = false := by with_unfolding_all rfl) : QE X (.Compare a [op, op'] [b, c] pos) (tChain r r' ta tb tc) (qChain f f' xa xb xc) := ⟨pe_chain ho ho' ha.pe hb.pe hc.pe hm, qr_chain ha.kr hb.kr hc.kr hv hv'⟩
theorem te_chain {op op' : CmpOp} {r r' : R2} {f f' : T → T → Option T} (ho : OpR X (compareOp op) r) (hv : OpV X.K X.mg r f) (ho' : OpR X (compareOp op') r') (hv' : OpV X.K X.mg r' f') (ha : KE X a ta xa) (hb : KE X b tb xb) (hc : KE X c tc xc)
    (hm : lastMarks [op, op'] [b, c] = false := by with_unfolding_all rfl) : TE' X (.Compare a [op, op'] [b, c] pos) (tTest (tChain r r' ta tb tc)) (tOfB (qChain f f' xa xb xc)) := ⟨pt_chain ho ho' ha.pe hb.pe hc.pe hm, fun env k e H1 H σ F s R Q q => by
  unfold tOfB at e
  split at e
  · rename_i e1
    cases e
    exact qr_chain ha.kr hb.kr hc.kr hv hv' _ _ e1 _ _ _ _ s R _ fun v H1' H' Ft x r => by
      rw [r.blE]
      first
        | exact ⟨_, rfl, q H1' H' (x.less fun _ z => z.elim)⟩
        | exact q H1' H' (x.less fun _ z => z.elim)
  · cases e⟩
/-! ### a starred item -/
theorem qa_star {sp : Pos} (h : KE X e te x) (hr : QA X es tl xs) (hs : starEach (.Starred e sp :: es) X.env = (true, eval e X.env) :: starEach es X.env := by rfl) : QA X (.Starred e sp :: es) (StX.tStar X.K te tl) (aStar x xs) := ⟨StX.pa_star h.pe hr.pa hs, fun env ts e H1 H σ F s R Q q => by
  unfold aStar at e
  split at e
  · cases e
  · rename_i t e1
    split at e
    · rename_i ys us e2 e3
      cases e
      refine h.kr _ _ e1 _ _ _ _ s R _ fun v Ha Hb G x1 r1 => ?_
      have road : ∃ a vs, v = .ref a ∧ (SqT X.K Hb a vs ∨ SqL X.K Hb a vs) ∧ Fzs X.K X.mg Ha vs ys := by
        split at e2
        · cases e2
          obtain ⟨a, vs, rfl, h2, h3⟩ := r1.tuple x1.sub
          exact ⟨a, vs, rfl, .inl h2, h3⟩
        · split at e2
          · rename_i hsh
            cases e2
            obtain ⟨a, vs, G, rfl, h2, h3⟩ := r1.lst' x1.sub
            exact ⟨a, vs, rfl, .inr (.inl (.inl h2)), h3.fzs hsh⟩
          · cases e2
        · cases e2
      obtain ⟨a, vs, rfl, h2, h3⟩ := road
      refine ⟨a, vs, rfl, h2, hr.qr _ _ e3 _ _ _ _ x1.sub (x1.qRepE R) _ fun ws Hc Hd Ft x2 r2 => ?_⟩
      obtain ⟨G0, h4, h5⟩ := (h3.mono x2.s1).reps (H := Hd)
      obtain ⟨F', r3, hF⟩ := h4.append r2 fun b z => (h5 b z).elim
      exact q (vs ++ ws) Hc Hd F' ((x1.trans x2).less fun b z => ((hF b).mp z).elim (fun z => (h5 b z).elim) id) r3
    · cases e⟩
end
end GK

/-! GK21: what the printed walks lean on: callees by name, constants, frozen values. -/
namespace GK
open PySem L2 PySem.Spec PyProof.Rows

/-- a def of the module that may be called under its name -/
structure Has (P : Program) (w : World) (K : PySem.W.Frag) (mg : Str → Option Value) (base : Heap) (k : Nat) (x : String) (fn : List T → Option (T × List T)) : Prop where
  ex : ∃ (f : Addr) (fd : FuncData) (ps : List Str), FnG P w K mg base k f fd ps fn ∧ mg (Str.ofString x) = some (.ref f) ∧ PySem.W.keepIn K (.ref f) = true ∧ Binds K fd ps []
/-- a class of the module that may be made under its name -/
structure HasC (P : Program) (w : World) (K : PySem.W.Frag) (mg : Str → Option Value) (base : Heap) (k : Nat) (x : String) (fn : List T → Option (T × List T)) : Prop where
  ex : ∃ (C f : Addr) (fd : FuncData) (ps : List Str), Mk K C f ∧ FnG P w K mg base k f fd ps fn ∧ mg (Str.ofString x) = some (.ref C) ∧ Binds K fd ps []
section
variable {X : Cx} {j k : Nat} {y : String} {fn : List T → Option (T × List T)} {p pos : Pos} {e : Expr} {es : List Expr} {te : TE} {tl : TA} {x : Env → Option T} {xs : Env → Option (List T)} {z : Env → Option (T × Env)} {ls : Env → Option (List Ar × Env)} {i : Int}
theorem Has.callee (h : Has X.prog X.w X.K X.mg X.base k y fn) (hr : Room j X.A) (hk : k ≤ j) (hg : X.A.guards = some []) : ∃ f, X.mg (Str.ofString y) = some (.ref f) ∧ Callee X (.ref f) [] fn := by
  obtain ⟨f, fd, ps, F, m, kp, b⟩ := h.ex
  exact ⟨f, m, callee_fn F (hr.mono hk) hg kp b⟩
theorem HasC.callee (h : HasC X.prog X.w X.K X.mg X.base k y fn) (hr : Room j X.A) (hk : k + 1 ≤ j) (hg : X.A.guards = some []) : ∃ f, X.mg (Str.ofString y) = some (.ref f) ∧ Callee X (.ref f) [] (mkMake y fn) := by
  obtain ⟨C, f, fd, ps, M, F, m, b⟩ := h.ex
  exact ⟨C, m, callee_make M F (hr.mono hk) hg m b⟩
theorem qe_has (h : Has X.prog X.w X.K X.mg X.base k y fn) (hr : Room j X.A) (hk : k ≤ j) (hg : X.A.guards = some []) (ha : QA X (e :: es) tl xs) (hgl : Gl X (Str.ofString y) := by rfl) (hdb : (Str.ofString y == ("__debug__" : Str)) = false := by decide) (he : starEach (e :: es) X.env = (false, eval e X.env) :: starEach es X.env := by rfl)
    (hpl : (backTo pos (starEach es X.env)).any (·.1) = false := by rfl) : QE X (.Call (.Name (Str.ofString y) p) (e :: es) [] pos) (tCallF X.K X.mg fn tl) (qCall fn xs) := by
  obtain ⟨f, m, C⟩ := h.callee hr hk hg
  exact qe_call C hgl m ⟨f, rfl⟩ ha hdb he hpl
theorem ee_has (h : Has X.prog X.w X.K X.mg X.base k y fn) (hr : Room j X.A) (hk : k ≤ j) (hg : X.A.guards = some []) (ha : EL X (e :: es) tl ls) (hgl : Gl X (Str.ofString y) := by rfl) (hdb : (Str.ofString y == ("__debug__" : Str)) = false := by decide) (he : starEach (e :: es) X.env = (false, eval e X.env) :: starEach es X.env := by rfl)
    (hpl : (backTo pos (starEach es X.env)).any (·.1) = false := by rfl) : EE X (.Call (.Name (Str.ofString y) p) (e :: es) [] pos) (tCallF X.K X.mg fn tl) (eCall fn ls) := by
  obtain ⟨f, m, C⟩ := h.callee hr hk hg
  exact ee_call C hgl m ⟨f, rfl⟩ ha hdb he hpl
theorem qe_hasC (h : HasC X.prog X.w X.K X.mg X.base k y fn) (hr : Room j X.A) (hk : k + 1 ≤ j) (hg : X.A.guards = some []) (ha : QA X (e :: es) tl xs) (hgl : Gl X (Str.ofString y) := by rfl) (hdb : (Str.ofString y == ("__debug__" : Str)) = false := by decide) (he : starEach (e :: es) X.env = (false, eval e X.env) :: starEach es X.env := by rfl)
    (hpl : (backTo pos (starEach es X.env)).any (·.1) = false := by rfl) : QE X (.Call (.Name (Str.ofString y) p) (e :: es) [] pos) (tCallF X.K X.mg (mkMake y fn) tl) (qCall (mkMake y fn) xs) := by
  obtain ⟨f, m, C⟩ := h.callee hr hk hg
  exact qe_call C hgl m ⟨f, rfl⟩ ha hdb he hpl
theorem ee_hasC (h : HasC X.prog X.w X.K X.mg X.base k y fn) (hr : Room j X.A) (hk : k + 1 ≤ j) (hg : X.A.guards = some []) (ha : EL X (e :: es) tl ls) (hgl : Gl X (Str.ofString y) := by rfl) (hdb : (Str.ofString y == ("__debug__" : Str)) = false := by decide) (he : starEach (e :: es) X.env = (false, eval e X.env) :: starEach es X.env := by rfl)
    (hpl : (backTo pos (starEach es X.env)).any (·.1) = false := by rfl) : EE X (.Call (.Name (Str.ofString y) p) (e :: es) [] pos) (tCallF X.K X.mg (mkMake y fn) tl) (eCall (mkMake y fn) ls) := by
  obtain ⟨f, m, C⟩ := h.callee hr hk hg
  exact ee_call C hgl m ⟨f, rfl⟩ ha hdb he hpl
/-- a module's constant -/
theorem qe_gI {n : Str} (hm : ∃ t, X.mg n = some (.int i t)) (hg : Gl X n := by rfl) (hd : (n == ("__debug__" : Str)) = false := by decide) : QE X (.Name n pos) (tC (.int i)) (qC (.int i)) := by
  obtain ⟨t, hm⟩ := hm
  exact qe_gint hm hg hd
theorem qe_gS {n : Str} {l : List Nat} (hm : ∃ t, X.mg n = some (.str (S l) t)) (hg : Gl X n := by rfl) (hd : (n == ("__debug__" : Str)) = false := by decide) : QE X (.Name n pos) (tC (.str (S l))) (qC (.str l)) := by
  obtain ⟨t, hm⟩ := hm
  exact qe_gstr hm rfl hg hd
/-- a value with effects, frozen -/
def eFz (y : Env → Option (T × Env)) : Env → Option (T × Env) := fun env => match y env with | none => none | some (t, env1) => some (t.fz, env1)
theorem ee_fz (h : EE X e te z) : EE X e te (eFz z) := ⟨h.pe, fun env t env' e H1 H σ F s R Q q => by
  unfold eFz at e
  split at e
  · cases e
  · rename_i u env1 e1
    cases e
    refine h.er _ _ _ e1 _ _ _ _ s R _ fun v Ha Hb F1 G1 x1 R1 r1 d1 => ?_
    have x2 : Ext Ha Hb (fun b => F1 b ∨ G1 b) (join Ha Hb G1) Hb F1 := Ext.freeze x1.sub (fun b z => (r1.own b z).1) (fun b z w => d1 b w z) (fun _ z => .inr z) fun _ z => .inl z
    have R2 := R1.frame (H' := Hb) x2.s1 fun b z => ⟨rfl, by rw [join_out (d1 b z)]; exact (R1.own b z).1⟩
    exact q v _ Hb F1 F0 ((x1.trans x2).less fun b z => z.elim id fun z => z.elim) R2 (.sh (r1.freeze x2.s1 fun b z => join_in z)) fun _ _ z => z⟩
/-- a name given up: its value goes out as it is -/
def eMove (i : Nat) : Env → Option (T × Env) := fun env => match env[i]? with | some (some t) => some (t, env.set i none) | _ => none
theorem ee_move (i : Nat) {y : Str} (h : PE X (.Name y pos) (tVar i)) : EE X (.Name y pos) (tVar i) (eMove i) := ⟨h, fun env t env' e H1 H σ F s R Q q => by
  unfold eMove at e
  split at e
  · rename_i t' e1
    cases e
    obtain ⟨v, Fi, G, h1, h2, h3, h4, h5, h6⟩ := R.take e1
    exact ⟨v, h1, q v H1 H G Fi ((Ext.refl s).less fun b z => z.elim (h6 b) (h5 b)) h3 h2 fun b z w => h4 b w z⟩
  · cases e⟩
/-- name = [..], frozen -/
theorem QR.fz {K : PySem.W.Frag} {mg : Str → Option Value} (h : QR K mg te x) : QR K mg te (qFz x) := fun env t e H1 H σ F s R Q q => by
  unfold qFz at e
  cases e1 : x env with
  | none => rw [e1] at e; cases e
  | some u =>
    rw [e1] at e
    cases e
    refine h _ _ e1 _ _ _ _ s R _ fun v Ha Hb Ft x1 r1 => ?_
    have x2 : Ext Ha Hb Ft (join Ha Hb Ft) Hb F0 := Ext.freeze x1.sub (fun b z => (r1.own b z).1) (fun _ _ z => z) (fun _ z => z) fun _ z => z.elim
    exact q v _ Hb F0 (x1.trans x2) (.sh (r1.freeze x2.s1 fun b z => join_in z))
variable {P : Nat → Bool} {elt tg iter kx : Expr} {ifs : List Expr} {scope : Scope} {own : List (Str × Nat)} {wi : TI} {src : Env → Option (List T)} {g : TG} {f : T → Env → Option Env} {tt : TT} {c : Env → Option Bool}
theorem se_setLcF {i : Nat} {y : Str} {py spos : Pos} (hc : X.calm = true) (hN : X.N.Nodup) (hy : X.N[i]? = some y) (hyl : X.env.scope.names.lookup y = some .local)
    (hsw : swapsWith (.ListComp elt [⟨tg, iter, ifs, 0⟩] scope pos) (some (.Name y py)) spos.line X.env = pure true) (hi : IQ X tg iter wi src) (ok : BlkOk X.N X.env.scope scope own)
    (hg : ∀ (s : Shared) (H : Hp) (C : Addr) (cl : List (Str × Addr)) (fp : List Addr), ∃ g, GQ (X.blk s H scope (compEnvC scope cl C X.env) fp) (pinC (own.map (·.2))) tg g f)
    (ht : ∀ (s : Shared) (H : Hp) (C : Addr) (cl : List (Str × Addr)) (fp : List Addr), ∃ tt, TS' (X.blk s H scope (compEnvC scope cl C X.env) fp) ifs tt c)
    (he : ∀ (s : Shared) (H : Hp) (C : Addr) (cl : List (Str × Addr)) (fp : List Addr), ∃ te, QE (X.blk s H scope (compEnvC scope cl C X.env) fp) elt te x) (hp : P i = false)
    (hs : ∀ x, foldedSetIterable iter X.env x = pure x := by intro _; rfl) :
    SE X P (.Assign [.Name y py] (.ListComp elt [⟨tg, iter, ifs, 0⟩] scope pos) spos) (tAsg (tLc wi (gAll X scope (pinC (own.map (·.2))) tg f) (tAll X scope ifs c) (eAll X scope elt x) (own.map (·.2))) (gName i)) (sAsg (eQ (qFz (qLc (own.map (·.2)) src f c x))) (gSet i)) :=
  se_setLc0 hc hN hy hyl hsw hi ok hg ht he hp (qr_lc hi.ir g_allR t_allR e_allR).fz hs
end
/-! rooms -/
theorem hu65 {A : Around} {k : Nat} (r : Room k A) : A.units + 65 < cLine := by have := r.un; omega
/-! the built-ins' names -/
theorem b_len : bootBuiltins "len" = some (.builtin "len") := by decide +kernel
theorem b_abs : bootBuiltins "abs" = some (.builtin "abs") := by decide +kernel
theorem b_max : bootBuiltins "max" = some (.builtin "max") := by decide +kernel
theorem b_min : bootBuiltins "min" = some (.builtin "min") := by decide +kernel
theorem b_sum : bootBuiltins "sum" = some (.builtin "sum") := by decide +kernel
theorem b_all : bootBuiltins "all" = some (.builtin "all") := by decide +kernel
theorem b_any : bootBuiltins "any" = some (.builtin "any") := by decide +kernel
theorem b_sorted : bootBuiltins "sorted" = some (.builtin "sorted") := by decide +kernel
theorem b_divmod : bootBuiltins "divmod" = some (.builtin "divmod") := by decide +kernel
theorem b_int : bootBuiltins "int" = some (.type "int") := by decide +kernel
theorem b_str : bootBuiltins "str" = some (.type "str") := by decide +kernel
theorem b_tuple : bootBuiltins "tuple" = some (.type "tuple") := by decide +kernel
theorem b_list : bootBuiltins "list" = some (.type "list") := by decide +kernel
end GK

/-! GK22: the end of a row: the law's def is run with the script. -/
namespace GK
open PySem L2 PySem.Spec PyProof.Rows PySem.W

theorem run_law {P : Program} {w : World} {K : PySem.W.Frag} {mg mb : Str → Option Value} {k : Nat} {fa a : Addr} {fd : FuncData} {x : Str} {fn : List T → Option (T × List T)} {st : Shared} {vs : List Value} {ns : List Int}
    (kin : K.In st.heap) (nsG : st.heap.Ns mainGlobals mg) (nsB : st.heap.Ns builtinsNs mb) (bb : ∀ x : Str, x ≠ "__name__" → mb x = bootBuiltins x) (lim : st.heap.NoLimit) (gens : st.gens = #[])
    (at_ : st.heap.get? a = some { cls := .type "list", data := .seq vs.toArray }) (hints : IntsAre vs ns) (short : ns.length ≤ sizeLine) (room : Room k callerA)
    (F : ∀ base : Heap, K.In base → base.Ns mainGlobals mg → FnG P w K mg base k fa fd [x] fn) (bind : ∀ (s : Shared) (u : Value), BindsTo s fd ⟨[u], []⟩ [(x, u)])
    (plain : ∃ ts', fn [.scr (ns.map T.int)] = some (.bl true, ts')) :
    codeAny (model P w) callerA (.call (.ref fa) ⟨[.ref a], []⟩) (fun r s' => r = .ok (.ret (.bool true)) ∧ OldK st.heap s'.heap ∧ s'.os = st.os ∧ AllBare s'.gens) st := by
  have rvs := vals_ints hints
  have lvs := hints.length
  have main : ∀ H : Hp, Only H → SqL K H a (ns.map V.int) → HOk P w H st.heap → (∀ b, H b ≠ none → b = a) → (H a ≠ none → K.lookup a = none) →
      codeAny (model P w) callerA (.call (.ref fa) ⟨[.ref a], []⟩) (fun r s' => r = .ok (.ret (.bool true)) ∧ OldK st.heap s'.heap ∧ s'.os = st.os ∧ AllBare s'.gens) st := by
    intro H only seq ok onlyA free
    have hid : ∀ {b : Addr} {o : Obj}, st.heap.get? b = some o → H b = none → (hidT st.heap H).get? b = some o := fun e n => hidT_get e n
    have nodict : ∀ {b : Addr} {o : Obj} {es : Array DictEntry} {ep : Nat}, st.heap.get? b = some o → o.data = .dict es ep → H b = none := fun {b o es ep} e d => by
      rcases none_or H b with q | ⟨u, q⟩
      · exact q
      · have eb : b = a := onlyA b (by rw [q]; exact fun z => nomatch z)
        subst eb
        rw [at_] at e
        cases e
        cases (show Data.seq vs.toArray _ = Data.dict es ep from d)
    have nsH : ∀ {b : Addr} {m : Str → Option Value}, st.heap.Ns b m → (hidT st.heap H).Ns b m := fun {b m} ⟨o, es, ep, e, d, r⟩ => ⟨o, es, ep, hid e (nodict e d), d, r⟩
    have kinH : K.In (hidT st.heap H) := fun b o e => hid (kin b o e) (by
      rcases none_or H b with q | ⟨u, q⟩
      · exact q
      · have eb : b = a := onlyA b (by rw [q]; exact fun z => nomatch z)
        subst eb
        rw [free (by rw [q]; exact fun z => nomatch z)] at e
        cases e)
    have modH : Mod K mg (hidT st.heap H) := ⟨kinH, nsH nsG, ⟨mb, nsH nsB, bb⟩, let ⟨mc, h1, h2⟩ := lim; ⟨mc, nsH h1, h2⟩⟩
    have e0 : Env0 P w K mg (hidT st.heap H) callerA [] st H := ⟨rfl, modH, fun b o e => of_hidT e, Nat.le_of_eq (hidT_size _ _), trivial, (fun b hb => absurd (show b ∈ ([] : List Addr) from hb) (by simp)), ok, .of_eq gens⟩
    obtain ⟨ts', hp⟩ := plain
    have want : spV K mg fn [.ref a] H (fun v _ => v = .bl true) := ⟨H, _, _, _, ts', Same.refl H, .cons (.sh (.scr seq (fz_ints ns H))) .nil fun _ z => z.elim, hp, fun v H1' H' F' Ft _ _ rv _ => rv.blE⟩
    refine codeAny_mono ((F _ kinH (nsH nsG)).meets callerA [] st H ⟨[.ref a], []⟩ [.ref a] [.ref a] _ room rfl e0 (bind st (.ref a)) (.cons rfl .nil) want) fun o s' ho => ?_
    cases o with
    | error e => exact False.elim ho
    | ok fl =>
      cases fl with
      | next => exact False.elim ho
      | brk => exact False.elim ho
      | cont => exact False.elim ho
      | ret u =>
        obtain ⟨v, H', os, bare, un, ok', rv, qv⟩ := ho
        have qv' : v = .bl true := qv
        subst qv'
        obtain rfl : u = Value.bool true := rv
        refine ⟨rfl, OldK.of_keep fun b o e => ?_, os, bare⟩
        rcases only b with z | ⟨ob, xs, z⟩
        · exact un.keep b o e z (fun q => absurd (show b ∈ ([] : List Addr) from q) (by simp)) (by simp)
        · have z2 := un.frzs b ob _ z
          obtain ⟨e1, _⟩ := ok b _ z
          obtain ⟨e2, _⟩ := ok' b _ z2
          rw [e] at e1
          cases e1
          exact e2
  cases hk : K.lookup a with
  | some o =>
    have e := kin a o hk
    rw [at_] at e
    cases e
    exact main (fun _ => none) (fun _ => .inl rfl) (.inr ⟨_, vs.toArray, _, hk, rfl, rfl, rfl, by rw [List.size_toArray, lvs]; exact short, by simpa using rvs⟩) (fun b u z => nomatch (show (none : Option HO) = some u from z)) (fun b z => absurd rfl z) fun z => absurd rfl z
  | none =>
    refine main (fun b => if b = a then some (.frz { cls := .type "list", data := .seq vs.toArray } (.lst (ns.map V.int))) else none) (fun b => ?_) (.inl (.inr ⟨{ cls := .type "list", data := .seq vs.toArray }, if_pos rfl⟩)) (fun b u z => ?_) (fun b z => ?_) fun _ => hk
    · by_cases hb : b = a
      · exact .inr ⟨_, _, if_pos hb⟩
      · exact .inl (if_neg hb)
    · by_cases hb : b = a
      · have zz := (if_pos hb).symm.trans z
        cases zz
        subst hb
        exact ⟨at_, by rw [List.length_map]; exact short, vs, _, rvs, at_⟩
      · cases (if_neg hb).symm.trans z
    · by_cases hb : b = a
      · exact hb
      · exact absurd (if_neg hb) z
theorem walk_G {l : PySem.W.OpenLaw} {n k : Nat} {q : Program} {loose : List Str} {XP : (Str → Option Value) → Heap → Prop} {YP : World → Heap → Prop} {d : DefRec} {K : Params → PySem.W.Frag} {x : Str} {fn : List T → Option (T × List T)}
    (hn : l.most = some n) (hn2 : n ≤ sizeLine) (hdf : d.params.defaults = []) (room : Room k callerA) (hY : ∀ (w : World) (h : Heap), YP w h → (K w.params).In h)
    (F : ∀ (w : World) (mg : Str → Option Value) (fa : Addr) (h : Heap), (K w.params).In h → h.Ns mainGlobals mg → mg d.name = some (.ref fa) →
      ∃ fd : FuncData, (∀ (s : Shared) (u : Value), BindsTo s fd ⟨[u], []⟩ [(x, u)]) ∧ ∀ base : Heap, (K w.params).In base → base.Ns mainGlobals mg → FnG l.prog w (K w.params) mg base k fa fd [x] fn)
    (plain : ∀ ns : List Int, ns.length ≤ n → (∀ z ∈ ns, Builtin.Int.intBits z ≤ 1048576) → ∃ ts', fn [.scr (ns.map T.int)] = some (.bl true, ts')) :
    PySem.W.WalkO q loose XP YP l.row.toRowW d [] (fun f vs => PySem.call f vs) := by
  refine Att.attach_callB hn hdf fun w s₀ s₁ mg mb fa o pm cd doc a vs ns G Y ho hd hcd hmg hobj hints hlen hbits hg => ?_
  have kin := hY w _ Y
  obtain ⟨fd, hb, hF⟩ := F w mg fa _ kin G.T.g hmg
  exact run_law kin G.T.g G.T.b G.T.builtins G.T.nolimit hg hobj hints (Nat.le_trans hlen hn2) room hF hb (plain ns hlen hbits)
end GK

/-! GK23: small steps for the plain part. -/
namespace GK
theorem mkFn_rt {n m : Nat} {P : Nat → Bool} {b : Env → Option Out} {ts ts' : List T} {t : T} {env' : Env} (hl : ts.length = n) (hb : b (ts.map some ++ List.replicate (m - n) none) = some (.rt t env')) (hk : back P 0 ts env' = some ts') : mkFn n m P b ts = some (t, ts') := by
  unfold mkFn
  rw [if_pos hl, hb]
  simp only [hk]
theorem mkFn_nx {n m : Nat} {P : Nat → Bool} {b : Env → Option Out} {ts ts' : List T} {env' : Env} (hl : ts.length = n) (hb : b (ts.map some ++ List.replicate (m - n) none) = some (.nx env')) (hk : back P 0 ts env' = some ts') : mkFn n m P b ts = some (.non, ts') := by
  unfold mkFn
  rw [if_pos hl, hb]
  simp only [hk]
theorem seq_nx {b c : Env → Option Out} {env env1 : Env} (h : b env = some (.nx env1)) : sSeq b c env = c env1 := by unfold sSeq; rw [h]
theorem seq_rt {b c : Env → Option Out} {env env1 : Env} {t : T} (h : b env = some (.rt t env1)) : sSeq b c env = some (.rt t env1) := by unfold sSeq; rw [h]
theorem asg_at {y : Env → Option (T × Env)} {i : Nat} {env env1 : Env} {t : T} (h : y env = some (t, env1)) (hi : i < env1.length) : sAsg y (gSet i) env = some (.nx (env1.set i (some t))) := by
  unfold sAsg gSet
  rw [h]
  simp only [if_pos hi]
/-- the slots but the first, of an end -/
def tl : Option Out → List (Option T)
  | some (.nx (_ :: l)) => l
  | some (.rt _ (_ :: l)) => l
  | _ => []
def theT : Option (T × List T) → T
  | some (t, _) => t
  | none => .non
def okRt : Option Out → Bool
  | some (.rt (.bl true) (some (.lst true [.int _, .int _]) :: _)) => true
  | _ => false
theorem all_four {x : Env → Option T} {env0 : Env} {ts : List T} {f : T → Env → Option Env} (h : ∀ t ∈ ts, ∃ env1, f t env0 = some env1 ∧ env1.length = env0.length ∧ x env1 = some (.bl true)) : lcGo f cYes x env0 ts = some (ts.map fun _ => .bl true) := by
  induction ts with
  | nil => rfl
  | cons t r ih =>
    obtain ⟨env1, h1, h2, h3⟩ := h t List.mem_cons_self
    unfold lcGo
    rw [h1]
    simp only [h2, if_true, cYes, h3, ih fun t ht => h t (List.mem_cons_of_mem _ ht)]
    rfl
end GK
namespace GK
section
variable {env env1 env2 env3 : Env} {a b t : T} {ts us : List T} {x : Env → Option T} {y z : Env → Option (T × Env)} {ys : Env → Option (List T × Env)} {ls : Env → Option (List Ar × Env)} {as : List Ar} {f : T → T → Option T} {g : List T → Option T} {fn : List T → Option (T × List T)}
theorem eQ_at (h : x env = some t) : eQ x env = some (t, env) := by unfold eQ; rw [h]
theorem eOp_at (h1 : y env = some (a, env1)) (h2 : z env1 = some (b, env2)) (h3 : f a b = some t) : eOp f y z env = some (t, env2) := by
  unfold eOp
  simp only [h1, h2, h3]
theorem eFz_at (h : y env = some (t, env1)) : eFz y env = some (t.fz, env1) := by unfold eFz; rw [h]
theorem eaCons_at (h1 : y env = some (t, env1)) (h2 : ys env1 = some (ts, env2)) : eaCons y ys env = some (t :: ts, env2) := by
  unfold eaCons
  rw [h1]
  simp only [h2]
theorem eaNil_at : eaQ aNil env = some ([], env) := rfl
theorem eCallB_at (h1 : ys env = some (ts, env1)) (h2 : g ts = some t) : eCallB g ys env = some (t, env1) := by
  unfold eCallB
  rw [h1]
  simp only [h2]
theorem lVal_at (h1 : y env = some (t, env1)) (h2 : ls env1 = some (as, env2)) : lVal y ls env = some (.val t :: as, env2) := by
  unfold lVal
  rw [h1]
  simp only [h2]
theorem lNil_at : lNil env = some ([], env) := rfl
/-- a call whose one argument is a value -/
theorem eCall1_at (h1 : y env = some (a, env1)) (h2 : fn [a] = some (t, us)) (h3 : us.length = 1) : eCall fn (lVal y lNil) env = some (t, env1) := by
  unfold eCall
  rw [lVal_at h1 lNil_at]
  match us, h3 with
  | [u], _ => simp [fill, h2, unfill]
theorem sPar2_at {i j : Nat} (h : ys env = some ([a, b], env1)) (hi : i < env1.length) (hj : j < env1.length) : sPar [i, j] ys env = some (.nx ((env1.set i (some a)).set j (some b))) := by
  unfold sPar
  rw [h]
  simp [hi, hj]
theorem callB1_at {x : Env → Option T} (h1 : x env = some a) (h2 : g [a] = some t) : qCallB g (aCons x aNil) env = some t := by
  unfold qCallB aCons aNil
  simp only [h1, h2]
theorem ret_at (h : y env = some (t, env1)) : sRet y env = some (.rt t env1) := by unfold sRet; rw [h]
/-- the i-th slot of an end -/
def sl (o : Option Out) (i : Nat) : Option T := match o with
  | some (.nx env) => (match env[i]? with | some s => s | none => none)
  | some (.rt _ env) => (match env[i]? with | some s => s | none => none)
  | _ => none
end
end GK

namespace LW
open PySem L2 GK PySem.Spec PyProof.Rows
def top (i : Nat) : Stmt := PySem.Challenge.pw_gapkinds_k39_known_first_fits.main.body.getD i (.Pass ⟨0, 0, 0, 0⟩)
def AF : List (String × List String) := [("Rule", ["text", "triples", "reach", "worth_of", "behind", "kinds", "worths", "bars"])]
structure Txt (K : PySem.W.Frag) (mg : Str → Option Value) : Prop where
  cls : Cls' K mg AF
  z_abs : mg "abs" = none
  z_all : mg "all" = none
  z_dict : mg "dict" = none
  z_divmod : mg "divmod" = none
  z_int : mg "int" = none
  z_isinstance : mg "isinstance" = none
  z_len : mg "len" = none
  z_max : mg "max" = none
  z_range : mg "range" = none
  z_sorted : mg "sorted" = none
  z_str : mg "str" = none
  z_sum : mg "sum" = none
  z_tuple : mg "tuple" = none
  z_zip : mg "zip" = none
  c_DIGITS : ∃ t, mg "DIGITS" = some (.str (S [48, 49, 50, 51, 52, 53, 54, 55, 56, 57]) t)
  c_DISTANCES : ∃ t, mg "DISTANCES" = some (.str (S [49, 50, 51, 52, 53]) t)
  c_LETTERS : ∃ t, mg "LETTERS" = some (.str (S [97, 98, 99, 100, 101, 102, 103, 104, 105, 106, 107, 108, 109, 110, 111, 112, 113, 114, 115, 116, 117, 118, 119, 120, 121, 122]) t)
  c_MOST_BARS : ∃ t, mg "MOST_BARS" = some (.int 40 t)
  c_MOST_KINDS : ∃ t, mg "MOST_KINDS" = some (.int 4 t)
  oc_Rule : ∃ C, mg (Str.ofString "Rule") = some (.ref C) ∧ OwnC K C
section
variable {P : Program} {w : World} {K : PySem.W.Frag} {mg : Str → Option Value} {base : Heap}
abbrev s_words_behind : Stmt := top 16
def pin_words_behind : Nat → Bool := fun i => ([0, 1] : List Nat).contains i
def b_words_behind_0 : GK.Env → Option Out :=
 (sAsg (eQ (qFz (qOp fSplit (kVar 0) (qC (.str [32]))))) (gSet 2))
def b_words_behind_1 : GK.Env → Option Out :=
 (sRet (eQ (qIf (tOfB (qOp cEq (qOp fPeekU (kVar 2) (qC (.int 0))) (kVar 1))) (qSl (kVar 2) (pSome (qC (.int 1))) pNo) (qC .non))))
def b_words_behind : GK.Env → Option Out :=
 (sSeq b_words_behind_0 b_words_behind_1)
def f_words_behind : List T → Option (T × List T) := mkFn 2 3 pin_words_behind b_words_behind
theorem sc_words_behind : FnScope ["line", "head", "words"] ["line", "head"] (defScope s_words_behind) := ⟨rfl, rfl, rfl, by decide +kernel, rfl, by decide +kernel, by decide +kernel⟩
theorem ok_words_behind {f : Addr} {fd : FuncData} (F : Fun K "words_behind" "words_behind" s_words_behind f fd) (Tx : Txt K mg) : FnG P w K mg base 1 f fd ["line", "head"] f_words_behind := by
  refine fn_ok F sc_words_behind (pin := pin_words_behind) (b := b_words_behind) fun cdv A outer s H hr hgd => ?_
  exact ⟨_, (ses_cons (se_asg (QE.eff (qe_fz (qe_split (ke_var 0 (pv 0)) (QE.k (qe_str (l := [32]) (by decide +kernel)))))) (ge_name (pg_name (i := 2) sc_words_behind.nd (by rfl) (by first | exact Or.inl rfl | exact Or.inr rfl)) (by rfl)))
 (ses_one (se_ret (QE.eff (qe_if (te_cmp (ce_op (op_eqU hr.units) ov_eqU (ke_item (hu_of hr) (ke_var 2 (pv 2)) (QE.k qe_int)) (ke_var 1 (pv 1)))) (qe_slice (ke_var 2 (pv 2)) (part_some (QE.k qe_int)) part_no) qe_non)))))⟩

abbrev s_is_rising : Stmt := top 13
def pin_is_rising : Nat → Bool := fun i => ([0] : List Nat).contains i
def b_is_rising_0 : GK.Env → Option Out :=
 (sRet (eQ (qCallB fAll (aCons (qLc [1] (qRng (aCons (qOp fSub (qCallB fLen (aCons (kVar 0) aNil)) (qC (.int 1))) aNil)) (gSet 1) cYes (qOp cLt (qOp fPeekU (kVar 0) (kVar 1)) (qOp fPeekU (kVar 0) (qOp fAdd (kVar 1) (qC (.int 1)))))) aNil))))
def b_is_rising : GK.Env → Option Out :=
 b_is_rising_0
def f_is_rising : List T → Option (T × List T) := mkFn 1 2 pin_is_rising b_is_rising
theorem sc_is_rising : FnScope ["words", "place"] ["words"] (defScope s_is_rising) := ⟨rfl, rfl, rfl, by decide +kernel, rfl, by decide +kernel, by decide +kernel⟩
theorem ok_is_rising {f : Addr} {fd : FuncData} (F : Fun K "is_rising" "is_rising" s_is_rising f fd) (Tx : Txt K mg) : FnG P w K mg base 1 f fd ["words"] f_is_rising := by
  refine fn_ok F sc_is_rising (pin := pin_is_rising) (b := b_is_rising) fun cdv A outer s H hr hgd => ?_
  exact ⟨_, (ses_one (se_ret (QE.eff (qe_blt (cr_all (by rfl)) cp_all Tx.z_all b_all (ka_cons (QE.k (qe_lc (by rfl) sc_is_rising.nd (iq_rng1 (by rfl) Tx.z_range (qa_cons (qe_bin op_sub ov_sub (QE.k (qe_blt (call_len.or call_lenD) cp_len Tx.z_len b_len (ka_cons (ke_var 0 (pv 0)) ka_nil))) (QE.k qe_int)) qa_nil) (len_cons fun _ _ e => len_nil e)) (blkOk_by (own := [(Str.ofString "place", 1)]) (by show blkC ["words", "place"] (defScope s_is_rising) _ _ = true; decide +kernel)) (fun _ _ _ _ _ => ⟨_, (gq_name (pg_name (i := 1) sc_is_rising.nd (by rfl) (by first | exact Or.inl rfl | exact Or.inr rfl)) (by rfl))⟩) (fun _ _ _ _ _ => ⟨_, ts_nil⟩) (fun _ _ _ _ _ => ⟨_, (qe_cmp (ce_op op_ltU ov_ltU (ke_item (hu_of hr) (ke_var 0 (pv 0)) (ke_var 1 (pv 1))) (ke_item (hu_of hr) (ke_var 0 (pv 0)) (QE.k (qe_bin op_addU ov_addU (ke_var 1 (pv 1)) (QE.k qe_int))))))⟩))) ka_nil)))))⟩

abbrev s_is_kind_word : Stmt := top 14
def pin_is_kind_word : Nat → Bool := fun i => ([0] : List Nat).contains i
def b_is_kind_word_0 : GK.Env → Option Out :=
 (sRet (eQ (qAnd (qOp cEq (qCallB fLen (aCons (kVar 0) aNil)) (qC (.int 2))) (qAnd (qOp (cIn false) (qOp fPeekU (kVar 0) (qC (.int 0))) (qC (.str [97, 98, 99, 100, 101, 102, 103, 104, 105, 106, 107, 108, 109, 110, 111, 112, 113, 114, 115, 116, 117, 118, 119, 120, 121, 122]))) (qOp (cIn false) (qOp fPeekU (kVar 0) (qC (.int 1))) (qC (.str [48, 49, 50, 51, 52, 53, 54, 55, 56, 57])))))))
def b_is_kind_word : GK.Env → Option Out :=
 b_is_kind_word_0
def f_is_kind_word : List T → Option (T × List T) := mkFn 1 1 pin_is_kind_word b_is_kind_word
theorem sc_is_kind_word : FnScope ["word"] ["word"] (defScope s_is_kind_word) := ⟨rfl, rfl, rfl, by decide +kernel, rfl, by decide +kernel, by decide +kernel⟩
theorem ok_is_kind_word {f : Addr} {fd : FuncData} (F : Fun K "is_kind_word" "is_kind_word" s_is_kind_word f fd) (Tx : Txt K mg) : FnG P w K mg base 1 f fd ["word"] f_is_kind_word := by
  refine fn_ok F sc_is_kind_word (pin := pin_is_kind_word) (b := b_is_kind_word) fun cdv A outer s H hr hgd => ?_
  exact ⟨_, (ses_one (se_ret (QE.eff (qe_and (qe_cmp (ce_op (op_eqU hr.units) ov_eqU (QE.k (qe_blt (call_len.or call_lenD) cp_len Tx.z_len b_len (ka_cons (ke_var 0 (pv 0)) ka_nil))) (QE.k qe_int))) (qe_and (qe_cmp (ce_in (hu65 hr) (ke_item (hu_of hr) (ke_var 0 (pv 0)) (QE.k qe_int)) (QE.k (qe_gS (l := [97, 98, 99, 100, 101, 102, 103, 104, 105, 106, 107, 108, 109, 110, 111, 112, 113, 114, 115, 116, 117, 118, 119, 120, 121, 122]) Tx.c_LETTERS)))) (qe_one (qe_cmp (ce_in (hu65 hr) (ke_item (hu_of hr) (ke_var 0 (pv 0)) (QE.k qe_int)) (QE.k (qe_gS (l := [48, 49, 50, 51, 52, 53, 54, 55, 56, 57]) Tx.c_DIGITS))))))))))⟩

abbrev s_read_kinds : Stmt := top 17
def pin_read_kinds : Nat → Bool := fun i => ([0] : List Nat).contains i
def b_read_kinds_0 : GK.Env → Option Out :=
 (sAsg (eQ (qFz (qCall f_words_behind (aCons (qVar 0) (aCons (qC (.str [107, 105, 110, 100, 115])) aNil))))) (gSet 1))
def b_read_kinds_1 : GK.Env → Option Out :=
 (sIf (etQ (tOrC (tOfB (qOp cIs (kVar 1) (qC .non))) (tOrC (tNotC (tOfB (qChain cLe cLe (qC (.int 1)) (qCallB fLen (aCons (kVar 1) aNil)) (qC (.int 4))))) (tNotC (tTruth (qCallB fAll (aCons (qLc [3] (qWalk (qVar 1)) (gSet 3) cYes (qCall f_is_kind_word (aCons (qVar 3) aNil))) aNil)))))))
 (sRet (eQ (qC .non)))
 sNext)
def b_read_kinds_2 : GK.Env → Option Out :=
 (sAsg (eQ (qOp fJoin (qC (.str [])) (qLc [3] (qWalk (qVar 1)) (gSet 3) cYes (qOp fItem (kVar 3) (qC (.int 0)))))) (gSet 2))
def b_read_kinds_3 : GK.Env → Option Out :=
 (sRet (eQ (qIf (tTruth (qCall f_is_rising (aCons (qVar 2) aNil))) (qTup (aCons (qVar 2) (aCons (qCallB fTuple (aCons (qLc [3] (qWalk (qVar 1)) (gSet 3) cYes (qCallB fInt (aCons (qOp fPeekU (kVar 3) (qC (.int 1))) aNil))) aNil)) aNil))) (qC .non))))
def b_read_kinds : GK.Env → Option Out :=
 (sSeq b_read_kinds_0 (sSeq b_read_kinds_1 (sSeq b_read_kinds_2 b_read_kinds_3)))
def f_read_kinds : List T → Option (T × List T) := mkFn 1 4 pin_read_kinds b_read_kinds
theorem sc_read_kinds : FnScope ["line", "words", "kinds", "word"] ["line"] (defScope s_read_kinds) := ⟨rfl, rfl, rfl, by decide +kernel, rfl, by decide +kernel, by decide +kernel⟩
theorem ok_read_kinds {f : Addr} {fd : FuncData} (F : Fun K "read_kinds" "read_kinds" s_read_kinds f fd) (Tx : Txt K mg) (h_words_behind : Has P w K mg base 1 "words_behind" f_words_behind) (h_is_kind_word : Has P w K mg base 1 "is_kind_word" f_is_kind_word) (h_is_rising : Has P w K mg base 1 "is_rising" f_is_rising) : FnG P w K mg base 2 f fd ["line"] f_read_kinds := by
  refine fn_ok F sc_read_kinds (pin := pin_read_kinds) (b := b_read_kinds) fun cdv A outer s H hr hgd => ?_
  exact ⟨_, (ses_cons (se_asg (QE.eff (qe_fz (qe_has (y := "words_behind") h_words_behind hr (by decide) hgd (qa_cons (qe_var 0 (pv 0)) (qa_cons (qe_str (l := [107, 105, 110, 100, 115]) (by decide +kernel)) qa_nil))))) (ge_name (pg_name (i := 1) sc_read_kinds.nd (by rfl) (by first | exact Or.inl rfl | exact Or.inr rfl)) (by rfl)))
 (ses_cons (se_if (TE'.eff (WE.asT (we_or (te_cmp (ce_op op_isN ov_is (ke_var 1 (pv 1)) (QE.k qe_non))) (we_or (te_not (te_chain op_le ov_le op_le ov_le (QE.k qe_int) (QE.k (qe_blt (call_len.or call_lenD) cp_len Tx.z_len b_len (ka_cons (ke_var 1 (pv 1)) ka_nil))) (QE.k (qe_gI Tx.c_MOST_KINDS)))) (we_or1 (te_not (te_truth (QE.k (qe_blt (cr_all (by rfl)) cp_all Tx.z_all b_all (ka_cons (QE.k (qe_lc (by rfl) sc_read_kinds.nd (iq_any (qe_var 1 (pv 1))) (blkOk_by (own := [(Str.ofString "word", 3)]) (by show blkC ["line", "words", "kinds", "word"] (defScope s_read_kinds) _ _ = true; decide +kernel)) (fun _ _ _ _ _ => ⟨_, (gq_name (pg_name (i := 3) sc_read_kinds.nd (by rfl) (by first | exact Or.inl rfl | exact Or.inr rfl)) (by rfl))⟩) (fun _ _ _ _ _ => ⟨_, ts_nil⟩) (fun _ _ _ _ _ => ⟨_, (qe_has (y := "is_kind_word") h_is_kind_word hr (by decide) hgd (qa_cons (qe_var 3 (pv 3)) qa_nil))⟩))) ka_nil))))))))))
 (ses_one (se_ret (QE.eff qe_non)))
 ses_nil)
 (ses_cons (se_asg (QE.eff (qe_join (QE.k (qe_str (l := []) (by decide +kernel))) (QE.k (qe_lc (by rfl) sc_read_kinds.nd (iq_any (qe_var 1 (pv 1))) (blkOk_by (own := [(Str.ofString "word", 3)]) (by show blkC ["line", "words", "kinds", "word"] (defScope s_read_kinds) _ _ = true; decide +kernel)) (fun _ _ _ _ _ => ⟨_, (gq_name (pg_name (i := 3) sc_read_kinds.nd (by rfl) (by first | exact Or.inl rfl | exact Or.inr rfl)) (by rfl))⟩) (fun _ _ _ _ _ => ⟨_, ts_nil⟩) (fun _ _ _ _ _ => ⟨_, (qe_item (hu_of hr) (ke_var 3 (pv 3)) (QE.k qe_int))⟩))))) (ge_name (pg_name (i := 2) sc_read_kinds.nd (by rfl) (by first | exact Or.inl rfl | exact Or.inr rfl)) (by rfl)))
 (ses_one (se_ret (QE.eff (qe_if (te_truth (QE.k (qe_has (y := "is_rising") h_is_rising hr (by decide) hgd (qa_cons (qe_var 2 (pv 2)) qa_nil)))) (qe_tup (qa_cons (qe_var 2 (pv 2)) (qa_cons (qe_bty call_tuple_of cp_tuple Tx.z_tuple b_tuple (ka_cons (QE.k (qe_lc (by rfl) sc_read_kinds.nd (iq_any (qe_var 1 (pv 1))) (blkOk_by (own := [(Str.ofString "word", 3)]) (by show blkC ["line", "words", "kinds", "word"] (defScope s_read_kinds) _ _ = true; decide +kernel)) (fun _ _ _ _ _ => ⟨_, (gq_name (pg_name (i := 3) sc_read_kinds.nd (by rfl) (by first | exact Or.inl rfl | exact Or.inr rfl)) (by rfl))⟩) (fun _ _ _ _ _ => ⟨_, ts_nil⟩) (fun _ _ _ _ _ => ⟨_, (qe_bty (call_int1.or call_int_str) cp_int Tx.z_int b_int (ka_cons (ke_item (hu_of hr) (ke_var 3 (pv 3)) (QE.k qe_int)) ka_nil))⟩))) ka_nil)) qa_nil))) qe_non)))))))⟩

abbrev s_is_bar : Stmt := top 15
def pin_is_bar : Nat → Bool := fun i => ([0, 1] : List Nat).contains i
def b_is_bar_0 : GK.Env → Option Out :=
 (sIf (etQ (tOrC (tNotC (tTruth (qUn fIsStr (kVar 1)))) (tOfB (qOp cNe (qCallB fLen (aCons (kVar 1) aNil)) (qC (.int 3))))))
 (sRet (eQ (qC (.bl false))))
 sNext)
def b_is_bar_1 : GK.Env → Option Out :=
 (sRet (eQ (qAnd (qOp (cIn false) (qOp fPeekU (kVar 1) (qC (.int 0))) (kVar 0)) (qAnd (qOp (cIn false) (qOp fPeekU (kVar 1) (qC (.int 1))) (kVar 0)) (qOp (cIn false) (qOp fPeekU (kVar 1) (qC (.int 2))) (qC (.str [49, 50, 51, 52, 53])))))))
def b_is_bar : GK.Env → Option Out :=
 (sSeq b_is_bar_0 b_is_bar_1)
def f_is_bar : List T → Option (T × List T) := mkFn 2 2 pin_is_bar b_is_bar
theorem sc_is_bar : FnScope ["kinds", "value"] ["kinds", "value"] (defScope s_is_bar) := ⟨rfl, rfl, rfl, by decide +kernel, rfl, by decide +kernel, by decide +kernel⟩
theorem ok_is_bar {f : Addr} {fd : FuncData} (F : Fun K "is_bar" "is_bar" s_is_bar f fd) (Tx : Txt K mg) : FnG P w K mg base 1 f fd ["kinds", "value"] f_is_bar := by
  refine fn_ok F sc_is_bar (pin := pin_is_bar) (b := b_is_bar) fun cdv A outer s H hr hgd => ?_
  exact ⟨_, (ses_cons (se_if (TE'.eff (WE.asT (we_or (te_not (te_truth (QE.k (qe_isStr (by rfl) Tx.z_isinstance (by rfl) Tx.z_str (ke_var 1 (pv 1)))))) (we_or1 (te_cmp (ce_op (op_neU hr.units) ov_neU (QE.k (qe_blt (call_len.or call_lenD) cp_len Tx.z_len b_len (ka_cons (ke_var 1 (pv 1)) ka_nil))) (QE.k qe_int)))))))
 (ses_one (se_ret (QE.eff qe_bl)))
 ses_nil)
 (ses_one (se_ret (QE.eff (qe_and (qe_cmp (ce_in (hu65 hr) (ke_item (hu_of hr) (ke_var 1 (pv 1)) (QE.k qe_int)) (ke_var 0 (pv 0)))) (qe_and (qe_cmp (ce_in (hu65 hr) (ke_item (hu_of hr) (ke_var 1 (pv 1)) (QE.k qe_int)) (ke_var 0 (pv 0)))) (qe_one (qe_cmp (ce_in (hu65 hr) (ke_item (hu_of hr) (ke_var 1 (pv 1)) (QE.k qe_int)) (QE.k (qe_gS (l := [49, 50, 51, 52, 53]) Tx.c_DISTANCES)))))))))))⟩

abbrev s_read_bars : Stmt := top 18
def pin_read_bars : Nat → Bool := fun i => ([0, 1] : List Nat).contains i
def b_read_bars_0 : GK.Env → Option Out :=
 (sAsg (eQ (qFz (qCall f_words_behind (aCons (qVar 1) (aCons (qC (.str [98, 97, 114, 115])) aNil))))) (gSet 2))
def b_read_bars_1 : GK.Env → Option Out :=
 (sIf (etQ (tOrC (tOfB (qOp cIs (kVar 2) (qC .non))) (tOrC (tOfB (qOp cGt (qCallB fLen (aCons (kVar 2) aNil)) (qC (.int 40)))) (tNotC (tTruth (qCallB fAll (aCons (qLc [3] (qWalk (qVar 2)) (gSet 3) cYes (qCall f_is_bar (aCons (qVar 0) (aCons (qVar 3) aNil)))) aNil)))))))
 (sRet (eQ (qC .non)))
 sNext)
def b_read_bars_2 : GK.Env → Option Out :=
 (sRet (eQ (qIf (tTruth (qCall f_is_rising (aCons (qVar 2) aNil))) (qCallB fTuple (aCons (kVar 2) aNil)) (qC .non))))
def b_read_bars : GK.Env → Option Out :=
 (sSeq b_read_bars_0 (sSeq b_read_bars_1 b_read_bars_2))
def f_read_bars : List T → Option (T × List T) := mkFn 2 4 pin_read_bars b_read_bars
theorem sc_read_bars : FnScope ["kinds", "line", "words", "word"] ["kinds", "line"] (defScope s_read_bars) := ⟨rfl, rfl, rfl, by decide +kernel, rfl, by decide +kernel, by decide +kernel⟩
theorem ok_read_bars {f : Addr} {fd : FuncData} (F : Fun K "read_bars" "read_bars" s_read_bars f fd) (Tx : Txt K mg) (h_words_behind : Has P w K mg base 1 "words_behind" f_words_behind) (h_is_bar : Has P w K mg base 1 "is_bar" f_is_bar) (h_is_rising : Has P w K mg base 1 "is_rising" f_is_rising) : FnG P w K mg base 2 f fd ["kinds", "line"] f_read_bars := by
  refine fn_ok F sc_read_bars (pin := pin_read_bars) (b := b_read_bars) fun cdv A outer s H hr hgd => ?_
  exact ⟨_, (ses_cons (se_asg (QE.eff (qe_fz (qe_has (y := "words_behind") h_words_behind hr (by decide) hgd (qa_cons (qe_var 1 (pv 1)) (qa_cons (qe_str (l := [98, 97, 114, 115]) (by decide +kernel)) qa_nil))))) (ge_name (pg_name (i := 2) sc_read_bars.nd (by rfl) (by first | exact Or.inl rfl | exact Or.inr rfl)) (by rfl)))
 (ses_cons (se_if (TE'.eff (WE.asT (we_or (te_cmp (ce_op op_isN ov_is (ke_var 2 (pv 2)) (QE.k qe_non))) (we_or (te_cmp (ce_op op_gt ov_gt (QE.k (qe_blt (call_len.or call_lenD) cp_len Tx.z_len b_len (ka_cons (ke_var 2 (pv 2)) ka_nil))) (QE.k (qe_gI Tx.c_MOST_BARS)))) (we_or1 (te_not (te_truth (QE.k (qe_blt (cr_all (by rfl)) cp_all Tx.z_all b_all (ka_cons (QE.k (qe_lc (by rfl) sc_read_bars.nd (iq_any (qe_var 2 (pv 2))) (blkOk_by (own := [(Str.ofString "word", 3)]) (by show blkC ["kinds", "line", "words", "word"] (defScope s_read_bars) _ _ = true; decide +kernel)) (fun _ _ _ _ _ => ⟨_, (gq_name (pg_name (i := 3) sc_read_bars.nd (by rfl) (by first | exact Or.inl rfl | exact Or.inr rfl)) (by rfl))⟩) (fun _ _ _ _ _ => ⟨_, ts_nil⟩) (fun _ _ _ _ _ => ⟨_, (qe_has (y := "is_bar") h_is_bar hr (by decide) hgd (qa_cons (qe_var 0 (pv 0)) (qa_cons (qe_var 3 (pv 3)) qa_nil)))⟩))) ka_nil))))))))))
 (ses_one (se_ret (QE.eff qe_non)))
 ses_nil)
 (ses_one (se_ret (QE.eff (qe_if (te_truth (QE.k (qe_has (y := "is_rising") h_is_rising hr (by decide) hgd (qa_cons (qe_var 2 (pv 2)) qa_nil)))) (qe_bty call_tuple_of cp_tuple Tx.z_tuple b_tuple (ka_cons (ke_var 2 (pv 2)) ka_nil)) qe_non))))))⟩

abbrev s_read_text : Stmt := top 19
def pin_read_text : Nat → Bool := fun i => ([0] : List Nat).contains i
def b_read_text_0 : GK.Env → Option Out :=
 (sIf (etQ (tNotC (tTruth (qUn fIsStr (kVar 0)))))
 (sRet (eQ (qC .non)))
 sNext)
def b_read_text_1 : GK.Env → Option Out :=
 (sAsg (eQ (qFz (qOp fSplit (kVar 0) (qC (.str [10]))))) (gSet 1))
def b_read_text_2 : GK.Env → Option Out :=
 (sIf (etQ (tOfB (qOp cNe (qCallB fLen (aCons (kVar 1) aNil)) (qC (.int 2)))))
 (sRet (eQ (qC .non)))
 sNext)
def b_read_text_3 : GK.Env → Option Out :=
 (sAsg (eQ (qFz (qCall f_read_kinds (aCons (qOp fItem (kVar 1) (qC (.int 0))) aNil)))) (gSet 2))
def b_read_text_4 : GK.Env → Option Out :=
 (sIf (etQ (tOfB (qOp cIs (kVar 2) (qC .non))))
 (sRet (eQ (qC .non)))
 sNext)
def b_read_text_5 : GK.Env → Option Out :=
 (sAsg (eQ (qFz (qCall f_read_bars (aCons (qOp fItem (kVar 2) (qC (.int 0))) (aCons (qOp fItem (kVar 1) (qC (.int 1))) aNil))))) (gSet 3))
def b_read_text_6 : GK.Env → Option Out :=
 (sRet (eQ (qIf (tOfB (qOp cIs (kVar 3) (qC .non))) (qC .non) (qTup (aCons (qOp fItem (kVar 2) (qC (.int 0))) (aCons (qOp fItem (kVar 2) (qC (.int 1))) (aCons (qVar 3) aNil)))))))
def b_read_text : GK.Env → Option Out :=
 (sSeq b_read_text_0 (sSeq b_read_text_1 (sSeq b_read_text_2 (sSeq b_read_text_3 (sSeq b_read_text_4 (sSeq b_read_text_5 b_read_text_6))))))
def f_read_text : List T → Option (T × List T) := mkFn 1 4 pin_read_text b_read_text
theorem sc_read_text : FnScope ["text", "lines", "told", "bars"] ["text"] (defScope s_read_text) := ⟨rfl, rfl, rfl, by decide +kernel, rfl, by decide +kernel, by decide +kernel⟩
theorem ok_read_text {f : Addr} {fd : FuncData} (F : Fun K "read_text" "read_text" s_read_text f fd) (Tx : Txt K mg) (h_read_kinds : Has P w K mg base 2 "read_kinds" f_read_kinds) (h_read_bars : Has P w K mg base 2 "read_bars" f_read_bars) : FnG P w K mg base 3 f fd ["text"] f_read_text := by
  refine fn_ok F sc_read_text (pin := pin_read_text) (b := b_read_text) fun cdv A outer s H hr hgd => ?_
  exact ⟨_, (ses_cons (se_if (TE'.eff (te_not (te_truth (QE.k (qe_isStr (by rfl) Tx.z_isinstance (by rfl) Tx.z_str (ke_var 0 (pv 0)))))))
 (ses_one (se_ret (QE.eff qe_non)))
 ses_nil)
 (ses_cons (se_asg (QE.eff (qe_fz (qe_split (ke_var 0 (pv 0)) (QE.k (qe_str (l := [10]) (by decide +kernel)))))) (ge_name (pg_name (i := 1) sc_read_text.nd (by rfl) (by first | exact Or.inl rfl | exact Or.inr rfl)) (by rfl)))
 (ses_cons (se_if (TE'.eff (te_cmp (ce_op (op_neU hr.units) ov_neU (QE.k (qe_blt (call_len.or call_lenD) cp_len Tx.z_len b_len (ka_cons (ke_var 1 (pv 1)) ka_nil))) (QE.k qe_int))))
 (ses_one (se_ret (QE.eff qe_non)))
 ses_nil)
 (ses_cons (se_asg (QE.eff (qe_fz (qe_has (y := "read_kinds") h_read_kinds hr (by decide) hgd (qa_cons (qe_item (hu_of hr) (ke_var 1 (pv 1)) (QE.k qe_int)) qa_nil)))) (ge_name (pg_name (i := 2) sc_read_text.nd (by rfl) (by first | exact Or.inl rfl | exact Or.inr rfl)) (by rfl)))
 (ses_cons (se_if (TE'.eff (te_cmp (ce_op op_isN ov_is (ke_var 2 (pv 2)) (QE.k qe_non))))
 (ses_one (se_ret (QE.eff qe_non)))
 ses_nil)
 (ses_cons (se_asg (QE.eff (qe_fz (qe_has (y := "read_bars") h_read_bars hr (by decide) hgd (qa_cons (qe_item (hu_of hr) (ke_var 2 (pv 2)) (QE.k qe_int)) (qa_cons (qe_item (hu_of hr) (ke_var 1 (pv 1)) (QE.k qe_int)) qa_nil))))) (ge_name (pg_name (i := 3) sc_read_text.nd (by rfl) (by first | exact Or.inl rfl | exact Or.inr rfl)) (by rfl)))
 (ses_one (se_ret (QE.eff (qe_if (te_cmp (ce_op op_isN ov_is (ke_var 3 (pv 3)) (QE.k qe_non))) qe_non (qe_tup (qa_cons (qe_item (hu_of hr) (ke_var 2 (pv 2)) (QE.k qe_int)) (qa_cons (qe_item (hu_of hr) (ke_var 2 (pv 2)) (QE.k qe_int)) (qa_cons (qe_var 3 (pv 3)) qa_nil))))))))))))))⟩

abbrev s_Rule_init : Stmt := inClass (top 21) 0
def pin_Rule_init : Nat → Bool := fun i => ([0, 1] : List Nat).contains i
def b_Rule_init_0 : GK.Env → Option Out :=
 (sAsg (eQ (qFz (qCall f_read_text (aCons (qVar 1) aNil)))) (gSet 2))
def b_Rule_init_1 : GK.Env → Option Out :=
 (sIf (etQ (tOfB (qOp cIs (kVar 2) (qC .non))))
 sNever
 sNext)
def b_Rule_init_2 : GK.Env → Option Out :=
 (sAsg (eQ (qVar 1)) (gAttr AF "text" (pVar 0) (pVarPut 0)))
def b_Rule_init_3 : GK.Env → Option Out :=
 (sAsg (eQ (qVar 2)) (gUn (gConsC (gAttr AF "kinds" (pVar 0) (pVarPut 0)) (gConsC (gAttr AF "worths" (pVar 0) (pVarPut 0)) (gConsC (gAttr AF "bars" (pVar 0) (pVarPut 0)) gNilC)))))
def b_Rule_init_4 : GK.Env → Option Out :=
 (sAsg (eQ (qCallB fTuple (aCons (qLc [6] (qWalk (qFld AF "bars" (kVar 0))) (gSet 6) cYes (qTup (aCons (qOp fItem (kVar 6) (qC (.int 0))) (aCons (qOp fItem (kVar 6) (qC (.int 1))) (aCons (qCallB fInt (aCons (qOp fPeekU (kVar 6) (qC (.int 2))) aNil)) aNil))))) aNil))) (gAttr AF "triples" (pVar 0) (pVarPut 0)))
def b_Rule_init_5 : GK.Env → Option Out :=
 (sAsg (eQ (qCallB fMax (aCons (qLst (aCons (qC (.int 1)) (aStar (qLc [3, 4, 5] (qWalk (qFld AF "triples" (kVar 0))) (gUn (gConsC (gSet 3) (gConsC (gSet 4) (gConsC (gSet 5) gNilC)))) cYes (qVar 5)) aNil))) aNil))) (gAttr AF "reach" (pVar 0) (pVarPut 0)))
def b_Rule_init_6 : GK.Env → Option Out :=
 (sAsg (eQ (qFz (qCallB fDictZ (aCons (kFld AF "kinds" (kVar 0)) (aCons (kFld AF "worths" (kVar 0)) aNil))))) (gAttr AF "worth_of" (pVar 0) (pVarPut 0)))
def b_Rule_init_7 : GK.Env → Option Out :=
 (sAsg (eQ (qDc [7] (qWalk (qFld AF "kinds" (kVar 0))) (gSet 7) cYes (qVar 7) (qLst aNil))) (gAttr AF "behind" (pVar 0) (pVarPut 0)))
def b_Rule_init_8 : GK.Env → Option Out :=
 (sFor (iQ (qWalk (qFld AF "triples" (kVar 0)))) (gUn (gConsC (gSet 3) (gConsC (gSet 4) (gConsC (gSet 5) gNilC))))
 (sExpr (eAppend (pIx (pFld AF "behind" (pVar 0)) (kVar 4)) (pIxPut (pFld AF "behind" (pVar 0)) (kVar 4) (pFldPut "behind" (pVar 0) (pVarPut 0))) (qTup (aCons (qVar 3) (aCons (qVar 5) aNil))))))
def b_Rule_init : GK.Env → Option Out :=
 (sSeq b_Rule_init_0 (sSeq b_Rule_init_1 (sSeq b_Rule_init_2 (sSeq b_Rule_init_3 (sSeq b_Rule_init_4 (sSeq b_Rule_init_5 (sSeq b_Rule_init_6 (sSeq b_Rule_init_7 b_Rule_init_8))))))))
def f_Rule_init : List T → Option (T × List T) := mkFn 2 8 pin_Rule_init b_Rule_init
theorem sc_Rule_init : FnScope ["self", "text", "told", "first", "second", "distance", "bar", "kind"] ["self", "text"] (defScope s_Rule_init) := ⟨rfl, rfl, rfl, by decide +kernel, rfl, by decide +kernel, by decide +kernel⟩
theorem ok_Rule_init {f : Addr} {fd : FuncData} (F : Fun K "__init__" "Rule.__init__" s_Rule_init f fd) (Tx : Txt K mg) (h_read_text : Has P w K mg base 3 "read_text" f_read_text) : FnG P w K mg base 4 f fd ["self", "text"] f_Rule_init := by
  refine fn_ok F sc_Rule_init (pin := pin_Rule_init) (b := b_Rule_init) fun cdv A outer s H hr hgd => ?_
  exact ⟨_, (ses_cons (se_asg (QE.eff (qe_fz (qe_has (y := "read_text") h_read_text hr (by decide) hgd (qa_cons (qe_var 1 (pv 1)) qa_nil)))) (ge_name (pg_name (i := 2) sc_Rule_init.nd (by rfl) (by first | exact Or.inl rfl | exact Or.inr rfl)) (by rfl)))
 (ses_cons (se_if (TE'.eff (te_cmp (ce_op op_isN ov_is (ke_var 2 (pv 2)) (QE.k qe_non))))
 (ses_one se_never)
 ses_nil)
 (ses_cons (se_asg (QE.eff (qe_var 1 (pv 1))) (ge_attr (f := "text") Tx.cls (pl_var 0 (pv 0)) (by intro _; rfl)))
 (ses_cons (se_asg (QE.eff (qe_var 2 (pv 2))) (ge_tup (by rfl) (gse_cons (ge_attr (f := "kinds") Tx.cls (pl_var 0 (pv 0)) (by intro _; rfl)) (gse_cons (ge_attr (f := "worths") Tx.cls (pl_var 0 (pv 0)) (by intro _; rfl)) (gse_cons (ge_attr (f := "bars") Tx.cls (pl_var 0 (pv 0)) (by intro _; rfl)) gse_nil)))))
 (ses_cons (se_asg (QE.eff (qe_bty call_tuple_of cp_tuple Tx.z_tuple b_tuple (ka_cons (QE.k (qe_lc (by rfl) sc_Rule_init.nd (iq_any (qe_fld (f := "bars") Tx.cls (ke_var 0 (pv 0)))) (blkOk_by (own := [(Str.ofString "bar", 6)]) (by show blkC ["self", "text", "told", "first", "second", "distance", "bar", "kind"] (defScope s_Rule_init) _ _ = true; decide +kernel)) (fun _ _ _ _ _ => ⟨_, (gq_name (pg_name (i := 6) sc_Rule_init.nd (by rfl) (by first | exact Or.inl rfl | exact Or.inr rfl)) (by rfl))⟩) (fun _ _ _ _ _ => ⟨_, ts_nil⟩) (fun _ _ _ _ _ => ⟨_, (qe_tup (qa_cons (qe_item (hu_of hr) (ke_var 6 (pv 6)) (QE.k qe_int)) (qa_cons (qe_item (hu_of hr) (ke_var 6 (pv 6)) (QE.k qe_int)) (qa_cons (qe_bty (call_int1.or call_int_str) cp_int Tx.z_int b_int (ka_cons (ke_item (hu_of hr) (ke_var 6 (pv 6)) (QE.k qe_int)) ka_nil)) qa_nil))))⟩))) ka_nil))) (ge_attr (f := "triples") Tx.cls (pl_var 0 (pv 0)) (by intro _; rfl)))
 (ses_cons (se_asg (QE.eff (qe_blt ((call_max2 (by rfl)).or (cr_max (by rfl))) cp_max Tx.z_max b_max (ka_cons (QE.k (qe_lst (qa_cons qe_int (qa_star (QE.k (qe_lc (by rfl) sc_Rule_init.nd (iq_any (qe_fld (f := "triples") Tx.cls (ke_var 0 (pv 0)))) (blkOk_by (own := [(Str.ofString "first", 3), (Str.ofString "second", 4), (Str.ofString "distance", 5)]) (by show blkC ["self", "text", "told", "first", "second", "distance", "bar", "kind"] (defScope s_Rule_init) _ _ = true; decide +kernel)) (fun _ _ _ _ _ => ⟨_, (gq_tup (by rfl) (gqs_cons (gq_name (pg_name (i := 3) sc_Rule_init.nd (by rfl) (by first | exact Or.inl rfl | exact Or.inr rfl)) (by rfl)) (gqs_cons (gq_name (pg_name (i := 4) sc_Rule_init.nd (by rfl) (by first | exact Or.inl rfl | exact Or.inr rfl)) (by rfl)) (gqs_cons (gq_name (pg_name (i := 5) sc_Rule_init.nd (by rfl) (by first | exact Or.inl rfl | exact Or.inr rfl)) (by rfl)) gqs_nil))))⟩) (fun _ _ _ _ _ => ⟨_, ts_nil⟩) (fun _ _ _ _ _ => ⟨_, (qe_var 5 (pv 5))⟩))) qa_nil)))) ka_nil))) (ge_attr (f := "reach") Tx.cls (pl_var 0 (pv 0)) (by intro _; rfl)))
 (ses_cons (se_asg (QE.eff (qe_fz (qe_dictZ (by rfl) (by rfl) Tx.z_dict (by rfl) Tx.z_zip (ka_cons (ke_fld (f := "kinds") Tx.cls (ke_var 0 (pv 0))) (ka_cons (ke_fld (f := "worths") Tx.cls (ke_var 0 (pv 0))) ka_nil))))) (ge_attr (f := "worth_of") Tx.cls (pl_var 0 (pv 0)) (by intro _; rfl)))
 (ses_cons (se_asg (QE.eff (qe_dc (by rfl) sc_Rule_init.nd (iq_any (qe_fld (f := "kinds") Tx.cls (ke_var 0 (pv 0)))) (blkOk_by (own := [(Str.ofString "kind", 7)]) (by show blkC ["self", "text", "told", "first", "second", "distance", "bar", "kind"] (defScope s_Rule_init) _ _ = true; decide +kernel)) (fun _ _ _ _ _ => ⟨_, (gq_name (pg_name (i := 7) sc_Rule_init.nd (by rfl) (by first | exact Or.inl rfl | exact Or.inr rfl)) (by rfl))⟩) (fun _ _ _ _ _ => ⟨_, ts_nil⟩) (fun _ _ _ _ _ => ⟨_, (qe_var 7 (pv 7))⟩) (fun _ _ _ _ _ => ⟨_, (qe_lst qa_nil)⟩))) (ge_attr (f := "behind") Tx.cls (pl_var 0 (pv 0)) (by intro _; rfl)))
 (ses_one (se_for PassesOwn.never (by rfl) (IQ.toE (iq_any (qe_fld (f := "triples") Tx.cls (ke_var 0 (pv 0))))) (ge_tup (by rfl) (gse_cons (ge_name (pg_name (i := 3) sc_Rule_init.nd (by rfl) (by first | exact Or.inl rfl | exact Or.inr rfl)) (by rfl)) (gse_cons (ge_name (pg_name (i := 4) sc_Rule_init.nd (by rfl) (by first | exact Or.inl rfl | exact Or.inr rfl)) (by rfl)) (gse_cons (ge_name (pg_name (i := 5) sc_Rule_init.nd (by rfl) (by first | exact Or.inl rfl | exact Or.inr rfl)) (by rfl)) gse_nil))))
 (ses_one (se_expr (ee_append (pl_ix (hu_of hr) (pl_fld (f := "behind") Tx.cls (pl_var 0 (pv 0))) (ke_var 4 (pv 4))) (qe_tup (qa_cons (qe_var 3 (pv 3)) (qa_cons (qe_var 5 (pv 5)) qa_nil))))))))))))))))⟩

abbrev s_check_rule : Stmt := top 22
def pin_check_rule : Nat → Bool := fun i => ([0] : List Nat).contains i
def b_check_rule_0 : GK.Env → Option Out :=
 (sIf (etQ (tNotC (tTruth (qUn (fIsOwn "Rule") (kVar 0)))))
 sNever
 sNext)
def b_check_rule : GK.Env → Option Out :=
 b_check_rule_0
def f_check_rule : List T → Option (T × List T) := mkFn 1 1 pin_check_rule b_check_rule
theorem sc_check_rule : FnScope ["value"] ["value"] (defScope s_check_rule) := ⟨rfl, rfl, rfl, by decide +kernel, rfl, by decide +kernel, by decide +kernel⟩
theorem ok_check_rule {f : Addr} {fd : FuncData} (F : Fun K "check_rule" "check_rule" s_check_rule f fd) (Tx : Txt K mg) : FnG P w K mg base 1 f fd ["value"] f_check_rule := by
  refine fn_ok F sc_check_rule (pin := pin_check_rule) (b := b_check_rule) fun cdv A outer s H hr hgd => ?_
  obtain ⟨C_Rule, m_Rule, o_Rule⟩ := Tx.oc_Rule
  exact ⟨_, (ses_one (se_if (TE'.eff (te_not (te_truth (QE.k (qe_isOwn (y := "Rule") (by rfl) Tx.z_isinstance (by rfl) m_Rule o_Rule (ke_var 0 (pv 0)))))))
 (ses_one se_never)
 ses_nil))⟩

abbrev s_check_order : Stmt := top 29
def pin_check_order : Nat → Bool := fun i => ([0, 1] : List Nat).contains i
def b_check_order_0 : GK.Env → Option Out :=
 (sIf (etQ (tOrC (tNotC (tTruth (qUn fIsStr (kVar 1)))) (tOfB (qOp cNe (qOp fJoin (qC (.str [])) (qCallB fSortTx (aCons (kVar 1) aNil))) (kFld AF "kinds" (kVar 0))))))
 sNever
 sNext)
def b_check_order : GK.Env → Option Out :=
 b_check_order_0
def f_check_order : List T → Option (T × List T) := mkFn 2 2 pin_check_order b_check_order
theorem sc_check_order : FnScope ["rule", "order"] ["rule", "order"] (defScope s_check_order) := ⟨rfl, rfl, rfl, by decide +kernel, rfl, by decide +kernel, by decide +kernel⟩
theorem ok_check_order {f : Addr} {fd : FuncData} (F : Fun K "check_order" "check_order" s_check_order f fd) (Tx : Txt K mg) : FnG P w K mg base 1 f fd ["rule", "order"] f_check_order := by
  refine fn_ok F sc_check_order (pin := pin_check_order) (b := b_check_order) fun cdv A outer s H hr hgd => ?_
  exact ⟨_, (ses_one (se_if (TE'.eff (WE.asT (we_or (te_not (te_truth (QE.k (qe_isStr (by rfl) Tx.z_isinstance (by rfl) Tx.z_str (ke_var 1 (pv 1)))))) (we_or1 (te_cmp (ce_op (op_neU hr.units) ov_neU (QE.k (qe_join (QE.k (qe_str (l := []) (by decide +kernel))) (QE.k (qe_blt (cr_sortedI.or (call_sortTx (by rfl))) cp_sortTx Tx.z_sorted b_sorted (ka_cons (ke_var 1 (pv 1)) ka_nil))))) (ke_fld (f := "kinds") Tx.cls (ke_var 0 (pv 0)))))))))
 (ses_one se_never)
 ses_nil))⟩

abbrev s_with_least_beginning : Stmt := top 31
def pin_with_least_beginning : Nat → Bool := fun i => ([] : List Nat).contains i
def fuel_with_least_beginning : Nat := 4096
def b_with_least_beginning_0 : GK.Env → Option Out :=
 (sFor (iQ (qRng (aCons (qC (.int 1)) (aCons (qOp fAdd (qCallB fLen (aCons (kVar 1) aNil)) (qC (.int 1))) aNil)))) (gSet 2)
 (sIf (etQ (tOfB (qOp cEq (qOp fMul (qSl (kVar 1) pNo (pSome (kVar 2))) (qOp fDiv (qCallB fLen (aCons (kVar 1) aNil)) (kVar 2))) (kVar 1))))
 (sSeq (sAsg (eQ (qFz (qSl (kVar 1) pNo (pSome (kVar 2))))) (gSet 1))
 sBreak)
 sNext))
def b_with_least_beginning_1 : GK.Env → Option Out :=
 (wloop (etQ (tAndC (tTruth (kVar 0)) (tOfB (qOp cEq (qOp fPeekU (kVar 0) (qUn fNeg (qC (.int 1)))) (qOp fPeekU (kVar 1) (qUn fNeg (qC (.int 1))))))))
 (sPar [0, 1] (eaQ (aCons (qFz (qSl (kVar 0) pNo (pSome (qUn fNeg (qC (.int 1)))))) (aCons (qFz (qOp fAdd (qOp fPeekU (kVar 1) (qUn fNeg (qC (.int 1)))) (qSl (kVar 1) pNo (pSome (qUn fNeg (qC (.int 1))))))) aNil)))) fuel_with_least_beginning)
def b_with_least_beginning_2 : GK.Env → Option Out :=
 (sRet (eQ (qTup (aCons (qVar 0) (aCons (qVar 1) aNil)))))
def b_with_least_beginning : GK.Env → Option Out :=
 (sSeq b_with_least_beginning_0 (sSeq b_with_least_beginning_1 b_with_least_beginning_2))
def f_with_least_beginning : List T → Option (T × List T) := mkFn 2 3 pin_with_least_beginning b_with_least_beginning
theorem sc_with_least_beginning : FnScope ["beginning", "ring", "size"] ["beginning", "ring"] (defScope s_with_least_beginning) := ⟨rfl, rfl, rfl, by decide +kernel, rfl, by decide +kernel, by decide +kernel⟩
theorem ok_with_least_beginning {f : Addr} {fd : FuncData} (F : Fun K "with_least_beginning" "with_least_beginning" s_with_least_beginning f fd) (Tx : Txt K mg) : FnG P w K mg base 1 f fd ["beginning", "ring"] f_with_least_beginning := by
  refine fn_ok F sc_with_least_beginning (pin := pin_with_least_beginning) (b := b_with_least_beginning) fun cdv A outer s H hr hgd => ?_
  exact ⟨_, (ses_cons (se_for PassesOwn.never (by rfl) (IQ.toE (iq_rng2 (by rfl) Tx.z_range (qa_cons qe_int (qa_cons (qe_bin op_addU ov_addU (QE.k (qe_blt (call_len.or call_lenD) cp_len Tx.z_len b_len (ka_cons (ke_var 1 (pv 1)) ka_nil))) (QE.k qe_int)) qa_nil)) (len_cons (len_cons fun _ _ e => len_nil e)))) (ge_name (pg_name (i := 2) sc_with_least_beginning.nd (by rfl) (by first | exact Or.inl rfl | exact Or.inr rfl)) (by rfl))
 (ses_one (se_if (TE'.eff (te_cmp (ce_op (op_eqU hr.units) ov_eqU (QE.k (qe_bin op_mulU ov_mulU (QE.k (qe_slice (ke_var 1 (pv 1)) part_no (part_some (ke_var 2 (pv 2))))) (QE.k (qe_bin op_fdiv ov_div (QE.k (qe_blt (call_len.or call_lenD) cp_len Tx.z_len b_len (ka_cons (ke_var 1 (pv 1)) ka_nil))) (ke_var 2 (pv 2)))))) (ke_var 1 (pv 1)))))
 (ses_cons (se_asg (QE.eff (qe_fz (qe_slice (ke_var 1 (pv 1)) part_no (part_some (ke_var 2 (pv 2)))))) (ge_name (pg_name (i := 1) sc_with_least_beginning.nd (by rfl) (by first | exact Or.inl rfl | exact Or.inr rfl)) (by rfl)))
 (ses_one se_break))
 ses_nil)))
 (ses_cons (se_while fuel_with_least_beginning PassesOwn.never (TE'.eff (WE.asT (we_and (te_truth (ke_var 0 (pv 0))) (we_and1 (te_cmp (ce_op (op_eqU hr.units) ov_eqU (ke_item (hu_of hr) (ke_var 0 (pv 0)) (QE.k (qe_una un_neg uv_neg (QE.k qe_int)))) (ke_item (hu_of hr) (ke_var 1 (pv 1)) (QE.k (qe_una un_neg uv_neg (QE.k qe_int))))))))))
 (ses_one (se_par (i := 0) (j := 1) (by rfl) sc_with_least_beginning.nd (by rfl) (by rfl) (by decide) (by rfl) (by rfl) (QA.eff (qa_cons (qe_fz (qe_slice (ke_var 0 (pv 0)) part_no (part_some (QE.k (qe_una un_neg uv_neg (QE.k qe_int)))))) (qa_cons (qe_fz (qe_bin op_addU ov_addU (ke_item (hu_of hr) (ke_var 1 (pv 1)) (QE.k (qe_una un_neg uv_neg (QE.k qe_int)))) (QE.k (qe_slice (ke_var 1 (pv 1)) part_no (part_some (QE.k (qe_una un_neg uv_neg (QE.k qe_int)))))))) qa_nil))) (by rfl) (by rfl) (by rfl))))
 (ses_one (se_ret (QE.eff (qe_tup (qa_cons (qe_var 0 (pv 0)) (qa_cons (qe_var 1 (pv 1)) qa_nil))))))))⟩

abbrev s_fits : Stmt := top 24
def pin_fits : Nat → Bool := fun i => ([0, 1, 2] : List Nat).contains i
def b_fits_0 : GK.Env → Option Out :=
 (sFor (iQ (qWalk (qOp fItem (kFld AF "behind" (kVar 0)) (kVar 2)))) (gUn (gConsC (gSet 3) (gConsC (gSet 4) gNilC)))
 (sIf (etQ (tAndC (tOfB (qOp cLe (kVar 4) (qCallB fLen (aCons (kVar 1) aNil)))) (tOfB (qOp cEq (qOp fPeekU (kVar 1) (qOp fSub (qCallB fLen (aCons (kVar 1) aNil)) (kVar 4))) (kVar 3)))))
 (sRet (eQ (qC (.bl false))))
 sNext))
def b_fits_1 : GK.Env → Option Out :=
 (sRet (eQ (qC (.bl true))))
def b_fits : GK.Env → Option Out :=
 (sSeq b_fits_0 b_fits_1)
def f_fits : List T → Option (T × List T) := mkFn 3 5 pin_fits b_fits
theorem sc_fits : FnScope ["rule", "row", "kind", "first", "distance"] ["rule", "row", "kind"] (defScope s_fits) := ⟨rfl, rfl, rfl, by decide +kernel, rfl, by decide +kernel, by decide +kernel⟩
theorem ok_fits {f : Addr} {fd : FuncData} (F : Fun K "fits" "fits" s_fits f fd) (Tx : Txt K mg) : FnG P w K mg base 1 f fd ["rule", "row", "kind"] f_fits := by
  refine fn_ok F sc_fits (pin := pin_fits) (b := b_fits) fun cdv A outer s H hr hgd => ?_
  exact ⟨_, (ses_cons (se_for PassesOwn.never (by rfl) (IQ.toE (iq_any (qe_item (hu_of hr) (ke_fld (f := "behind") Tx.cls (ke_var 0 (pv 0))) (ke_var 2 (pv 2))))) (ge_tup (by rfl) (gse_cons (ge_name (pg_name (i := 3) sc_fits.nd (by rfl) (by first | exact Or.inl rfl | exact Or.inr rfl)) (by rfl)) (gse_cons (ge_name (pg_name (i := 4) sc_fits.nd (by rfl) (by first | exact Or.inl rfl | exact Or.inr rfl)) (by rfl)) gse_nil)))
 (ses_one (se_if (TE'.eff (WE.asT (we_and (te_cmp (ce_op op_le ov_le (ke_var 4 (pv 4)) (QE.k (qe_blt (call_len.or call_lenD) cp_len Tx.z_len b_len (ka_cons (ke_var 1 (pv 1)) ka_nil))))) (we_and1 (te_cmp (ce_op (op_eqU hr.units) ov_eqU (ke_item (hu_of hr) (ke_var 1 (pv 1)) (QE.k (qe_bin op_sub ov_sub (QE.k (qe_blt (call_len.or call_lenD) cp_len Tx.z_len b_len (ka_cons (ke_var 1 (pv 1)) ka_nil))) (ke_var 4 (pv 4))))) (ke_var 3 (pv 3))))))))
 (ses_one (se_ret (QE.eff qe_bl)))
 ses_nil)))
 (ses_one (se_ret (QE.eff qe_bl))))⟩

abbrev s_fitted : Stmt := top 30
def pin_fitted : Nat → Bool := fun i => ([0, 1] : List Nat).contains i
def fuel_fitted : Nat := 4096
def b_fitted_0 : GK.Env → Option Out :=
 (sPar [2, 3] (eaQ (aCons (qC (.str [])) (aCons qDic0 aNil))))
def b_fitted_1 : GK.Env → Option Out :=
 (wloop (etQ (tTruth (qC (.bl true))))
 (sSeq (sAsg (eQ (qFz (qSl (kVar 2) (pSome (qUn fNeg (kFld AF "reach" (kVar 0)))) pNo))) (gSet 4))
 (sSeq (sIf (etQ (tOfB (qOp cGe (qCallB fLen (aCons (kVar 2) aNil)) (kFld AF "reach" (kVar 0)))))
 (sSeq (sIf (etQ (tOfB (qOp (cIn false) (kVar 4) (kVar 3))))
 (sRet (eQ (qCall f_with_least_beginning (aCons (qFz (qSl (kVar 2) pNo (pSome (qOp fPeekU (kVar 3) (kVar 4))))) (aCons (qFz (qSl (kVar 2) (pSome (qOp fPeekU (kVar 3) (kVar 4))) pNo)) aNil)))))
 sNext)
 (sAsg (eQ (qCallB fLen (aCons (kVar 2) aNil))) (gIx (pVar 3) (kVar 4) (pVarPut 3))))
 sNext)
 (sSeq (sAsg (eQ (qFz (qLc [6] (qWalk (qVar 1)) (gSet 6) (tTruth (qCall f_fits (aCons (qVar 0) (aCons (qVar 4) (aCons (qVar 6) aNil))))) (qVar 6)))) (gSet 5))
 (sSeq (sIf (etQ (tNotC (tTruth (kVar 5))))
 (sRet (eQ (qTup (aCons (qVar 2) (aCons (qC (.str [])) aNil)))))
 sNext)
 (sAsg (eQ (qFz (qOp fAdd (kVar 2) (qOp fPeekU (kVar 5) (qC (.int 0)))))) (gSet 2)))))) fuel_fitted)
def b_fitted : GK.Env → Option Out :=
 (sSeq b_fitted_0 b_fitted_1)
def f_fitted : List T → Option (T × List T) := mkFn 2 7 pin_fitted b_fitted
theorem sc_fitted : FnScope ["rule", "order", "row", "seen", "tail", "kinds", "kind"] ["rule", "order"] (defScope s_fitted) := ⟨rfl, rfl, rfl, by decide +kernel, rfl, by decide +kernel, by decide +kernel⟩
theorem ok_fitted {f : Addr} {fd : FuncData} (F : Fun K "fitted" "fitted" s_fitted f fd) (Tx : Txt K mg) (h_with_least_beginning : Has P w K mg base 1 "with_least_beginning" f_with_least_beginning) (h_fits : Has P w K mg base 1 "fits" f_fits) : FnG P w K mg base 2 f fd ["rule", "order"] f_fitted := by
  refine fn_ok F sc_fitted (pin := pin_fitted) (b := b_fitted) fun cdv A outer s H hr hgd => ?_
  exact ⟨_, (ses_cons (se_par (i := 2) (j := 3) (by rfl) sc_fitted.nd (by rfl) (by rfl) (by decide) (by rfl) (by rfl) (QA.eff (qa_cons (qe_str (l := []) (by decide +kernel)) (qa_cons qe_dic0 qa_nil))) (by rfl) (by rfl) (by rfl))
 (ses_one (se_while fuel_fitted PassesOwn.never (TE'.eff (te_truth (QE.k qe_bl)))
 (ses_cons (se_asg (QE.eff (qe_fz (qe_slice (ke_var 2 (pv 2)) (part_some (QE.k (qe_una un_neg uv_neg (ke_fld (f := "reach") Tx.cls (ke_var 0 (pv 0)))))) part_no))) (ge_name (pg_name (i := 4) sc_fitted.nd (by rfl) (by first | exact Or.inl rfl | exact Or.inr rfl)) (by rfl)))
 (ses_cons (se_if (TE'.eff (te_cmp (ce_op op_ge ov_ge (QE.k (qe_blt (call_len.or call_lenD) cp_len Tx.z_len b_len (ka_cons (ke_var 2 (pv 2)) ka_nil))) (ke_fld (f := "reach") Tx.cls (ke_var 0 (pv 0))))))
 (ses_cons (se_if (TE'.eff (te_cmp (ce_in (hu65 hr) (ke_var 4 (pv 4)) (ke_var 3 (pv 3)))))
 (ses_one (se_ret (QE.eff (qe_has (y := "with_least_beginning") h_with_least_beginning hr (by decide) hgd (qa_cons (qe_fz (qe_slice (ke_var 2 (pv 2)) part_no (part_some (ke_item (hu_of hr) (ke_var 3 (pv 3)) (ke_var 4 (pv 4)))))) (qa_cons (qe_fz (qe_slice (ke_var 2 (pv 2)) (part_some (ke_item (hu_of hr) (ke_var 3 (pv 3)) (ke_var 4 (pv 4)))) part_no)) qa_nil))))))
 ses_nil)
 (ses_one (se_asg (QE.eff (qe_blt (call_len.or call_lenD) cp_len Tx.z_len b_len (ka_cons (ke_var 2 (pv 2)) ka_nil))) (ge_ix (hu_of hr) (pl_var 3 (pv 3)) (ke_var 4 (pv 4)) (by intro _; rfl)))))
 ses_nil)
 (ses_cons (se_setLcF (i := 5) (by rfl) sc_fitted.nd (by rfl) (by rfl) (sw_true (by rfl) (by rfl) (by rfl) (by decide +kernel)) (iq_any (qe_var 1 (pv 1))) (blkOk_by (own := [(Str.ofString "kind", 6)]) (by show blkC ["rule", "order", "row", "seen", "tail", "kinds", "kind"] (defScope s_fitted) _ _ = true; decide +kernel)) (fun _ _ _ _ _ => ⟨_, (gq_name (pg_name (i := 6) sc_fitted.nd (by rfl) (by first | exact Or.inl rfl | exact Or.inr rfl)) (by rfl))⟩) (fun _ _ _ _ _ => ⟨_, (ts_one (te_truth (QE.k (qe_has (y := "fits") h_fits hr (by decide) hgd (qa_cons (qe_var 0 (pv 0)) (qa_cons (qe_var 4 (pv 4)) (qa_cons (qe_var 6 (pv 6)) qa_nil)))))))⟩) (fun _ _ _ _ _ => ⟨_, (qe_var 6 (pv 6))⟩) (by rfl))
 (ses_cons (se_if (TE'.eff (te_not (te_truth (ke_var 5 (pv 5)))))
 (ses_one (se_ret (QE.eff (qe_tup (qa_cons (qe_var 2 (pv 2)) (qa_cons (qe_str (l := []) (by decide +kernel)) qa_nil))))))
 ses_nil)
 (ses_one (se_asg (QE.eff (qe_fz (qe_bin op_addU ov_addU (ke_var 2 (pv 2)) (ke_item (hu_of hr) (ke_var 5 (pv 5)) (QE.k qe_int))))) (ge_name (pg_name (i := 2) sc_fitted.nd (by rfl) (by first | exact Or.inl rfl | exact Or.inr rfl)) (by rfl)))))))))))⟩

abbrev s_measure : Stmt := top 26
def pin_measure : Nat → Bool := fun i => ([] : List Nat).contains i
def fuel_measure : Nat := 4096
def b_measure_0 : GK.Env → Option Out :=
 (wloop (etQ (tOfB (qOp cGt (kVar 1) (qC (.int 0)))))
 (sPar [0, 1] (eaQ (aCons (qVar 1) (aCons (qOp fMod (qCallB fInt (aCons (kVar 0) aNil)) (kVar 1)) aNil)))) fuel_measure)
def b_measure_1 : GK.Env → Option Out :=
 (sRet (eQ (qVar 0)))
def b_measure : GK.Env → Option Out :=
 (sSeq b_measure_0 b_measure_1)
def f_measure : List T → Option (T × List T) := mkFn 2 2 pin_measure b_measure
theorem sc_measure : FnScope ["one", "other"] ["one", "other"] (defScope s_measure) := ⟨rfl, rfl, rfl, by decide +kernel, rfl, by decide +kernel, by decide +kernel⟩
theorem ok_measure {f : Addr} {fd : FuncData} (F : Fun K "measure" "measure" s_measure f fd) (Tx : Txt K mg) : FnG P w K mg base 1 f fd ["one", "other"] f_measure := by
  refine fn_ok F sc_measure (pin := pin_measure) (b := b_measure) fun cdv A outer s H hr hgd => ?_
  exact ⟨_, (ses_cons (se_while fuel_measure PassesOwn.never (TE'.eff (te_cmp (ce_op op_gt ov_gt (ke_var 1 (pv 1)) (QE.k qe_int))))
 (ses_one (se_par (i := 0) (j := 1) (by rfl) sc_measure.nd (by rfl) (by rfl) (by decide) (by rfl) (by rfl) (QA.eff (qa_cons (qe_var 1 (pv 1)) (qa_cons (qe_bin op_mod ov_mod (QE.k (qe_bty (call_int1.or call_int_str) cp_int Tx.z_int b_int (ka_cons (ke_var 0 (pv 0)) ka_nil))) (ke_var 1 (pv 1))) qa_nil))) (by rfl) (by rfl) (by rfl))))
 (ses_one (se_ret (QE.eff (qe_var 0 (pv 0))))))⟩

abbrev s_lowest : Stmt := top 27
def pin_lowest : Nat → Bool := fun i => ([0, 1] : List Nat).contains i
def b_lowest_0 : GK.Env → Option Out :=
 (sAsg (eQ (qFz (qCall f_measure (aCons (qVar 0) (aCons (qVar 1) aNil))))) (gSet 2))
def b_lowest_1 : GK.Env → Option Out :=
 (sRet (eQ (qTup (aCons (qOp fDiv (kVar 0) (kVar 2)) (aCons (qOp fDiv (kVar 1) (kVar 2)) aNil)))))
def b_lowest : GK.Env → Option Out :=
 (sSeq b_lowest_0 b_lowest_1)
def f_lowest : List T → Option (T × List T) := mkFn 2 3 pin_lowest b_lowest
theorem sc_lowest : FnScope ["top", "bottom", "common"] ["top", "bottom"] (defScope s_lowest) := ⟨rfl, rfl, rfl, by decide +kernel, rfl, by decide +kernel, by decide +kernel⟩
theorem ok_lowest {f : Addr} {fd : FuncData} (F : Fun K "lowest" "lowest" s_lowest f fd) (Tx : Txt K mg) (h_measure : Has P w K mg base 1 "measure" f_measure) : FnG P w K mg base 2 f fd ["top", "bottom"] f_lowest := by
  refine fn_ok F sc_lowest (pin := pin_lowest) (b := b_lowest) fun cdv A outer s H hr hgd => ?_
  exact ⟨_, (ses_cons (se_asg (QE.eff (qe_fz (qe_has (y := "measure") h_measure hr (by decide) hgd (qa_cons (qe_var 0 (pv 0)) (qa_cons (qe_var 1 (pv 1)) qa_nil))))) (ge_name (pg_name (i := 2) sc_lowest.nd (by rfl) (by first | exact Or.inl rfl | exact Or.inr rfl)) (by rfl)))
 (ses_one (se_ret (QE.eff (qe_tup (qa_cons (qe_bin op_fdiv ov_div (ke_var 0 (pv 0)) (ke_var 2 (pv 2))) (qa_cons (qe_bin op_fdiv ov_div (ke_var 1 (pv 1)) (ke_var 2 (pv 2))) qa_nil)))))))⟩

abbrev s_fit_share : Stmt := top 33
def pin_fit_share : Nat → Bool := fun i => ([0, 1] : List Nat).contains i
def b_fit_share_0 : GK.Env → Option Out :=
 (sExpr (eQ (qCall f_check_rule (aCons (qVar 0) aNil))))
def b_fit_share_1 : GK.Env → Option Out :=
 (sExpr (eQ (qCall f_check_order (aCons (qVar 0) (aCons (qVar 1) aNil)))))
def b_fit_share_2 : GK.Env → Option Out :=
 (sAsg (eQ (qOp fItem (qCall f_fitted (aCons (qVar 0) (aCons (qVar 1) aNil))) (qC (.int 1)))) (gSet 2))
def b_fit_share_3 : GK.Env → Option Out :=
 (sRet (eQ (qIf (tTruth (kVar 2)) (qCall f_lowest (aCons (qCallB fSum (aCons (qLc [3] (qWalk (qVar 2)) (gSet 3) cYes (qOp fItem (kFld AF "worth_of" (kVar 0)) (kVar 3))) aNil)) (aCons (qCallB fLen (aCons (kVar 2) aNil)) aNil))) (qC .non))))
def b_fit_share : GK.Env → Option Out :=
 (sSeq b_fit_share_0 (sSeq b_fit_share_1 (sSeq b_fit_share_2 b_fit_share_3)))
def f_fit_share : List T → Option (T × List T) := mkFn 2 4 pin_fit_share b_fit_share
theorem sc_fit_share : FnScope ["rule", "order", "ring", "kind"] ["rule", "order"] (defScope s_fit_share) := ⟨rfl, rfl, rfl, by decide +kernel, rfl, by decide +kernel, by decide +kernel⟩
theorem ok_fit_share {f : Addr} {fd : FuncData} (F : Fun K "fit_share" "fit_share" s_fit_share f fd) (Tx : Txt K mg) (h_check_rule : Has P w K mg base 1 "check_rule" f_check_rule) (h_check_order : Has P w K mg base 1 "check_order" f_check_order) (h_fitted : Has P w K mg base 2 "fitted" f_fitted) (h_lowest : Has P w K mg base 2 "lowest" f_lowest) : FnG P w K mg base 3 f fd ["rule", "order"] f_fit_share := by
  refine fn_ok F sc_fit_share (pin := pin_fit_share) (b := b_fit_share) fun cdv A outer s H hr hgd => ?_
  exact ⟨_, (ses_cons (se_expr (QE.eff (qe_has (y := "check_rule") h_check_rule hr (by decide) hgd (qa_cons (qe_var 0 (pv 0)) qa_nil))))
 (ses_cons (se_expr (QE.eff (qe_has (y := "check_order") h_check_order hr (by decide) hgd (qa_cons (qe_var 0 (pv 0)) (qa_cons (qe_var 1 (pv 1)) qa_nil)))))
 (ses_cons (se_asg (QE.eff (qe_item (hu_of hr) (QE.k (qe_has (y := "fitted") h_fitted hr (by decide) hgd (qa_cons (qe_var 0 (pv 0)) (qa_cons (qe_var 1 (pv 1)) qa_nil)))) (QE.k qe_int))) (ge_name (pg_name (i := 2) sc_fit_share.nd (by rfl) (by first | exact Or.inl rfl | exact Or.inr rfl)) (by rfl)))
 (ses_one (se_ret (QE.eff (qe_if (te_truth (ke_var 2 (pv 2))) (qe_has (y := "lowest") h_lowest hr (by decide) hgd (qa_cons (qe_blt (cr_sum (by rfl)) cp_sum Tx.z_sum b_sum (ka_cons (QE.k (qe_lc (by rfl) sc_fit_share.nd (iq_any (qe_var 2 (pv 2))) (blkOk_by (own := [(Str.ofString "kind", 3)]) (by show blkC ["rule", "order", "ring", "kind"] (defScope s_fit_share) _ _ = true; decide +kernel)) (fun _ _ _ _ _ => ⟨_, (gq_name (pg_name (i := 3) sc_fit_share.nd (by rfl) (by first | exact Or.inl rfl | exact Or.inr rfl)) (by rfl))⟩) (fun _ _ _ _ _ => ⟨_, ts_nil⟩) (fun _ _ _ _ _ => ⟨_, (qe_item (hu_of hr) (ke_fld (f := "worth_of") Tx.cls (ke_var 0 (pv 0))) (ke_var 3 (pv 3)))⟩))) ka_nil)) (qa_cons (qe_blt (call_len.or call_lenD) cp_len Tx.z_len b_len (ka_cons (ke_var 2 (pv 2)) ka_nil)) qa_nil))) qe_non)))))))⟩

abbrev s_law_cup : Stmt := top 36
def pin_law_cup : Nat → Bool := fun i => ([0, 1] : List Nat).contains i
def b_law_cup_0 : GK.Env → Option Out :=
 (sIf (etQ (tOfB (qOp cGt (qOp fPeekU (kVar 0) (qC (.int 1))) (qC (.int 0)))))
 (sSeq (sAsg (eQ (qCallB fDivmod (aCons (qOp fPeekU (kVar 0) (qC (.int 1))) (aCons (kVar 1) aNil)))) (gUn (gConsC (gIx (pVar 0) (qC (.int 1)) (pVarPut 0)) (gConsC (gSet 2) gNilC))))
 (sRet (eQ (qVar 2))))
 sNext)
def b_law_cup_1 : GK.Env → Option Out :=
 (sAsg (eQ (qOp fMod (qCallB fInt (aCons (qOp fAdd (qOp fMul (qOp fPeekU (kVar 0) (qC (.int 0))) (qC (.int 45887))) (qC (.int 4441))) aNil)) (qC (.int 2147483171)))) (gIx (pVar 0) (qC (.int 0)) (pVarPut 0)))
def b_law_cup_2 : GK.Env → Option Out :=
 (sRet (eQ (qOp fMod (qCallB fInt (aCons (qOp fDiv (qOp fPeekU (kVar 0) (qC (.int 0))) (qC (.int 256))) aNil)) (kVar 1))))
def b_law_cup : GK.Env → Option Out :=
 (sSeq b_law_cup_0 (sSeq b_law_cup_1 b_law_cup_2))
def f_law_cup : List T → Option (T × List T) := mkFn 2 3 pin_law_cup b_law_cup
theorem sc_law_cup : FnScope ["_law_well_here", "_law_amount", "_law_figure"] ["_law_well_here", "_law_amount"] (defScope s_law_cup) := ⟨rfl, rfl, rfl, by decide +kernel, rfl, by decide +kernel, by decide +kernel⟩
theorem ok_law_cup {f : Addr} {fd : FuncData} (F : Fun K "_law_cup" "_law_cup" s_law_cup f fd) (Tx : Txt K mg) : FnG P w K mg base 1 f fd ["_law_well_here", "_law_amount"] f_law_cup := by
  refine fn_ok F sc_law_cup (pin := pin_law_cup) (b := b_law_cup) fun cdv A outer s H hr hgd => ?_
  exact ⟨_, (ses_cons (se_if (TE'.eff (te_cmp (ce_op op_gt ov_gt (ke_item (hu_of hr) (ke_var 0 (pv 0)) (QE.k qe_int)) (QE.k qe_int))))
 (ses_cons (se_asg (QE.eff (qe_blt call_divmod cp_divmod Tx.z_divmod b_divmod (ka_cons (ke_item (hu_of hr) (ke_var 0 (pv 0)) (QE.k qe_int)) (ka_cons (ke_var 1 (pv 1)) ka_nil)))) (ge_tup (by rfl) (gse_cons (ge_ix (hu_of hr) (pl_var 0 (pv 0)) (QE.k qe_int) (by intro _; rfl)) (gse_cons (ge_name (pg_name (i := 2) sc_law_cup.nd (by rfl) (by first | exact Or.inl rfl | exact Or.inr rfl)) (by rfl)) gse_nil))))
 (ses_one (se_ret (QE.eff (qe_var 2 (pv 2))))))
 ses_nil)
 (ses_cons (se_asg (QE.eff (qe_bin op_mod ov_mod (QE.k (qe_bty (call_int1.or call_int_str) cp_int Tx.z_int b_int (ka_cons (QE.k (qe_bin op_addU ov_addU (QE.k (qe_bin op_mulU ov_mulU (ke_item (hu_of hr) (ke_var 0 (pv 0)) (QE.k qe_int)) (QE.k qe_int))) (QE.k qe_int))) ka_nil))) (QE.k qe_int))) (ge_ix (hu_of hr) (pl_var 0 (pv 0)) (QE.k qe_int) (by intro _; rfl)))
 (ses_one (se_ret (QE.eff (qe_bin op_mod ov_mod (QE.k (qe_bty (call_int1.or call_int_str) cp_int Tx.z_int b_int (ka_cons (QE.k (qe_bin op_fdiv ov_div (ke_item (hu_of hr) (ke_var 0 (pv 0)) (QE.k qe_int)) (QE.k qe_int))) ka_nil))) (ke_var 1 (pv 1))))))))⟩

abbrev s_first_fit : Stmt := top 32
def pin_first_fit : Nat → Bool := fun i => ([0, 1] : List Nat).contains i
def b_first_fit_0 : GK.Env → Option Out :=
 (sExpr (eQ (qCall f_check_rule (aCons (qVar 0) aNil))))
def b_first_fit_1 : GK.Env → Option Out :=
 (sExpr (eQ (qCall f_check_order (aCons (qVar 0) (aCons (qVar 1) aNil)))))
def b_first_fit_2 : GK.Env → Option Out :=
 (sRet (eQ (qCall f_fitted (aCons (qVar 0) (aCons (qVar 1) aNil)))))
def b_first_fit : GK.Env → Option Out :=
 (sSeq b_first_fit_0 (sSeq b_first_fit_1 b_first_fit_2))
def f_first_fit : List T → Option (T × List T) := mkFn 2 2 pin_first_fit b_first_fit
theorem sc_first_fit : FnScope ["rule", "order"] ["rule", "order"] (defScope s_first_fit) := ⟨rfl, rfl, rfl, by decide +kernel, rfl, by decide +kernel, by decide +kernel⟩
theorem ok_first_fit {f : Addr} {fd : FuncData} (F : Fun K "first_fit" "first_fit" s_first_fit f fd) (Tx : Txt K mg) (h_check_rule : Has P w K mg base 1 "check_rule" f_check_rule) (h_check_order : Has P w K mg base 1 "check_order" f_check_order) (h_fitted : Has P w K mg base 2 "fitted" f_fitted) : FnG P w K mg base 3 f fd ["rule", "order"] f_first_fit := by
  refine fn_ok F sc_first_fit (pin := pin_first_fit) (b := b_first_fit) fun cdv A outer s H hr hgd => ?_
  exact ⟨_, (ses_cons (se_expr (QE.eff (qe_has (y := "check_rule") h_check_rule hr (by decide) hgd (qa_cons (qe_var 0 (pv 0)) qa_nil))))
 (ses_cons (se_expr (QE.eff (qe_has (y := "check_order") h_check_order hr (by decide) hgd (qa_cons (qe_var 0 (pv 0)) (qa_cons (qe_var 1 (pv 1)) qa_nil)))))
 (ses_one (se_ret (QE.eff (qe_has (y := "fitted") h_fitted hr (by decide) hgd (qa_cons (qe_var 0 (pv 0)) (qa_cons (qe_var 1 (pv 1)) qa_nil))))))))⟩

abbrev s_law_right : Stmt := top 37
def pin_law_right : Nat → Bool := fun i => ([0] : List Nat).contains i
def b_law_right_0 : GK.Env → Option Out :=
 (sPar [1, 2] (eaCons (eFz (eOp fAdd (eQ (qC (.int 1))) (eCall f_law_cup (lLent 0 (lVal (eQ (qC (.int 9))) lNil))))) (eaCons (eFz (eOp fAdd (eQ (qC (.int 1))) (eCall f_law_cup (lLent 0 (lVal (eQ (qC (.int 5))) lNil))))) (eaQ aNil))))
def b_law_right_1 : GK.Env → Option Out :=
 (sAsg (eQ (qOp fAdd (qOp fAdd (qC (.str [107, 105, 110, 100, 115, 32, 97])) (qCallB fStr (aCons (kVar 1) aNil))) (qC (.str [32, 111, 48, 10, 98, 97, 114, 115, 32])))) (gSet 3))
def b_law_right_2 : GK.Env → Option Out :=
 (sPar [4, 5] (eaQ (aCons (qFz (qCall (mkMake "Rule" f_Rule_init) (aCons (qFz (qOp fAdd (qOp fAdd (kVar 3) (qC (.str [97, 97]))) (qCallB fStr (aCons (kVar 2) aNil)))) aNil))) (aCons (qFz (qCall (mkMake "Rule" f_Rule_init) (aCons (qFz (qOp fAdd (kVar 3) (qOp fJoin (qC (.str [32])) (qLc [9] (qRng (aCons (qC (.int 1)) (aCons (qOp fAdd (kVar 2) (qC (.int 1))) aNil))) (gSet 9) cYes (qOp fAdd (qC (.str [97, 97])) (qCallB fStr (aCons (kVar 9) aNil))))))) aNil))) aNil))))
def b_law_right_3 : GK.Env → Option Out :=
 (sIf (etQ (tOrC (tOfB (qOp cNe (qCall f_first_fit (aCons (qVar 4) (aCons (qC (.str [97, 111])) aNil))) (qTup (aCons (qC (.str [])) (aCons (qOp fAdd (qOp fMul (qC (.str [97])) (kVar 2)) (qOp fMul (qC (.str [111])) (kVar 2))) aNil))))) (tOfB (qOp cNe (qCall f_first_fit (aCons (qVar 5) (aCons (qC (.str [97, 111])) aNil))) (qTup (aCons (qC (.str [])) (aCons (qOp fAdd (qC (.str [97])) (qOp fMul (qC (.str [111])) (kVar 2))) aNil)))))))
 (sRet (eQ (qC (.bl false))))
 sNext)
def b_law_right_4 : GK.Env → Option Out :=
 (sIf (etQ (tOfB (qOp cNe (qLst (aCons (qCall f_first_fit (aCons (qVar 4) (aCons (qC (.str [111, 97])) aNil))) (aCons (qCall f_fit_share (aCons (qVar 4) (aCons (qC (.str [111, 97])) aNil))) aNil))) (qLst (aCons (qTup (aCons (qC (.str [])) (aCons (qC (.str [111])) aNil))) (aCons (qTup (aCons (qC (.int 0)) (aCons (qC (.int 1)) aNil))) aNil))))))
 (sRet (eQ (qC (.bl false))))
 sNext)
def b_law_right_5 : GK.Env → Option Out :=
 (sIf (etQ (tOfB (qOp cNe (qCall f_fit_share (aCons (qFz (qCall (mkMake "Rule" f_Rule_init) (aCons (qOp fAdd (qC (.str [107, 105, 110, 100, 115, 32, 97, 49, 32, 111, 48, 10, 98, 97, 114, 115, 32, 97, 97])) (qCallB fStr (aCons (kVar 2) aNil))) aNil))) (aCons (qC (.str [97, 111])) aNil))) (qTup (aCons (qC (.int 1)) (aCons (qC (.int 2)) aNil))))))
 (sRet (eQ (qC (.bl false))))
 sNext)
def b_law_right_6 : GK.Env → Option Out :=
 (sAsg (eOp fIx (eQ (qFz (qLst (aCons (qC (.str [97, 98, 99])) (aCons (qC (.str [97, 99, 98])) (aCons (qC (.str [98, 97, 99])) (aCons (qC (.str [98, 99, 97])) (aCons (qC (.str [99, 97, 98])) (aCons (qC (.str [99, 98, 97])) aNil))))))))) (eCall f_law_cup (lLent 0 (lVal (eQ (qC (.int 6))) lNil)))) (gSet 6))
def b_law_right_7 : GK.Env → Option Out :=
 (sAsg (eQ (qFz (qCall (mkMake "Rule" f_Rule_init) (aCons (qC (.str [107, 105, 110, 100, 115, 32, 97, 49, 32, 98, 50, 32, 99, 51, 10, 98, 97, 114, 115, 32, 97, 97, 49, 32, 98, 98, 49, 32, 99, 99, 49])) aNil)))) (gSet 7))
def b_law_right_8 : GK.Env → Option Out :=
 (sIf (etQ (tOfB (qOp cNe (qCall f_first_fit (aCons (qVar 7) (aCons (qVar 6) aNil))) (qTup (aCons (qC (.str [])) (aCons (qSl (kVar 6) pNo (pSome (qC (.int 2)))) aNil))))))
 (sRet (eQ (qC (.bl false))))
 sNext)
def b_law_right_9 : GK.Env → Option Out :=
 (sAsg (eFz (eCall (mkMake "Rule" f_Rule_init) (lVal (eOp fAdd (eOp fAdd (eQ (qC (.str [107, 105, 110, 100, 115, 32, 97, 50, 32, 98]))) (eCallB fStr (eaCons (eCall f_law_cup (lLent 0 (lVal (eQ (qC (.int 10))) lNil))) (eaQ aNil)))) (eQ (qC (.str [10, 98, 97, 114, 115, 32, 97, 97, 49, 32, 97, 98, 50, 32, 98, 97, 49, 32, 98, 98, 49])))) lNil))) (gSet 8))
def b_law_right_10 : GK.Env → Option Out :=
 (sRet (eQ (qOp cEq (qLst (aCons (qCall f_first_fit (aCons (qVar 8) (aCons (qC (.str [97, 98])) aNil))) (aCons (qCall f_first_fit (aCons (qVar 8) (aCons (qC (.str [98, 97])) aNil))) (aCons (qCall f_fit_share (aCons (qVar 8) (aCons (qC (.str [97, 98])) aNil))) aNil)))) (qLst (aCons (qTup (aCons (qC (.str [97, 98])) (aCons (qC (.str [])) aNil))) (aCons (qTup (aCons (qC (.str [98])) (aCons (qC (.str [])) aNil))) (aCons (qC .non) aNil)))))))
def b_law_right : GK.Env → Option Out :=
 (sSeq b_law_right_0 (sSeq b_law_right_1 (sSeq b_law_right_2 (sSeq b_law_right_3 (sSeq b_law_right_4 (sSeq b_law_right_5 (sSeq b_law_right_6 (sSeq b_law_right_7 (sSeq b_law_right_8 (sSeq b_law_right_9 b_law_right_10))))))))))
def f_law_right : List T → Option (T × List T) := mkFn 1 10 pin_law_right b_law_right
theorem sc_law_right : FnScope ["_law_well_here", "_law_price", "_law_far", "_law_head", "_law_one", "_law_more", "_law_order_here", "_law_turning", "_law_stuck", "_law_k"] ["_law_well_here"] (defScope s_law_right) := ⟨rfl, rfl, rfl, by decide +kernel, rfl, by decide +kernel, by decide +kernel⟩
theorem ok_law_right {f : Addr} {fd : FuncData} (F : Fun K "_law_right" "_law_right" s_law_right f fd) (Tx : Txt K mg) (h_law_cup : Has P w K mg base 1 "_law_cup" f_law_cup) (h_Rule_init : HasC P w K mg base 4 "Rule" f_Rule_init) (h_first_fit : Has P w K mg base 3 "first_fit" f_first_fit) (h_fit_share : Has P w K mg base 3 "fit_share" f_fit_share) : FnG P w K mg base 6 f fd ["_law_well_here"] f_law_right := by
  refine fn_ok F sc_law_right (pin := pin_law_right) (b := b_law_right) fun cdv A outer s H hr hgd => ?_
  exact ⟨_, (ses_cons (se_par (i := 1) (j := 2) (by rfl) sc_law_right.nd (by rfl) (by rfl) (by decide) (by rfl) (by rfl) (ea_cons (ee_fz (ee_bin op_addU ov_addU (QE.eff qe_int) (ee_has (y := "_law_cup") h_law_cup hr (by decide) hgd (el_lent 0 (pv 0) (el_val (QE.eff qe_int) el_nil))))) (ea_cons (ee_fz (ee_bin op_addU ov_addU (QE.eff qe_int) (ee_has (y := "_law_cup") h_law_cup hr (by decide) hgd (el_lent 0 (pv 0) (el_val (QE.eff qe_int) el_nil))))) (QA.eff qa_nil))) (by rfl) (by rfl) (by rfl))
 (ses_cons (se_asg (QE.eff (qe_bin op_addU ov_addU (QE.k (qe_bin op_addU ov_addU (QE.k (qe_str (l := [107, 105, 110, 100, 115, 32, 97]) (by decide +kernel))) (QE.k (qe_bty (call_str_int.or SkE.call_str_str) cp_str Tx.z_str b_str (ka_cons (ke_var 1 (pv 1)) ka_nil))))) (QE.k (qe_str (l := [32, 111, 48, 10, 98, 97, 114, 115, 32]) (by decide +kernel))))) (ge_name (pg_name (i := 3) sc_law_right.nd (by rfl) (by first | exact Or.inl rfl | exact Or.inr rfl)) (by rfl)))
 (ses_cons (se_par (i := 4) (j := 5) (by rfl) sc_law_right.nd (by rfl) (by rfl) (by decide) (by rfl) (by rfl) (QA.eff (qa_cons (qe_fz (qe_hasC (y := "Rule") h_Rule_init hr (by decide) hgd (qa_cons (qe_fz (qe_bin op_addU ov_addU (QE.k (qe_bin op_addU ov_addU (ke_var 3 (pv 3)) (QE.k (qe_str (l := [97, 97]) (by decide +kernel))))) (QE.k (qe_bty (call_str_int.or SkE.call_str_str) cp_str Tx.z_str b_str (ka_cons (ke_var 2 (pv 2)) ka_nil))))) qa_nil))) (qa_cons (qe_fz (qe_hasC (y := "Rule") h_Rule_init hr (by decide) hgd (qa_cons (qe_fz (qe_bin op_addU ov_addU (ke_var 3 (pv 3)) (QE.k (qe_join (QE.k (qe_str (l := [32]) (by decide +kernel))) (QE.k (qe_lc (by rfl) sc_law_right.nd (iq_rng2 (by rfl) Tx.z_range (qa_cons qe_int (qa_cons (qe_bin op_addU ov_addU (ke_var 2 (pv 2)) (QE.k qe_int)) qa_nil)) (len_cons (len_cons fun _ _ e => len_nil e))) (blkOk_by (own := [(Str.ofString "_law_k", 9)]) (by show blkC ["_law_well_here", "_law_price", "_law_far", "_law_head", "_law_one", "_law_more", "_law_order_here", "_law_turning", "_law_stuck", "_law_k"] (defScope s_law_right) _ _ = true; decide +kernel)) (fun _ _ _ _ _ => ⟨_, (gq_name (pg_name (i := 9) sc_law_right.nd (by rfl) (by first | exact Or.inl rfl | exact Or.inr rfl)) (by rfl))⟩) (fun _ _ _ _ _ => ⟨_, ts_nil⟩) (fun _ _ _ _ _ => ⟨_, (qe_bin op_addU ov_addU (QE.k (qe_str (l := [97, 97]) (by decide +kernel))) (QE.k (qe_bty (call_str_int.or SkE.call_str_str) cp_str Tx.z_str b_str (ka_cons (ke_var 9 (pv 9)) ka_nil))))⟩))))))) qa_nil))) qa_nil))) (by rfl) (by rfl) (by rfl))
 (ses_cons (se_if (TE'.eff (WE.asT (we_or (te_cmp (ce_op (op_neU hr.units) ov_neU (QE.k (qe_has (y := "first_fit") h_first_fit hr (by decide) hgd (qa_cons (qe_var 4 (pv 4)) (qa_cons (qe_str (l := [97, 111]) (by decide +kernel)) qa_nil)))) (QE.k (qe_tup (qa_cons (qe_str (l := []) (by decide +kernel)) (qa_cons (qe_bin op_addU ov_addU (QE.k (qe_bin op_mulU ov_mulU (QE.k (qe_str (l := [97]) (by decide +kernel))) (ke_var 2 (pv 2)))) (QE.k (qe_bin op_mulU ov_mulU (QE.k (qe_str (l := [111]) (by decide +kernel))) (ke_var 2 (pv 2))))) qa_nil)))))) (we_or1 (te_cmp (ce_op (op_neU hr.units) ov_neU (QE.k (qe_has (y := "first_fit") h_first_fit hr (by decide) hgd (qa_cons (qe_var 5 (pv 5)) (qa_cons (qe_str (l := [97, 111]) (by decide +kernel)) qa_nil)))) (QE.k (qe_tup (qa_cons (qe_str (l := []) (by decide +kernel)) (qa_cons (qe_bin op_addU ov_addU (QE.k (qe_str (l := [97]) (by decide +kernel))) (QE.k (qe_bin op_mulU ov_mulU (QE.k (qe_str (l := [111]) (by decide +kernel))) (ke_var 2 (pv 2))))) qa_nil))))))))))
 (ses_one (se_ret (QE.eff qe_bl)))
 ses_nil)
 (ses_cons (se_if (TE'.eff (te_cmp (ce_op (op_neU hr.units) ov_neU (QE.k (qe_lst (qa_cons (qe_has (y := "first_fit") h_first_fit hr (by decide) hgd (qa_cons (qe_var 4 (pv 4)) (qa_cons (qe_str (l := [111, 97]) (by decide +kernel)) qa_nil))) (qa_cons (qe_has (y := "fit_share") h_fit_share hr (by decide) hgd (qa_cons (qe_var 4 (pv 4)) (qa_cons (qe_str (l := [111, 97]) (by decide +kernel)) qa_nil))) qa_nil)))) (QE.k (qe_lst (qa_cons (qe_tup (qa_cons (qe_str (l := []) (by decide +kernel)) (qa_cons (qe_str (l := [111]) (by decide +kernel)) qa_nil))) (qa_cons (qe_tup (qa_cons qe_int (qa_cons qe_int qa_nil))) qa_nil)))))))
 (ses_one (se_ret (QE.eff qe_bl)))
 ses_nil)
 (ses_cons (se_if (TE'.eff (te_cmp (ce_op (op_neU hr.units) ov_neU (QE.k (qe_has (y := "fit_share") h_fit_share hr (by decide) hgd (qa_cons (qe_fz (qe_hasC (y := "Rule") h_Rule_init hr (by decide) hgd (qa_cons (qe_bin op_addU ov_addU (QE.k (qe_str (l := [107, 105, 110, 100, 115, 32, 97, 49, 32, 111, 48, 10, 98, 97, 114, 115, 32, 97, 97]) (by decide +kernel))) (QE.k (qe_bty (call_str_int.or SkE.call_str_str) cp_str Tx.z_str b_str (ka_cons (ke_var 2 (pv 2)) ka_nil)))) qa_nil))) (qa_cons (qe_str (l := [97, 111]) (by decide +kernel)) qa_nil)))) (QE.k (qe_tup (qa_cons qe_int (qa_cons qe_int qa_nil)))))))
 (ses_one (se_ret (QE.eff qe_bl)))
 ses_nil)
 (ses_cons (se_asg (ee_item (QE.eff (qe_fz (qe_lst (qa_cons (qe_str (l := [97, 98, 99]) (by decide +kernel)) (qa_cons (qe_str (l := [97, 99, 98]) (by decide +kernel)) (qa_cons (qe_str (l := [98, 97, 99]) (by decide +kernel)) (qa_cons (qe_str (l := [98, 99, 97]) (by decide +kernel)) (qa_cons (qe_str (l := [99, 97, 98]) (by decide +kernel)) (qa_cons (qe_str (l := [99, 98, 97]) (by decide +kernel)) qa_nil))))))))) (ee_has (y := "_law_cup") h_law_cup hr (by decide) hgd (el_lent 0 (pv 0) (el_val (QE.eff qe_int) el_nil)))) (ge_name (pg_name (i := 6) sc_law_right.nd (by rfl) (by first | exact Or.inl rfl | exact Or.inr rfl)) (by rfl)))
 (ses_cons (se_asg (QE.eff (qe_fz (qe_hasC (y := "Rule") h_Rule_init hr (by decide) hgd (qa_cons (qe_str (l := [107, 105, 110, 100, 115, 32, 97, 49, 32, 98, 50, 32, 99, 51, 10, 98, 97, 114, 115, 32, 97, 97, 49, 32, 98, 98, 49, 32, 99, 99, 49]) (by decide +kernel)) qa_nil)))) (ge_name (pg_name (i := 7) sc_law_right.nd (by rfl) (by first | exact Or.inl rfl | exact Or.inr rfl)) (by rfl)))
 (ses_cons (se_if (TE'.eff (te_cmp (ce_op (op_neU hr.units) ov_neU (QE.k (qe_has (y := "first_fit") h_first_fit hr (by decide) hgd (qa_cons (qe_var 7 (pv 7)) (qa_cons (qe_var 6 (pv 6)) qa_nil)))) (QE.k (qe_tup (qa_cons (qe_str (l := []) (by decide +kernel)) (qa_cons (qe_slice (ke_var 6 (pv 6)) part_no (part_some (QE.k qe_int))) qa_nil)))))))
 (ses_one (se_ret (QE.eff qe_bl)))
 ses_nil)
 (ses_cons (se_asg (ee_fz (ee_hasC (y := "Rule") h_Rule_init hr (by decide) hgd (el_val (ee_bin op_addU ov_addU (ee_bin op_addU ov_addU (QE.eff (qe_str (l := [107, 105, 110, 100, 115, 32, 97, 50, 32, 98]) (by decide +kernel))) (ee_bty (call_str_int.or SkE.call_str_str) cp_str Tx.z_str b_str (ea_cons (ee_has (y := "_law_cup") h_law_cup hr (by decide) hgd (el_lent 0 (pv 0) (el_val (QE.eff qe_int) el_nil))) (QA.eff qa_nil)))) (QE.eff (qe_str (l := [10, 98, 97, 114, 115, 32, 97, 97, 49, 32, 97, 98, 50, 32, 98, 97, 49, 32, 98, 98, 49]) (by decide +kernel)))) el_nil))) (ge_name (pg_name (i := 8) sc_law_right.nd (by rfl) (by first | exact Or.inl rfl | exact Or.inr rfl)) (by rfl)))
 (ses_one (se_ret (QE.eff (qe_cmp (ce_op (op_eqU hr.units) ov_eqU (QE.k (qe_lst (qa_cons (qe_has (y := "first_fit") h_first_fit hr (by decide) hgd (qa_cons (qe_var 8 (pv 8)) (qa_cons (qe_str (l := [97, 98]) (by decide +kernel)) qa_nil))) (qa_cons (qe_has (y := "first_fit") h_first_fit hr (by decide) hgd (qa_cons (qe_var 8 (pv 8)) (qa_cons (qe_str (l := [98, 97]) (by decide +kernel)) qa_nil))) (qa_cons (qe_has (y := "fit_share") h_fit_share hr (by decide) hgd (qa_cons (qe_var 8 (pv 8)) (qa_cons (qe_str (l := [97, 98]) (by decide +kernel)) qa_nil))) qa_nil))))) (QE.k (qe_lst (qa_cons (qe_tup (qa_cons (qe_str (l := [97, 98]) (by decide +kernel)) (qa_cons (qe_str (l := []) (by decide +kernel)) qa_nil))) (qa_cons (qe_tup (qa_cons (qe_str (l := [98]) (by decide +kernel)) (qa_cons (qe_str (l := []) (by decide +kernel)) qa_nil))) (qa_cons qe_non qa_nil))))))))))))))))))))⟩

abbrev s_law_well : Stmt := top 35
def pin_law_well : Nat → Bool := fun i => ([0, 1] : List Nat).contains i
def b_law_well_0 : GK.Env → Option Out :=
 (sAsg (eQ (qOp fAdd (qC (.int 80021)) (qOp fMul (qC (.int 7417)) (kVar 1)))) (gSet 2))
def b_law_well_1 : GK.Env → Option Out :=
 (sFor (iQ (qWalk (qSl (kVar 0) pNo (pSome (qC (.int 4)))))) (gSet 3)
 (sAsg (eQ (qOp fMod (qCallB fInt (aCons (qOp fAdd (qOp fAdd (qOp fMul (kVar 2) (qC (.int 40949))) (kVar 3)) (qC (.int 103))) aNil)) (qC (.int 2147483171)))) (gSet 2)))
def b_law_well_2 : GK.Env → Option Out :=
 (sAsg (eQ (qIf (tOfB (qOp cLt (kVar 1) (qCallB fLen (aCons (kVar 0) aNil)))) (qOp fItem (kVar 0) (kVar 1)) (qC (.int 0)))) (gSet 4))
def b_law_well_3 : GK.Env → Option Out :=
 (sRet (eQ (qLst (aCons (qOp fMod (qCallB fInt (aCons (qOp fAdd (qOp fMul (kVar 2) (qC (.int 67))) (kVar 4)) aNil)) (qC (.int 2147483171))) (aCons (qIf (tOfB (qOp cGe (qCallB fAbs (aCons (kVar 4) aNil)) (qOp fPow (qC (.int 10)) (qC (.int 18))))) (qCallB fAbs (aCons (kVar 4) aNil)) (qC (.int 0))) aNil)))))
def b_law_well : GK.Env → Option Out :=
 (sSeq b_law_well_0 (sSeq b_law_well_1 (sSeq b_law_well_2 b_law_well_3)))
def f_law_well : List T → Option (T × List T) := mkFn 2 5 pin_law_well b_law_well
theorem sc_law_well : FnScope ["_law_cells", "_law_turn", "_law_mixed", "_law_cell", "_law_own"] ["_law_cells", "_law_turn"] (defScope s_law_well) := ⟨rfl, rfl, rfl, by decide +kernel, rfl, by decide +kernel, by decide +kernel⟩
theorem ok_law_well {f : Addr} {fd : FuncData} (F : Fun K "_law_well" "_law_well" s_law_well f fd) (Tx : Txt K mg) : FnG P w K mg base 1 f fd ["_law_cells", "_law_turn"] f_law_well := by
  refine fn_ok F sc_law_well (pin := pin_law_well) (b := b_law_well) fun cdv A outer s H hr hgd => ?_
  exact ⟨_, (ses_cons (se_asg (QE.eff (qe_bin op_addU ov_addU (QE.k qe_int) (QE.k (qe_bin op_mulU ov_mulU (QE.k qe_int) (ke_var 1 (pv 1)))))) (ge_name (pg_name (i := 2) sc_law_well.nd (by rfl) (by first | exact Or.inl rfl | exact Or.inr rfl)) (by rfl)))
 (ses_cons (se_for PassesOwn.never (by rfl) (IQ.toE (iq_any (qe_slice (ke_var 0 (pv 0)) part_no (part_some (QE.k qe_int))))) (ge_name (pg_name (i := 3) sc_law_well.nd (by rfl) (by first | exact Or.inl rfl | exact Or.inr rfl)) (by rfl))
 (ses_one (se_asg (QE.eff (qe_bin op_mod ov_mod (QE.k (qe_bty (call_int1.or call_int_str) cp_int Tx.z_int b_int (ka_cons (QE.k (qe_bin op_addU ov_addU (QE.k (qe_bin op_addU ov_addU (QE.k (qe_bin op_mulU ov_mulU (ke_var 2 (pv 2)) (QE.k qe_int))) (ke_var 3 (pv 3)))) (QE.k qe_int))) ka_nil))) (QE.k qe_int))) (ge_name (pg_name (i := 2) sc_law_well.nd (by rfl) (by first | exact Or.inl rfl | exact Or.inr rfl)) (by rfl)))))
 (ses_cons (se_asg (QE.eff (qe_if (te_cmp (ce_op op_ltU ov_ltU (ke_var 1 (pv 1)) (QE.k (qe_blt (call_len.or call_lenD) cp_len Tx.z_len b_len (ka_cons (ke_var 0 (pv 0)) ka_nil))))) (qe_item (hu_of hr) (ke_var 0 (pv 0)) (ke_var 1 (pv 1))) qe_int)) (ge_name (pg_name (i := 4) sc_law_well.nd (by rfl) (by first | exact Or.inl rfl | exact Or.inr rfl)) (by rfl)))
 (ses_one (se_ret (QE.eff (qe_lst (qa_cons (qe_bin op_mod ov_mod (QE.k (qe_bty (call_int1.or call_int_str) cp_int Tx.z_int b_int (ka_cons (QE.k (qe_bin op_addU ov_addU (QE.k (qe_bin op_mulU ov_mulU (ke_var 2 (pv 2)) (QE.k qe_int))) (ke_var 4 (pv 4)))) ka_nil))) (QE.k qe_int)) (qa_cons (qe_if (te_cmp (ce_op op_ge ov_ge (QE.k (qe_blt call_abs cp_abs Tx.z_abs b_abs (ka_cons (ke_var 4 (pv 4)) ka_nil))) (QE.k (qe_bin op_pow ov_pow (QE.k qe_int) (QE.k qe_int))))) (qe_blt call_abs cp_abs Tx.z_abs b_abs (ka_cons (ke_var 4 (pv 4)) ka_nil)) qe_int) qa_nil)))))))))⟩

abbrev s_law : Stmt := top 38
def pin_law : Nat → Bool := fun i => ([0] : List Nat).contains i
def b_law_0 : GK.Env → Option Out :=
 (sRet (eQ (qCallB fAll (aCons (qLc [1] (qRng (aCons (qC (.int 4)) aNil)) (gSet 1) cYes (qCall f_law_right (aCons (qCall f_law_well (aCons (qVar 0) (aCons (qVar 1) aNil))) aNil))) aNil))))
def b_law : GK.Env → Option Out :=
 b_law_0
def f_law : List T → Option (T × List T) := mkFn 1 2 pin_law b_law
theorem sc_law : FnScope ["_law_cells", "_law_turn"] ["_law_cells"] (defScope s_law) := ⟨rfl, rfl, rfl, by decide +kernel, rfl, by decide +kernel, by decide +kernel⟩
theorem ok_law {f : Addr} {fd : FuncData} (F : Fun K "law" "law" s_law f fd) (Tx : Txt K mg) (h_law_well : Has P w K mg base 1 "_law_well" f_law_well) (h_law_right : Has P w K mg base 6 "_law_right" f_law_right) : FnG P w K mg base 7 f fd ["_law_cells"] f_law := by
  refine fn_ok F sc_law (pin := pin_law) (b := b_law) fun cdv A outer s H hr hgd => ?_
  exact ⟨_, (ses_one (se_ret (QE.eff (qe_blt (cr_all (by rfl)) cp_all Tx.z_all b_all (ka_cons (QE.k (qe_lc (by rfl) sc_law.nd (iq_rng1 (by rfl) Tx.z_range (qa_cons qe_int qa_nil) (len_cons fun _ _ e => len_nil e)) (blkOk_by (own := [(Str.ofString "_law_turn", 1)]) (by show blkC ["_law_cells", "_law_turn"] (defScope s_law) _ _ = true; decide +kernel)) (fun _ _ _ _ _ => ⟨_, (gq_name (pg_name (i := 1) sc_law.nd (by rfl) (by first | exact Or.inl rfl | exact Or.inr rfl)) (by rfl))⟩) (fun _ _ _ _ _ => ⟨_, ts_nil⟩) (fun _ _ _ _ _ => ⟨_, (qe_has (y := "_law_right") h_law_right hr (by decide) hgd (qa_cons (qe_has (y := "_law_well") h_law_well hr (by decide) hgd (qa_cons (qe_var 0 (pv 0)) (qa_cons (qe_var 1 (pv 1)) qa_nil))) qa_nil))⟩))) ka_nil)))))⟩
end

end LW
namespace LW
open GK L2
def cup (a b : Int) : T := .lst true [.int a, .int b]
theorem cup_fn (a b m : Int) (ha : 0 ≤ a) (hb : 0 ≤ b) (hm : 0 < m) (hm2 : m < 1073741824) : ∃ v a' b', (0 ≤ v ∧ v < m) ∧ (0 ≤ a' ∧ 0 ≤ b') ∧ f_law_cup [cup a b, .int m] = some (.int v, [cup a' b', .int m]) := by
  by_cases h : 0 < b
  · refine ⟨b % m, a, b / m, ⟨Int.emod_nonneg _ (by omega), Int.emod_lt_of_pos _ hm⟩, ⟨ha, Int.ediv_nonneg hb (by omega)⟩, ?_⟩
    simp [f_law_cup, mkFn, cup, b_law_cup, b_law_cup_0, sSeq, sIf, etQ, tOfB, qOp, fPeekU, fPeek, kVar, qC, cGt, fB0, atI, ixN, h, sAsg, eQ, qCallB, aCons, aNil, fDivmod, hm, hm2, gUn, gConsC, gIx, pVar, ixStore, pVarPut, gSet, gNilC, sRet, qVar, T.sh, back, pin_law_cup]
  · have e : b = 0 := by omega
    subst e
    refine ⟨((a * 45887 + 4441) % 2147483171) / 256 % m, (a * 45887 + 4441) % 2147483171, 0, ⟨Int.emod_nonneg _ (by omega), Int.emod_lt_of_pos _ hm⟩, ⟨Int.emod_nonneg _ (by decide), Int.le_refl _⟩, ?_⟩
    simp [f_law_cup, mkFn, cup, b_law_cup, b_law_cup_0, b_law_cup_1, b_law_cup_2, sSeq, sIf, etQ, tOfB, qOp, fPeekU, fPeek, kVar, qC, cGt, fB0, atI, ixN, sAsg, eQ, qCallB, aCons, aNil, fInt, fMod, fI, fAdd, or2, fI0, fMul, fDiv, hm, gIx, pVar, ixStore, pVarPut, sNext, sRet, T.sh, back, pin_law_cup]
theorem eCup (a b m : Int) (l : List (Option T)) (ha : 0 ≤ a) (hb : 0 ≤ b) (hm : 0 < m) (hm2 : m < 1073741824) : ∃ v a' b', (0 ≤ v ∧ v < m) ∧ (0 ≤ a' ∧ 0 ≤ b') ∧ (eCall f_law_cup (lLent 0 (lVal (eQ (qC (.int m))) lNil))) (some (cup a b) :: l) = some (.int v, some (cup a' b') :: l) := by
  obtain ⟨v, a', b', h1, h2, h3⟩ := cup_fn a b m ha hb hm hm2
  refine ⟨v, a', b', h1, h2, ?_⟩
  simp [eCall, lLent, lVal, eQ, qC, lNil, fill, unfill, h3]
theorem well_loop (C t : T) : ∀ (l : List Int) (m : Int) (x : Option T), ∃ m' x', loop (gSet 3) (sAsg (eQ (qOp fMod (qCallB fInt (aCons (qOp fAdd (qOp fAdd (qOp fMul (kVar 2) (qC (.int 40949))) (kVar 3)) (qC (.int 103))) aNil)) (qC (.int 2147483171)))) (gSet 2)) (l.map T.int) [some C, some t, some (.int m), x, none] = some (.nx [some C, some t, some (.int m'), x', none])
  | [], m, x => ⟨m, x, rfl⟩
  | i :: l, m, x => by
    obtain ⟨m', x', h⟩ := well_loop C t l ((m * 40949 + i + 103) % 2147483171) (some (.int i))
    refine ⟨m', x', ?_⟩
    rw [List.map_cons]
    unfold loop
    simp [gSet, sAsg, eQ, qOp, qCallB, aCons, aNil, fInt, fMod, fI, fAdd, or2, fI0, fMul, kVar, qC]
    exact h
theorem well_fn (ns : List Int) (t : Nat) (ht : t < 64) : ∃ a b ts', (0 ≤ a ∧ 0 ≤ b) ∧ f_law_well [.scr (ns.map T.int), .int t] = some (cup a b, ts') := by
  have cut : ∀ (l : List Int), cutL (l.map T.int) none (some 4) = (cutL l none (some 4)).map T.int := fun l => by simp [cutL, List.map_take, List.map_drop]
  have fzs : ∀ l : List Int, T.fzs (l.map T.int) = l.map T.int := fun l => by
    induction l with
    | nil => rfl
    | cons i l ih => rw [List.map_cons, T.fzs, ih]; simp [T.fz]
  obtain ⟨m', x', h⟩ := well_loop (.scr (ns.map T.int)) (.int t) (cutL ns none (some 4)) (80021 + 7417 * t) none
  have hall : (ns.map T.int).all T.sh = true := by simp [T.sh]
  have own : ∃ o : Int, qIf (tOfB (qOp cLt (kVar 1) (qCallB fLen (aCons (kVar 0) aNil)))) (qOp fItem (kVar 0) (kVar 1)) (qC (.int 0)) [some (.scr (ns.map T.int)), some (.int t), some (.int m'), x', none] = some (.int o) := by
    by_cases hl : t < ns.length
    · refine ⟨ns[t], ?_⟩
      simp [qIf, tOfB, qOp, kVar, qCallB, aCons, aNil, fLen, cLt, hl, fItem, fIx, ixT, atI, ixN, T.sh]
    · refine ⟨0, ?_⟩
      simp [qIf, tOfB, qOp, kVar, qCallB, aCons, aNil, fLen, cLt, hl, qC]
  obtain ⟨o, ho⟩ := own
  refine ⟨(m' * 67 + o) % 2147483171, if 1000000000000000000 ≤ (if o < 0 then -o else o) then (if o < 0 then -o else o) else 0, [.scr (ns.map T.int), .int t], ⟨Int.emod_nonneg _ (by decide), by split <;> (try split) <;> omega⟩, ?_⟩
  have s0 : b_law_well_0 [some (.scr (ns.map T.int)), some (.int t), none, none, none] = some (.nx [some (.scr (ns.map T.int)), some (.int t), some (.int (80021 + 7417 * t)), none, none]) := by
    simp [b_law_well_0, sAsg, eQ, qOp, qC, kVar, fAdd, fMul, or2, fI0, gSet]
  have s1 : b_law_well_1 [some (.scr (ns.map T.int)), some (.int t), some (.int (80021 + 7417 * t)), none, none] = some (.nx [some (.scr (ns.map T.int)), some (.int t), some (.int m'), x', none]) := by
    rw [← h]
    simp [b_law_well_1, sFor, iQ, qWalk, qSl, kVar, pNo, pSome, qC, fSl, cut, T.fz, fzs, T.walk, T.sh]
  have s2 : b_law_well_2 [some (.scr (ns.map T.int)), some (.int t), some (.int m'), x', none] = some (.nx [some (.scr (ns.map T.int)), some (.int t), some (.int m'), x', some (.int o)]) := by
    unfold b_law_well_2 sAsg eQ
    rw [ho]
    simp [gSet]
  have s3 : b_law_well_3 [some (.scr (ns.map T.int)), some (.int t), some (.int m'), x', some (.int o)] = some (.rt (cup ((m' * 67 + o) % 2147483171) (if 1000000000000000000 ≤ (if o < 0 then -o else o) then (if o < 0 then -o else o) else 0)) [some (.scr (ns.map T.int)), some (.int t), some (.int m'), x', some (.int o)]) := by
    by_cases hc : 1000000000000000000 ≤ (if o < 0 then -o else o)
    · simp [b_law_well_3, sRet, eQ, qLst, aCons, qOp, qCallB, aNil, fInt, fMod, fI, fAdd, or2, fI0, fMul, kVar, qC, qIf, tOfB, cGe, fB0, fAbs, fPow, hc, cup, maxLen]
    · simp [b_law_well_3, sRet, eQ, qLst, aCons, qOp, qCallB, aNil, fInt, fMod, fI, fAdd, or2, fI0, fMul, kVar, qC, qIf, tOfB, cGe, fB0, fAbs, fPow, hc, cup, maxLen]
  exact mkFn_rt rfl ((seq_nx s0).trans ((seq_nx s1).trans ((seq_nx s2).trans s3))) (by simp [back, T.sh, pin_law_well])
def go39 (R : GK.Env → Option Out) : GK.Env → Option Out := sSeq b_law_right_1 (sSeq b_law_right_2 (sSeq b_law_right_3 (sSeq b_law_right_4 (sSeq b_law_right_5 R))))
def at39 (t0 : Option T) (p f : Int) : GK.Env := [t0, some (.int p), some (.int f), none, none, none, none, none, none, none]
theorem mid39 (p f : Int) (hp : 1 ≤ p ∧ p < 10) (hf : 1 ≤ f ∧ f < 6) (R : GK.Env → Option Out) (t0 : T) :
    go39 R (at39 (some t0) p f) = R [some t0, some (.int p), some (.int f), sl (go39 sNext (at39 (some .non) p f)) 3, sl (go39 sNext (at39 (some .non) p f)) 4, sl (go39 sNext (at39 (some .non) p f)) 5, none, none, none, none] := by
  obtain rfl | rfl | rfl | rfl | rfl | rfl | rfl | rfl | rfl : p = 1 ∨ p = 2 ∨ p = 3 ∨ p = 4 ∨ p = 5 ∨ p = 6 ∨ p = 7 ∨ p = 8 ∨ p = 9 := by omega
  all_goals
    obtain rfl | rfl | rfl | rfl | rfl : f = 1 ∨ f = 2 ∨ f = 3 ∨ f = 4 ∨ f = 5 := by omega
    all_goals kernel_rfl
def end39 : GK.Env → Option Out := sSeq b_law_right_7 (sSeq b_law_right_8 (sSeq b_law_right_9 b_law_right_10))
def arg39 (v : Int) : T := .str ([107, 105, 110, 100, 115, 32, 97, 50, 32, 98] ++ (PySem.Str.ofString (toString v)).cps.toList ++ [10, 98, 97, 114, 115, 32, 97, 97, 49, 32, 97, 98, 50, 32, 98, 97, 49, 32, 98, 98, 49])
theorem tail39 (a b : Int) (x1 x2 x3 x4 x5 : Option T) (o : List Nat) (ha : 0 ≤ a) (hb : 0 ≤ b) (ho : o = [97, 98, 99] ∨ o = [97, 99, 98] ∨ o = [98, 97, 99] ∨ o = [98, 99, 97] ∨ o = [99, 97, 98] ∨ o = [99, 98, 97]) :
    ∃ a' b' l, end39 [some (cup a b), x1, x2, x3, x4, x5, some (.str o), none, none, none] = some (.rt (.bl true) (some (cup a' b') :: l)) := by
  have s7 : ∀ t0, b_law_right_7 [some t0, x1, x2, x3, x4, x5, some (.str o), none, none, none] = some (.nx [some t0, x1, x2, x3, x4, x5, some (.str o), some (theT (mkMake "Rule" f_Rule_init [.str [107, 105, 110, 100, 115, 32, 97, 49, 32, 98, 50, 32, 99, 51, 10, 98, 97, 114, 115, 32, 97, 97, 49, 32, 98, 98, 49, 32, 99, 99, 49]])).fz, none, none]) := fun t0 => by kernel_rfl
  have s8 : ∀ t0, b_law_right_8 [some t0, x1, x2, x3, x4, x5, some (.str o), some (theT (mkMake "Rule" f_Rule_init [.str [107, 105, 110, 100, 115, 32, 97, 49, 32, 98, 50, 32, 99, 51, 10, 98, 97, 114, 115, 32, 97, 97, 49, 32, 98, 98, 49, 32, 99, 99, 49]])).fz, none, none] =
      some (.nx [some t0, x1, x2, x3, x4, x5, some (.str o), some (theT (mkMake "Rule" f_Rule_init [.str [107, 105, 110, 100, 115, 32, 97, 49, 32, 98, 50, 32, 99, 51, 10, 98, 97, 114, 115, 32, 97, 97, 49, 32, 98, 98, 49, 32, 99, 99, 49]])).fz, none, none]) := fun t0 => by
    rcases ho with rfl | rfl | rfl | rfl | rfl | rfl
    all_goals kernel_rfl
  generalize theT (mkMake "Rule" f_Rule_init [.str [107, 105, 110, 100, 115, 32, 97, 49, 32, 98, 50, 32, 99, 51, 10, 98, 97, 114, 115, 32, 97, 97, 49, 32, 98, 98, 49, 32, 99, 99, 49]]) = tu at s7 s8
  obtain ⟨v, a', b', hv, h2, h3⟩ := eCup a b 10 [x1, x2, x3, x4, x5, some (.str o), some tu.fz, none, none] ha hb (by decide) (by decide)
  have mk : mkMake "Rule" f_Rule_init [arg39 v] = some (theT (mkMake "Rule" f_Rule_init [arg39 v]), [arg39 v]) ∧
      ∀ t0, b_law_right_10 [some t0, x1, x2, x3, x4, x5, some (.str o), some tu.fz, some (theT (mkMake "Rule" f_Rule_init [arg39 v])).fz, none] = some (.rt (.bl true) [some t0, x1, x2, x3, x4, x5, some (.str o), some tu.fz, some (theT (mkMake "Rule" f_Rule_init [arg39 v])).fz, none]) := by
    obtain rfl | rfl | rfl | rfl | rfl | rfl | rfl | rfl | rfl | rfl : v = 0 ∨ v = 1 ∨ v = 2 ∨ v = 3 ∨ v = 4 ∨ v = 5 ∨ v = 6 ∨ v = 7 ∨ v = 8 ∨ v = 9 := by omega
    all_goals exact ⟨by kernel_rfl, fun t0 => by kernel_rfl⟩
  have fs : fStr [.int v] = some (.str (PySem.Str.ofString (toString v)).cps.toList) := by
    obtain rfl | rfl | rfl | rfl | rfl | rfl | rfl | rfl | rfl | rfl : v = 0 ∨ v = 1 ∨ v = 2 ∨ v = 3 ∨ v = 4 ∨ v = 5 ∨ v = 6 ∨ v = 7 ∨ v = 8 ∨ v = 9 := by omega
    all_goals kernel_rfl
  have f1 : fAdd (.str [107, 105, 110, 100, 115, 32, 97, 50, 32, 98]) (.str (PySem.Str.ofString (toString v)).cps.toList) = some (.str ([107, 105, 110, 100, 115, 32, 97, 50, 32, 98] ++ (PySem.Str.ofString (toString v)).cps.toList)) := by
    obtain rfl | rfl | rfl | rfl | rfl | rfl | rfl | rfl | rfl | rfl : v = 0 ∨ v = 1 ∨ v = 2 ∨ v = 3 ∨ v = 4 ∨ v = 5 ∨ v = 6 ∨ v = 7 ∨ v = 8 ∨ v = 9 := by omega
    all_goals kernel_rfl
  have f2 : fAdd (.str ([107, 105, 110, 100, 115, 32, 97, 50, 32, 98] ++ (PySem.Str.ofString (toString v)).cps.toList)) (.str [10, 98, 97, 114, 115, 32, 97, 97, 49, 32, 97, 98, 50, 32, 98, 97, 49, 32, 98, 98, 49]) = some (arg39 v) := by
    obtain rfl | rfl | rfl | rfl | rfl | rfl | rfl | rfl | rfl | rfl : v = 0 ∨ v = 1 ∨ v = 2 ∨ v = 3 ∨ v = 4 ∨ v = 5 ∨ v = 6 ∨ v = 7 ∨ v = 8 ∨ v = 9 := by omega
    all_goals kernel_rfl
  have s9 : b_law_right_9 [some (cup a b), x1, x2, x3, x4, x5, some (.str o), some tu.fz, none, none] = some (.nx [some (cup a' b'), x1, x2, x3, x4, x5, some (.str o), some tu.fz, some (theT (mkMake "Rule" f_Rule_init [arg39 v])).fz, none]) :=
    asg_at (eFz_at (eCall1_at (eOp_at (eOp_at (eQ_at rfl) (eCallB_at (eaCons_at h3 eaNil_at) fs) f1) (eQ_at rfl) f2) mk.1 rfl)) (by simp)
  exact ⟨a', b', _, (seq_nx (s7 _)).trans ((seq_nx (s8 _)).trans ((seq_nx s9).trans (mk.2 _)))⟩
theorem right39 (a b : Int) (ha : 0 ≤ a) (hb : 0 ≤ b) : ∃ ts', f_law_right [cup a b] = some (.bl true, ts') := by
  obtain ⟨v, a1, b1, hv, h2, h3⟩ := eCup a b 9 [none, none, none, none, none, none, none, none, none] ha hb (by decide) (by decide)
  obtain ⟨w, a2, b2, hw, h4, h5⟩ := eCup a1 b1 5 [none, none, none, none, none, none, none, none, none] h2.1 h2.2 (by decide) (by decide)
  have s0 : b_law_right_0 [some (cup a b), none, none, none, none, none, none, none, none, none] = some (.nx (at39 (some (cup a2 b2)) (1 + v) (1 + w))) :=
    sPar2_at (i := 1) (j := 2) (a := .int (1 + v)) (b := .int (1 + w)) (eaCons_at (eFz_at (t := .int (1 + v)) (eOp_at (f := fAdd) (a := .int 1) (t := .int (1 + v)) (eQ_at (x := qC (.int 1)) rfl) h3 rfl)) (eaCons_at (eFz_at (t := .int (1 + w)) (eOp_at (f := fAdd) (a := .int 1) (t := .int (1 + w)) (eQ_at (x := qC (.int 1)) rfl) h5 rfl)) eaNil_at)) (by simp) (by simp)
  have m := mid39 (1 + v) (1 + w) (by omega) (by omega) (sSeq b_law_right_6 end39) (cup a2 b2)
  generalize sl (go39 sNext (at39 (some .non) (1 + v) (1 + w))) 3 = x3 at m
  generalize sl (go39 sNext (at39 (some .non) (1 + v) (1 + w))) 4 = x4 at m
  generalize sl (go39 sNext (at39 (some .non) (1 + v) (1 + w))) 5 = x5 at m
  obtain ⟨u, a3, b3, hu, h6, h7⟩ := eCup a2 b2 6 [some (.int (1 + v)), some (.int (1 + w)), x3, x4, x5, none, none, none, none] h4.1 h4.2 (by decide) (by decide)
  have s6 : ∃ o, (o = [97, 98, 99] ∨ o = [97, 99, 98] ∨ o = [98, 97, 99] ∨ o = [98, 99, 97] ∨ o = [99, 97, 98] ∨ o = [99, 98, 97]) ∧ b_law_right_6 [some (cup a2 b2), some (.int (1 + v)), some (.int (1 + w)), x3, x4, x5, none, none, none, none] = some (.nx [some (cup a3 b3), some (.int (1 + v)), some (.int (1 + w)), x3, x4, x5, some (.str o), none, none, none]) := by
    obtain rfl | rfl | rfl | rfl | rfl | rfl : u = 0 ∨ u = 1 ∨ u = 2 ∨ u = 3 ∨ u = 4 ∨ u = 5 := by omega
    · exact ⟨_, .inl rfl, asg_at (eOp_at (eQ_at rfl) h7 rfl) (by simp)⟩
    · exact ⟨_, .inr (.inl rfl), asg_at (eOp_at (eQ_at rfl) h7 rfl) (by simp)⟩
    · exact ⟨_, .inr (.inr (.inl rfl)), asg_at (eOp_at (eQ_at rfl) h7 rfl) (by simp)⟩
    · exact ⟨_, .inr (.inr (.inr (.inl rfl))), asg_at (eOp_at (eQ_at rfl) h7 rfl) (by simp)⟩
    · exact ⟨_, .inr (.inr (.inr (.inr (.inl rfl)))), asg_at (eOp_at (eQ_at rfl) h7 rfl) (by simp)⟩
    · exact ⟨_, .inr (.inr (.inr (.inr (.inr rfl)))), asg_at (eOp_at (eQ_at rfl) h7 rfl) (by simp)⟩
  obtain ⟨o, ho, s6⟩ := s6
  obtain ⟨a4, b4, l, ht⟩ := tail39 a3 b3 (some (.int (1 + v))) (some (.int (1 + w))) x3 x4 x5 o h6.1 h6.2 ho
  exact ⟨[cup a4 b4], mkFn_rt rfl ((seq_nx s0).trans (m.trans ((seq_nx s6).trans ht))) (by simp [back, cup, T.sh, pin_law_right])⟩
theorem plain (ns : List Int) (_ : ns.length ≤ 63) (_ : ∀ z ∈ ns, PySem.Builtin.Int.intBits z ≤ 1048576) : ∃ ts', f_law [.scr (ns.map T.int)] = some (.bl true, ts') := by
  have key : ∀ t : Nat, t < 64 → qCall f_law_right (aCons (qCall f_law_well (aCons (qVar 0) (aCons (qVar 1) aNil))) aNil) [some (.scr (ns.map T.int)), some (.int t)] = some (.bl true) := fun t ht => by
    obtain ⟨a, b, ts1, h1, h2⟩ := well_fn ns t ht
    obtain ⟨ts2, h3⟩ := right39 a b h1.1 h1.2
    have e0 : qVar 0 [some (.scr (ns.map T.int)), some (.int t)] = some (.scr (ns.map T.int)) := by simp [qVar, T.sh]
    have e1 : qVar 1 [some (.scr (ns.map T.int)), some (.int t)] = some (.int t) := by simp [qVar, T.sh]
    simp [qCall, aCons, aNil, e0, e1, h2, h3]
  have lc : qLc [1] (qRng (aCons (qC (.int 4)) aNil)) (gSet 1) cYes (qCall f_law_right (aCons (qCall f_law_well (aCons (qVar 0) (aCons (qVar 1) aNil))) aNil)) [some (.scr (ns.map T.int)), none] = some (.lst true [.bl true, .bl true, .bl true, .bl true]) := by
    have r : qRng (aCons (qC (.int 4)) aNil) [some (.scr (ns.map T.int)), none] = some [.int 0, .int 1, .int 2, .int 3] := rfl
    unfold qLc
    rw [r]
    simp only [wipeE]
    rw [all_four (fun t ht => ?_)]
    · simp [maxLen]
    · simp only [List.mem_cons, List.not_mem_nil, or_false] at ht
      rcases ht with rfl | rfl | rfl | rfl
      · exact ⟨_, rfl, rfl, key 0 (by decide)⟩
      · exact ⟨_, rfl, rfl, key 1 (by decide)⟩
      · exact ⟨_, rfl, rfl, key 2 (by decide)⟩
      · exact ⟨_, rfl, rfl, key 3 (by decide)⟩
  refine ⟨[.scr (ns.map T.int)], mkFn_rt rfl (env' := [some (.scr (ns.map T.int)), none]) ?_ (by simp [back, T.sh])⟩
  exact ret_at (eQ_at (callB1_at lc rfl))

end LW
namespace LW
open PySem L2 GK PySem.Spec PyProof.Rows
theorem all_mk {l : PySem.W.OpenLaw} {w : World} {K : PySem.W.Frag} {h : Heap} {mg : Str → Option Value} {fa C_Rule f_words_behind' f_is_rising' f_is_kind_word' f_read_kinds' f_is_bar' f_read_bars' f_read_text' f_Rule_init' f_check_rule' f_check_order' f_with_least_beginning' f_fits' f_fitted' f_measure' f_lowest' f_fit_share' f_law_cup' f_first_fit' f_law_right' f_law_well' f_law' : Addr} {od_words_behind an_words_behind od_is_rising an_is_rising od_is_kind_word an_is_kind_word od_read_kinds an_read_kinds od_is_bar an_is_bar od_read_bars an_read_bars od_read_text an_read_text od_Rule_init an_Rule_init od_check_rule an_check_rule od_check_order an_check_order od_with_least_beginning an_with_least_beginning od_fits an_fits od_fitted an_fitted od_measure an_measure od_lowest an_lowest od_fit_share an_fit_share od_law_cup an_law_cup od_first_fit an_first_fit od_law_right an_law_right od_law_well an_law_well od_law an_law : Option Addr} {sl_words_behind sl_is_rising sl_is_kind_word sl_read_kinds sl_is_bar sl_read_bars sl_read_text sl_Rule_init sl_check_rule sl_check_order sl_with_least_beginning sl_fits sl_fitted sl_measure sl_lowest sl_fit_share sl_law_cup sl_first_fit sl_law_right sl_law_well sl_law : Array (Option Value)} {oc_words_behind kV_words_behind dc_words_behind pm_words_behind cd_words_behind ct_words_behind oc_is_rising kV_is_rising dc_is_rising pm_is_rising cd_is_rising ct_is_rising oc_is_kind_word kV_is_kind_word dc_is_kind_word pm_is_kind_word cd_is_kind_word ct_is_kind_word oc_read_kinds kV_read_kinds dc_read_kinds pm_read_kinds cd_read_kinds ct_read_kinds oc_is_bar kV_is_bar dc_is_bar pm_is_bar cd_is_bar ct_is_bar oc_read_bars kV_read_bars dc_read_bars pm_read_bars cd_read_bars ct_read_bars oc_read_text kV_read_text dc_read_text pm_read_text cd_read_text ct_read_text oc_Rule_init kV_Rule_init dc_Rule_init pm_Rule_init cd_Rule_init ct_Rule_init oc_check_rule kV_check_rule dc_check_rule pm_check_rule cd_check_rule ct_check_rule oc_check_order kV_check_order dc_check_order pm_check_order cd_check_order ct_check_order oc_with_least_beginning kV_with_least_beginning dc_with_least_beginning pm_with_least_beginning cd_with_least_beginning ct_with_least_beginning oc_fits kV_fits dc_fits pm_fits cd_fits ct_fits oc_fitted kV_fitted dc_fitted pm_fitted cd_fitted ct_fitted oc_measure kV_measure dc_measure pm_measure cd_measure ct_measure oc_lowest kV_lowest dc_lowest pm_lowest cd_lowest ct_lowest oc_fit_share kV_fit_share dc_fit_share pm_fit_share cd_fit_share ct_fit_share oc_law_cup kV_law_cup dc_law_cup pm_law_cup cd_law_cup ct_law_cup oc_first_fit kV_first_fit dc_first_fit pm_first_fit cd_first_fit ct_first_fit oc_law_right kV_law_right dc_law_right pm_law_right cd_law_right ct_law_right oc_law_well kV_law_well dc_law_well pm_law_well cd_law_well ct_law_well oc_law kV_law dc_law pm_law cd_law ct_law : Value} {t_DIGITS t_DISTANCES t_LETTERS t_MOST_BARS t_MOST_KINDS : Tok} {v_DIGITS v_DISTANCES v_LETTERS : Str} (X : K.In h) (G : h.Ns mainGlobals mg) (hfa : mg "law" = some (.ref fa))
    (aC_Rule : PySem.W.nsIn K mainGlobals "Rule" = some (some (.ref C_Rule)))
    (a_words_behind : PySem.W.nsIn K mainGlobals "words_behind" = some (some (.ref f_words_behind')))
    (l_words_behind : K.lookup f_words_behind' = some ⟨oc_words_behind, od_words_behind, .func (PySem.W.fnOf "words_behind" "words_behind" (defArgs s_words_behind) (defBody s_words_behind) (defScope s_words_behind) .none kV_words_behind dc_words_behind pm_words_behind an_words_behind cd_words_behind ct_words_behind), sl_words_behind⟩)
    (c_words_behind : PySem.W.codeIn K cd_words_behind "words_behind" = true)
    (k_words_behind : PySem.W.keepIn K (.ref f_words_behind') = true)
    (a_is_rising : PySem.W.nsIn K mainGlobals "is_rising" = some (some (.ref f_is_rising')))
    (l_is_rising : K.lookup f_is_rising' = some ⟨oc_is_rising, od_is_rising, .func (PySem.W.fnOf "is_rising" "is_rising" (defArgs s_is_rising) (defBody s_is_rising) (defScope s_is_rising) .none kV_is_rising dc_is_rising pm_is_rising an_is_rising cd_is_rising ct_is_rising), sl_is_rising⟩)
    (c_is_rising : PySem.W.codeIn K cd_is_rising "is_rising" = true)
    (k_is_rising : PySem.W.keepIn K (.ref f_is_rising') = true)
    (a_is_kind_word : PySem.W.nsIn K mainGlobals "is_kind_word" = some (some (.ref f_is_kind_word')))
    (l_is_kind_word : K.lookup f_is_kind_word' = some ⟨oc_is_kind_word, od_is_kind_word, .func (PySem.W.fnOf "is_kind_word" "is_kind_word" (defArgs s_is_kind_word) (defBody s_is_kind_word) (defScope s_is_kind_word) .none kV_is_kind_word dc_is_kind_word pm_is_kind_word an_is_kind_word cd_is_kind_word ct_is_kind_word), sl_is_kind_word⟩)
    (c_is_kind_word : PySem.W.codeIn K cd_is_kind_word "is_kind_word" = true)
    (k_is_kind_word : PySem.W.keepIn K (.ref f_is_kind_word') = true)
    (a_read_kinds : PySem.W.nsIn K mainGlobals "read_kinds" = some (some (.ref f_read_kinds')))
    (l_read_kinds : K.lookup f_read_kinds' = some ⟨oc_read_kinds, od_read_kinds, .func (PySem.W.fnOf "read_kinds" "read_kinds" (defArgs s_read_kinds) (defBody s_read_kinds) (defScope s_read_kinds) .none kV_read_kinds dc_read_kinds pm_read_kinds an_read_kinds cd_read_kinds ct_read_kinds), sl_read_kinds⟩)
    (c_read_kinds : PySem.W.codeIn K cd_read_kinds "read_kinds" = true)
    (k_read_kinds : PySem.W.keepIn K (.ref f_read_kinds') = true)
    (a_is_bar : PySem.W.nsIn K mainGlobals "is_bar" = some (some (.ref f_is_bar')))
    (l_is_bar : K.lookup f_is_bar' = some ⟨oc_is_bar, od_is_bar, .func (PySem.W.fnOf "is_bar" "is_bar" (defArgs s_is_bar) (defBody s_is_bar) (defScope s_is_bar) .none kV_is_bar dc_is_bar pm_is_bar an_is_bar cd_is_bar ct_is_bar), sl_is_bar⟩)
    (c_is_bar : PySem.W.codeIn K cd_is_bar "is_bar" = true)
    (k_is_bar : PySem.W.keepIn K (.ref f_is_bar') = true)
    (a_read_bars : PySem.W.nsIn K mainGlobals "read_bars" = some (some (.ref f_read_bars')))
    (l_read_bars : K.lookup f_read_bars' = some ⟨oc_read_bars, od_read_bars, .func (PySem.W.fnOf "read_bars" "read_bars" (defArgs s_read_bars) (defBody s_read_bars) (defScope s_read_bars) .none kV_read_bars dc_read_bars pm_read_bars an_read_bars cd_read_bars ct_read_bars), sl_read_bars⟩)
    (c_read_bars : PySem.W.codeIn K cd_read_bars "read_bars" = true)
    (k_read_bars : PySem.W.keepIn K (.ref f_read_bars') = true)
    (a_read_text : PySem.W.nsIn K mainGlobals "read_text" = some (some (.ref f_read_text')))
    (l_read_text : K.lookup f_read_text' = some ⟨oc_read_text, od_read_text, .func (PySem.W.fnOf "read_text" "read_text" (defArgs s_read_text) (defBody s_read_text) (defScope s_read_text) .none kV_read_text dc_read_text pm_read_text an_read_text cd_read_text ct_read_text), sl_read_text⟩)
    (c_read_text : PySem.W.codeIn K cd_read_text "read_text" = true)
    (k_read_text : PySem.W.keepIn K (.ref f_read_text') = true)
    (a_Rule_init : PySem.W.findIn K (.ref C_Rule) "__init__" = some (some (.ref f_Rule_init')))
    (i_Rule_init : PySem.W.isFn K (.ref f_Rule_init') = true)
    (l_Rule_init : K.lookup f_Rule_init' = some ⟨oc_Rule_init, od_Rule_init, .func (PySem.W.fnOf "__init__" "Rule.__init__" (defArgs s_Rule_init) (defBody s_Rule_init) (defScope s_Rule_init) .none kV_Rule_init dc_Rule_init pm_Rule_init an_Rule_init cd_Rule_init ct_Rule_init), sl_Rule_init⟩)
    (c_Rule_init : PySem.W.codeIn K cd_Rule_init "Rule.__init__" = true)
    (k_Rule_init : PySem.W.keepIn K (.ref f_Rule_init') = true)
    (a_check_rule : PySem.W.nsIn K mainGlobals "check_rule" = some (some (.ref f_check_rule')))
    (l_check_rule : K.lookup f_check_rule' = some ⟨oc_check_rule, od_check_rule, .func (PySem.W.fnOf "check_rule" "check_rule" (defArgs s_check_rule) (defBody s_check_rule) (defScope s_check_rule) .none kV_check_rule dc_check_rule pm_check_rule an_check_rule cd_check_rule ct_check_rule), sl_check_rule⟩)
    (c_check_rule : PySem.W.codeIn K cd_check_rule "check_rule" = true)
    (k_check_rule : PySem.W.keepIn K (.ref f_check_rule') = true)
    (a_check_order : PySem.W.nsIn K mainGlobals "check_order" = some (some (.ref f_check_order')))
    (l_check_order : K.lookup f_check_order' = some ⟨oc_check_order, od_check_order, .func (PySem.W.fnOf "check_order" "check_order" (defArgs s_check_order) (defBody s_check_order) (defScope s_check_order) .none kV_check_order dc_check_order pm_check_order an_check_order cd_check_order ct_check_order), sl_check_order⟩)
    (c_check_order : PySem.W.codeIn K cd_check_order "check_order" = true)
    (k_check_order : PySem.W.keepIn K (.ref f_check_order') = true)
    (a_with_least_beginning : PySem.W.nsIn K mainGlobals "with_least_beginning" = some (some (.ref f_with_least_beginning')))
    (l_with_least_beginning : K.lookup f_with_least_beginning' = some ⟨oc_with_least_beginning, od_with_least_beginning, .func (PySem.W.fnOf "with_least_beginning" "with_least_beginning" (defArgs s_with_least_beginning) (defBody s_with_least_beginning) (defScope s_with_least_beginning) .none kV_with_least_beginning dc_with_least_beginning pm_with_least_beginning an_with_least_beginning cd_with_least_beginning ct_with_least_beginning), sl_with_least_beginning⟩)
    (c_with_least_beginning : PySem.W.codeIn K cd_with_least_beginning "with_least_beginning" = true)
    (k_with_least_beginning : PySem.W.keepIn K (.ref f_with_least_beginning') = true)
    (a_fits : PySem.W.nsIn K mainGlobals "fits" = some (some (.ref f_fits')))
    (l_fits : K.lookup f_fits' = some ⟨oc_fits, od_fits, .func (PySem.W.fnOf "fits" "fits" (defArgs s_fits) (defBody s_fits) (defScope s_fits) .none kV_fits dc_fits pm_fits an_fits cd_fits ct_fits), sl_fits⟩)
    (c_fits : PySem.W.codeIn K cd_fits "fits" = true)
    (k_fits : PySem.W.keepIn K (.ref f_fits') = true)
    (a_fitted : PySem.W.nsIn K mainGlobals "fitted" = some (some (.ref f_fitted')))
    (l_fitted : K.lookup f_fitted' = some ⟨oc_fitted, od_fitted, .func (PySem.W.fnOf "fitted" "fitted" (defArgs s_fitted) (defBody s_fitted) (defScope s_fitted) .none kV_fitted dc_fitted pm_fitted an_fitted cd_fitted ct_fitted), sl_fitted⟩)
    (c_fitted : PySem.W.codeIn K cd_fitted "fitted" = true)
    (k_fitted : PySem.W.keepIn K (.ref f_fitted') = true)
    (a_measure : PySem.W.nsIn K mainGlobals "measure" = some (some (.ref f_measure')))
    (l_measure : K.lookup f_measure' = some ⟨oc_measure, od_measure, .func (PySem.W.fnOf "measure" "measure" (defArgs s_measure) (defBody s_measure) (defScope s_measure) .none kV_measure dc_measure pm_measure an_measure cd_measure ct_measure), sl_measure⟩)
    (c_measure : PySem.W.codeIn K cd_measure "measure" = true)
    (k_measure : PySem.W.keepIn K (.ref f_measure') = true)
    (a_lowest : PySem.W.nsIn K mainGlobals "lowest" = some (some (.ref f_lowest')))
    (l_lowest : K.lookup f_lowest' = some ⟨oc_lowest, od_lowest, .func (PySem.W.fnOf "lowest" "lowest" (defArgs s_lowest) (defBody s_lowest) (defScope s_lowest) .none kV_lowest dc_lowest pm_lowest an_lowest cd_lowest ct_lowest), sl_lowest⟩)
    (c_lowest : PySem.W.codeIn K cd_lowest "lowest" = true)
    (k_lowest : PySem.W.keepIn K (.ref f_lowest') = true)
    (a_fit_share : PySem.W.nsIn K mainGlobals "fit_share" = some (some (.ref f_fit_share')))
    (l_fit_share : K.lookup f_fit_share' = some ⟨oc_fit_share, od_fit_share, .func (PySem.W.fnOf "fit_share" "fit_share" (defArgs s_fit_share) (defBody s_fit_share) (defScope s_fit_share) .none kV_fit_share dc_fit_share pm_fit_share an_fit_share cd_fit_share ct_fit_share), sl_fit_share⟩)
    (c_fit_share : PySem.W.codeIn K cd_fit_share "fit_share" = true)
    (k_fit_share : PySem.W.keepIn K (.ref f_fit_share') = true)
    (a_law_cup : PySem.W.nsIn K mainGlobals "_law_cup" = some (some (.ref f_law_cup')))
    (l_law_cup : K.lookup f_law_cup' = some ⟨oc_law_cup, od_law_cup, .func (PySem.W.fnOf "_law_cup" "_law_cup" (defArgs s_law_cup) (defBody s_law_cup) (defScope s_law_cup) .none kV_law_cup dc_law_cup pm_law_cup an_law_cup cd_law_cup ct_law_cup), sl_law_cup⟩)
    (c_law_cup : PySem.W.codeIn K cd_law_cup "_law_cup" = true)
    (k_law_cup : PySem.W.keepIn K (.ref f_law_cup') = true)
    (a_first_fit : PySem.W.nsIn K mainGlobals "first_fit" = some (some (.ref f_first_fit')))
    (l_first_fit : K.lookup f_first_fit' = some ⟨oc_first_fit, od_first_fit, .func (PySem.W.fnOf "first_fit" "first_fit" (defArgs s_first_fit) (defBody s_first_fit) (defScope s_first_fit) .none kV_first_fit dc_first_fit pm_first_fit an_first_fit cd_first_fit ct_first_fit), sl_first_fit⟩)
    (c_first_fit : PySem.W.codeIn K cd_first_fit "first_fit" = true)
    (k_first_fit : PySem.W.keepIn K (.ref f_first_fit') = true)
    (a_law_right : PySem.W.nsIn K mainGlobals "_law_right" = some (some (.ref f_law_right')))
    (l_law_right : K.lookup f_law_right' = some ⟨oc_law_right, od_law_right, .func (PySem.W.fnOf "_law_right" "_law_right" (defArgs s_law_right) (defBody s_law_right) (defScope s_law_right) .none kV_law_right dc_law_right pm_law_right an_law_right cd_law_right ct_law_right), sl_law_right⟩)
    (c_law_right : PySem.W.codeIn K cd_law_right "_law_right" = true)
    (k_law_right : PySem.W.keepIn K (.ref f_law_right') = true)
    (a_law_well : PySem.W.nsIn K mainGlobals "_law_well" = some (some (.ref f_law_well')))
    (l_law_well : K.lookup f_law_well' = some ⟨oc_law_well, od_law_well, .func (PySem.W.fnOf "_law_well" "_law_well" (defArgs s_law_well) (defBody s_law_well) (defScope s_law_well) .none kV_law_well dc_law_well pm_law_well an_law_well cd_law_well ct_law_well), sl_law_well⟩)
    (c_law_well : PySem.W.codeIn K cd_law_well "_law_well" = true)
    (k_law_well : PySem.W.keepIn K (.ref f_law_well') = true)
    (a_law : PySem.W.nsIn K mainGlobals "law" = some (some (.ref f_law')))
    (l_law : K.lookup f_law' = some ⟨oc_law, od_law, .func (PySem.W.fnOf "law" "law" (defArgs s_law) (defBody s_law) (defScope s_law) .none kV_law dc_law pm_law an_law cd_law ct_law), sl_law⟩)
    (c_law : PySem.W.codeIn K cd_law "law" = true)
    (k_law : PySem.W.keepIn K (.ref f_law') = true)
    (pg_Rule : PySem.W.plainGet K C_Rule Str.empty = true)
    (hd_Rule : PySem.W.hasDictIn K C_Rule = true)
    (po_Rule : PySem.W.plainOver K C_Rule = true)
    (sa_Rule : PySem.W.findIn K (.ref C_Rule) "__setattr__" = some (some (.builtin "object.__setattr__")))
    (mk_Rule : PySem.W.makesIn K C_Rule = true)
    (kc_Rule : PySem.W.keepIn K (.ref C_Rule) = true)
    (n_Rule_text : PySem.W.findIn K (.ref C_Rule) "text" = some none)
    (n_Rule_triples : PySem.W.findIn K (.ref C_Rule) "triples" = some none)
    (n_Rule_reach : PySem.W.findIn K (.ref C_Rule) "reach" = some none)
    (n_Rule_worth_of : PySem.W.findIn K (.ref C_Rule) "worth_of" = some none)
    (n_Rule_behind : PySem.W.findIn K (.ref C_Rule) "behind" = some none)
    (n_Rule_kinds : PySem.W.findIn K (.ref C_Rule) "kinds" = some none)
    (n_Rule_worths : PySem.W.findIn K (.ref C_Rule) "worths" = some none)
    (n_Rule_bars : PySem.W.findIn K (.ref C_Rule) "bars" = some none)
    (o1_Rule : PySem.W.findIn K (.ref C_Rule) "__class__" = some (some (.builtin "object.__class__")))
    (o4_Rule : PySem.W.mroIn K C_Rule (.type "object") = some true)
    (o2 : PySem.W.specialIn K (.builtin "object.__class__") "__get__" = some (some (.builtin "getset_descriptor.__get__")))
    (o3 : PySem.W.takesIn K (.builtin "object.__class__") = some true)
    (z_abs : PySem.W.nsIn K mainGlobals "abs" = some none)
    (z_all : PySem.W.nsIn K mainGlobals "all" = some none)
    (z_dict : PySem.W.nsIn K mainGlobals "dict" = some none)
    (z_divmod : PySem.W.nsIn K mainGlobals "divmod" = some none)
    (z_int : PySem.W.nsIn K mainGlobals "int" = some none)
    (z_isinstance : PySem.W.nsIn K mainGlobals "isinstance" = some none)
    (z_len : PySem.W.nsIn K mainGlobals "len" = some none)
    (z_max : PySem.W.nsIn K mainGlobals "max" = some none)
    (z_range : PySem.W.nsIn K mainGlobals "range" = some none)
    (z_sorted : PySem.W.nsIn K mainGlobals "sorted" = some none)
    (z_str : PySem.W.nsIn K mainGlobals "str" = some none)
    (z_sum : PySem.W.nsIn K mainGlobals "sum" = some none)
    (z_tuple : PySem.W.nsIn K mainGlobals "tuple" = some none)
    (z_zip : PySem.W.nsIn K mainGlobals "zip" = some none)
    (g_DIGITS : PySem.W.nsIn K mainGlobals "DIGITS" = some (some (.str v_DIGITS t_DIGITS)))
    (g_DISTANCES : PySem.W.nsIn K mainGlobals "DISTANCES" = some (some (.str v_DISTANCES t_DISTANCES)))
    (g_LETTERS : PySem.W.nsIn K mainGlobals "LETTERS" = some (some (.str v_LETTERS t_LETTERS)))
    (g_MOST_BARS : PySem.W.nsIn K mainGlobals "MOST_BARS" = some (some (.int 40 t_MOST_BARS)))
    (g_MOST_KINDS : PySem.W.nsIn K mainGlobals "MOST_KINDS" = some (some (.int 4 t_MOST_KINDS)))
    (e_DIGITS : v_DIGITS = S [48, 49, 50, 51, 52, 53, 54, 55, 56, 57])
    (e_DISTANCES : v_DISTANCES = S [49, 50, 51, 52, 53])
    (e_LETTERS : v_LETTERS = S [97, 98, 99, 100, 101, 102, 103, 104, 105, 106, 107, 108, 109, 110, 111, 112, 113, 114, 115, 116, 117, 118, 119, 120, 121, 122])
    : ∃ fd : FuncData, (∀ (s : Shared) (v : Value), BindsTo s fd ⟨[v], []⟩ [("_law_cells", v)]) ∧ ∀ base : Heap, K.In base → base.Ns mainGlobals mg → FnG l.prog w K mg base 7 fa fd ["_law_cells"] f_law := by
  have e := hfa.symm.trans (PySem.W.mg_of X G a_law)
  cases e
  have cls : Cls' K mg AF := by
    refine ⟨fun c fs C hm hc => ?_⟩
    unfold AF at hm
    simp only [List.mem_cons, List.not_mem_nil, or_false, Prod.mk.injEq] at hm
    obtain ⟨rfl, rfl⟩ := hm
    · have ec := (PySem.W.mg_of X G aC_Rule).symm.trans hc
      cases ec
      refine ⟨⟨pg_Rule, hd_Rule, po_Rule, sa_Rule⟩, fun f hf => ?_⟩
      simp only [List.mem_cons, List.not_mem_nil, or_false] at hf
      rcases hf with rfl | rfl | rfl | rfl | rfl | rfl | rfl | rfl
      · exact n_Rule_text
      · exact n_Rule_triples
      · exact n_Rule_reach
      · exact n_Rule_worth_of
      · exact n_Rule_behind
      · exact n_Rule_kinds
      · exact n_Rule_worths
      · exact n_Rule_bars
  have Tx : Txt K mg := {
    cls := cls
    z_abs := PySem.W.mg_none_of X G z_abs
    z_all := PySem.W.mg_none_of X G z_all
    z_dict := PySem.W.mg_none_of X G z_dict
    z_divmod := PySem.W.mg_none_of X G z_divmod
    z_int := PySem.W.mg_none_of X G z_int
    z_isinstance := PySem.W.mg_none_of X G z_isinstance
    z_len := PySem.W.mg_none_of X G z_len
    z_max := PySem.W.mg_none_of X G z_max
    z_range := PySem.W.mg_none_of X G z_range
    z_sorted := PySem.W.mg_none_of X G z_sorted
    z_str := PySem.W.mg_none_of X G z_str
    z_sum := PySem.W.mg_none_of X G z_sum
    z_tuple := PySem.W.mg_none_of X G z_tuple
    z_zip := PySem.W.mg_none_of X G z_zip
    c_DIGITS := ⟨_, by rw [PySem.W.mg_of X G g_DIGITS, e_DIGITS]⟩
    c_DISTANCES := ⟨_, by rw [PySem.W.mg_of X G g_DISTANCES, e_DISTANCES]⟩
    c_LETTERS := ⟨_, by rw [PySem.W.mg_of X G g_LETTERS, e_LETTERS]⟩
    c_MOST_BARS := ⟨_, PySem.W.mg_of X G g_MOST_BARS⟩
    c_MOST_KINDS := ⟨_, PySem.W.mg_of X G g_MOST_KINDS⟩
    oc_Rule := ⟨_, PySem.W.mg_of X G aC_Rule, ⟨⟨pg_Rule, hd_Rule, po_Rule, sa_Rule⟩, o1_Rule, o2, o3, o4_Rule⟩⟩
  }
  have F_words_behind := fun_mk (st := s_words_behind) l_words_behind c_words_behind k_words_behind
  have B_words_behind := F_words_behind.binds (ps := ["line", "head"]) fun _ _ _ _ _ _ us hl => match us, hl with | [_, _], _ => rfl
  have F_is_rising := fun_mk (st := s_is_rising) l_is_rising c_is_rising k_is_rising
  have B_is_rising := F_is_rising.binds (ps := ["words"]) fun _ _ _ _ _ _ us hl => match us, hl with | [_], _ => rfl
  have F_is_kind_word := fun_mk (st := s_is_kind_word) l_is_kind_word c_is_kind_word k_is_kind_word
  have B_is_kind_word := F_is_kind_word.binds (ps := ["word"]) fun _ _ _ _ _ _ us hl => match us, hl with | [_], _ => rfl
  have F_read_kinds := fun_mk (st := s_read_kinds) l_read_kinds c_read_kinds k_read_kinds
  have B_read_kinds := F_read_kinds.binds (ps := ["line"]) fun _ _ _ _ _ _ us hl => match us, hl with | [_], _ => rfl
  have F_is_bar := fun_mk (st := s_is_bar) l_is_bar c_is_bar k_is_bar
  have B_is_bar := F_is_bar.binds (ps := ["kinds", "value"]) fun _ _ _ _ _ _ us hl => match us, hl with | [_, _], _ => rfl
  have F_read_bars := fun_mk (st := s_read_bars) l_read_bars c_read_bars k_read_bars
  have B_read_bars := F_read_bars.binds (ps := ["kinds", "line"]) fun _ _ _ _ _ _ us hl => match us, hl with | [_, _], _ => rfl
  have F_read_text := fun_mk (st := s_read_text) l_read_text c_read_text k_read_text
  have B_read_text := F_read_text.binds (ps := ["text"]) fun _ _ _ _ _ _ us hl => match us, hl with | [_], _ => rfl
  have F_Rule_init := fun_mk (st := s_Rule_init) l_Rule_init c_Rule_init k_Rule_init
  have B_Rule_init := F_Rule_init.binds (ps := ["self", "text"]) fun _ _ _ _ _ _ us hl => match us, hl with | [_, _], _ => rfl
  have F_check_rule := fun_mk (st := s_check_rule) l_check_rule c_check_rule k_check_rule
  have B_check_rule := F_check_rule.binds (ps := ["value"]) fun _ _ _ _ _ _ us hl => match us, hl with | [_], _ => rfl
  have F_check_order := fun_mk (st := s_check_order) l_check_order c_check_order k_check_order
  have B_check_order := F_check_order.binds (ps := ["rule", "order"]) fun _ _ _ _ _ _ us hl => match us, hl with | [_, _], _ => rfl
  have F_with_least_beginning := fun_mk (st := s_with_least_beginning) l_with_least_beginning c_with_least_beginning k_with_least_beginning
  have B_with_least_beginning := F_with_least_beginning.binds (ps := ["beginning", "ring"]) fun _ _ _ _ _ _ us hl => match us, hl with | [_, _], _ => rfl
  have F_fits := fun_mk (st := s_fits) l_fits c_fits k_fits
  have B_fits := F_fits.binds (ps := ["rule", "row", "kind"]) fun _ _ _ _ _ _ us hl => match us, hl with | [_, _, _], _ => rfl
  have F_fitted := fun_mk (st := s_fitted) l_fitted c_fitted k_fitted
  have B_fitted := F_fitted.binds (ps := ["rule", "order"]) fun _ _ _ _ _ _ us hl => match us, hl with | [_, _], _ => rfl
  have F_measure := fun_mk (st := s_measure) l_measure c_measure k_measure
  have B_measure := F_measure.binds (ps := ["one", "other"]) fun _ _ _ _ _ _ us hl => match us, hl with | [_, _], _ => rfl
  have F_lowest := fun_mk (st := s_lowest) l_lowest c_lowest k_lowest
  have B_lowest := F_lowest.binds (ps := ["top", "bottom"]) fun _ _ _ _ _ _ us hl => match us, hl with | [_, _], _ => rfl
  have F_fit_share := fun_mk (st := s_fit_share) l_fit_share c_fit_share k_fit_share
  have B_fit_share := F_fit_share.binds (ps := ["rule", "order"]) fun _ _ _ _ _ _ us hl => match us, hl with | [_, _], _ => rfl
  have F_law_cup := fun_mk (st := s_law_cup) l_law_cup c_law_cup k_law_cup
  have B_law_cup := F_law_cup.binds (ps := ["_law_well_here", "_law_amount"]) fun _ _ _ _ _ _ us hl => match us, hl with | [_, _], _ => rfl
  have F_first_fit := fun_mk (st := s_first_fit) l_first_fit c_first_fit k_first_fit
  have B_first_fit := F_first_fit.binds (ps := ["rule", "order"]) fun _ _ _ _ _ _ us hl => match us, hl with | [_, _], _ => rfl
  have F_law_right := fun_mk (st := s_law_right) l_law_right c_law_right k_law_right
  have B_law_right := F_law_right.binds (ps := ["_law_well_here"]) fun _ _ _ _ _ _ us hl => match us, hl with | [_], _ => rfl
  have F_law_well := fun_mk (st := s_law_well) l_law_well c_law_well k_law_well
  have B_law_well := F_law_well.binds (ps := ["_law_cells", "_law_turn"]) fun _ _ _ _ _ _ us hl => match us, hl with | [_, _], _ => rfl
  have F_law := fun_mk (st := s_law) l_law c_law k_law
  refine ⟨PySem.W.fnOf "law" "law" (defArgs s_law) (defBody s_law) (defScope s_law) .none kV_law dc_law pm_law an_law cd_law ct_law, fun s v => .of_eq rfl, fun base _ _ => ?_⟩
  have G_words_behind := ok_words_behind (P := l.prog) (w := w) (base := base) F_words_behind Tx 
  have h_words_behind : Has l.prog w K mg base 1 "words_behind" f_words_behind := ⟨_, _, _, G_words_behind, PySem.W.mg_of X G a_words_behind, k_words_behind, B_words_behind⟩
  have G_is_rising := ok_is_rising (P := l.prog) (w := w) (base := base) F_is_rising Tx 
  have h_is_rising : Has l.prog w K mg base 1 "is_rising" f_is_rising := ⟨_, _, _, G_is_rising, PySem.W.mg_of X G a_is_rising, k_is_rising, B_is_rising⟩
  have G_is_kind_word := ok_is_kind_word (P := l.prog) (w := w) (base := base) F_is_kind_word Tx 
  have h_is_kind_word : Has l.prog w K mg base 1 "is_kind_word" f_is_kind_word := ⟨_, _, _, G_is_kind_word, PySem.W.mg_of X G a_is_kind_word, k_is_kind_word, B_is_kind_word⟩
  have G_read_kinds := ok_read_kinds (P := l.prog) (w := w) (base := base) F_read_kinds Tx h_words_behind h_is_kind_word h_is_rising
  have h_read_kinds : Has l.prog w K mg base 2 "read_kinds" f_read_kinds := ⟨_, _, _, G_read_kinds, PySem.W.mg_of X G a_read_kinds, k_read_kinds, B_read_kinds⟩
  have G_is_bar := ok_is_bar (P := l.prog) (w := w) (base := base) F_is_bar Tx 
  have h_is_bar : Has l.prog w K mg base 1 "is_bar" f_is_bar := ⟨_, _, _, G_is_bar, PySem.W.mg_of X G a_is_bar, k_is_bar, B_is_bar⟩
  have G_read_bars := ok_read_bars (P := l.prog) (w := w) (base := base) F_read_bars Tx h_words_behind h_is_bar h_is_rising
  have h_read_bars : Has l.prog w K mg base 2 "read_bars" f_read_bars := ⟨_, _, _, G_read_bars, PySem.W.mg_of X G a_read_bars, k_read_bars, B_read_bars⟩
  have G_read_text := ok_read_text (P := l.prog) (w := w) (base := base) F_read_text Tx h_read_kinds h_read_bars
  have h_read_text : Has l.prog w K mg base 3 "read_text" f_read_text := ⟨_, _, _, G_read_text, PySem.W.mg_of X G a_read_text, k_read_text, B_read_text⟩
  have G_Rule_init := ok_Rule_init (P := l.prog) (w := w) (base := base) F_Rule_init Tx h_read_text
  have h_Rule_init : HasC l.prog w K mg base 4 "Rule" f_Rule_init := ⟨_, _, _, _, ⟨mk_Rule, a_Rule_init, i_Rule_init, kc_Rule⟩, G_Rule_init, PySem.W.mg_of X G aC_Rule, B_Rule_init⟩
  have G_check_rule := ok_check_rule (P := l.prog) (w := w) (base := base) F_check_rule Tx 
  have h_check_rule : Has l.prog w K mg base 1 "check_rule" f_check_rule := ⟨_, _, _, G_check_rule, PySem.W.mg_of X G a_check_rule, k_check_rule, B_check_rule⟩
  have G_check_order := ok_check_order (P := l.prog) (w := w) (base := base) F_check_order Tx 
  have h_check_order : Has l.prog w K mg base 1 "check_order" f_check_order := ⟨_, _, _, G_check_order, PySem.W.mg_of X G a_check_order, k_check_order, B_check_order⟩
  have G_with_least_beginning := ok_with_least_beginning (P := l.prog) (w := w) (base := base) F_with_least_beginning Tx 
  have h_with_least_beginning : Has l.prog w K mg base 1 "with_least_beginning" f_with_least_beginning := ⟨_, _, _, G_with_least_beginning, PySem.W.mg_of X G a_with_least_beginning, k_with_least_beginning, B_with_least_beginning⟩
  have G_fits := ok_fits (P := l.prog) (w := w) (base := base) F_fits Tx 
  have h_fits : Has l.prog w K mg base 1 "fits" f_fits := ⟨_, _, _, G_fits, PySem.W.mg_of X G a_fits, k_fits, B_fits⟩
  have G_fitted := ok_fitted (P := l.prog) (w := w) (base := base) F_fitted Tx h_with_least_beginning h_fits
  have h_fitted : Has l.prog w K mg base 2 "fitted" f_fitted := ⟨_, _, _, G_fitted, PySem.W.mg_of X G a_fitted, k_fitted, B_fitted⟩
  have G_measure := ok_measure (P := l.prog) (w := w) (base := base) F_measure Tx 
  have h_measure : Has l.prog w K mg base 1 "measure" f_measure := ⟨_, _, _, G_measure, PySem.W.mg_of X G a_measure, k_measure, B_measure⟩
  have G_lowest := ok_lowest (P := l.prog) (w := w) (base := base) F_lowest Tx h_measure
  have h_lowest : Has l.prog w K mg base 2 "lowest" f_lowest := ⟨_, _, _, G_lowest, PySem.W.mg_of X G a_lowest, k_lowest, B_lowest⟩
  have G_fit_share := ok_fit_share (P := l.prog) (w := w) (base := base) F_fit_share Tx h_check_rule h_check_order h_fitted h_lowest
  have h_fit_share : Has l.prog w K mg base 3 "fit_share" f_fit_share := ⟨_, _, _, G_fit_share, PySem.W.mg_of X G a_fit_share, k_fit_share, B_fit_share⟩
  have G_law_cup := ok_law_cup (P := l.prog) (w := w) (base := base) F_law_cup Tx 
  have h_law_cup : Has l.prog w K mg base 1 "_law_cup" f_law_cup := ⟨_, _, _, G_law_cup, PySem.W.mg_of X G a_law_cup, k_law_cup, B_law_cup⟩
  have G_first_fit := ok_first_fit (P := l.prog) (w := w) (base := base) F_first_fit Tx h_check_rule h_check_order h_fitted
  have h_first_fit : Has l.prog w K mg base 3 "first_fit" f_first_fit := ⟨_, _, _, G_first_fit, PySem.W.mg_of X G a_first_fit, k_first_fit, B_first_fit⟩
  have G_law_right := ok_law_right (P := l.prog) (w := w) (base := base) F_law_right Tx h_law_cup h_Rule_init h_first_fit h_fit_share
  have h_law_right : Has l.prog w K mg base 6 "_law_right" f_law_right := ⟨_, _, _, G_law_right, PySem.W.mg_of X G a_law_right, k_law_right, B_law_right⟩
  have G_law_well := ok_law_well (P := l.prog) (w := w) (base := base) F_law_well Tx 
  have h_law_well : Has l.prog w K mg base 1 "_law_well" f_law_well := ⟨_, _, _, G_law_well, PySem.W.mg_of X G a_law_well, k_law_well, B_law_well⟩
  exact ok_law F_law Tx h_law_well h_law_right

end LW
open PySem PySem.W PyProof.Rows in
set_option maxRecDepth 100000 in
set_option maxHeartbeats 0 in
theorem PySem.Challenge.cw_gapkinds_k39_known_first_fits_holds : PySem.Challenge.rw_gapkinds_k39_known_first_fits.Holds := by
  w_on; o_law; k_head; (case hw => w_witness2)
  k_fill
  refine GK.walk_G (l := PySem.Challenge.rw_gapkinds_k39_known_first_fits) (n := 63) (k := 7) (x := "_law_cells") (fn := LW.f_law) rfl (by decide) rfl ⟨rfl, by decide, by decide⟩ (fun w h Y => PySem.W.kIn_of Y) ?F LW.plain
  case F =>
    intro w mg fa h KX G hmg
    refine' LW.all_mk KX G hmg ?aC_Rule ?a_words_behind ?l_words_behind ?c_words_behind ?k_words_behind ?a_is_rising ?l_is_rising ?c_is_rising ?k_is_rising ?a_is_kind_word ?l_is_kind_word ?c_is_kind_word ?k_is_kind_word ?a_read_kinds ?l_read_kinds ?c_read_kinds ?k_read_kinds ?a_is_bar ?l_is_bar ?c_is_bar ?k_is_bar ?a_read_bars ?l_read_bars ?c_read_bars ?k_read_bars ?a_read_text ?l_read_text ?c_read_text ?k_read_text ?a_Rule_init ?i_Rule_init ?l_Rule_init ?c_Rule_init ?k_Rule_init ?a_check_rule ?l_check_rule ?c_check_rule ?k_check_rule ?a_check_order ?l_check_order ?c_check_order ?k_check_order ?a_with_least_beginning ?l_with_least_beginning ?c_with_least_beginning ?k_with_least_beginning ?a_fits ?l_fits ?c_fits ?k_fits ?a_fitted ?l_fitted ?c_fitted ?k_fitted ?a_measure ?l_measure ?c_measure ?k_measure ?a_lowest ?l_lowest ?c_lowest ?k_lowest ?a_fit_share ?l_fit_share ?c_fit_share ?k_fit_share ?a_law_cup ?l_law_cup ?c_law_cup ?k_law_cup ?a_first_fit ?l_first_fit ?c_first_fit ?k_first_fit ?a_law_right ?l_law_right ?c_law_right ?k_law_right ?a_law_well ?l_law_well ?c_law_well ?k_law_well ?a_law ?l_law ?c_law ?k_law ?pg_Rule ?hd_Rule ?po_Rule ?sa_Rule ?mk_Rule ?kc_Rule ?n_Rule_text ?n_Rule_triples ?n_Rule_reach ?n_Rule_worth_of ?n_Rule_behind ?n_Rule_kinds ?n_Rule_worths ?n_Rule_bars ?o1_Rule ?o4_Rule ?o2 ?o3 ?z_abs ?z_all ?z_dict ?z_divmod ?z_int ?z_isinstance ?z_len ?z_max ?z_range ?z_sorted ?z_str ?z_sum ?z_tuple ?z_zip ?g_DIGITS ?g_DISTANCES ?g_LETTERS ?g_MOST_BARS ?g_MOST_KINDS ?e_DIGITS ?e_DISTANCES ?e_LETTERS
    (case aC_Rule => k_is)
    (case a_words_behind => k_is)
    (case l_words_behind => k_is)
    (case c_words_behind => k_is)
    (case k_words_behind => k_is)
    (case a_is_rising => k_is)
    (case l_is_rising => k_is)
    (case c_is_rising => k_is)
    (case k_is_rising => k_is)
    (case a_is_kind_word => k_is)
    (case l_is_kind_word => k_is)
    (case c_is_kind_word => k_is)
    (case k_is_kind_word => k_is)
    (case a_read_kinds => k_is)
    (case l_read_kinds => k_is)
    (case c_read_kinds => k_is)
    (case k_read_kinds => k_is)
    (case a_is_bar => k_is)
    (case l_is_bar => k_is)
    (case c_is_bar => k_is)
    (case k_is_bar => k_is)
    (case a_read_bars => k_is)
    (case l_read_bars => k_is)
    (case c_read_bars => k_is)
    (case k_read_bars => k_is)
    (case a_read_text => k_is)
    (case l_read_text => k_is)
    (case c_read_text => k_is)
    (case k_read_text => k_is)
    (case a_Rule_init => k_is)
    (case i_Rule_init => k_is)
    (case l_Rule_init => k_is)
    (case c_Rule_init => k_is)
    (case k_Rule_init => k_is)
    (case a_check_rule => k_is)
    (case l_check_rule => k_is)
    (case c_check_rule => k_is)
    (case k_check_rule => k_is)
    (case a_check_order => k_is)
    (case l_check_order => k_is)
    (case c_check_order => k_is)
    (case k_check_order => k_is)
    (case a_with_least_beginning => k_is)
    (case l_with_least_beginning => k_is)
    (case c_with_least_beginning => k_is)
    (case k_with_least_beginning => k_is)
    (case a_fits => k_is)
    (case l_fits => k_is)
    (case c_fits => k_is)
    (case k_fits => k_is)
    (case a_fitted => k_is)
    (case l_fitted => k_is)
    (case c_fitted => k_is)
    (case k_fitted => k_is)
    (case a_measure => k_is)
    (case l_measure => k_is)
    (case c_measure => k_is)
    (case k_measure => k_is)
    (case a_lowest => k_is)
    (case l_lowest => k_is)
    (case c_lowest => k_is)
    (case k_lowest => k_is)
    (case a_fit_share => k_is)
    (case l_fit_share => k_is)
    (case c_fit_share => k_is)
    (case k_fit_share => k_is)
    (case a_law_cup => k_is)
    (case l_law_cup => k_is)
    (case c_law_cup => k_is)
    (case k_law_cup => k_is)
    (case a_first_fit => k_is)
    (case l_first_fit => k_is)
    (case c_first_fit => k_is)
    (case k_first_fit => k_is)
    (case a_law_right => k_is)
    (case l_law_right => k_is)
    (case c_law_right => k_is)
    (case k_law_right => k_is)
    (case a_law_well => k_is)
    (case l_law_well => k_is)
    (case c_law_well => k_is)
    (case k_law_well => k_is)
    (case a_law => k_is)
    (case l_law => k_is)
    (case c_law => k_is)
    (case k_law => k_is)
    (case pg_Rule => k_is)
    (case hd_Rule => k_is)
    (case po_Rule => k_is)
    (case sa_Rule => k_is)
    (case mk_Rule => k_is)
    (case kc_Rule => k_is)
    (case n_Rule_text => k_is)
    (case n_Rule_triples => k_is)
    (case n_Rule_reach => k_is)
    (case n_Rule_worth_of => k_is)
    (case n_Rule_behind => k_is)
    (case n_Rule_kinds => k_is)
    (case n_Rule_worths => k_is)
    (case n_Rule_bars => k_is)
    (case o1_Rule => k_is)
    (case o4_Rule => k_is)
    (case o2 => k_is)
    (case o3 => k_is)
    (case z_abs => k_is)
    (case z_all => k_is)
    (case z_dict => k_is)
    (case z_divmod => k_is)
    (case z_int => k_is)
    (case z_isinstance => k_is)
    (case z_len => k_is)
    (case z_max => k_is)
    (case z_range => k_is)
    (case z_sorted => k_is)
    (case z_str => k_is)
    (case z_sum => k_is)
    (case z_tuple => k_is)
    (case z_zip => k_is)
    (case g_DIGITS => k_is)
    (case g_DISTANCES => k_is)
    (case g_LETTERS => k_is)
    (case g_MOST_BARS => k_is)
    (case g_MOST_KINDS => k_is)
    (case e_DIGITS => decide +kernel)
    (case e_DISTANCES => decide +kernel)
    (case e_LETTERS => decide +kernel)
