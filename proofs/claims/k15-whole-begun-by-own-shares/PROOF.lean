import PyProof.Rows.All
import Wide.All
import OpenK.AllK
import Wide.FinOn
import HandS.ForMost
import HandS.Walk
import HandS.ForExc
import HandS.CallSlots
import HandS.Wide
import HandS.TupAny
import HandS.TupMul
import HandS.Conv
import HandS.Deep
import HandS.Strs
import HandS.SetFor
import HandS.Zip
import HandS.IsInst
import HandS.TupSets
import HandS.Rev
import HandS.ExcIs
import HandS.More
import HandS.Text
import HandS.TryOnly
import HandS.ExcInit
import HandS.ExcField
import KE.KExcIs
import HandS.Codes
import HandS.Style
import KE.KDictDisplayH
import KE.KDictCopyH
import HandS.Iter
import HandS.DictTup
import PySem.Challenge.RW_longago_k15_whole_begun_by_own_shares
set_option Elab.async false
set_option linter.all false
set_option maxRecDepth 100000
set_option maxHeartbeats 4000000
namespace J
open PySem PySem.Spec L2

/-! ## data -/
inductive D where
  | non | bl (b : Bool) | int (i : Int) | str (x : Str)
  | tup (ds : List D) | lst (ds : List D) | kls (ds : List D)
  | ins (C : Addr) (ns : List Str) (ds : List D)
  | raw (v : V)
  | tp (ds : List D) | exc (a dd : Addr) (ns : List Str) (ds : List D)
  | dct (ks : List (List Key)) (ds : List D)

theorem sameT {K : PySem.W.Frag} {H H' : Hp} {a : Addr} {xs : List V} (e : Same H H') (h : SqT K H a xs) : SqT K H' a xs := by
  rcases h with (h | ⟨o, h⟩) | h
  · exact .inl (.inl (e _ _ h))
  · exact .inl (.inr ⟨o, e _ _ h⟩)
  · exact .inr h

inductive DP (K : PySem.W.Frag) (H : Hp) : V → D → Prop
  | non : DP K H .non .non
  | bl (b : Bool) : DP K H (.bl b) (.bl b)
  | int (i : Int) : DP K H (.int i) (.int i)
  | str (x : Str) : DP K H (.str x) (.str x)
  | tup {a : Addr} {xs : List V} {ds : List D} : SqT K H a xs → Paired (DP K H) xs ds → DP K H (.ref a) (.tup ds)
  | lst {a : Addr} {xs : List V} {ds : List D} : H a = some (.lst xs) → Paired (DP K H) xs ds → DP K H (.ref a) (.lst ds)
  | kls {a : Addr} {xs : List V} {ds : List D} : SqL K H a xs → Paired (DP K H) xs ds → DP K H (.ref a) (.kls ds)
  | ins {a C dx : Addr} {fs : List (Str × V)} {ns : List Str} {ds : List D} : H a = some (.ins C dx fs) → H dx = some (.own a) → ns = fs.map (·.1) → Paired (DP K H) (fs.map (·.2)) ds → DP K H (.ref a) (.ins C ns ds)
  | raw (v : V) : DP K H v (.raw v)
  | tp {a : Addr} {xs : List V} {ds : List D} : H a = some (.tup xs) → Paired (DP K H) xs ds → DP K H (.ref a) (.tp ds)
  | exc {a dd : Addr} {fs : List (Str × V)} {ns : List Str} {ds : List D} : H dd = some (.xd fs) → ns = fs.map (·.1) → Paired (DP K H) (fs.map (·.2)) ds → DP K H (.ref a) (.exc a dd ns ds)
  | dct {a : Addr} {es : List (List Key × V)} {ks : List (List Key)} {ds : List D} : H a = some (.dT es) → ks = es.map (·.1) → Paired (DP K H) (es.map (·.2)) ds → DP K H (.ref a) (.dct ks ds)
abbrev DPs (K : PySem.W.Frag) (H : Hp) : List V → List D → Prop := Paired (DP K H)

mutual
theorem DP.mono {K : PySem.W.Frag} {H H' : Hp} (s : Same H H') : ∀ (d : D) (v : V), DP K H v d → DP K H' v d
  | .non, _, h => by cases h; exact .non
  | .bl b, _, h => by cases h; exact .bl b
  | .int b, _, h => by cases h; exact .int b
  | .str b, _, h => by cases h; exact .str b
  | .raw b, _, h => by cases h; exact .raw b
  | .tup ds, _, h => by cases h with | tup q r => exact .tup (sameT s q) (DP.monoL s ds _ r)
  | .lst ds, _, h => by cases h with | lst q r => exact .lst (s _ _ q) (DP.monoL s ds _ r)
  | .kls ds, _, h => by cases h with | kls q r => exact .kls (s.seq q) (DP.monoL s ds _ r)
  | .ins C ns ds, _, h => by cases h with | ins q r e z => exact .ins (s _ _ q) (s _ _ r) e (DP.monoL s ds _ z)
  | .tp ds, _, h => by cases h with | tp q r => exact .tp (s _ _ q) (DP.monoL s ds _ r)
  | .exc a dd ns ds, _, h => by cases h with | exc q e z => exact .exc (s _ _ q) e (DP.monoL s ds _ z)
  | .dct ks ds, _, h => by cases h with | dct q e z => exact .dct (s _ _ q) e (DP.monoL s ds _ z)
theorem DP.monoL {K : PySem.W.Frag} {H H' : Hp} (s : Same H H') : ∀ (ds : List D) (vs : List V), Paired (DP K H) vs ds → Paired (DP K H') vs ds
  | [], _, h => by cases h; exact .nil
  | d :: ds, _, h => by cases h with | cons r t => exact .cons (DP.mono s d _ r) (DP.monoL s ds _ t)
end

/-! ### Paired -/
section
variable {α β : Type} {F : α → β → Prop}
theorem pget : ∀ {l : List α} {m : List β} {i : Nat} {b : β}, Paired F l m → m[i]? = some b → ∃ a, l[i]? = some a ∧ F a b
  | _, _, i, _, .nil, e => by simp at e
  | _, _, 0, _, .cons r _, e => by simp at e; subst e; exact ⟨_, rfl, r⟩
  | _, _, i + 1, b, .cons _ t, e => by
    obtain ⟨a, h1, h2⟩ := pget (i := i) (b := b) t (by simpa using e)
    exact ⟨a, by simpa using h1, h2⟩
theorem pgetL : ∀ {l : List α} {m : List β} {i : Nat} {a : α}, Paired F l m → l[i]? = some a → ∃ b, m[i]? = some b ∧ F a b
  | _, _, i, _, .nil, e => by simp at e
  | _, _, 0, _, .cons r _, e => by simp at e; subst e; exact ⟨_, rfl, r⟩
  | _, _, i + 1, b, .cons _ t, e => by
    obtain ⟨a, h1, h2⟩ := pgetL (i := i) (a := b) t (by simpa using e)
    exact ⟨a, by simpa using h1, h2⟩
theorem pset {a : α} {b : β} (r : F a b) : ∀ {l : List α} {m : List β} (i : Nat), Paired F l m → Paired F (l.set i a) (m.set i b)
  | _, _, _, .nil => .nil
  | _, _, 0, .cons _ t => .cons r t
  | _, _, i + 1, .cons q t => .cons q (pset r i t)
theorem papp : ∀ {l l' : List α} {m m' : List β}, Paired F l m → Paired F l' m' → Paired F (l ++ l') (m ++ m')
  | _, _, _, _, .nil, s => s
  | _, _, _, _, .cons r t, s => .cons r (papp t s)
theorem psplit : ∀ {l l' : List α} {m m' : List β}, l.length = m.length → Paired F (l ++ l') (m ++ m') → Paired F l m ∧ Paired F l' m'
  | [], _, [], _, _, h => ⟨.nil, h⟩
  | [], _, _ :: _, _, e, _ => by simp at e
  | _ :: _, _, [], _, e, _ => by simp at e
  | _ :: _, _, _ :: _, _, e, .cons r t => by
    obtain ⟨h1, h2⟩ := psplit (by simpa using e) t
    exact ⟨.cons r h1, h2⟩
theorem ptake : ∀ {l : List α} {m : List β} (n : Nat), Paired F l m → Paired F (l.take n) (m.take n)
  | _, _, 0, _ => .nil
  | _, _, _ + 1, .nil => .nil
  | _, _, n + 1, .cons r t => .cons r (ptake n t)
theorem pdrop : ∀ {l : List α} {m : List β} (n : Nat), Paired F l m → Paired F (l.drop n) (m.drop n)
  | _, _, 0, r => r
  | _, _, _ + 1, .nil => .nil
  | _, _, n + 1, .cons _ t => pdrop n t
theorem prev : ∀ {l : List α} {m : List β}, Paired F l m → Paired F l.reverse m.reverse
  | _, _, .nil => .nil
  | _, _, .cons r t => by
    rw [List.reverse_cons, List.reverse_cons]
    exact papp (prev t) (.cons r .nil)
theorem ppop : ∀ {l : List α} {m : List β}, Paired F l m → Paired F l.dropLast m.dropLast
  | l, m, h => by
    rw [List.dropLast_eq_take, List.dropLast_eq_take, h.length]
    exact ptake _ h
theorem perase : ∀ {l : List α} {m : List β} (i : Nat), Paired F l m → Paired F (l.eraseIdx i) (m.eraseIdx i)
  | _, _, _, .nil => .nil
  | _, _, 0, .cons _ t => t
  | _, _, i + 1, .cons r t => .cons r (perase i t)
theorem prep {a : α} {b : β} (r : F a b) : ∀ n : Nat, Paired F (List.replicate n a) (List.replicate n b)
  | 0 => .nil
  | n + 1 => .cons r (prep r n)
theorem pflat : ∀ {l : List (List α)} {m : List (List β)}, Paired (Paired F) l m → Paired F l.flatten m.flatten
  | _, _, .nil => .nil
  | _, _, .cons r t => papp r (pflat t)
end

/-! ## owned things -/
inductive Ow where
  | lst (ds : List D)
  | dK (kvs : List (Key × D))
  | dT (kvs : List (List Key × D))
  | ins (C : Addr) (ns : List Str) (ds : List D)
  | lkK (d : Addr) (o : Obj) (ks : List (Key × V)) (kvs : List (Key × D))
  | lkT (d : Addr) (o : Obj) (ks : List (List Key × V)) (kvs : List (List Key × D))
  | lsA (d : Addr) (ds : List D)
  | dTA (d : Addr) (kvs : List (List Key × D))
inductive Ent where
  | no | fz (d : D) | ow (o : Ow) | bw (k : Nat) (o : Ow)

def PK {κ : Type} (K : PySem.W.Frag) (F : Hp) : List (κ × V) → List (κ × D) → Prop := Paired fun (p : κ × V) (q : κ × D) => p.1 = q.1 ∧ DP K F p.2 q.2
def OwAt (K : PySem.W.Frag) (F H : Hp) (a : Addr) : Ow → Prop
  | .lst ds => ∃ xs, H a = some (.lst xs) ∧ DPs K F xs ds
  | .dK kvs => ∃ ks, H a = some (.dK ks) ∧ PK K F ks kvs
  | .dT kvs => ∃ ks, H a = some (.dT ks) ∧ PK K F ks kvs
  | .ins C ns ds => ∃ dx fs, H a = some (.ins C dx fs) ∧ F dx = some (.own a) ∧ ns = fs.map (·.1) ∧ DPs K F (fs.map (·.2)) ds
  | .lkK d o ks kvs => a = d ∧ H a = some (.frz o (.dK ks)) ∧ PK K F ks kvs
  | .lkT d o ks kvs => a = d ∧ H a = some (.frz o (.dT ks)) ∧ PK K F ks kvs
  | .lsA d ds => a = d ∧ ∃ xs, H a = some (.lst xs) ∧ DPs K F xs ds
  | .dTA d kvs => a = d ∧ ∃ ks, H a = some (.dT ks) ∧ PK K F ks kvs
theorem PK.mono {κ : Type} {K : PySem.W.Frag} {F F' : Hp} (s : Same F F') {l : List (κ × V)} {m : List (κ × D)} (h : PK K F l m) : PK K F' l m :=
  Paired.mapP h fun a b q => ⟨q.1, DP.mono s _ _ q.2⟩
theorem OwAt.mono {K : PySem.W.Frag} {F F' H H' : Hp} {a : Addr} {o : Ow} (s : Same F F') (e : H' a = H a) (h : OwAt K F H a o) : OwAt K F' H' a o := by
  cases o with
  | lst ds => obtain ⟨xs, h1, h2⟩ := h; exact ⟨xs, e.trans h1, DP.monoL s _ _ h2⟩
  | dK kvs => obtain ⟨ks, h1, h2⟩ := h; exact ⟨ks, e.trans h1, h2.mono s⟩
  | dT kvs => obtain ⟨ks, h1, h2⟩ := h; exact ⟨ks, e.trans h1, h2.mono s⟩
  | ins C ns ds => obtain ⟨dx, fs, h1, h2, h3, h4⟩ := h; exact ⟨dx, fs, e.trans h1, s _ _ h2, h3, DP.monoL s _ _ h4⟩
  | lkK d o ks kvs => obtain ⟨h0, h1, h2⟩ := h; exact ⟨h0, e.trans h1, h2.mono s⟩
  | lkT d o ks kvs => obtain ⟨h0, h1, h2⟩ := h; exact ⟨h0, e.trans h1, h2.mono s⟩
  | lsA d ds => obtain ⟨h0, xs, h1, h2⟩ := h; exact ⟨h0, xs, e.trans h1, DP.monoL s _ _ h2⟩
  | dTA d kvs => obtain ⟨h0, ks, h1, h2⟩ := h; exact ⟨h0, ks, e.trans h1, h2.mono s⟩
theorem OwAt.there {K : PySem.W.Frag} {F H : Hp} {a : Addr} {o : Ow} (h : OwAt K F H a o) : H a ≠ none := by
  intro z
  cases o <;> first
    | (obtain ⟨_, e, _⟩ := h; rw [z] at e; cases e)
    | (obtain ⟨_, _, e, _⟩ := h; rw [z] at e; cases e)

/-- no tuple -/
def NT (o : HO) : Prop := ∀ xs, o ≠ .tup xs
theorem OwAt.nt {K : PySem.W.Frag} {F H : Hp} {a : Addr} {o : Ow} (h : OwAt K F H a o) : ∃ x, H a = some x ∧ NT x := by
  cases o with
  | lst ds => obtain ⟨xs, e, _⟩ := h; exact ⟨_, e, fun xs z => by cases z⟩
  | dK ds => obtain ⟨xs, e, _⟩ := h; exact ⟨_, e, fun xs z => by cases z⟩
  | dT ds => obtain ⟨xs, e, _⟩ := h; exact ⟨_, e, fun xs z => by cases z⟩
  | ins C ns ds => obtain ⟨_, xs, e, _⟩ := h; exact ⟨_, e, fun xs z => by cases z⟩
  | lkK d o ks ds => obtain ⟨_, e, _⟩ := h; exact ⟨_, e, fun xs z => by cases z⟩
  | lkT d o ks ds => obtain ⟨_, e, _⟩ := h; exact ⟨_, e, fun xs z => by cases z⟩
  | lsA d ds => obtain ⟨_, xs, e, _⟩ := h; exact ⟨_, e, fun xs z => by cases z⟩
  | dTA d ds => obtain ⟨_, xs, e, _⟩ := h; exact ⟨_, e, fun xs z => by cases z⟩
/-- what a def had at its entry: what was frozen, the heap, the handed values, which addresses it may change -/
structure Bs where
  F0 : Hp
  H0 : Hp
  ps : List V
  M : Addr → Prop

def EntOk (K : PySem.W.Frag) (B : Bs) (F H : Hp) : Option V → Ent → Prop
  | _, .no => True
  | v, .fz d => ∃ x, v = some x ∧ DP K F x d
  | v, .ow o => ∃ a, v = some (.ref a) ∧ OwAt K F H a o ∧ B.H0 a = none
  | v, .bw k o => ∃ a, v = some (.ref a) ∧ OwAt K F H a o ∧ B.ps[k]? = some (.ref a) ∧ B.M a

def oad : Option V → Ent → List Addr
  | some (.ref a), .ow _ => [a]
  | some (.ref a), .bw _ _ => [a]
  | _, _ => []
def oads : St → List Ent → List Addr
  | v :: s, e :: g => oad v e ++ oads s g
  | _, _ => []

structure Conf (K : PySem.W.Frag) (B : Bs) (s : St) (F H : Hp) (G : List Ent) : Prop where
  fh : Same F H
  ff : Same B.F0 F
  keep : ∀ a o, ¬ B.M a → B.H0 a = some o → H a = some o
  there : ∀ a, B.H0 a ≠ none → H a ≠ none
  old : ∀ a, (∃ o, B.H0 a = some o ∧ NT o) → B.F0 a = none → F a = none ∧ ∃ o, H a = some o ∧ NT o
  env : Paired (EntOk K B F H) s G
  nd : (oads s G).Nodup
  own : ∀ a ∈ oads s G, F a = none

theorem EntOk.mono {K : PySem.W.Frag} {B : Bs} {F F' H H' : Hp} {v : Option V} {e : Ent} (s : Same F F') (k : ∀ a ∈ oad v e, H' a = H a) (h : EntOk K B F H v e) : EntOk K B F' H' v e := by
  cases e with
  | no => trivial
  | fz d => obtain ⟨x, e, p⟩ := h; exact ⟨x, e, DP.mono s _ _ p⟩
  | ow o => obtain ⟨a, e, p, n⟩ := h; subst e; exact ⟨a, rfl, p.mono s (k a (by simp [oad])), n⟩
  | bw i o => obtain ⟨a, e, p, n⟩ := h; subst e; exact ⟨a, rfl, p.mono s (k a (by simp [oad])), n⟩
theorem env_mono {K : PySem.W.Frag} {B : Bs} {F F' H H' : Hp} (s : Same F F') : ∀ {vs : St} {G : List Ent}, (∀ a ∈ oads vs G, H' a = H a) → Paired (EntOk K B F H) vs G → Paired (EntOk K B F' H') vs G
  | _, _, _, .nil => .nil
  | _, _, k, .cons r t => .cons (r.mono s fun a ha => k a (List.mem_append_left _ ha)) (env_mono s (fun a ha => k a (List.mem_append_right _ ha)) t)
theorem env_there {K : PySem.W.Frag} {B : Bs} {F H : Hp} : ∀ {vs : St} {G : List Ent}, Paired (EntOk K B F H) vs G → ∀ a ∈ oads vs G, H a ≠ none
  | _, _, .nil, a, h => by simp [oads] at h
  | v :: vs, e :: G, .cons r t, a, h => by
    rcases List.mem_append.mp h with h | h
    · cases e with
      | no => cases v with
        | none => simp [oad] at h
        | some x => cases x <;> simp [oad] at h
      | fz d => cases v with
        | none => simp [oad] at h
        | some x => cases x <;> simp [oad] at h
      | ow o => obtain ⟨b, e, p, _⟩ := r; subst e; simp [oad] at h; subst h; exact p.there
      | bw k o => obtain ⟨b, e, p, _⟩ := r; subst e; simp [oad] at h; subst h; exact p.there
    · exact env_there t a h
theorem env_nt {K : PySem.W.Frag} {B : Bs} {F H : Hp} : ∀ {vs : St} {G : List Ent}, Paired (EntOk K B F H) vs G → ∀ a ∈ oads vs G, ∃ x, H a = some x ∧ NT x
  | _, _, .nil, a, h => by simp [oads] at h
  | v :: vs, e :: G, .cons r t, a, h => by
    rcases List.mem_append.mp h with h | h
    · cases e with
      | no => cases v with
        | none => simp [oad] at h
        | some x => cases x <;> simp [oad] at h
      | fz d => cases v with
        | none => simp [oad] at h
        | some x => cases x <;> simp [oad] at h
      | ow o => obtain ⟨b, e, p, _⟩ := r; subst e; simp [oad] at h; subst h; exact p.nt
      | bw k o => obtain ⟨b, e, p, _⟩ := r; subst e; simp [oad] at h; subst h; exact p.nt
    · exact env_nt t a h
theorem oads_app : ∀ {s s' : St} {g g' : List Ent}, s.length = g.length → oads (s ++ s') (g ++ g') = oads s g ++ oads s' g'
  | [], _, [], _, _ => rfl
  | [], _, _ :: _, _, e => by simp at e
  | _ :: _, _, [], _, e => by simp at e
  | v :: s, s', x :: g, g', e => by
    show oad v x ++ oads (s ++ s') (g ++ g') = (oad v x ++ oads s g) ++ oads s' g'
    rw [oads_app (by simpa using e), List.append_assoc]
theorem oads_at : ∀ {s : St} {g : List Ent} {i : Nat} {v : Option V} {e : Ent}, s[i]? = some v → g[i]? = some e → ∀ a ∈ oad v e, a ∈ oads s g
  | [], _, i, _, _, h, _, _, _ => by simp at h
  | _ :: _, [], i, _, _, _, h, _, _ => by simp at h
  | v :: s, e :: g, 0, _, _, h1, h2, a, ha => by
    simp at h1 h2
    subst h1 h2
    exact List.mem_append_left _ ha
  | v :: s, e :: g, i + 1, _, _, h1, h2, a, ha => List.mem_append_right _ (oads_at (i := i) (by simpa using h1) (by simpa using h2) a ha)
/-- a slot is overwritten by what owns nothing, or by what owns new things -/
theorem oads_set : ∀ {s : St} {g : List Ent} {i : Nat} {v : Option V} {e : Ent}, s.length = g.length → ∀ {P : Addr → Prop}, (∀ a ∈ oads s g, ¬ P a) → (∀ a ∈ oad v e, P a) → (oads s g).Nodup → (oad v e).Nodup →
    (oads (s.set i v) (g.set i e)).Nodup ∧ ∀ a ∈ oads (s.set i v) (g.set i e), a ∈ oad v e ∨ a ∈ oads s g
  | [], [], i, v, e, _, P, _, _, _, _ => by simp [oads]
  | [], _ :: _, _, _, _, h, _, _, _, _, _ => by simp at h
  | _ :: _, [], _, _, _, h, _, _, _, _, _ => by simp at h
  | x :: s, y :: g, 0, v, e, h, P, h1, h2, h3, h4 => by
    show (oad v e ++ oads s g).Nodup ∧ ∀ a ∈ oad v e ++ oads s g, _
    have h3' : (oad x y ++ oads s g).Nodup := h3
    refine ⟨List.nodup_append.mpr ⟨h4, (List.nodup_append.mp h3').2.1, fun a ha b hb z => ?_⟩, fun a ha => ?_⟩
    · subst z
      exact h1 a (List.mem_append_right _ hb) (h2 a ha)
    · rcases List.mem_append.mp ha with ha | ha
      · exact .inl ha
      · exact .inr (List.mem_append_right _ ha)
  | x :: s, y :: g, i + 1, v, e, h, P, h1, h2, h3, h4 => by
    show (oad x y ++ oads (s.set i v) (g.set i e)).Nodup ∧ ∀ a ∈ oad x y ++ oads (s.set i v) (g.set i e), _
    have h3' : (oad x y ++ oads s g).Nodup := h3
    obtain ⟨k1, k2⟩ := oads_set (s := s) (g := g) (i := i) (v := v) (e := e) (by simpa using h) (P := P) (fun a ha => h1 a (List.mem_append_right _ ha)) h2 (List.nodup_append.mp h3').2.1 h4
    refine ⟨List.nodup_append.mpr ⟨(List.nodup_append.mp h3').1, k1, fun a ha b hb z => ?_⟩, fun a ha => ?_⟩
    · subst z
      rcases k2 a hb with q | q
      · exact h1 a (List.mem_append_left _ ha) (h2 a q)
      · exact (List.nodup_append.mp h3').2.2 a ha a q rfl
    · rcases List.mem_append.mp ha with ha | ha
      · exact .inr (List.mem_append_left _ ha)
      · rcases k2 a ha with q | q
        · exact .inl q
        · exact .inr (List.mem_append_right _ q)
/-- a slot's entry changes, its value stays: what it owns does not grow -/
theorem oads_same : ∀ {s : St} {g : List Ent} {i : Nat} {v : Option V} {e e' : Ent}, s[i]? = some v → g[i]? = some e → (∀ a ∈ oad v e', a ∈ oad v e) → (oad v e').Nodup → (oads s g).Nodup →
    (oads s (g.set i e')).Nodup ∧ ∀ a ∈ oads s (g.set i e'), a ∈ oads s g
  | [], _, _, _, _, _, h, _, _, _, _ => by simp at h
  | _ :: _, [], _, _, _, _, _, h, _, _, _ => by simp at h
  | x :: s, y :: g, 0, v, e, e', h1, h2, h3, h4, h5 => by
    simp at h1 h2
    subst h1 h2
    have h5' : (oad x y ++ oads s g).Nodup := h5
    show (oad x e' ++ oads s g).Nodup ∧ ∀ a ∈ oad x e' ++ oads s g, a ∈ oad x y ++ oads s g
    refine ⟨List.nodup_append.mpr ⟨h4, (List.nodup_append.mp h5').2.1, fun a ha b hb z => (List.nodup_append.mp h5').2.2 a (h3 a ha) b hb z⟩, fun a ha => ?_⟩
    rcases List.mem_append.mp ha with ha | ha
    · exact List.mem_append_left _ (h3 a ha)
    · exact List.mem_append_right _ ha
  | x :: s, y :: g, i + 1, v, e, e', h1, h2, h3, h4, h5 => by
    have h5' : (oad x y ++ oads s g).Nodup := h5
    obtain ⟨k1, k2⟩ := oads_same (s := s) (g := g) (i := i) (e' := e') (by simpa using h1) (by simpa using h2) h3 h4 (List.nodup_append.mp h5').2.1
    show (oad x y ++ oads s (g.set i e')).Nodup ∧ ∀ a ∈ oad x y ++ oads s (g.set i e'), a ∈ oad x y ++ oads s g
    refine ⟨List.nodup_append.mpr ⟨(List.nodup_append.mp h5').1, k1, fun a ha b hb z => (List.nodup_append.mp h5').2.2 a ha b (k2 b hb) z⟩, fun a ha => ?_⟩
    rcases List.mem_append.mp ha with ha | ha
    · exact List.mem_append_left _ ha
    · exact List.mem_append_right _ (k2 a ha)
/-- another slot's own address -/
theorem oads_other : ∀ {s : St} {g : List Ent} {i : Nat} {a : Addr} {e : Ent}, s.length = g.length → (oads s g).Nodup → s[i]? = some (some (.ref a)) → g[i]? = some e → oad (some (.ref a)) e = [a] → a ∉ oads (s.set i none) (g.set i .no)
  | [], _, _, _, _, _, _, h, _, _ => by simp at h
  | _ :: _, [], _, _, _, _, _, _, h, _ => by simp at h
  | x :: s, y :: g, 0, a, e, _, nd, h1, h2, h3 => by
    simp at h1 h2
    subst h1 h2
    have nd' : (oad (some (.ref a)) y ++ oads s g).Nodup := nd
    rw [h3] at nd'
    show a ∉ oad none .no ++ oads s g
    exact (List.nodup_cons.mp nd').1
  | x :: s, y :: g, i + 1, a, e, hl, nd, h1, h2, h3 => by
    have nd' : (oad x y ++ oads s g).Nodup := nd
    have ih := oads_other (s := s) (g := g) (i := i) (a := a) (e := e) (by simpa using hl) (List.nodup_append.mp nd').2.1 (by simpa using h1) (by simpa using h2) h3
    show a ∉ oad x y ++ oads (s.set i none) (g.set i .no)
    intro z
    rcases List.mem_append.mp z with z | z
    · exact (List.nodup_append.mp nd').2.2 a z a (oads_at (i := i) (by simpa using h1) (by simpa using h2) a (by rw [h3]; simp)) rfl
    · exact ih z
end J

namespace J
open PySem PySem.Spec L2

section
variable {K : PySem.W.Frag} {B : Bs} {F H : Hp} {s : St} {g : List Ent}

theorem Conf.len (c : Conf K B s F H g) : s.length = g.length := c.env.length
theorem Conf.at (c : Conf K B s F H g) {i : Nat} {e : Ent} (h : g[i]? = some e) : ∃ v, s[i]? = some v ∧ EntOk K B F H v e := pget c.env h
theorem Conf.pop {v : Option V} {e : Ent} (c : Conf K B (v :: s) F H (e :: g)) : Conf K B s F H g where
  fh := c.fh
  ff := c.ff
  keep := c.keep
  there := c.there
  old := c.old
  env := by cases c.env with | cons _ t => exact t
  nd := (List.nodup_append.mp (show (oad v e ++ oads s g).Nodup from c.nd)).2.1
  own := fun a ha => c.own a (List.mem_append_right _ ha)
theorem oad_fz (v : Option V) (d : D) : oad v (.fz d) = [] := by
  cases v with
  | none => rfl
  | some x => cases x <;> rfl
theorem oad_no (v : Option V) : oad v .no = [] := by
  cases v with
  | none => rfl
  | some x => cases x <;> rfl
/-- what owns nothing comes on top -/
theorem Conf.push {v : Option V} {e : Ent} (c : Conf K B s F H g) (h : EntOk K B F H v e) (n : oad v e = []) : Conf K B (v :: s) F H (e :: g) where
  fh := c.fh
  ff := c.ff
  keep := c.keep
  there := c.there
  old := c.old
  env := .cons h c.env
  nd := by show (oad v e ++ oads s g).Nodup; rw [n]; exact c.nd
  own := fun a ha => by
    have ha' : a ∈ oad v e ++ oads s g := ha
    rw [n] at ha'
    exact c.own a ha'
theorem Conf.fz {v : V} {d : D} (c : Conf K B s F H g) (h : DP K F v d) : Conf K B (some v :: s) F H (.fz d :: g) := c.push ⟨v, rfl, h⟩ (oad_fz _ _)
theorem same_upd {H : Hp} {p : Addr} {o : HO} (h : H p = none) : Same H (upd H p o) := fun b x e => by
  rw [upd_ne (ne_of_none e h)]
  exact e
theorem Conf.fresh {p : Addr} (c : Conf K B s F H g) (h : H p = none) : F p = none := Same.free c.fh h
/-- a new thing, frozen at once -/
theorem Conf.alloc {p : Addr} {o : HO} (c : Conf K B s F H g) (h : H p = none) : Conf K B s (upd F p o) (upd H p o) g where
  fh := fun b x e => by
    by_cases hb : b = p
    · subst hb; rw [upd_same] at e; rw [upd_same]; exact e
    · rw [upd_ne hb] at e; rw [upd_ne hb]; exact c.fh b x e
  ff := c.ff.trans (same_upd (c.fresh h))
  keep := fun a x m e => by rw [upd_ne (ne_of_none (c.keep a x m e) h)]; exact c.keep a x m e
  there := fun a z e => c.there a z (by
    by_cases hb : a = p
    · subst hb; exact h
    · rw [upd_ne hb] at e; exact e)
  old := fun a z e => by
    have : a ≠ p := fun q => by subst q; obtain ⟨o', eo, _⟩ := z; exact c.there a (by rw [eo]; simp) h
    rw [upd_ne this, upd_ne this]; exact c.old a z e
  env := env_mono (same_upd (c.fresh h)) (fun a ha => upd_ne fun q => env_there c.env a ha (by rw [q]; exact h)) c.env
  nd := c.nd
  own := fun a ha => by
    rw [upd_ne fun q => env_there c.env a ha (by rw [q]; exact h)]
    exact c.own a ha
theorem oad_ow (a : Addr) (o : Ow) : oad (some (.ref a)) (.ow o) = [a] := rfl
theorem oad_bw (a : Addr) (k : Nat) (o : Ow) : oad (some (.ref a)) (.bw k o) = [a] := rfl
/-- a new thing of one's own -/
theorem Conf.new {p : Addr} {ho : HO} {o : Ow} (c : Conf K B s F H g) (h : H p = none) (q : OwAt K F (upd H p ho) p o) : Conf K B (some (.ref p) :: s) F (upd H p ho) (.ow o :: g) where
  fh := fun b x e => by rw [upd_ne (ne_of_none (c.fh b x e) h)]; exact c.fh b x e
  ff := c.ff
  keep := fun a x m e => by rw [upd_ne (ne_of_none (c.keep a x m e) h)]; exact c.keep a x m e
  there := fun a z e => c.there a z (by
    by_cases hb : a = p
    · subst hb; exact h
    · rw [upd_ne hb] at e; exact e)
  old := fun a z e => by
    have : a ≠ p := fun q => by subst q; obtain ⟨o', eo, _⟩ := z; exact c.there a (by rw [eo]; simp) h
    rw [upd_ne this]; exact c.old a z e
  env := .cons ⟨p, rfl, q, by
    cases e : B.H0 p with
    | none => rfl
    | some x => exact absurd h (c.there p (by rw [e]; simp))⟩ (env_mono (Same.refl F) (fun a ha => upd_ne fun z => env_there c.env a ha (by rw [z]; exact h)) c.env)
  nd := by
    show ([p] ++ oads s g).Nodup
    exact List.nodup_cons.mpr ⟨fun ha => env_there c.env p ha h, c.nd⟩
  own := fun a ha => by
    rcases List.mem_append.mp (show a ∈ [p] ++ oads s g from ha) with ha | ha
    · simp at ha; subst ha; exact c.fresh h
    · exact c.own a ha
theorem OldB {a b : Addr} {ho : HO} {o' : Ow} (c : Conf K B s F H g) (q : OwAt K F (upd H a ho) a o') (z : ∃ o, B.H0 b = some o ∧ NT o) (e : B.F0 b = none) : F b = none ∧ ∃ o, upd H a ho b = some o ∧ NT o := by
  obtain ⟨k1, k2⟩ := c.old b z e
  by_cases w : b = a
  · subst w; exact ⟨k1, q.nt⟩
  · rw [upd_ne w]; exact ⟨k1, k2⟩
theorem OldW {a b : Addr} {ho : HO} (c : Conf K B s F H g) (n : B.H0 a = none) (z : ∃ o, B.H0 b = some o ∧ NT o) (e : B.F0 b = none) : F b = none ∧ ∃ o, upd H a ho b = some o ∧ NT o := by
  have : b ≠ a := fun w => by subst w; obtain ⟨o', eo, _⟩ := z; rw [n] at eo; cases eo
  rw [upd_ne this]; exact c.old b z e
/-- what is owned at slot i is written -/
theorem Conf.write {i : Nat} {a : Addr} {ho : HO} {o o' : Ow} (c : Conf K B s F H g) (hi : g[i]? = some (.ow o)) (hv : s[i]? = some (some (.ref a))) (q : OwAt K F (upd H a ho) a o') :
    Conf K B s F (upd H a ho) (g.set i (.ow o')) := by
  obtain ⟨v, e, h⟩ := c.at hi
  rw [hv] at e; cases e
  obtain ⟨b, e, p, n⟩ := h
  cases e
  have ha : a ∈ oads s g := oads_at hv hi a (by simp [oad])
  have hF : F a = none := c.own a ha
  obtain ⟨nd', sub⟩ := oads_same (e' := .ow o') hv hi (fun b hb => hb) (by simp [oad]) c.nd
  refine ⟨fun b x e => ?_, c.ff, fun b x m e => ?_, fun b z e => ?_, fun b z e => OldW c n z e, ?_, nd', fun b hb => c.own b (sub b hb)⟩
  · rw [upd_ne (ne_of_none e hF)]; exact c.fh b x e
  · have : b ≠ a := fun z => by subst z; rw [n] at e; cases e
    rw [upd_ne this]; exact c.keep b x m e
  · have : b ≠ a := fun z' => by subst z'; exact z n
    rw [upd_ne this] at e; exact c.there b z e
  · -- the other entries stand
    have other := oads_other c.len c.nd hv hi rfl
    have e1 : Paired (EntOk K B F H) (s.set i none) (g.set i .no) := pset trivial i c.env
    have e2 := env_mono (H' := upd H a ho) (Same.refl F) (fun b hb => upd_ne fun z => other (z ▸ hb)) e1
    have e3 : Paired (EntOk K B F (upd H a ho)) ((s.set i none).set i (some (.ref a))) ((g.set i .no).set i (.ow o')) := pset ⟨a, rfl, q, n⟩ i e2
    rw [List.set_set, List.set_set] at e3
    have : s.set i (some (.ref a)) = s := by
      have hlt := (List.getElem?_eq_some_iff.mp hv)
      obtain ⟨hl, he⟩ := hlt
      rw [← he]; exact List.set_getElem_self hl
    rwa [this] at e3
theorem Conf.writeB {i k : Nat} {a : Addr} {ho : HO} {o o' : Ow} (c : Conf K B s F H g) (hi : g[i]? = some (.bw k o)) (hv : s[i]? = some (some (.ref a))) (q : OwAt K F (upd H a ho) a o') :
    Conf K B s F (upd H a ho) (g.set i (.bw k o')) := by
  obtain ⟨v, e, h⟩ := c.at hi
  rw [hv] at e; cases e
  obtain ⟨b, e, p, n, m⟩ := h
  cases e
  have ha : a ∈ oads s g := oads_at hv hi a (by simp [oad])
  have hF : F a = none := c.own a ha
  obtain ⟨nd', sub⟩ := oads_same (e' := .bw k o') hv hi (fun b hb => hb) (by simp [oad]) c.nd
  refine ⟨fun b x e => ?_, c.ff, fun b x m' e => ?_, fun b z e => ?_, fun b z e => OldB c q z e, ?_, nd', fun b hb => c.own b (sub b hb)⟩
  · rw [upd_ne (ne_of_none e hF)]; exact c.fh b x e
  · have : b ≠ a := fun z => by subst z; exact m' m
    rw [upd_ne this]; exact c.keep b x m' e
  · by_cases hb : b = a
    · subst hb; rw [upd_same] at e; cases e
    · rw [upd_ne hb] at e; exact c.there b z e
  · have other := oads_other c.len c.nd hv hi rfl
    have e1 : Paired (EntOk K B F H) (s.set i none) (g.set i .no) := pset trivial i c.env
    have e2 := env_mono (H' := upd H a ho) (Same.refl F) (fun b hb => upd_ne fun z => other (z ▸ hb)) e1
    have e3 : Paired (EntOk K B F (upd H a ho)) ((s.set i none).set i (some (.ref a))) ((g.set i .no).set i (.bw k o')) := pset ⟨a, rfl, q, n, m⟩ i e2
    rw [List.set_set, List.set_set] at e3
    have : s.set i (some (.ref a)) = s := by
      have hlt := (List.getElem?_eq_some_iff.mp hv)
      obtain ⟨hl, he⟩ := hlt
      rw [← he]; exact List.set_getElem_self hl
    rwa [this] at e3
/-- an entry is forgotten -/
theorem Conf.forget {i : Nat} (c : Conf K B s F H g) : Conf K B s F H (g.set i .no) := by
  by_cases hl : i < g.length
  · have hg : g[i]? = some g[i] := List.getElem?_eq_getElem hl
    have hs : s[i]? = some (s[i]'(by rw [c.len]; exact hl)) := List.getElem?_eq_getElem _
    obtain ⟨nd', sub⟩ := oads_same (e' := .no) hs hg (fun b hb => by rw [oad_no] at hb; cases hb) (by rw [oad_no]; exact List.nodup_nil) c.nd
    have e1 : Paired (EntOk K B F H) (s.set i (s[i]'(by rw [c.len]; exact hl))) (g.set i .no) := pset trivial i c.env
    rw [List.set_getElem_self] at e1
    exact ⟨c.fh, c.ff, c.keep, c.there, c.old, e1, nd', fun b hb => c.own b (sub b hb)⟩
  · rw [List.set_eq_of_length_le (by omega)]; exact c
/-- an own list is frozen -/
@[reducible] def frzOw : Ow → Option D
  | .lst ds => some (.lst ds)
  | .ins C ns ds => some (.ins C ns ds)
  | .lsA _ ds => some (.lst ds)
  | _ => none
theorem Conf.freeze {i : Nat} {o : Ow} {d : D} (c : Conf K B s F H g) (hi : g[i]? = some (.ow o)) (hf : frzOw o = some d) : ∃ F', Same F F' ∧ Conf K B s F' H (g.set i (.fz d)) := by
  obtain ⟨v, hv, h⟩ := c.at hi
  obtain ⟨a, e, p, n⟩ := h
  subst e
  have ha : a ∈ oads s g := oads_at hv hi a (by simp [oad])
  have hF : F a = none := c.own a ha
  obtain ⟨x, hx⟩ : ∃ x, H a = some x := by
    cases e : H a with
    | none => exact absurd e p.there
    | some x => exact ⟨x, rfl⟩
  have sm : Same F (upd F a x) := same_upd hF
  have dp : DP K (upd F a x) (.ref a) d := by
    cases o with
    | lst ds =>
      obtain ⟨xs, h1, h2⟩ := p
      rw [hx] at h1; cases h1
      have hf' : D.lst ds = d := Option.some.inj hf
      subst hf'
      exact .lst upd_same (DP.monoL sm _ _ h2)
    | ins C ns ds =>
      obtain ⟨dx, fs, h1, h2, h3, h4⟩ := p
      rw [hx] at h1; cases h1
      have hf' : D.ins C ns ds = d := Option.some.inj hf
      subst hf'
      exact .ins upd_same (sm _ _ h2) h3 (DP.monoL sm _ _ h4)
    | dK _ => cases hf
    | dT _ => cases hf
    | lkK _ _ _ _ => cases hf
    | lkT _ _ _ _ => cases hf
    | lsA a0 ds =>
      obtain ⟨_, xs, h1, h2⟩ := p
      rw [hx] at h1; cases h1
      have hf' : D.lst ds = d := Option.some.inj hf
      subst hf'
      exact .lst upd_same (DP.monoL sm _ _ h2)
    | dTA _ _ => cases hf
  obtain ⟨nd', sub⟩ := oads_same (e' := .fz d) hv hi (fun b hb => by rw [oad_fz] at hb; cases hb) (by rw [oad_fz]; exact List.nodup_nil) c.nd
  have other := oads_other c.len c.nd hv hi rfl
  have e1 : Paired (EntOk K B F H) (s.set i none) (g.set i .no) := pset trivial i c.env
  have e2 := env_mono (H' := H) sm (fun b hb => rfl) e1
  have e3 : Paired (EntOk K B (upd F a x) H) ((s.set i none).set i (some (.ref a))) ((g.set i .no).set i (.fz d)) := pset ⟨_, rfl, dp⟩ i e2
  rw [List.set_set, List.set_set] at e3
  have es : s.set i (some (.ref a)) = s := by
    obtain ⟨hl, he⟩ := List.getElem?_eq_some_iff.mp hv
    rw [← he]; exact List.set_getElem_self hl
  rw [es] at e3
  refine ⟨upd F a x, sm, fun b y e => ?_, c.ff.trans sm, c.keep, c.there, fun b z e => ?_, e3, nd', fun b hb => ?_⟩
  · by_cases hb : b = a
    · subst hb; rw [upd_same] at e; cases e; exact hx
    · rw [upd_ne hb] at e; exact c.fh b y e
  · have : b ≠ a := fun q => by subst q; obtain ⟨o', eo, _⟩ := z; rw [n] at eo; cases eo
    rw [upd_ne this]; exact c.old b z e
  · have hne : b ≠ a := fun z => by
      subst z
      -- b is owned elsewhere too: no
      have : b ∈ oads (s.set i none) (g.set i .no) := by
        have hb' := hb
        have hl : i < g.length := (List.getElem?_eq_some_iff.mp hi).1
        -- the entries at i own nothing in both
        have key : ∀ {s : St} {g : List Ent} {i : Nat} {v w : Option V} {e f : Ent}, oad v e = [] → oad w f = [] → s.length = g.length → oads (s.set i v) (g.set i e) = oads (s.set i w) (g.set i f) := by
          intro s
          induction s with
          | nil => intro g i v w e f _ _ _; rfl
          | cons x s ih =>
            intro g i v w e f h1 h2 hl
            cases g with
            | nil => simp at hl
            | cons y g =>
              cases i with
              | zero => show oad v e ++ oads s g = oad w f ++ oads s g; rw [h1, h2]
              | succ i => show oad x y ++ oads (s.set i v) (g.set i e) = oad x y ++ oads (s.set i w) (g.set i f); rw [ih h1 h2 (by simpa using hl)]
        rw [← key (oad_fz (some (.ref b)) d) (oad_no none) c.len, es]
        exact hb'
      exact other this
    rw [upd_ne hne]; exact c.own b (sub b hb)
/-- the top goes to a slot -/
theorem Conf.store {i : Nat} {t : St} {z : List Ent} {v : Option V} {e : Ent} (hl : t.length = z.length) (c : Conf K B (v :: (t ++ s)) F H (e :: (z ++ g))) : Conf K B (t ++ s.set i v) F H (z ++ g.set i e) := by
  have nd := (List.nodup_append.mp (show (oad v e ++ oads (t ++ s) (z ++ g)).Nodup from c.nd))
  have own := c.own
  have le : (t ++ s).length = (z ++ g).length := c.pop.len
  cases c.env with
  | cons r tl =>
    by_cases hi : i < s.length
    · have es : t ++ s.set i v = (t ++ s).set (t.length + i) v := by
        rw [List.set_append_right _ _ (by omega)]; congr 2; omega
      have eg : z ++ g.set i e = (z ++ g).set (t.length + i) e := by
        rw [List.set_append_right _ _ (by omega)]; congr 2; omega
      rw [es, eg]
      obtain ⟨k1, k2⟩ := oads_set (i := t.length + i) (v := v) (e := e) le (P := fun a => a ∈ oad v e) (fun a ha q => nd.2.2 a q a ha rfl) (fun a ha => ha) nd.2.1 nd.1
      refine ⟨c.fh, c.ff, c.keep, c.there, c.old, pset r _ tl, k1, fun a ha => ?_⟩
      rcases k2 a ha with q | q
      · exact own a (List.mem_append_left _ q)
      · exact own a (List.mem_append_right _ q)
    · have hg : g.length ≤ i := by
        have : t.length + s.length = z.length + g.length := by simpa using le
        omega
      rw [List.set_eq_of_length_le (by omega), List.set_eq_of_length_le hg]
      exact c.pop
theorem set_app {α : Type} {t s : List α} {i : Nat} {v : α} : (t ++ s).set (t.length + i) v = t ++ s.set i v := by
  rw [List.set_append_right _ _ (by omega)]; congr 2; omega
theorem get_app {α : Type} {t s : List α} {i : Nat} : (t ++ s)[t.length + i]? = s[i]? := by
  rw [List.getElem?_append_right (by omega)]; congr 1; omega
end
end J

namespace J
open PySem PySem.Spec L2

/-! ## what a piece of code means, by itself -/
def tS (X : Cx) (e : Expr) : TE := fun s H Q => ∀ pins sh, Inv X pins s H sh → wpAny (model X.prog X.w) X.A (eval e X.env) (EP X pins s Q) X.xe sh
def tT (X : Cx) (e : Expr) : TT := fun s H Q => ∀ pins sh, Inv X pins s H sh → wpAny (model X.prog X.w) X.A (isTrue e X.env (eval e X.env)) (TP X pins s Q) X.xe sh
def tW (X : Cx) (e : Expr) : TT := fun s H Q => ∀ whole pins sh, Inv X pins s H sh → wpAny (model X.prog X.w) X.A (isTrue e X.env whole) (TP X pins s Q) X.xe sh
def tAr (X : Cx) (es : List Expr) : TA := fun s H Q => ∀ pos pins sh, Inv X pins s H sh → wpAny (model X.prog X.w) X.A (spliced (backTo pos (starEach es X.env))) (AP X pins s Q) X.xe sh
def tSt (X : Cx) (st : Stmt) : TS := fun D s H => ∀ pins sh, Inv X pins s H sh → wpAny (model X.prog X.w) X.A (exec st X.env) (SP X pins D) X.xe sh
def tSs (X : Cx) (st : List Stmt) : TS := fun D s H => ∀ pins sh, Inv X pins s H sh → wpAny (model X.prog X.w) X.A (execs st X.env) (SP X pins D) X.xe sh
def tGt (X : Cx) (tg : Expr) : TG := fun v s H Q => ∀ pins sh u, Inv X pins s H sh → RelV v u → wpAny (model X.prog X.w) X.A (assign tg X.env u) (fun _ s' => ∃ s2 H', Inv X pins s2 H' s' ∧ Q s2 H') X.xe sh
def tIt (X : Cx) (tg iter : Expr) : TI := fun s H R => ∀ pins sh, Inv X pins s H sh → wpAny (model X.prog X.w) X.A (eval iter X.env) (fun v s1 => wpAny (model X.prog X.w) X.A (pyIter v) (PIE X pins s tg R) X.xe s1) X.xe sh
section
variable {X : Cx} {e tg : Expr} {es : List Expr} {st : Stmt} {sts : List Stmt}
theorem pe_sem : PE X e (tS X e) := ⟨fun pins s _ _ _ I h => h pins s I⟩
theorem pt_sem : PT X e (tT X e) := ⟨fun pins s _ _ _ I h => h pins s I⟩
theorem pw_sem : PW X e (tW X e) := ⟨fun wh pins s _ _ _ I h => h wh pins s I⟩
theorem pa_sem : PA X es (tAr X es) := ⟨fun pos pins s _ _ _ I h => h pos pins s I⟩
theorem ps_sem : PS X st (tSt X st) := ⟨fun pins s _ _ _ I h => h pins s I⟩
theorem pss_sem : PSs X sts (tSs X sts) := ⟨fun pins s _ _ _ I h => h pins s I⟩
theorem pg_sem : PG X tg (tGt X tg) := ⟨fun pins s _ _ _ u _ I r h => h pins s u I r⟩
theorem pi_sem : PI X tg e (tIt X tg e) := ⟨fun pins s _ _ _ I h => h pins s I⟩
theorem tS_of {t : TE} (h : PE X e t) {s : St} {H : Hp} {Q : VK} (q : t s H Q) : tS X e s H Q := fun pins sh I => h.run pins sh s H Q I q
theorem tT_of {t : TT} (h : PT X e t) {s : St} {H : Hp} {Q : Bool → Hp → Prop} (q : t s H Q) : tT X e s H Q := fun pins sh I => h.run pins sh s H Q I q
theorem tW_of {t : TT} (h : PW X e t) {s : St} {H : Hp} {Q : Bool → Hp → Prop} (q : t s H Q) : tW X e s H Q := fun wh pins sh I => h.run wh pins sh s H Q I q
theorem tAr_of {t : TA} (h : PA X es t) {s : St} {H : Hp} {Q : List V → Hp → Prop} (q : t s H Q) : tAr X es s H Q := fun pos pins sh I => h.run pos pins sh s H Q I q
theorem tSt_of {t : TS} (h : PS X st t) {s : St} {H : Hp} {D : Ends} (q : t D s H) : tSt X st D s H := fun pins sh I => h.run pins sh s H D I q
theorem tSs_of {t : TS} (h : PSs X sts t) {s : St} {H : Hp} {D : Ends} (q : t D s H) : tSs X sts D s H := fun pins sh I => h.run pins sh s H D I q
theorem tGt_of {t : TG} (h : PG X tg t) {v : V} {s : St} {H : Hp} {Q : St → Hp → Prop} (q : t v s H Q) : tGt X tg v s H Q := fun pins sh u I r => h.run pins sh s H v u Q I r q
theorem tIt_of {t : TI} (h : PI X tg e t) {s : St} {H : Hp} {R : It → Hp → Prop} (q : t s H R) : tIt X tg e s H R := fun pins sh I => h.run pins sh s H R I q
end

/-! ## exceptions -/
structure XD where
  C : Addr
  fs : List (Str × D)
def XOk (K : PySem.W.Frag) (F H : Hp) (x : XD) (od : Option Addr) : Prop :=
  (x.fs = [] ∧ od = none) ∨ (x.fs ≠ [] ∧ ∃ dx fv, od = some dx ∧ F dx = some (.xd fv) ∧ PK K F fv x.fs)
/-- what is wished of exceptions: over the slots; over the entries -/
structure XW where
  W : WX
  R : XD → List Ent → Prop
def XW.non : XW := ⟨fun _ _ _ _ => False, fun _ _ => False⟩

/-- the names of a def or a block: all by slot; the scope; the slots that may be read, stored; the module's and built-in names -/
structure Sc where
  N : List Str
  sc : Scope
  vi : List Nat
  li : List Nat
  gl : List Str
def okName (x : Str) : Bool := !(x == ("__debug__" : Str)) && !(x == ("__classdict__" : Str)) && !(x == ("__name__" : Str))
def Sc.ok (S : Sc) : Bool :=
  (S.vi.all fun i => match S.N[i]? with
    | some x => okName x && (match S.sc.names.lookup x with | some .local => true | some .cell => true | some .free => true | _ => false)
    | none => false) &&
  (S.li.all fun i => match S.N[i]? with
    | some x => okName x && (match S.sc.names.lookup x with | some .local => true | some .cell => true | _ => false)
    | none => false) &&
  (S.gl.all fun x => okName x && (match S.sc.names.lookup x with | some .globalImplicit => true | _ => false)) && decide S.N.Nodup
/-- where one stands -/
structure CJ (P : Program) (w : World) (K : PySem.W.Frag) (mg : Str → Option Value) (base : Heap) (S : Sc) (k : Nat) (X : Cx) (B : Bs) (E : XW) : Prop where
  hprog : X.prog = P
  hw : X.w = w
  hK : X.K = K
  hmg : X.mg = mg
  hbase : X.base = base
  hN : X.N = S.N
  hsc : X.env.scope = S.sc
  ok : S.ok = true
  fn : ∀ (i : Nat) (x : Str), i ∈ S.li → S.N[i]? = some x → X.fn x = true ∨ S.sc.names.lookup x = some .local
  calm : X.calm = true
  hr : Room k X.A
  po : PassesOwn (model X.prog X.w) X.A X.env X.xe
  tk : Takes X E.W
  ind : ∀ cls d s s' H, E.W cls d s H → E.W cls d s' H
  lk : ∀ (t s : St) (z : List Ent) (F H : Hp) (G : List Ent) (x : XD) (od : Option Addr), t.length = z.length → Conf X.K B (t ++ s) F H (z ++ G) → XOk X.K F H x od → E.R x G → E.W (.ref x.C) od s H
section
variable {P : Program} {w : World} {K : PySem.W.Frag} {mg : Str → Option Value} {base : Heap} {S : Sc} {k : Nat} {X : Cx} {B : Bs} {E : XW}
theorem okName_of {x : Str} (h : okName x = true) : (x == ("__debug__" : Str)) = false ∧ (x == ("__classdict__" : Str)) = false ∧ x ≠ "__name__" := by
  simp only [okName, Bool.and_eq_true, Bool.not_eq_true'] at h
  exact ⟨h.1.1, h.1.2, fun z => by rw [z] at h; simp at h⟩
theorem Sc.vis (ok : S.ok = true) {i : Nat} {x : Str} (h : i ∈ S.vi) (hN : S.N[i]? = some x) : okName x = true ∧ Vis S.sc x := by
  simp only [Sc.ok, Bool.and_eq_true, List.all_eq_true] at ok
  have := ok.1.1.1 i h
  rw [hN] at this
  have := Bool.and_eq_true_iff.mp this
  refine ⟨this.1, ?_⟩
  have := this.2
  split at this
  · exact .inl (by assumption)
  · exact .inr (.inl (by assumption))
  · exact .inr (.inr (by assumption))
  · cases this
theorem Sc.loc (ok : S.ok = true) {i : Nat} {x : Str} (h : i ∈ S.li) (hN : S.N[i]? = some x) : Loc S.sc x := by
  simp only [Sc.ok, Bool.and_eq_true, List.all_eq_true] at ok
  have := ok.1.1.2 i h
  rw [hN] at this
  simp only [Bool.and_eq_true] at this
  have := this.2
  split at this
  · exact .inl (by assumption)
  · exact .inr (by assumption)
  · cases this
theorem Sc.glb (ok : S.ok = true) {j : Nat} {x : Str} (h : S.gl[j]? = some x) : okName x = true ∧ S.sc.names.lookup x = some .globalImplicit := by
  simp only [Sc.ok, Bool.and_eq_true, List.all_eq_true] at ok
  have := ok.1.2 x (List.mem_of_getElem? h)
  refine ⟨this.1, ?_⟩
  have := this.2
  split at this
  · assumption
  · cases this
theorem Sc.nd (ok : S.ok = true) : S.N.Nodup := by
  simp only [Sc.ok, Bool.and_eq_true, decide_eq_true_eq] at ok
  exact ok.2
theorem CJ.gl (cj : CJ P w K mg base S k X B E) {j : Nat} {x : Str} (h : S.gl[j]? = some x) : Gl X x := by
  show X.env.scope.names.lookup x = _
  rw [cj.hsc]; exact (Sc.glb cj.ok h).2
theorem CJ.vis (cj : CJ P w K mg base S k X B E) {i : Nat} {x : Str} (h : i ∈ S.vi) (hN : S.N[i]? = some x) : Vis X.env.scope x := by
  rw [cj.hsc]; exact (Sc.vis cj.ok h hN).2
theorem CJ.loc (cj : CJ P w K mg base S k X B E) {i : Nat} {x : Str} (h : i ∈ S.li) (hN : S.N[i]? = some x) : Loc X.env.scope x := by
  rw [cj.hsc]; exact Sc.loc cj.ok h hN
theorem CJ.fn' (cj : CJ P w K mg base S k X B E) {i : Nat} {x : Str} (h : i ∈ S.li) (hN : S.N[i]? = some x) : X.fn x = true ∨ X.env.scope.names.lookup x = some .local := by
  rw [cj.hsc]; exact cj.fn i x h hN
theorem CJ.xN (cj : CJ P w K mg base S k X B E) {i : Nat} {x : Str} (hN : S.N[i]? = some x) : X.N[i]? = some x := by rw [cj.hN]; exact hN
theorem CJ.nd (cj : CJ P w K mg base S k X B E) : X.N.Nodup := by rw [cj.hN]; exact Sc.nd cj.ok
theorem CJ.dbg (cj : CJ P w K mg base S k X B E) {j : Nat} {x : Str} (h : S.gl[j]? = some x) : (x == ("__debug__" : Str)) = false := (okName_of (Sc.glb cj.ok h).1).1
theorem CJ.nnm (cj : CJ P w K mg base S k X B E) {j : Nat} {x : Str} (h : S.gl[j]? = some x) : x ≠ "__name__" := (okName_of (Sc.glb cj.ok h).1).2.2
end

/-! ## judgements over data -/
def IsR : Ent → Prop
  | .fz _ => True
  | .ow _ => True
  | _ => False
/-- an expression whose value is frozen -/
def JV (X : Cx) (B : Bs) (e : Expr) (G : List Ent) (Q : D → List Ent → Prop) : Prop :=
  ∀ (t s : St) (z : List Ent) (F H : Hp) (VQ : VK), t.length = z.length → Conf X.K B (t ++ s) F H (z ++ G) →
    (∀ v F' H' d G', Conf X.K B (some v :: (t ++ s)) F' H' (.fz d :: (z ++ G')) → Q d G' → VQ v H') → tS X e s H VQ
/-- .. or one's own -/
def JE (X : Cx) (B : Bs) (e : Expr) (G : List Ent) (Q : Ent → List Ent → Prop) : Prop :=
  ∀ (t s : St) (z : List Ent) (F H : Hp) (VQ : VK), t.length = z.length → Conf X.K B (t ++ s) F H (z ++ G) →
    (∀ v F' H' r G', Conf X.K B (some v :: (t ++ s)) F' H' (r :: (z ++ G')) → IsR r → Q r G' → VQ v H') → tS X e s H VQ
def JT (X : Cx) (B : Bs) (e : Expr) (G : List Ent) (Q : Bool → List Ent → Prop) : Prop :=
  ∀ (t s : St) (z : List Ent) (F H : Hp) (TQ : Bool → Hp → Prop), t.length = z.length → Conf X.K B (t ++ s) F H (z ++ G) →
    (∀ b F' H' G', Conf X.K B (t ++ s) F' H' (z ++ G') → Q b G' → TQ b H') → tT X e s H TQ
def JW (X : Cx) (B : Bs) (e : Expr) (G : List Ent) (Q : Bool → List Ent → Prop) : Prop :=
  ∀ (t s : St) (z : List Ent) (F H : Hp) (TQ : Bool → Hp → Prop), t.length = z.length → Conf X.K B (t ++ s) F H (z ++ G) →
    (∀ b F' H' G', Conf X.K B (t ++ s) F' H' (z ++ G') → Q b G' → TQ b H') → tW X e s H TQ
inductive Arg where
  | v (d : D) | b (i : Nat)
def Arg.ent : Arg → Ent
  | .v d => .fz d
  | .b _ => .no
def ArgB (s : St) (v : V) : Arg → Prop
  | .v _ => True
  | .b i => s[i]? = some (some v)
def JA (X : Cx) (B : Bs) (es : List Expr) (G : List Ent) (Q : List Arg → List Ent → Prop) : Prop :=
  ∀ (t s : St) (z : List Ent) (F H : Hp) (AQ : List V → Hp → Prop), t.length = z.length → Conf X.K B (t ++ s) F H (z ++ G) →
    (∀ vs as F' H' G', Conf X.K B ((vs.map some).reverse ++ (t ++ s)) F' H' ((as.map Arg.ent).reverse ++ (z ++ G')) → Paired (ArgB s) vs as → Q as G' → AQ vs H') → tAr X es s H AQ
structure Dn where
  nx : List Ent → Prop
  rt : Ent → List Ent → Prop
  bk : List Ent → Prop := fun _ => False
  ct : List Ent → Prop := fun _ => False
structure DOk (X : Cx) (B : Bs) (t : St) (z : List Ent) (n : Nat) (D : Dn) (De : Ends) : Prop where
  nx : ∀ s' F' H' G', s'.length = n → Conf X.K B (t ++ s') F' H' (z ++ G') → D.nx G' → De.nx s' H'
  rt : ∀ v s' F' H' r G', Conf X.K B (some v :: (t ++ s')) F' H' (r :: (z ++ G')) → IsR r → D.rt r G' → De.rt v H'
  bk : ∀ s' F' H' G', s'.length = n → Conf X.K B (t ++ s') F' H' (z ++ G') → D.bk G' → De.bk s' H'
  ct : ∀ s' F' H' G', s'.length = n → Conf X.K B (t ++ s') F' H' (z ++ G') → D.ct G' → De.ct s' H'
def JS (X : Cx) (B : Bs) (st : Stmt) (G : List Ent) (D : Dn) : Prop :=
  ∀ (t s : St) (z : List Ent) (F H : Hp) (De : Ends), t.length = z.length → Conf X.K B (t ++ s) F H (z ++ G) → DOk X B t z s.length D De → tSt X st De s H
def JSs (X : Cx) (B : Bs) (sts : List Stmt) (G : List Ent) (D : Dn) : Prop :=
  ∀ (t s : St) (z : List Ent) (F H : Hp) (De : Ends), t.length = z.length → Conf X.K B (t ++ s) F H (z ++ G) → DOk X B t z s.length D De → tSs X sts De s H
/-- a target gets what stands on top -/
def JG (X : Cx) (B : Bs) (L : List Nat) (tg : Expr) (r : Ent) (G : List Ent) (Q : List Ent → Prop) : Prop :=
  ∀ (t s : St) (z : List Ent) (F H : Hp) (v : V) (GQ : St → Hp → Prop), t.length = z.length → Conf X.K B (some v :: (t ++ s)) F H (r :: (z ++ G)) → IsR r →
    (∀ s' F' H' G', s'.length = s.length → (∀ i : Nat, i ∉ L → s'[i]? = s[i]?) → Conf X.K B (t ++ s') F' H' (z ++ G') → Q G' → GQ s' H') → tGt X tg v s H GQ

/-! ## from one to the other -/
section
variable {X : Cx} {B : Bs} {e : Expr} {G : List Ent}
theorem JV.je {Q : Ent → List Ent → Prop} (h : JV X B e G fun d G' => Q (.fz d) G') : JE X B e G Q := fun t s z F H VQ hl c k =>
  h t s z F H VQ hl c fun v F' H' d G' c' q => k v F' H' (.fz d) G' c' trivial q
/-- the data that something is, once frozen -/
@[reducible] def Frz (r : Ent) (q : D → Prop) : Prop :=
  match r with
  | .fz d => q d
  | .ow o => match frzOw o with
    | some d => q d
    | none => False
  | _ => False
theorem JE.jv {Q : D → List Ent → Prop} (h : JE X B e G fun r G' => Frz r fun d => Q d G') : JV X B e G Q := fun t s z F H VQ hl c k =>
  h t s z F H VQ hl c fun v F' H' r G' c' ir q => by
    cases r with
    | no => exact ir.elim
    | bw _ _ => exact ir.elim
    | fz d => exact k v F' H' d G' c' q
    | ow o =>
      cases ef : frzOw o with
      | none => exact absurd q (by simp [Frz, ef])
      | some d =>
        have q : Q d G' := by simpa [Frz, ef] using q
        obtain ⟨F2, _, c2⟩ := c'.freeze (i := 0) (o := o) rfl ef
        exact k v F2 H' d G' c2 q
theorem JV.imp {Q Q' : D → List Ent → Prop} (h : JV X B e G Q) (i : ∀ d G', Q d G' → Q' d G') : JV X B e G Q' := fun t s z F H VQ hl c k =>
  h t s z F H VQ hl c fun v F' H' d G' c' q => k v F' H' d G' c' (i d G' q)
theorem JE.imp {Q Q' : Ent → List Ent → Prop} (h : JE X B e G Q) (i : ∀ d G', Q d G' → Q' d G') : JE X B e G Q' := fun t s z F H VQ hl c k =>
  h t s z F H VQ hl c fun v F' H' d G' c' ir q => k v F' H' d G' c' ir (i d G' q)
theorem JT.imp {Q Q' : Bool → List Ent → Prop} (h : JT X B e G Q) (i : ∀ d G', Q d G' → Q' d G') : JT X B e G Q' := fun t s z F H VQ hl c k =>
  h t s z F H VQ hl c fun b F' H' G' c' q => k b F' H' G' c' (i b G' q)
theorem JW.jt {Q : Bool → List Ent → Prop} (h : JW X B e G Q) : JT X B e G Q := fun t s z F H VQ hl c k => fun pins sh I => h t s z F H VQ hl c k _ pins sh I
end

/-! ## statements in a row -/
section
variable {X : Cx} {B : Bs} {G : List Ent} {D : Dn} {st : Stmt} {sts : List Stmt}
theorem JSs.nil (h : D.nx G) : JSs X B [] G D := fun t s z F H De hl c k => tSs_of pss_nil (k.nx s F H G rfl c h)
theorem JSs.cons (h : JS X B st G { D with nx := fun G' => JSs X B sts G' D }) : JSs X B (st :: sts) G D := fun t s z F H De hl c k =>
  tSs_of (pss_cons ps_sem pss_sem) (h t s z F H _ hl c ⟨fun s' F' H' G' e c' q => q t s' z F' H' De hl c' (by rw [e]; exact k), k.rt, k.bk, k.ct⟩)
theorem JSs.one (h : JS X B st G D) : JSs X B [st] G D := fun t s z F H De hl c k => tSs_of (pss_one ps_sem) (h t s z F H De hl c k)
theorem JSs.imp {D' : Dn} (h : JSs X B sts G D) (n : ∀ G', D.nx G' → D'.nx G') (r : ∀ x G', D.rt x G' → D'.rt x G') (b : ∀ G', D.bk G' → D'.bk G') (ct : ∀ G', D.ct G' → D'.ct G') : JSs X B sts G D' := fun t s z F H De hl c k =>
  h t s z F H De hl c ⟨fun s' F' H' G' e c' q => k.nx s' F' H' G' e c' (n G' q), fun v s' F' H' x G' c' i q => k.rt v s' F' H' x G' c' i (r x G' q), fun s' F' H' G' e c' q => k.bk s' F' H' G' e c' (b G' q), fun s' F' H' G' e c' q => k.ct s' F' H' G' e c' (ct G' q)⟩
/-- ahead of a statement: an own list is frozen; something is forgotten -/
theorem JSs.freeze (i : Nat) {o : Ow} {d : J.D} (hi : G[i]? = some (.ow o)) (hf : frzOw o = some d) (h : JSs X B sts (G.set i (.fz d)) D) : JSs X B sts G D := fun t s z F H De hl c k => by
  have hi' : (z ++ G)[z.length + i]? = some (.ow o) := by rw [get_app]; exact hi
  obtain ⟨F2, _, c2⟩ := c.freeze hi' hf
  rw [set_app] at c2
  exact h t s z F2 H De hl c2 k
theorem JSs.forget (i : Nat) (h : JSs X B sts (G.set i .no) D) : JSs X B sts G D := fun t s z F H De hl c k => by
  have c2 := c.forget (i := z.length + i)
  rw [set_app] at c2
  exact h t s z F H De hl c2 k
variable {pos : Pos}
theorem JS.pass (h : D.nx G) : JS X B (.Pass pos) G D := fun t s z F H De hl c k => tSt_of ps_pass (k.nx s F H G rfl c h)
theorem JS.brk (h : D.bk G) : JS X B (.Break pos) G D := fun t s z F H De hl c k => tSt_of ps_break (k.bk s F H G rfl c h)
theorem JS.cont (h : D.ct G) : JS X B (.Continue pos) G D := fun t s z F H De hl c k => tSt_of ps_continue (k.ct s F H G rfl c h)
theorem JS.ret {e : Expr} (h : JE X B e G D.rt) : JS X B (.Return (some e) pos) G D := fun t s z F H De hl c k =>
  tSt_of (ps_ret pe_sem) (h t s z F H _ hl c fun v F' H' r G' c' ir q => k.rt v s F' H' r G' c' ir q)
theorem JS.retN (h : D.rt (.fz .non) G) : JS X B (.Return none pos) G D := fun t s z F H De hl c k =>
  tSt_of ps_retN (k.rt .non s F H (.fz .non) G (c.fz .non) trivial h)
theorem JS.never : (h : False) → JS X B st G D := fun h => h.elim
theorem JS.ite {c : Expr} {a b : List Stmt} (h : JT X B c G fun k G' => (k = true → JSs X B a G' D) ∧ (k = false → JSs X B b G' D)) : JS X B (.If c a b pos) G D := fun t s z F H De hl cf k =>
  tSt_of (ps_if pt_sem pss_sem pss_sem) (h t s z F H _ hl cf fun k' F' H' G' c' q => by
    cases k' with
    | true => exact q.1 rfl t s z F' H' De hl c' k
    | false => exact q.2 rfl t s z F' H' De hl c' k)
theorem JS.drop {e : Expr} (h : JE X B e G fun _ G' => D.nx G') (hs : swapsWith e none pos.line X.env = pure false := by rfl) : JS X B (.Expr e pos) G D := fun t s z F H De hl c k =>
  tSt_of (ps_expr pe_sem hs) (h t s z F H _ hl c fun v F' H' r G' c' ir q => k.nx s F' H' G' rfl c'.pop q)
/-- target = value -/
theorem JS.asg (L : List Nat) {tg e : Expr} (h : JE X B e G fun r G' => JG X B L tg r G' D.nx) (hs : swapsWithSole [tg] e pos.line X.env = pure false := by rfl) (hw : swappedStores [tg] e X.env = pure none := by rfl)
    (h1 : (assignEach [tg] X.env).map (·.2) = [assign tg X.env] := by rfl) : JS X B (.Assign [tg] e pos) G D := fun t s z F H De hl c k =>
  tSt_of (ps_asg pe_sem pg_sem hs hw h1) (h t s z F H _ hl c fun v F' H' r G' c' ir q => q t s z F' H' v _ hl c' ir fun s' F2 H2 G2 e _ c2 q2 => k.nx s' F2 H2 G2 e c2 q2)
theorem JS.while_ {c : Expr} {body : List Stmt} (hp : PassesOwn (model X.prog X.w) X.A X.env X.xe) (I : List Ent → Prop) (m : List Ent → Nat) (h0 : I G)
    (hs : ∀ G', I G' → JT X B c G' fun b G2 => (b = true → JSs X B body G2 { D with nx := fun G3 => I G3 ∧ m G3 < m G', ct := fun G3 => I G3 ∧ m G3 < m G', bk := D.nx }) ∧ (b = false → D.nx G2)) : JS X B (.While c body [] pos) G D := fun t s z F H De hl cf k =>
  tSt_of (ps_while hp pt_sem pss_sem) (by
    refine ⟨fun n s' H' => ∃ F' G', s'.length = s.length ∧ Conf X.K B (t ++ s') F' H' (z ++ G') ∧ I G' ∧ m G' = n, ⟨m G, F, G, rfl, cf, h0, rfl⟩, ?_⟩
    rintro n s1 H1 ⟨F1, G1, e1, c1, i1, rfl⟩
    refine hs G1 i1 t s1 z F1 H1 _ hl c1 fun b F2 H2 G2 c2 q2 => ?_
    cases b with
    | true =>
      rw [if_pos rfl]
      refine ⟨fun s' H' => ∃ F' G', s'.length = s.length ∧ Conf X.K B (t ++ s') F' H' (z ++ G') ∧ I G' ∧ m G' < m G1, fun s' H' ⟨F', G', a, b, c, d⟩ => ⟨_, d, F', G', a, b, c, rfl⟩, ?_⟩
      exact q2.1 rfl t s1 z F2 H2 _ hl c2 ⟨fun s' F' H' G' e c' q => ⟨F', G', e.trans e1, c', q⟩, k.rt, fun s' F' H' G' e c' q => k.nx s' F' H' G' (e.trans e1) c' q, fun s' F' H' G' e c' q => ⟨F', G', e.trans e1, c', q⟩⟩
    | false =>
      rw [if_neg Bool.false_ne_true]
      exact k.nx s1 F2 H2 G2 e1 c2 (q2.2 rfl))
end
end J

namespace J
open PySem PySem.Spec L2

/-! ## promises of defs -/
inductive Par where
  | v (d : D) | b (o : Ow)
def parEnts : Nat → List Par → List Ent
  | _, [] => []
  | k, .v d :: ps => .fz d :: parEnts (k + 1) ps
  | k, .b o :: ps => .bw k o :: parEnts (k + 1) ps
abbrev Spec := List Par → (Ent → List (Nat × Ow) → Prop) → (XD → Prop) → Prop
def bws : List Ent → List (Nat × Ow)
  | [] => []
  | .bw k o :: g => (k, o) :: bws g
  | .no :: g => bws g
  | .fz _ :: g => bws g
  | .ow _ :: g => bws g
structure Fin (K : PySem.W.Frag) (B : Bs) (v : V) (F H : Hp) (r : Ent) (bs : List (Nat × Ow)) : Prop where
  c : Conf K B [some v] F H [r]
  ir : IsR r
  bs : ∀ p ∈ bs, ∃ a, B.ps[p.1]? = some (.ref a) ∧ B.M a ∧ OwAt K F H a p.2 ∧ F a = none
def SpJ (K : PySem.W.Frag) (S : Spec) : Sp := fun vs H Q E => ∃ (F : Hp) (ps : List Par) (B : Bs) (R : Ent → List (Nat × Ow) → Prop) (RX : XD → Prop),
  B.F0 = F ∧ B.H0 = H ∧ B.ps = vs ∧ Conf K B (vs.map some) F H (parEnts 0 ps) ∧ S ps R RX ∧
  (∀ v F' H' r bs, Fin K B v F' H' r bs → R r bs → Q v H') ∧
  (∀ x F' H' od, Conf K B [] F' H' [] → XOk K F' H' x od → RX x → E (.ref x.C) od H')

section
variable {K : PySem.W.Frag} {B B' : Bs} {F H F' H' : Hp} {s s' : St} {g g' : List Ent}
theorem mem_bws : ∀ {g : List Ent} {p : Nat × Ow}, p ∈ bws g → ∃ i : Nat, g[i]? = some (.bw p.1 p.2)
  | [], p, h => by cases h
  | .no :: g, p, h => by obtain ⟨i, e⟩ := mem_bws (g := g) h; exact ⟨i + 1, by simpa using e⟩
  | .fz _ :: g, p, h => by obtain ⟨i, e⟩ := mem_bws (g := g) h; exact ⟨i + 1, by simpa using e⟩
  | .ow _ :: g, p, h => by obtain ⟨i, e⟩ := mem_bws (g := g) h; exact ⟨i + 1, by simpa using e⟩
  | .bw k o :: g, p, h => by
    rcases List.mem_cons.mp h with e | h
    · subst e; exact ⟨0, rfl⟩
    · obtain ⟨i, e⟩ := mem_bws (g := g) h; exact ⟨i + 1, by simpa using e⟩
theorem Conf.nil (c : Conf K B s F H g) : Conf K B [] F H [] := ⟨c.fh, c.ff, c.keep, c.there, c.old, .nil, List.nodup_nil, fun _ h => by cases h⟩
theorem Conf.one {v : Option V} {r : Ent} (c : Conf K B (v :: s) F H (r :: g)) : Conf K B [v] F H [r] := by
  have nd := List.nodup_append.mp (show (oad v r ++ oads s g).Nodup from c.nd)
  cases c.env with
  | cons q _ => exact ⟨c.fh, c.ff, c.keep, c.there, c.old, .cons q .nil, by show (oad v r ++ []).Nodup; rw [List.append_nil]; exact nd.1, fun a ha => c.own a (List.mem_append_left _ (by have : a ∈ oad v r ++ [] := ha; rwa [List.append_nil] at this))⟩
theorem Conf.fin {v : V} {r : Ent} (c : Conf K B (some v :: s) F H (r :: g)) (ir : IsR r) : Fin K B v F H r (bws g) := ⟨c.one, ir, fun p hp => by
  obtain ⟨i, e⟩ := mem_bws hp
  obtain ⟨w, hw, a, q1, q2, q3, q4⟩ := c.pop.at e
  subst q1
  exact ⟨a, q3, q4, q2, c.pop.own a (oads_at hw e a (by simp [oad]))⟩⟩
theorem oads_nos : ∀ (n : Nat), oads (List.replicate n none) (List.replicate n Ent.no) = []
  | 0 => rfl
  | n + 1 => oads_nos n
theorem Conf.nos (c : Conf K B s F H g) (n : Nat) : Conf K B (s ++ List.replicate n none) F H (g ++ List.replicate n .no) := by
  have e := oads_app (s' := List.replicate n none) (g' := List.replicate n Ent.no) c.len
  rw [oads_nos, List.append_nil] at e
  exact ⟨c.fh, c.ff, c.keep, c.there, c.old, papp c.env (prep (F := EntOk K B F H) (a := none) (b := Ent.no) trivial n), by rw [e]; exact c.nd, fun a ha => c.own a (by rw [← e]; exact ha)⟩
theorem oads_disj : ∀ {s : St} {g : List Ent} {i j : Nat} {v w : Option V} {e f : Ent}, (oads s g).Nodup → i ≠ j → s[i]? = some v → g[i]? = some e → s[j]? = some w → g[j]? = some f → ∀ a ∈ oad v e, a ∉ oad w f
  | [], _, _, _, _, _, _, _, _, _, h, _, _, _ => by simp at h
  | _ :: _, [], _, _, _, _, _, _, _, _, _, h, _, _ => by simp at h
  | x :: s, y :: g, 0, 0, _, _, _, _, _, n, _, _, _, _ => absurd rfl n
  | x :: s, y :: g, 0, j + 1, v, w, e, f, nd, _, h1, h2, h3, h4 => fun a ha hb => by
    simp at h1 h2
    subst h1 h2
    exact (List.nodup_append.mp (show (oad x y ++ oads s g).Nodup from nd)).2.2 a ha a (oads_at (i := j) (by simpa using h3) (by simpa using h4) a hb) rfl
  | x :: s, y :: g, i + 1, 0, v, w, e, f, nd, _, h1, h2, h3, h4 => fun a ha hb => by
    simp at h3 h4
    subst h3 h4
    exact (List.nodup_append.mp (show (oad x y ++ oads s g).Nodup from nd)).2.2 a hb a (oads_at (i := i) (by simpa using h1) (by simpa using h2) a ha) rfl
  | x :: s, y :: g, i + 1, j + 1, v, w, e, f, nd, n, h1, h2, h3, h4 => fun a ha hb =>
    oads_disj (s := s) (g := g) (i := i) (j := j) (List.nodup_append.mp (show (oad x y ++ oads s g).Nodup from nd)).2.1 (fun z => n (by rw [z])) (by simpa using h1) (by simpa using h2) (by simpa using h3) (by simpa using h4) a ha hb
theorem oads_sub : ∀ {s : St} {g g2 : List Ent}, g2.length = g.length → (∀ (i : Nat) v e e2, s[i]? = some v → g[i]? = some e → g2[i]? = some e2 → oad v e2 = oad v e ∨ oad v e2 = []) → (oads s g2).Sublist (oads s g)
  | [], _, _, _, _ => by simp [oads]
  | _ :: _, [], [], _, _ => by simp [oads]
  | _ :: _, [], _ :: _, h, _ => by simp at h
  | _ :: _, _ :: _, [], h, _ => by simp at h
  | v :: s, e :: g, e2 :: g2, hl, h => by
    have ih := oads_sub (s := s) (g := g) (g2 := g2) (by simpa using hl) fun i v e e2 a b c => h (i + 1) v e e2 (by simpa using a) (by simpa using b) (by simpa using c)
    show (oad v e2 ++ oads s g2).Sublist (oad v e ++ oads s g)
    rcases h 0 v e e2 rfl rfl rfl with q | q
    · rw [q]; exact List.Sublist.append (List.Sublist.refl _) ih
    · rw [q]; exact (ih.trans (List.sublist_append_right _ _))
/-- behind a call: what was lent is as the callee left it -/
theorem Conf.rebuild {u : St} {g2 : List Ent} (c : Conf K B s F H g) (c' : Conf K B' u F' H' g') (e0 : B'.F0 = F) (e1 : B'.H0 = H) (hM : ∀ a, B'.M a → B.H0 a = none ∨ B.M a) (hl : g2.length = g.length)
    (h : ∀ (i : Nat) v e e2, s[i]? = some v → g[i]? = some e → g2[i]? = some e2 → (e2 = e ∧ ∀ a ∈ oad v e, ¬ B'.M a) ∨ (∃ a o o2, v = some (.ref a) ∧ ((e = .ow o ∧ e2 = .ow o2) ∨ ∃ m, e = .bw m o ∧ e2 = .bw m o2) ∧ OwAt K F' H' a o2 ∧ F' a = none) ∨ e2 = .no) :
    Conf K B s F' H' g2 := by
  have ff : Same F F' := by rw [← e0]; exact c'.ff
  have kp : ∀ a o, ¬ B'.M a → H a = some o → H' a = some o := fun a o m e => c'.keep a o m (by rw [e1]; exact e)
  have th : ∀ a, H a ≠ none → H' a ≠ none := fun a n => c'.there a (by rw [e1]; exact n)
  have od : ∀ a, (∃ o, H a = some o ∧ NT o) → F a = none → F' a = none ∧ ∃ o, H' a = some o ∧ NT o := fun a n m => c'.old a (by rw [e1]; exact n) (by rw [e0]; exact m)
  have sub : (oads s g2).Sublist (oads s g) := oads_sub hl fun i v e e2 h1 h2 h3 => by
    rcases h i v e e2 h1 h2 h3 with ⟨q, _⟩ | ⟨a, o, o2, ev, q, _⟩ | q
    · exact .inl (by rw [q])
    · subst ev
      rcases q with ⟨q1, q2⟩ | ⟨m, q1, q2⟩
      · exact .inl (by rw [q1, q2]; rfl)
      · exact .inl (by rw [q1, q2]; rfl)
    · exact .inr (by rw [q, oad_no])
  refine ⟨c'.fh, c.ff.trans ff, fun a o m e => ?_, fun a n => th a (c.there a n), fun a n m => let ⟨q1, q2⟩ := c.old a n m; od a q2 q1, ?_, c.nd.sublist sub, fun a ha => ?_⟩
  · by_cases hm : B'.M a
    · rcases hM a hm with z | z
      · rw [z] at e; cases e
      · exact absurd z m
    · exact kp a o hm (c.keep a o m e)
  · have all : ∀ {s : St} {g g2 : List Ent}, Paired (EntOk K B F H) s g → g2.length = g.length → (∀ (i : Nat) v e e2, s[i]? = some v → g[i]? = some e → g2[i]? = some e2 → EntOk K B F H v e → EntOk K B F' H' v e2) → Paired (EntOk K B F' H') s g2 := by
      intro s
      induction s with
      | nil => intro g g2 p hl _; cases p; cases g2 with
        | nil => exact .nil
        | cons _ _ => simp at hl
      | cons v s ih =>
        intro g g2 p hl f
        cases p with
        | cons q t =>
          cases g2 with
          | nil => simp at hl
          | cons e2 g2 => exact .cons (f 0 _ _ _ rfl rfl rfl q) (ih t (by simpa using hl) fun i v e e2 a b c => f (i + 1) v e e2 (by simpa using a) (by simpa using b) (by simpa using c))
    refine all c.env hl fun i v e e2 h1 h2 h3 ok => ?_
    rcases h i v e e2 h1 h2 h3 with ⟨q, nm⟩ | ⟨a, o, o2, ev, q, ow, _⟩ | q
    · subst q
      refine ok.mono ff fun a ha => ?_
      have hn : H a ≠ none := env_there c.env a (oads_at h1 h2 a ha)
      cases ex : H a with
      | none => exact absurd ex hn
      | some x => exact kp a x (nm a ha) ex
    · subst ev
      rcases q with ⟨q1, q2⟩ | ⟨m, q1, q2⟩
      · subst q1 q2
        obtain ⟨b, eb, _, n⟩ := ok
        cases eb
        exact ⟨a, rfl, ow, n⟩
      · subst q1 q2
        obtain ⟨b, eb, _, n⟩ := ok
        cases eb
        exact ⟨a, rfl, ow, n⟩
    · subst q; trivial
  · have ha' := sub.subset ha
    exact (od a (env_nt c.env a ha') (c.own a ha')).1
/-- .. and what it handed back comes on top -/
theorem Conf.result {v : V} {r : Ent} (c : Conf K B s F' H' g) (hn : ∀ a ∈ oads s g, H a ≠ none) (fi : Conf K B' [some v] F' H' [r]) (e1 : B'.H0 = H) (th : ∀ a, B.H0 a ≠ none → H a ≠ none) (ir : IsR r) : Conf K B (some v :: s) F' H' (r :: g) := by
  cases r with
  | no => exact ir.elim
  | bw _ _ => exact ir.elim
  | fz d =>
    cases fi.env with
    | cons q _ =>
      obtain ⟨x, ex, dp⟩ := q
      cases ex
      exact c.fz dp
  | ow o =>
    cases fi.env with
    | cons q _ =>
      obtain ⟨a, ea, ow, n⟩ := q
      cases ea
      have nH : H a = none := by rw [← e1]; exact n
      refine ⟨c.fh, c.ff, c.keep, c.there, c.old, .cons ⟨a, rfl, ow, ?_⟩ c.env, ?_, fun b hb => ?_⟩
      · cases eb : B.H0 a with
        | none => rfl
        | some x => exact absurd nH (th a (by rw [eb]; simp))
      · show ([a] ++ oads s g).Nodup
        exact List.nodup_cons.mpr ⟨fun ha => hn a ha nH, c.nd⟩
      · rcases List.mem_append.mp (show b ∈ [a] ++ oads s g from hb) with hb | hb
        · simp at hb; subst hb; exact fi.own b (by show b ∈ [b] ++ []; simp)
        · exact c.own b hb
end

section
variable {P : Program} {w : World} {K : PySem.W.Frag} {mg : Str → Option Value} {base : Heap}
theorem parEnts_len : ∀ (k : Nat) (ps : List Par), (parEnts k ps).length = ps.length
  | _, [] => rfl
  | k, .v d :: ps => by show (parEnts (k + 1) ps).length + 1 = ps.length + 1; rw [parEnts_len]
  | k, .b d :: ps => by show (parEnts (k + 1) ps).length + 1 = ps.length + 1; rw [parEnts_len]
/-- THE RULE for a def -/
theorem jfn {x qual : Str} {st : Stmt} {f : Addr} {fd : FuncData} {ps : List Str} {k : Nat} (Fu : Fun K x qual st f fd) (Z : Sc) (hz : Z.ok = true) (S : FnScope Z.N ps Z.sc) (spec : Spec) (len : ∀ as R RX, spec as R RX → as.length = ps.length)
    (body : ∀ (X : Cx) (B : Bs) (E : XW) (as : List Par) (R : Ent → List (Nat × Ow) → Prop) (RX : XD → Prop), CJ P w K mg base Z k X B E → (∀ x G, RX x → E.R x G) → spec as R RX →
      JSs X B (defBody st) (parEnts 0 as ++ List.replicate (Z.N.length - ps.length) .no) ⟨fun G' => R (.fz .non) (bws G'), fun r G' => R r (bws G'), fun _ => False, fun _ => False⟩) (hsc : Z.sc = defScope st := by rfl) :
    FnOk P w K mg base (L2.CX P w) (k + 1) f fd ps (SpJ K spec) := by
  have plen : ∀ {vs : List V} {H : Hp} {Q : VK} {E : XK}, SpJ K spec vs H Q E → vs.length = ps.length := fun {vs H Q E} h => by
    obtain ⟨F, as, B, R, RX, _, _, _, c, sp, _⟩ := h
    have := c.len
    rw [List.length_map, parEnts_len] at this
    rw [this]; exact len _ _ _ sp
  refine Fu.okX (hsc ▸ S) (fun vs H Q E h => plen h) fun cdv A outer s H vs Q E hr h => ?_
  have hlen := plen h
  obtain ⟨F, as, B, R, RX, e0, e1, e2, c, sp, hq, hx⟩ := h
  refine ⟨_, pss_sem, ?_⟩
  have cj : CJ P w K mg base Z k (cxOf (L2.CX P w) P w K mg base Z.N qual (defScope st) f cdv A outer s H E) B ⟨fun cls d _ H => E cls d H, fun x _ => RX x⟩ :=
    ⟨rfl, rfl, rfl, rfl, rfl, rfl, hsc.symm, hz, fun _ _ _ _ => .inl rfl, rfl, hr, passes_of rfl, takes_of rfl rfl rfl rfl, fun _ _ _ _ _ h => h, fun t s z F H G x od _ c xo r => hx x F H od c.nil xo r⟩
  have b := body _ B _ as R RX cj (fun _ _ h => h) sp
  refine b [] (L2.start Z.N vs) [] F H _ rfl ?_ ⟨fun s' F' H' G' _ c' q => ?_, fun v s' F' H' r G' c' ir q => ?_, fun _ _ _ _ _ _ q => q.elim, fun _ _ _ _ _ _ q => q.elim⟩
  · have := c.nos (Z.N.length - vs.length)
    rw [hlen] at this
    show Conf K B (L2.start Z.N vs) F H _
    unfold L2.start
    rw [hlen]
    exact this
  · exact hq _ F' H' _ _ ((c'.fz (v := .non) (d := .non) .non).fin trivial) q
  · exact hq v F' H' r _ (c'.fin ir) q
end

/-! ## calls -/
def findB (j : Nat) : Nat → List Arg → Option Nat
  | _, [] => none
  | k, .b i :: as => if i = j then some k else findB j (k + 1) as
  | k, .v _ :: as => findB j (k + 1) as
def newE (as : List Arg) (bs : List (Nat × Ow)) (j : Nat) (e : Ent) : Ent :=
  match findB j 0 as with
  | none => e
  | some k => match e, bs.lookup k with
    | .ow _, some o => .ow o
    | .bw m _, some o => .bw m o
    | _, _ => .no
def updB (as : List Arg) (bs : List (Nat × Ow)) : Nat → List Ent → List Ent
  | _, [] => []
  | j, e :: g => newE as bs j e :: updB as bs (j + 1) g
def entOw : Option Ent → Option Ow
  | some (.ow o) => some o
  | some (.bw _ o) => some o
  | _ => none
def parsOf (G : List Ent) : List Arg → List Par
  | [] => []
  | .v d :: as => .v d :: parsOf G as
  | .b i :: as => (match entOw G[i]? with | some o => .b o | none => .v .non) :: parsOf G as
def okB (G : List Ent) : List Arg → Bool
  | [] => true
  | .v _ :: as => okB G as
  | .b i :: as => (entOw G[i]?).isSome && (findB i 0 as).isNone && okB G as

theorem updB_len (as : List Arg) (bs : List (Nat × Ow)) : ∀ (j : Nat) (g : List Ent), (updB as bs j g).length = g.length
  | _, [] => rfl
  | j, e :: g => by show (updB as bs (j + 1) g).length + 1 = g.length + 1; rw [updB_len]
theorem updB_at (as : List Arg) (bs : List (Nat × Ow)) : ∀ (j : Nat) (g : List Ent) (i : Nat) (e : Ent), g[i]? = some e → (updB as bs j g)[i]? = some (newE as bs (j + i) e)
  | _, [], _, _, h => by simp at h
  | j, e :: g, 0, _, h => by simp at h; subst h; rfl
  | j, e :: g, i + 1, e', h => by
    show (updB as bs (j + 1) g)[i]? = _
    rw [updB_at as bs (j + 1) g i e' (by simpa using h)]
    congr 2; omega
theorem findB_none : ∀ {j k : Nat} {as : List Arg}, findB j k as = none → ∀ m : Nat, as[m]? ≠ some (Arg.b j)
  | _, _, [], _, m => by simp
  | j, k, .v d :: as, h, m => by
    cases m with
    | zero => simp
    | succ m => simpa using findB_none (k := k + 1) (as := as) h m
  | j, k, .b i :: as, h, m => by
    unfold findB at h
    split at h
    · cases h
    · rename_i n
      cases m with
      | zero => simp; exact n
      | succ m => simpa using findB_none (k := k + 1) (as := as) h m
theorem findB_some : ∀ {j k : Nat} {as : List Arg} {m : Nat}, findB j k as = some m → k ≤ m ∧ as[m - k]? = some (Arg.b j)
  | _, _, [], _, h => by cases h
  | j, k, .v d :: as, m, h => by
    obtain ⟨h1, h2⟩ := findB_some (k := k + 1) (as := as) h
    refine ⟨by omega, ?_⟩
    rw [show m - k = (m - (k + 1)) + 1 by omega]
    simpa using h2
  | j, k, .b i :: as, m, h => by
    unfold findB at h
    split at h
    · rename_i e
      cases h
      subst e
      exact ⟨Nat.le_refl _, by simp⟩
    · obtain ⟨h1, h2⟩ := findB_some (k := k + 1) (as := as) h
      refine ⟨by omega, ?_⟩
      rw [show m - k = (m - (k + 1)) + 1 by omega]
      simpa using h2
theorem okB_at : ∀ {G : List Ent} {as : List Arg} {k i : Nat}, okB G as = true → as[k]? = some (Arg.b i) → ∃ o, entOw G[i]? = some o
  | G, [], _, _, _, h => by simp at h
  | G, .v d :: as, 0, _, _, h => by simp at h
  | G, .v d :: as, k + 1, i, ok, h => okB_at (as := as) (k := k) ok (by simpa using h)
  | G, .b j :: as, 0, i, ok, h => by
    simp at h
    subst h
    simp only [okB, Bool.and_eq_true] at ok
    exact Option.isSome_iff_exists.mp ok.1.1
  | G, .b j :: as, k + 1, i, ok, h => by
    simp only [okB, Bool.and_eq_true] at ok
    exact okB_at (as := as) (k := k) ok.2 (by simpa using h)
theorem entOw_cases {e : Option Ent} {o : Ow} (h : entOw e = some o) : e = some (.ow o) ∨ ∃ m, e = some (.bw m o) := by
  unfold entOw at h
  split at h
  · cases h; exact .inl rfl
  · cases h; exact .inr ⟨_, rfl⟩
  · cases h

theorem lookupN_mem {α : Type} : ∀ {l : List (Nat × α)} {k : Nat} {v : α}, l.lookup k = some v → (k, v) ∈ l
  | [], _, _, h => by simp at h
  | (j, w) :: l, k, v, h => by
    rw [List.lookup_cons] at h
    cases e : k == j with
    | true =>
      rw [e] at h
      simp at h e
      subst h e
      exact List.mem_cons_self
    | false =>
      rw [e] at h
      exact List.mem_cons_of_mem _ (lookupN_mem (by simpa using h))
def lentM (vs : List V) (as : List Arg) : Addr → Prop := fun a => ∃ (k i : Nat), as[k]? = some (Arg.b i) ∧ vs[k]? = some (V.ref a)
section
variable {K : PySem.W.Frag} {B : Bs} {F H : Hp}
/-- the callee's own beginning -/
theorem Conf.enter {t s : St} {z G : List Ent} {vs : List V} {as : List Arg} (hl : t.length = z.length) (c : Conf K B ((vs.map some).reverse ++ (t ++ s)) F H ((as.map Arg.ent).reverse ++ (z ++ G))) (ab : Paired (ArgB s) vs as) (ok : okB G as = true) :
    Conf K ⟨F, H, vs, lentM vs as⟩ (vs.map some) F H (parEnts 0 (parsOf G as)) := by
  have hl2 : ((vs.map some).reverse).length = ((as.map Arg.ent).reverse).length := by simp [ab.length]
  obtain ⟨ea, eb⟩ := psplit hl2 c.env
  have ea : Paired (EntOk K B F H) (vs.map some) (as.map Arg.ent) := by
    have := prev ea
    rwa [List.reverse_reverse, List.reverse_reverse] at this
  have eG : Paired (EntOk K B F H) s G := (psplit hl eb).2
  have ndG : (oads s G).Nodup := by
    have := c.nd
    rw [oads_app hl2, oads_app hl] at this
    exact (List.nodup_append.mp (List.nodup_append.mp this).2.1).2.1
  have ownG : ∀ a ∈ oads s G, F a = none := fun a ha => c.own a (by
    rw [oads_app hl2, oads_app hl]
    exact List.mem_append_right _ (List.mem_append_right _ ha))
  -- the entries, one by one
  have go : ∀ (vs' : List V) (as' : List Arg) (k : Nat) (M : Addr → Prop) (ps : List V), Paired (ArgB s) vs' as' → Paired (EntOk K B F H) (vs'.map some) (as'.map Arg.ent) → okB G as' = true →
      (∀ j, ps[k + j]? = vs'[j]?) → (∀ (j i : Nat) (a : Addr), as'[j]? = some (Arg.b i) → vs'[j]? = some (V.ref a) → M a) →
      Paired (EntOk K ⟨F, H, ps, M⟩ F H) (vs'.map some) (parEnts k (parsOf G as')) ∧ (oads (vs'.map some) (parEnts k (parsOf G as'))).Nodup ∧
      (∀ a ∈ oads (vs'.map some) (parEnts k (parsOf G as')), F a = none ∧ ∃ (j i : Nat), as'[j]? = some (Arg.b i) ∧ s[i]? = some (some (V.ref a))) := by
    intro vs' as' k M ps ab
    induction ab generalizing k with
    | nil => intro _ _ _ _; exact ⟨.nil, by simp [parsOf, parEnts, oads], fun a ha => by simp [parsOf, parEnts, oads] at ha⟩
    | @cons v a vs' as' r t ih =>
      intro en ok hps hM
      have en' : Paired (EntOk K B F H) (some v :: vs'.map some) (a.ent :: as'.map Arg.ent) := en
      cases en' with
      | cons q tl =>
        have hps' : ∀ j, ps[(k + 1) + j]? = vs'[j]? := fun j => by
          have := hps (j + 1)
          rw [show k + 1 + j = k + (j + 1) by omega, this]
          simp
        have hM' : ∀ (j i : Nat) (a : Addr), as'[j]? = some (Arg.b i) → vs'[j]? = some (V.ref a) → M a := fun j i b h1 h2 => hM (j + 1) i b (by simpa using h1) (by simpa using h2)
        cases a with
        | v d =>
          obtain ⟨i1, i2, i3⟩ := ih (k + 1) tl ok hps' hM'
          refine ⟨.cons q i1, ?_, fun a ha => ?_⟩
          · show (oad (some v) (.fz d) ++ oads (vs'.map some) (parEnts (k + 1) (parsOf G as'))).Nodup
            rw [oad_fz]; exact i2
          · have ha' : a ∈ oad (some v) (.fz d) ++ oads (vs'.map some) (parEnts (k + 1) (parsOf G as')) := ha
            rw [oad_fz] at ha'
            obtain ⟨h1, j, i, h2, h3⟩ := i3 a ha'
            exact ⟨h1, j + 1, i, by simpa using h2, h3⟩
        | b i =>
          have ok' : ((entOw G[i]?).isSome && (findB i 0 as').isNone && okB G as') = true := ok
          simp only [Bool.and_eq_true] at ok'
          obtain ⟨⟨ok1, ok2⟩, ok3⟩ := ok'
          obtain ⟨i1, i2, i3⟩ := ih (k + 1) tl ok3 hps' hM'
          obtain ⟨o, ho⟩ := Option.isSome_iff_exists.mp ok1
          have hr : s[i]? = some (some v) := r
          have e0 : parsOf G (.b i :: as') = .b o :: parsOf G as' := by
            show (match entOw G[i]? with | some o => Par.b o | none => Par.v D.non) :: parsOf G as' = _
            rw [ho]
          obtain ⟨a, ea2, ow, ha⟩ : ∃ a, v = .ref a ∧ OwAt K F H a o ∧ a ∈ oads s G := by
            rcases entOw_cases ho with e | ⟨m, e⟩
            · obtain ⟨x, hx, q⟩ := pget eG e
              rw [hr] at hx; cases hx
              obtain ⟨a, e1, e2, _⟩ := q
              cases e1
              exact ⟨a, rfl, e2, oads_at hr e a (by simp [oad])⟩
            · obtain ⟨x, hx, q⟩ := pget eG e
              rw [hr] at hx; cases hx
              obtain ⟨a, e1, e2, _⟩ := q
              cases e1
              exact ⟨a, rfl, e2, oads_at hr e a (by simp [oad])⟩
          subst ea2
          rw [e0]
          refine ⟨.cons ⟨a, rfl, ow, by have := hps 0; simpa using this, hM 0 i a rfl rfl⟩ i1, ?_, fun b hb => ?_⟩
          · show ([a] ++ oads (vs'.map some) (parEnts (k + 1) (parsOf G as'))).Nodup
            refine List.nodup_cons.mpr ⟨fun hb => ?_, i2⟩
            obtain ⟨_, j, i', h2, h3⟩ := i3 a hb
            have hne : i' ≠ i := fun z => by
              subst z
              exact findB_none (Option.isNone_iff_eq_none.mp ok2) j h2
            -- the same address at two slots
            obtain ⟨o', ho'⟩ := okB_at ok3 h2
            have m1 : a ∈ oad (some (.ref a)) (G[i]?.getD .no) := by
              rcases entOw_cases ho with e | ⟨m, e⟩ <;> (rw [e]; simp [oad])
            have m2 : a ∈ oad (some (.ref a)) (G[i']?.getD .no) := by
              rcases entOw_cases ho' with e | ⟨m, e⟩ <;> (rw [e]; simp [oad])
            have g1 : G[i]? = some (G[i]?.getD .no) := by
              rcases entOw_cases ho with e | ⟨m, e⟩ <;> (rw [e]; rfl)
            have g2 : G[i']? = some (G[i']?.getD .no) := by
              rcases entOw_cases ho' with e | ⟨m, e⟩ <;> (rw [e]; rfl)
            exact oads_disj ndG hne h3 g2 hr g1 a m2 m1
          · have hb' : b ∈ [a] ++ oads (vs'.map some) (parEnts (k + 1) (parsOf G as')) := hb
            rcases List.mem_append.mp hb' with hb | hb
            · simp at hb; subst hb; exact ⟨ownG b ha, 0, i, rfl, hr⟩
            · obtain ⟨h1, j, i', h2, h3⟩ := i3 b hb
              exact ⟨h1, j + 1, i', by simpa using h2, h3⟩
  obtain ⟨g1, g2, g3⟩ := go vs as 0 (lentM vs as) vs ab ea ok (fun j => by rw [Nat.zero_add]) (fun j i a h1 h2 => ⟨j, i, h1, h2⟩)
  exact ⟨c.fh, Same.refl F, fun a o _ e => e, fun a h => h, fun a n h => ⟨h, n⟩, g1, g2, fun a ha => (g3 a ha).1⟩
/-- behind the call -/
theorem Conf.leave {t s u : St} {z G g' : List Ent} {vs : List V} {as : List Arg} {F' H' : Hp} {B' : Bs} (hB : B' = ⟨F, H, vs, lentM vs as⟩)
    (hl : t.length = z.length) (c : Conf K B ((vs.map some).reverse ++ (t ++ s)) F H ((as.map Arg.ent).reverse ++ (z ++ G))) (ab : Paired (ArgB s) vs as) (ok : okB G as = true)
    (c' : Conf K B' u F' H' g') (bs : List (Nat × Ow)) (hb : ∀ p ∈ bs, ∃ a, B'.ps[p.1]? = some (.ref a) ∧ B'.M a ∧ OwAt K F' H' a p.2 ∧ F' a = none) :
    Conf K B (t ++ s) F' H' (z ++ updB as bs 0 G) ∧ ∀ a ∈ oads (t ++ s) (z ++ updB as bs 0 G), H a ≠ none := by
  subst hB
  have hl2 : ((vs.map some).reverse).length = ((as.map Arg.ent).reverse).length := by simp [ab.length]
  -- drop the arguments
  have dropN : ∀ (n : Nat) (x : St) (y : List Ent), x.length = n → y.length = n → Conf K B (x ++ (t ++ s)) F H (y ++ (z ++ G)) → Conf K B (t ++ s) F H (z ++ G) := by
    intro n
    induction n with
    | zero => intro x y hx hy c; cases x <;> cases y <;> simp_all
    | succ n ih =>
      intro x y hx hy c
      cases x with
      | nil => simp at hx
      | cons a x => cases y with
        | nil => simp at hy
        | cons b y => exact ih x y (by simpa using hx) (by simpa using hy) c.pop
  have c0 := dropN _ _ _ rfl hl2.symm c
  have lent : ∀ (k i : Nat) (a : Addr), as[k]? = some (Arg.b i) → vs[k]? = some (V.ref a) → s[i]? = some (some (.ref a)) := fun k i a h1 h2 => by
    obtain ⟨v, h3, h4⟩ := pget ab h1
    rw [h2] at h3; cases h3
    exact h4
  have entry : ∀ (k i : Nat) (a : Addr), as[k]? = some (Arg.b i) → vs[k]? = some (V.ref a) → ∃ e, G[i]? = some e ∧ a ∈ oad (some (.ref a)) e ∧ ((∃ o, e = .ow o) ∨ ∃ m o, e = .bw m o) := fun k i a h1 h2 => by
    obtain ⟨o, ho⟩ := okB_at ok h1
    rcases entOw_cases ho with e | ⟨m, e⟩
    · exact ⟨_, e, by simp [oad], .inl ⟨_, rfl⟩⟩
    · exact ⟨_, e, by simp [oad], .inr ⟨_, _, rfl⟩⟩
  have gz : ∀ {i : Nat} {e : Ent}, G[i]? = some e → (z ++ G)[z.length + i]? = some e := fun h => by rw [get_app]; exact h
  have sz : ∀ {i : Nat} {v : Option V}, s[i]? = some v → (t ++ s)[z.length + i]? = some v := fun h => by rw [← hl, get_app]; exact h
  have cc : Conf K B (t ++ s) F' H' (z ++ updB as bs 0 G) := by
    refine c0.rebuild c' rfl rfl (fun a ⟨k, i, h1, h2⟩ => ?_) (by simp [updB_len]) fun i v e e2 h1 h2 h3 => ?_
    · obtain ⟨e, he, _, q⟩ := entry k i a h1 h2
      obtain ⟨x, hx, ok'⟩ := c0.at (gz he)
      rw [sz (lent k i a h1 h2)] at hx; cases hx
      rcases q with ⟨o, q⟩ | ⟨m, o, q⟩
      · subst q; obtain ⟨b, eb, _, n⟩ := ok'; cases eb; exact .inl n
      · subst q; obtain ⟨b, eb, _, n, mm⟩ := ok'; cases eb; exact .inr mm
    · by_cases hi : i < z.length
      · rw [List.getElem?_append_left hi] at h2 h3
        rw [h2] at h3; cases h3
        refine .inl ⟨rfl, fun a ha ⟨k, j, q1, q2⟩ => ?_⟩
        obtain ⟨e', he', m', _⟩ := entry k j a q1 q2
        exact oads_disj c0.nd (show i ≠ z.length + j by omega) h1 (by rw [List.getElem?_append_left hi]; exact h2) (sz (lent k j a q1 q2)) (gz he') a ha m'
      · rw [List.getElem?_append_right (by omega)] at h2 h3
        rw [updB_at as bs 0 G (i - z.length) e h2, Nat.zero_add] at h3
        cases h3
        have h1' : s[i - z.length]? = some v := by
          rw [List.getElem?_append_right (by omega)] at h1
          rw [← h1]; congr 1; omega
        have ii : i = z.length + (i - z.length) := by omega
        cases ef : findB (i - z.length) 0 as with
        | none =>
          refine .inl ⟨by simp [newE, ef], fun a ha ⟨k, j, q1, q2⟩ => ?_⟩
          have hne : i - z.length ≠ j := fun zz => by
            subst zz
            exact findB_none ef k q1
          obtain ⟨e', he', m', _⟩ := entry k j a q1 q2
          exact oads_disj c0.nd (show i ≠ z.length + j by omega) h1 (by rw [List.getElem?_append_right (by omega)]; exact h2) (sz (lent k j a q1 q2)) (gz he') a ha m'
        | some k =>
          obtain ⟨_, hk⟩ := findB_some ef
          rw [Nat.sub_zero] at hk
          cases el : bs.lookup k with
          | none => exact .inr (.inr (by cases e <;> simp [newE, ef, el]))
          | some o2 =>
            have mem : (k, o2) ∈ bs := lookupN_mem el
            obtain ⟨a, b1, _, b3, b4⟩ := hb _ mem
            have b1 : vs[k]? = some (.ref a) := b1
            have hv := lent k _ a hk b1
            rw [h1'] at hv
            cases hv
            obtain ⟨e', he', _, q⟩ := entry k _ a hk b1
            rw [h2] at he'
            cases he'
            rcases q with ⟨o, q⟩ | ⟨m, o, q⟩
            · subst q
              exact .inr (.inl ⟨a, o, o2, rfl, .inl ⟨rfl, by simp [newE, ef, el]⟩, b3, b4⟩)
            · subst q
              exact .inr (.inl ⟨a, o, o2, rfl, .inr ⟨m, rfl, by simp [newE, ef, el]⟩, b3, b4⟩)
  refine ⟨cc, fun a ha => ?_⟩
  have sub : (oads (t ++ s) (z ++ updB as bs 0 G)).Sublist (oads (t ++ s) (z ++ G)) := oads_sub (by simp [updB_len]) fun i v e e2 h1 h2 h3 => by
    by_cases hi : i < z.length
    · rw [List.getElem?_append_left hi] at h2 h3
      rw [h2] at h3; cases h3
      exact .inl rfl
    · rw [List.getElem?_append_right (by omega)] at h2 h3
      rw [updB_at as bs 0 G (i - z.length) e h2, Nat.zero_add] at h3
      cases h3
      unfold newE
      split
      · exact .inl rfl
      · split
        · exact .inl (by cases v with
            | none => rfl
            | some x => cases x <;> rfl)
        · exact .inl (by cases v with
            | none => rfl
            | some x => cases x <;> rfl)
        · exact .inr (oad_no _)
  exact env_there c0.env a (sub.subset ha)
end

section
variable {P : Program} {w : World} {K : PySem.W.Frag} {mg : Str → Option Value} {base : Heap} {S : Sc} {k : Nat} {X : Cx} {B : Bs} {E : XW} {G : List Ent} {Q : Ent → List Ent → Prop}
theorem fnAt {CX : CXT} {kf : Nat} {f : Addr} {fd : FuncData} {ps : List Str} {sp : Sp} (cj : CJ P w K mg base S k X B E) (Fo : FnOk P w K mg base CX kf f fd ps sp) : FnOk X.prog X.w X.K X.mg X.base CX kf f fd ps sp := by
  rw [cj.hprog, cj.hw, cj.hK, cj.hmg, cj.hbase]; exact Fo
theorem CJ.cxx (cj : CJ P w K mg base S k X B E) (s : St) : PassesAt (L2.CX P w) X s (WE E.W s) := by
  have := passAt cj.tk s
  rwa [cj.hprog, cj.hw] at this
/-- what a call asks, from the caller's side -/
theorem call_ok {U : Spec} {t s : St} {z : List Ent} {F H : Hp} {VQ : VK} {vs : List V} {as : List Arg} (cj : CJ P w K mg base S k X B E) (hl : t.length = z.length)
    (c : Conf X.K B ((vs.map some).reverse ++ (t ++ s)) F H ((as.map Arg.ent).reverse ++ (z ++ G))) (ab : Paired (ArgB s) vs as) (ok : okB G as = true)
    (sp : U (parsOf G as) (fun r bs => Q r (updB as bs 0 G)) (fun x => E.R x (updB as [] 0 G)))
    (q : ∀ v F' H' r G', Conf X.K B (some v :: (t ++ s)) F' H' (r :: (z ++ G')) → IsR r → Q r G' → VQ v H') : SpJ K U vs H VQ (WE E.W s) := by
  have hK := cj.hK
  rw [← hK]
  refine ⟨F, parsOf G as, ⟨F, H, vs, lentM vs as⟩, _, _, rfl, rfl, rfl, c.enter hl ab ok, sp, fun v F' H' r bs fi hq => ?_, fun x F' H' od c' xo hx => ?_⟩
  · obtain ⟨c2, hn⟩ := Conf.leave rfl hl c ab ok fi.c bs fi.bs
    exact q v F' H' r _ (c2.result hn fi.c rfl c.there fi.ir) fi.ir hq
  · obtain ⟨c2, _⟩ := Conf.leave rfl hl c ab ok c' [] (fun p hp => by cases hp)
    exact cj.lk t s z F' H' _ x od hl c2 xo hx
theorem je_call {x : Str} {p pos : Pos} {e : Expr} {es : List Expr} {U : Spec} {kf : Nat} {f : Addr} {fd : FuncData} {ps : List Str} (cj : CJ P w K mg base S k X B E) (Fo : FnOk P w K mg base (L2.CX P w) kf f fd ps (SpJ K U)) (hk : kf ≤ k) (j : Nat)
    (hm : mg x = some (.ref f)) (kp : PySem.W.keepIn K (.ref f) = true) (bi : Binds K fd ps [])
    (h : JA X B (e :: es) G fun as G' => okB G' as = true ∧ U (parsOf G' as) (fun r bs => Q r (updB as bs 0 G')) (fun x => E.R x (updB as [] 0 G')))
    (hj : S.gl[j]? = some x := by rfl) (he : starEach (e :: es) X.env = (false, eval e X.env) :: starEach es X.env := by rfl) (hpl : (backTo pos (starEach es X.env)).any (·.1) = false := by rfl) :
    JE X B (.Call (.Name x p) (e :: es) [] pos) G Q := fun t s z F H VQ hl c q => by
  have hm' : X.mg x = some (.ref f) := by rw [cj.hmg]; exact hm
  have kp' : PySem.W.keepIn X.K (.ref f) = true := by rw [cj.hK]; exact kp
  have bi' : Binds X.K fd ps [] := by rw [cj.hK]; exact bi
  refine tS_of (pe_callS (CX := L2.CX P w) (E := WE E.W) (fnAt cj Fo) (cj.hr.mono hk) (cj.gl hj) hm' kp' bi' (fun s => cj.cxx s) pa_sem (cj.dbg hj) he hpl) ?_
  show tAr X (e :: es) s H fun vs H1 => SpJ K U vs H1 VQ (WE E.W s)
  exact h t s z F H _ hl c fun vs as F' H' G' c' ab ⟨ok, sp⟩ => call_ok cj hl c' ab ok sp q
/-- updB where nothing is lent -/
theorem findB_vs (j : Nat) : ∀ (k : Nat) (ds : List D), findB j k (ds.map Arg.v) = none
  | _, [] => rfl
  | k, d :: ds => findB_vs j (k + 1) ds
theorem updB_vs (bs : List (Nat × Ow)) (ds : List D) : ∀ (j : Nat) (g : List Ent), updB (ds.map .v) bs j g = g
  | _, [] => rfl
  | j, e :: g => by
    show newE _ bs j e :: updB _ bs (j + 1) g = e :: g
    rw [updB_vs bs ds (j + 1) g]
    simp [newE, findB_vs]
theorem okB_vs (g : List Ent) : ∀ (ds : List D), okB g (ds.map .v) = true
  | [] => rfl
  | d :: ds => okB_vs g ds
theorem parsOf_vs (g : List Ent) : ∀ (ds : List D), parsOf g (ds.map .v) = ds.map .v
  | [] => rfl
  | d :: ds => by
    show Par.v d :: parsOf g (ds.map .v) = _
    rw [parsOf_vs g ds]; rfl
theorem je_call0 {x : Str} {p pos : Pos} {e : Expr} {es : List Expr} {U : Spec} {kf : Nat} {f : Addr} {fd : FuncData} {ps : List Str} (cj : CJ P w K mg base S k X B E) (Fo : FnOk P w K mg base (L2.CX P w) kf f fd ps (SpJ K U)) (hk : kf ≤ k) (j : Nat)
    (hm : mg x = some (.ref f)) (kp : PySem.W.keepIn K (.ref f) = true) (bi : Binds K fd ps [])
    (h : JA X B (e :: es) G fun as G' => ∃ ds : List D, as = List.map Arg.v ds ∧ U (List.map Par.v ds) (fun r _ => Q r G') (fun x => E.R x G'))
    (hj : S.gl[j]? = some x := by rfl) (he : starEach (e :: es) X.env = (false, eval e X.env) :: starEach es X.env := by rfl) (hpl : (backTo pos (starEach es X.env)).any (·.1) = false := by rfl) :
    JE X B (.Call (.Name x p) (e :: es) [] pos) G Q := by
  refine je_call cj Fo hk j hm kp bi (fun t s z F H AQ hl c q => h t s z F H AQ hl c fun vs as F' H' G' c' ab r => q vs as F' H' G' c' ab ?_) hj he hpl
  obtain ⟨ds, rfl, sp⟩ := r
  refine ⟨okB_vs _ _, ?_⟩
  rw [parsOf_vs, updB_vs]
  exact (funext fun r => funext fun bs => by rw [updB_vs] : (fun r bs => Q r (updB (ds.map .v) bs 0 G')) = fun r _ => Q r G') ▸ sp
end
end J

namespace J
open PySem PySem.Spec L2

/-! ## data for == -/
mutual
def D.py : D → PyData
  | .non => .none
  | .bl b => .bool b
  | .int i => .int i
  | .str x => .str x
  | .tup ds => .tuple (D.pys ds)
  | .lst ds => .list (D.pys ds)
  | .kls _ => .none
  | .ins _ _ _ => .none
  | .raw _ => .none
  | .tp ds => .tuple (D.pys ds)
  | .exc _ _ _ _ => .none
  | .dct _ _ => .none
def D.pys : List D → List PyData
  | [] => []
  | d :: ds => D.py d :: D.pys ds
end
/-- data of a depth, without bools, instances -/
inductive Flat : Nat → D → Prop
  | non {k : Nat} : Flat k .non
  | int {k : Nat} (i : Int) : Flat k (.int i)
  | str {k : Nat} (x : Str) (h : (PyData.str x).canLay0 = true) : Flat k (.str x)
  | tup {k : Nat} {ds : List D} (h : ∀ d ∈ ds, Flat k d) : Flat (k + 1) (.tup ds)
  | lst {k : Nat} {ds : List D} (h : ∀ d ∈ ds, Flat k d) : Flat (k + 1) (.lst ds)
theorem Flat.mono {k m : Nat} {d : D} (h : Flat k d) (hk : k ≤ m) : Flat m d := by
  induction h generalizing m with
  | non => exact .non
  | int i => exact .int i
  | str x h => exact .str x h
  | tup h ih =>
    obtain ⟨m', rfl⟩ : ∃ m', m = m' + 1 := ⟨m - 1, by omega⟩
    exact .tup fun d hd => ih d hd (by omega)
  | lst h ih =>
    obtain ⟨m', rfl⟩ : ∃ m', m = m' + 1 := ⟨m - 1, by omega⟩
    exact .lst fun d hd => ih d hd (by omega)
theorem pys_lay : ∀ {ds : List D}, (∀ d ∈ ds, (D.py d).canLay0 = true) → PyData.canLayAll0 (D.pys ds) = true
  | [], _ => rfl
  | d :: ds, h => by
    show ((D.py d).canLay0 && PyData.canLayAll0 (D.pys ds)) = true
    rw [h d List.mem_cons_self, pys_lay fun e he => h e (List.mem_cons_of_mem _ he)]; rfl
theorem pys_depth {n : Nat} : ∀ {ds : List D}, (∀ d ∈ ds, (D.py d).depth ≤ n) → PyData.depthAll (D.pys ds) ≤ n
  | [], _ => Nat.zero_le _
  | d :: ds, h => by
    have h1 := h d List.mem_cons_self
    have h2 := pys_depth (n := n) (ds := ds) fun e he => h e (List.mem_cons_of_mem _ he)
    simp only [D.pys, PyData.depthAll]
    omega
theorem Flat.lay {k : Nat} {d : D} (h : Flat k d) : (D.py d).canLay0 = true := by
  induction h with
  | non => rfl
  | int i => rfl
  | str x h => exact h
  | tup h ih => exact pys_lay ih
  | lst h ih => exact pys_lay ih
theorem Flat.dep {k : Nat} {d : D} (h : Flat k d) : (D.py d).depth ≤ k := by
  induction h with
  | non => exact Nat.zero_le _
  | int i => exact Nat.zero_le _
  | str x h => exact Nat.zero_le _
  | tup h ih =>
    have := pys_depth ih
    simp only [D.py, PyData.depth]; omega
  | lst h ih =>
    have := pys_depth ih
    simp only [D.py, PyData.depth]; omega
theorem Flat.shaped {k : Nat} {d : D} (h : Flat k d) (hk : k ≤ 64 := by decide) : SeqAt.shaped (D.py d) = true := by
  unfold SeqAt.shaped
  rw [h.lay, decide_eq_true (Nat.le_trans h.dep hk)]; rfl
def deq (d e : D) : Bool := PyData.eqv (D.py d) (D.py e)
theorem eqvAll_iff : ∀ {ds es : List D}, (∀ d ∈ ds, ∀ e, (PyData.eqv (D.py d) (D.py e) = true ↔ d = e) ∨ ¬ (e ∈ es)) → (PyData.eqvAll (D.pys ds) (D.pys es) = true ↔ ds = es)
  | [], [], _ => by simp [D.pys, PyData.eqvAll]
  | [], _ :: _, _ => by simp [D.pys, PyData.eqvAll]
  | _ :: _, [], _ => by simp [D.pys, PyData.eqvAll]
  | d :: ds, e :: es, h => by
    simp only [D.pys, PyData.eqvAll, Bool.and_eq_true, List.cons.injEq]
    have h1 : PyData.eqv (D.py d) (D.py e) = true ↔ d = e := (h d List.mem_cons_self e).resolve_right fun z => z List.mem_cons_self
    have h2 := eqvAll_iff (ds := ds) (es := es) fun d' hd e' => by
      rcases h d' (List.mem_cons_of_mem _ hd) e' with q | q
      · exact .inl q
      · exact .inr fun z => q (List.mem_cons_of_mem _ z)
    rw [h1, h2]
theorem deq_iff {k : Nat} {d : D} (h : Flat k d) : ∀ {m : Nat} {e : D}, Flat m e → (deq d e = true ↔ d = e) := by
  induction h with
  | non => intro m e he; cases he <;> simp [deq, D.py, PyData.eqv]
  | int i => intro m e he; cases he <;> simp [deq, D.py, PyData.eqv]
  | str x h => intro m e he; cases he <;> simp [deq, D.py, PyData.eqv]
  | @tup k ds h ih =>
    intro m e he
    cases he with
    | non => simp [deq, D.py, PyData.eqv]
    | int i => simp [deq, D.py, PyData.eqv]
    | str x h => simp [deq, D.py, PyData.eqv]
    | lst h => simp [deq, D.py, PyData.eqv]
    | @tup k' es h' =>
      have : PyData.eqvAll (D.pys ds) (D.pys es) = true ↔ ds = es := eqvAll_iff fun d hd e => by
        by_cases hm : e ∈ es
        · exact .inl (ih d hd (h' e hm))
        · exact .inr hm
      simp only [deq, D.py, PyData.eqv, this, D.tup.injEq]
  | @lst k ds h ih =>
    intro m e he
    cases he with
    | non => simp [deq, D.py, PyData.eqv]
    | int i => simp [deq, D.py, PyData.eqv]
    | str x h => simp [deq, D.py, PyData.eqv]
    | tup h => simp [deq, D.py, PyData.eqv]
    | @lst k' es h' =>
      have : PyData.eqvAll (D.pys ds) (D.pys es) = true ↔ ds = es := eqvAll_iff fun d hd e => by
        by_cases hm : e ∈ es
        · exact .inl (ih d hd (h' e hm))
        · exact .inr hm
      simp only [deq, D.py, PyData.eqv, this, D.lst.injEq]
theorem deq_eq {k m : Nat} {d e : D} (h : Flat k d) (h' : Flat m e) [Decidable (d = e)] : deq d e = decide (d = e) := by
  by_cases q : d = e
  · rw [decide_eq_true q]; exact (deq_iff h h').mpr q
  · rw [decide_eq_false q]
    cases z : deq d e with
    | false => rfl
    | true => exact absurd ((deq_iff h h').mp z) q
theorem deq_refl {k : Nat} {d : D} (h : Flat k d) : deq d d = true := (deq_iff h h).mpr rfl
theorem deq_ne {k m : Nat} {d e : D} (h : Flat k d) (h' : Flat m e) (n : d ≠ e) : deq d e = false := by
  cases z : deq d e with
  | false => rfl
  | true => exact absurd ((deq_iff h h').mp z) n
mutual
theorem DP.dp {K : PySem.W.Frag} {H : Hp} {k : Nat} : ∀ (d : D) (v : V), DP K H v d → Flat k d → Dp K H v (D.py d)
  | .non, _, h, _ => by cases h; exact .non
  | .int i, _, h, _ => by cases h; exact .int i
  | .str x, _, h, _ => by cases h; exact .str x
  | .bl b, _, _, f => nomatch f
  | .ins _ _ _, _, _, f => nomatch f
  | .raw _, _, _, f => nomatch f
  | .kls _, _, _, f => nomatch f
  | .tup ds, _, h, f => by cases h with | tup q r => cases f with | tup f => exact .tup q (DP.dps ds _ r f)
  | .lst ds, _, h, f => by cases h with | lst q r => cases f with | lst f => exact .lst (SqL.of q) (DP.dps ds _ r f)
theorem DP.dps {K : PySem.W.Frag} {H : Hp} {k : Nat} : ∀ (ds : List D) (vs : List V), Paired (DP K H) vs ds → (∀ d ∈ ds, Flat k d) → DpAll K H vs (D.pys ds)
  | [], _, h, _ => by cases h; exact .nil
  | d :: ds, _, h, f => by cases h with | cons r t => exact .cons (DP.dp d _ r (f d List.mem_cons_self)) (DP.dps ds _ t fun e he => f e (List.mem_cons_of_mem _ he))
end

/-! ## scalars -/
inductive Sca : V → D → Prop
  | non : Sca .non .non
  | bl (b : Bool) : Sca (.bl b) (.bl b)
  | int (i : Int) : Sca (.int i) (.int i)
  | str (x : Str) : Sca (.str x) (.str x)
theorem Sca.inv {K : PySem.W.Frag} {F : Hp} {v x : V} {d : D} (s : Sca v d) (h : DP K F x d) : x = v := by
  cases s <;> cases h <;> rfl
theorem Sca.dp {K : PySem.W.Frag} {F : Hp} {v : V} {d : D} (s : Sca v d) : DP K F v d := by
  cases s
  · exact .non
  · exact .bl _
  · exact .int _
  · exact .str _

section
variable {K : PySem.W.Frag} {B : Bs} {F H : Hp} {s : St} {g : List Ent}
theorem Conf.top {v : V} {d : D} (c : Conf K B (some v :: s) F H (.fz d :: g)) : DP K F v d := by
  cases c.env with
  | cons q _ => obtain ⟨x, e, p⟩ := q; cases e; exact p
theorem Conf.topH {v : V} {d : D} (c : Conf K B (some v :: s) F H (.fz d :: g)) : DP K H v d := DP.mono c.fh _ _ c.top
end

section
variable {P : Program} {w : World} {K : PySem.W.Frag} {mg : Str → Option Value} {base : Heap} {S : Sc} {k : Nat} {X : Cx} {B : Bs} {E : XW} {G : List Ent} {a b e : Expr} {pos : Pos} {x : Str}

/-- one after the other -/
theorem run2 {R : D → D → List Ent → Prop} (h : JV X B a G fun d1 G1 => JV X B b G1 fun d2 G2 => R d1 d2 G2) {t s : St} {z : List Ent} {F H : Hp} {PQ : V → V → Hp → Prop} (hl : t.length = z.length) (c : Conf X.K B (t ++ s) F H (z ++ G))
    (q : ∀ v u F' H' d1 d2 G', Conf X.K B (some u :: some v :: (t ++ s)) F' H' (.fz d2 :: .fz d1 :: (z ++ G')) → R d1 d2 G' → PQ v u H') : tS X a s H fun v H1 => tS X b s H1 fun u H2 => PQ v u H2 :=
  h t s z F H _ hl c fun v F' H' d1 G1 c1 h2 => h2 (some v :: t) s (.fz d1 :: z) F' H' _ (by simp [hl]) c1 fun u F2 H2 d2 G2 c2 r => q v u F2 H2 d1 d2 G2 c2 r

/-! ### names -/
theorem jv_name (cj : CJ P w K mg base S k X B E) (i : Nat) {d : D} {Q : D → List Ent → Prop} (h : Q d G) (hN : S.N[i]? = some x := by rfl) (hv : i ∈ S.vi := by decide) (hg : G[i]? = some (.fz d) := by rfl) : JV X B (.Name x pos) G Q := fun t s z F H VQ hl c q => by
  have hn := okName_of (Sc.vis cj.ok hv hN).1
  refine tS_of (pe_var (cj.xN hN) (cj.vis hv hN) hn.1 hn.2.1) ?_
  obtain ⟨v, e1, e2⟩ := c.at (i := t.length + i) (e := .fz d) (by rw [hl, get_app]; exact hg)
  obtain ⟨y, rfl, dp⟩ := e2
  rw [get_app] at e1
  exact ⟨y, e1, q y F H d G (c.fz dp) h⟩
/-- an own thing is read for good: it is frozen -/
theorem jv_nameF (cj : CJ P w K mg base S k X B E) (i : Nat) {o : Ow} {d : D} {Q : D → List Ent → Prop} (h : Q d (G.set i (.fz d))) (hN : S.N[i]? = some x := by rfl) (hv : i ∈ S.vi := by decide) (hg : G[i]? = some (.ow o) := by rfl) (hf : frzOw o = some d := by rfl) : JV X B (.Name x pos) G Q := fun t s z F H VQ hl c q => by
  have hg' : (z ++ G)[z.length + i]? = some (.ow o) := by rw [get_app]; exact hg
  obtain ⟨F2, _, c2⟩ := c.freeze hg' hf
  rw [set_app] at c2
  have hi : i < G.length := (List.getElem?_eq_some_iff.mp hg).1
  exact jv_name cj i h hN hv (by rw [List.getElem?_set_self hi]) t s z F2 H VQ hl c2 q
/-- it goes elsewhere -/
theorem je_move (cj : CJ P w K mg base S k X B E) (i : Nat) {o : Ow} {Q : Ent → List Ent → Prop} (h : Q (.ow o) (G.set i .no)) (hN : S.N[i]? = some x := by rfl) (hv : i ∈ S.vi := by decide) (hg : G[i]? = some (.ow o) := by rfl) : JE X B (.Name x pos) G Q := fun t s z F H VQ hl c q => by
  have hn := okName_of (Sc.vis cj.ok hv hN).1
  refine tS_of (pe_var (cj.xN hN) (cj.vis hv hN) hn.1 hn.2.1) ?_
  have hg' : (z ++ G)[t.length + i]? = some (.ow o) := by rw [hl, get_app]; exact hg
  obtain ⟨v, e1, e2⟩ := c.at hg'
  obtain ⟨y, rfl, ow, n⟩ := e2
  have e1' := e1
  rw [get_app] at e1
  refine ⟨.ref y, e1, q (.ref y) F H (.ow o) (G.set i .no) ?_ trivial h⟩
  have c2 := c.forget (i := z.length + i)
  rw [set_app] at c2
  have hnot : y ∉ oads (t ++ s) (z ++ G.set i .no) := by
    have := oads_other c.len c.nd e1' hg' rfl
    intro hm
    -- the entries at that slot own nothing in both
    have eg : z ++ G.set i .no = (z ++ G).set (t.length + i) .no := by rw [hl, set_app]
    rw [eg] at hm
    have key : ∀ {s : St} {g : List Ent} {i : Nat} {v : Option V}, s.length = g.length → s[i]? = some v → oads s (g.set i .no) = oads (s.set i none) (g.set i .no) := by
      intro s
      induction s with
      | nil => intro g i v _ h; simp at h
      | cons p s ih =>
        intro g i v hl h
        cases g with
        | nil => simp at hl
        | cons y g =>
          cases i with
          | zero => show oad p .no ++ oads s g = oad none .no ++ oads s g; rw [oad_no, oad_no]
          | succ i => show oad p y ++ oads s (g.set i .no) = oad p y ++ oads (s.set i none) (g.set i .no); rw [ih (by simpa using hl) (by simpa using h)]
    rw [key c.len e1'] at hm
    exact this hm
  exact ⟨c2.fh, c2.ff, c2.keep, c2.there, c2.old, .cons ⟨y, rfl, ow, n⟩ c2.env, by show ([y] ++ oads _ _).Nodup; exact List.nodup_cons.mpr ⟨hnot, c2.nd⟩, fun a ha => by
    rcases List.mem_append.mp (show a ∈ [y] ++ oads (t ++ s) (z ++ G.set i .no) from ha) with ha | ha
    · simp at ha; subst ha; exact c.own a (oads_at e1' hg' a (by simp [oad]))
    · exact c2.own a ha⟩
theorem jv_glob (cj : CJ P w K mg base S k X B E) (j : Nat) {v : V} {u : Value} {d : D} {Q : D → List Ent → Prop} (hm : mg x = some u) (r : RelV v u) (dp : ∀ F, DP K F v d) (h : Q d G) (hj : S.gl[j]? = some x := by rfl) : JV X B (.Name x pos) G Q := fun t s z F H VQ hl c q =>
  tS_of (pe_glob (cj.gl hj) (by rw [cj.hmg]; exact hm) r (cj.dbg hj)) (q v F H d G (c.fz (by rw [cj.hK]; exact dp F)) h)
/-! ### constants -/
theorem jv_int {i j} {Q : D → List Ent → Prop} (h : Q (.int i) G) : JV X B (.Constant (.int i) j pos) G Q := fun t s z F H VQ hl c q => tS_of pe_int (q _ F H _ G (c.fz (.int i)) h)
theorem jv_bl {i j} {Q : D → List Ent → Prop} (h : Q (.bl i) G) : JV X B (.Constant (.bool i) j pos) G Q := fun t s z F H VQ hl c q => tS_of pe_bl (q _ F H _ G (c.fz (.bl i)) h)
theorem jv_non {j} {Q : D → List Ent → Prop} (h : Q .non G) : JV X B (.Constant .none j pos) G Q := fun t s z F H VQ hl c q => tS_of pe_non (q _ F H _ G (c.fz .non) h)
theorem jv_str {i j} {Q : D → List Ent → Prop} (h : Q (.str i) G) : JV X B (.Constant (.str i) j pos) G Q := fun t s z F H VQ hl c q => tS_of pe_str (q _ F H _ G (c.fz (.str i)) h)
/-! ### operators on scalars -/
theorem jv_op2 {op : Operator} {r : R2} {Q : D → List Ent → Prop} (ho : OpR X (binaryOp op) r)
    (h : JV X B a G fun d1 G1 => JV X B b G1 fun d2 G2 => ∃ v1 v2 v3 d3, Sca v1 d1 ∧ Sca v2 d2 ∧ Sca v3 d3 ∧ (∀ H VQ, VQ v3 H → r v1 v2 H VQ) ∧ Q d3 G2) : JV X B (.BinOp a op b pos) G Q := fun t s z F H VQ hl c q =>
  tS_of (pe_op ho pe_sem pe_sem) (run2 h hl c fun v u F' H' d1 d2 G' c' ⟨v1, v2, v3, d3, s1, s2, s3, hr, hq⟩ => by
    cases s2.inv c'.top
    cases s1.inv c'.pop.top
    exact hr H' VQ (q v3 F' H' d3 G' (c'.pop.pop.fz s3.dp) hq))
theorem jv_add {Q : D → List Ent → Prop} (h : JV X B a G fun d1 G1 => JV X B b G1 fun d2 G2 => ∃ i j, d1 = .int i ∧ d2 = .int j ∧ Q (.int (i + j)) G2) : JV X B (.BinOp a .Add b pos) G Q :=
  jv_op2 op_add (JV.imp h fun d1 G1 h => JV.imp h fun d2 G2 ⟨i, j, e1, e2, q⟩ => ⟨.int i, .int j, .int (i + j), _, e1 ▸ .int i, e2 ▸ .int j, .int _, fun H VQ z => ⟨i, j, rfl, rfl, z⟩, q⟩)
theorem jv_sub {Q : D → List Ent → Prop} (h : JV X B a G fun d1 G1 => JV X B b G1 fun d2 G2 => ∃ i j, d1 = .int i ∧ d2 = .int j ∧ Q (.int (i - j)) G2) : JV X B (.BinOp a .Sub b pos) G Q :=
  jv_op2 op_sub (JV.imp h fun d1 G1 h => JV.imp h fun d2 G2 ⟨i, j, e1, e2, q⟩ => ⟨.int i, .int j, .int (i - j), _, e1 ▸ .int i, e2 ▸ .int j, .int _, fun H VQ z => ⟨i, j, rfl, rfl, z⟩, q⟩)
theorem jv_mul {Q : D → List Ent → Prop} (h : JV X B a G fun d1 G1 => JV X B b G1 fun d2 G2 => ∃ i j, d1 = .int i ∧ d2 = .int j ∧ CMul i j ∧ Q (.int (i * j)) G2) : JV X B (.BinOp a .Mult b pos) G Q :=
  jv_op2 op_mul (JV.imp h fun d1 G1 h => JV.imp h fun d2 G2 ⟨i, j, e1, e2, hc, q⟩ => ⟨.int i, .int j, .int (i * j), _, e1 ▸ .int i, e2 ▸ .int j, .int _, fun H VQ z => ⟨i, j, rfl, rfl, hc, z⟩, q⟩)
theorem jv_mulW {Q : D → List Ent → Prop} (h : JV X B a G fun d1 G1 => JV X B b G1 fun d2 G2 => ∃ i j, d1 = .int i ∧ d2 = .int j ∧ CMulW i j ∧ Q (.int (i * j)) G2) : JV X B (.BinOp a .Mult b pos) G Q :=
  jv_op2 op_mulW (JV.imp h fun d1 G1 h => JV.imp h fun d2 G2 ⟨i, j, e1, e2, hc, q⟩ => ⟨.int i, .int j, .int (i * j), _, e1 ▸ .int i, e2 ▸ .int j, .int _, fun H VQ z => ⟨i, j, rfl, rfl, hc, z⟩, q⟩)
theorem jv_mod {Q : D → List Ent → Prop} (h : JV X B a G fun d1 G1 => JV X B b G1 fun d2 G2 => ∃ i j, d1 = .int i ∧ d2 = .int j ∧ 0 < j ∧ Q (.int (i % j)) G2) : JV X B (.BinOp a .Mod b pos) G Q :=
  jv_op2 op_mod (JV.imp h fun d1 G1 h => JV.imp h fun d2 G2 ⟨i, j, e1, e2, hc, q⟩ => ⟨.int i, .int j, .int (i % j), _, e1 ▸ .int i, e2 ▸ .int j, .int _, fun H VQ z => ⟨i, j, rfl, rfl, hc, z⟩, q⟩)
theorem jv_fdiv {Q : D → List Ent → Prop} (h : JV X B a G fun d1 G1 => JV X B b G1 fun d2 G2 => ∃ i j, d1 = .int i ∧ d2 = .int j ∧ CDiv i j ∧ Q (.int (i / j)) G2) : JV X B (.BinOp a .FloorDiv b pos) G Q :=
  jv_op2 op_fdiv (JV.imp h fun d1 G1 h => JV.imp h fun d2 G2 ⟨i, j, e1, e2, hc, q⟩ => ⟨.int i, .int j, .int (i / j), _, e1 ▸ .int i, e2 ▸ .int j, .int _, fun H VQ z => ⟨i, j, rfl, rfl, hc, z⟩, q⟩)
theorem jv_fdivW {Q : D → List Ent → Prop} (h : JV X B a G fun d1 G1 => JV X B b G1 fun d2 G2 => ∃ i j, d1 = .int i ∧ d2 = .int j ∧ CDivW i j ∧ Q (.int (i / j)) G2) : JV X B (.BinOp a .FloorDiv b pos) G Q :=
  jv_op2 op_fdivW (JV.imp h fun d1 G1 h => JV.imp h fun d2 G2 ⟨i, j, e1, e2, hc, q⟩ => ⟨.int i, .int j, .int (i / j), _, e1 ▸ .int i, e2 ▸ .int j, .int _, fun H VQ z => ⟨i, j, rfl, rfl, hc, z⟩, q⟩)
theorem jv_pow {Q : D → List Ent → Prop} (h : JV X B a G fun d1 G1 => JV X B b G1 fun d2 G2 => ∃ i j, d1 = .int i ∧ d2 = .int j ∧ CPow i j ∧ Q (.int (i ^ j.toNat)) G2) : JV X B (.BinOp a .Pow b pos) G Q :=
  jv_op2 op_pow (JV.imp h fun d1 G1 h => JV.imp h fun d2 G2 ⟨i, j, e1, e2, hc, q⟩ => ⟨.int i, .int j, .int (i ^ j.toNat), _, e1 ▸ .int i, e2 ▸ .int j, .int _, fun H VQ z => ⟨i, j, rfl, rfl, hc, z⟩, q⟩)
theorem jv_adds {Q : D → List Ent → Prop} (h : JV X B a G fun d1 G1 => JV X B b G1 fun d2 G2 => ∃ i j, d1 = .str i ∧ d2 = .str j ∧ i.length + j.length ≤ sizeLine ∧ Q (.str (i ++ j)) G2) : JV X B (.BinOp a .Add b pos) G Q :=
  jv_op2 op_add_str (JV.imp h fun d1 G1 h => JV.imp h fun d2 G2 ⟨i, j, e1, e2, hc, q⟩ => ⟨.str i, .str j, .str (i ++ j), _, e1 ▸ .str i, e2 ▸ .str j, .str _, fun H VQ z => ⟨i, j, rfl, rfl, hc, z⟩, q⟩)
theorem jv_neg {Q : D → List Ent → Prop} (h : JV X B a G fun d1 G1 => ∃ i, d1 = .int i ∧ Q (.int (-i)) G1) : JV X B (.UnaryOp .USub a pos) G Q := fun t s z F H VQ hl c q =>
  tS_of (pe_un un_neg pe_sem) (h t s z F H _ hl c fun v F' H' d G' c' ⟨i, e, hq⟩ => by
    subst e
    cases c'.top
    exact ⟨i, rfl, q _ F' H' _ G' (c'.pop.fz (.int _)) hq⟩)
/-! ### comparisons -/
/-- a comparison of two values, as a value and as a test -/
def RelB (X : Cx) (r : R2) (d1 d2 : D) (kk : Bool) : Prop := ∀ v u H VQ, DP X.K H v d1 → DP X.K H u d2 → VQ (V.bl kk) H → r v u H VQ
theorem jv_cmp {op : CmpOp} {r : R2} {Q : D → List Ent → Prop} (ho : OpR X (compareOp op) r) (hm : behindInMarks op b = false)
    (h : JV X B a G fun d1 G1 => JV X B b G1 fun d2 G2 => ∃ kk, RelB X r d1 d2 kk ∧ Q (.bl kk) G2) : JV X B (.Compare a [op] [b] pos) G Q := fun t s z F H VQ hl c q =>
  tS_of (pe_cmpR ho pe_sem pe_sem hm) (run2 h hl c fun v u F' H' d1 d2 G' c' ⟨kk, hr, hq⟩ => hr v u H' VQ c'.pop.topH c'.topH (q _ F' H' _ G' (c'.pop.pop.fz (.bl kk)) hq))
theorem jt_cmp {op : CmpOp} {r : R2} {Q : Bool → List Ent → Prop} (ho : OpR X (compareOp op) r) (hm : behindInMarks op b = false)
    (h : JV X B a G fun d1 G1 => JV X B b G1 fun d2 G2 => ∃ kk, RelB X r d1 d2 kk ∧ Q kk G2) : JT X B (.Compare a [op] [b] pos) G Q := fun t s z F H TQ hl c q =>
  tT_of (pt_cmpR ho pe_sem pe_sem hm) (run2 h hl c fun v u F' H' d1 d2 G' c' ⟨kk, hr, hq⟩ => hr v u H' _ c'.pop.topH c'.topH ⟨kk, rfl, q kk F' H' G' c'.pop.pop hq⟩)
theorem relB_lt {i j : Int} : RelB X (rI0 fun i j => .bl (decide (i < j))) (.int i) (.int j) (decide (i < j)) := fun v u H VQ h1 h2 q => by cases h1; cases h2; exact ⟨i, j, rfl, rfl, q⟩
theorem relB_le {i j : Int} : RelB X (rI0 fun i j => .bl (decide (i ≤ j))) (.int i) (.int j) (decide (i ≤ j)) := fun v u H VQ h1 h2 q => by cases h1; cases h2; exact ⟨i, j, rfl, rfl, q⟩
theorem relB_gt {i j : Int} : RelB X (rI0 fun i j => .bl (decide (j < i))) (.int i) (.int j) (decide (j < i)) := fun v u H VQ h1 h2 q => by cases h1; cases h2; exact ⟨i, j, rfl, rfl, q⟩
theorem relB_ge {i j : Int} : RelB X (rI0 fun i j => .bl (decide (j ≤ i))) (.int i) (.int j) (decide (j ≤ i)) := fun v u H VQ h1 h2 q => by cases h1; cases h2; exact ⟨i, j, rfl, rfl, q⟩
theorem relB_eq {d e : D} {n m : Nat} (f : Flat n d) (f' : Flat m e) (hn : n ≤ 64 := by decide) (hm : m ≤ 64 := by decide) : RelB X (rEqD X.K) d e (deq d e) := fun v u H VQ h1 h2 q => ⟨_, _, DP.dp d v h1 f, DP.dp e u h2 f', f.shaped hn, f'.shaped hm, q⟩
theorem relB_ne {d e : D} {n m : Nat} (f : Flat n d) (f' : Flat m e) (hn : n ≤ 64 := by decide) (hm : m ≤ 64 := by decide) : RelB X (rNeD X.K) d e (!deq d e) := fun v u H VQ h1 h2 q => ⟨_, _, DP.dp d v h1 f, DP.dp e u h2 f', f.shaped hn, f'.shaped hm, q⟩
def D.nn : D → Bool
  | .non => false
  | .raw _ => false
  | _ => true
theorem relB_isN {d : D} (hd : d.nn = true) : RelB X (fun x y H Q => y = .non ∧ Q (.bl (decide (x = .non))) H) d .non false := fun v u H VQ h1 h2 q => by
  cases h2
  refine ⟨rfl, ?_⟩
  cases h1 <;> first | exact q | (simp [D.nn] at hd)
theorem relB_isN1 : RelB X (fun x y H Q => y = .non ∧ Q (.bl (decide (x = .non))) H) .non .non true := fun v u H VQ h1 h2 q => by
  cases h2; cases h1; exact ⟨rfl, q⟩
theorem relB_notN {d : D} (hd : d.nn = true) : RelB X (fun x y H Q => y = .non ∧ Q (.bl (!decide (x = .non))) H) d .non true := fun v u H VQ h1 h2 q => by
  cases h2
  refine ⟨rfl, ?_⟩
  cases h1 <;> first | exact q | (simp [D.nn] at hd)
theorem relB_notN1 : RelB X (fun x y H Q => y = .non ∧ Q (.bl (!decide (x = .non))) H) .non .non false := fun v u H VQ h1 h2 q => by
  cases h2; cases h1; exact ⟨rfl, q⟩
/-! ints in tests -/
theorem jt_lt {Q : Bool → List Ent → Prop} (h : JV X B a G fun d1 G1 => JV X B b G1 fun d2 G2 => ∃ i j, d1 = .int i ∧ d2 = .int j ∧ Q (decide (i < j)) G2) : JT X B (.Compare a [.Lt] [b] pos) G Q :=
  jt_cmp op_lt (nomark _) (JV.imp h fun _ _ h => JV.imp h fun _ _ ⟨i, j, e1, e2, q⟩ => ⟨_, by rw [e1, e2]; exact relB_lt, q⟩)
theorem jt_le {Q : Bool → List Ent → Prop} (h : JV X B a G fun d1 G1 => JV X B b G1 fun d2 G2 => ∃ i j, d1 = .int i ∧ d2 = .int j ∧ Q (decide (i ≤ j)) G2) : JT X B (.Compare a [.LtE] [b] pos) G Q :=
  jt_cmp op_le (nomark _) (JV.imp h fun _ _ h => JV.imp h fun _ _ ⟨i, j, e1, e2, q⟩ => ⟨_, by rw [e1, e2]; exact relB_le, q⟩)
theorem jt_gt {Q : Bool → List Ent → Prop} (h : JV X B a G fun d1 G1 => JV X B b G1 fun d2 G2 => ∃ i j, d1 = .int i ∧ d2 = .int j ∧ Q (decide (j < i)) G2) : JT X B (.Compare a [.Gt] [b] pos) G Q :=
  jt_cmp op_gt (nomark _) (JV.imp h fun _ _ h => JV.imp h fun _ _ ⟨i, j, e1, e2, q⟩ => ⟨_, by rw [e1, e2]; exact relB_gt, q⟩)
theorem jt_ge {Q : Bool → List Ent → Prop} (h : JV X B a G fun d1 G1 => JV X B b G1 fun d2 G2 => ∃ i j, d1 = .int i ∧ d2 = .int j ∧ Q (decide (j ≤ i)) G2) : JT X B (.Compare a [.GtE] [b] pos) G Q :=
  jt_cmp op_ge (nomark _) (JV.imp h fun _ _ h => JV.imp h fun _ _ ⟨i, j, e1, e2, q⟩ => ⟨_, by rw [e1, e2]; exact relB_ge, q⟩)
theorem jv_le {Q : D → List Ent → Prop} (h : JV X B a G fun d1 G1 => JV X B b G1 fun d2 G2 => ∃ i j, d1 = .int i ∧ d2 = .int j ∧ Q (.bl (decide (i ≤ j))) G2) : JV X B (.Compare a [.LtE] [b] pos) G Q :=
  jv_cmp op_le (nomark _) (JV.imp h fun _ _ h => JV.imp h fun _ _ ⟨i, j, e1, e2, q⟩ => ⟨_, by rw [e1, e2]; exact relB_le, q⟩)
theorem jv_ge {Q : D → List Ent → Prop} (h : JV X B a G fun d1 G1 => JV X B b G1 fun d2 G2 => ∃ i j, d1 = .int i ∧ d2 = .int j ∧ Q (.bl (decide (j ≤ i))) G2) : JV X B (.Compare a [.GtE] [b] pos) G Q :=
  jv_cmp op_ge (nomark _) (JV.imp h fun _ _ h => JV.imp h fun _ _ ⟨i, j, e1, e2, q⟩ => ⟨_, by rw [e1, e2]; exact relB_ge, q⟩)
theorem jv_lt {Q : D → List Ent → Prop} (h : JV X B a G fun d1 G1 => JV X B b G1 fun d2 G2 => ∃ i j, d1 = .int i ∧ d2 = .int j ∧ Q (.bl (decide (i < j))) G2) : JV X B (.Compare a [.Lt] [b] pos) G Q :=
  jv_cmp op_lt (nomark _) (JV.imp h fun _ _ h => JV.imp h fun _ _ ⟨i, j, e1, e2, q⟩ => ⟨_, by rw [e1, e2]; exact relB_lt, q⟩)
theorem jv_gt {Q : D → List Ent → Prop} (h : JV X B a G fun d1 G1 => JV X B b G1 fun d2 G2 => ∃ i j, d1 = .int i ∧ d2 = .int j ∧ Q (.bl (decide (j < i))) G2) : JV X B (.Compare a [.Gt] [b] pos) G Q :=
  jv_cmp op_gt (nomark _) (JV.imp h fun _ _ h => JV.imp h fun _ _ ⟨i, j, e1, e2, q⟩ => ⟨_, by rw [e1, e2]; exact relB_gt, q⟩)
/-! == and != of data -/
theorem jt_eq (cj : CJ P w K mg base S k X B E) {Q : Bool → List Ent → Prop} (h : JV X B a G fun d1 G1 => JV X B b G1 fun d2 G2 => (∃ n, Flat n d1 ∧ n ≤ 64) ∧ (∃ m, Flat m d2 ∧ m ≤ 64) ∧ Q (deq d1 d2) G2) : JT X B (.Compare a [.Eq] [b] pos) G Q :=
  jt_cmp (op_eqD cj.hr.units) (nomark _) (JV.imp h fun _ _ h => JV.imp h fun _ _ ⟨⟨n, f, hn⟩, ⟨m, f', hm⟩, q⟩ => ⟨_, relB_eq f f' hn hm, q⟩)
theorem jt_ne (cj : CJ P w K mg base S k X B E) {Q : Bool → List Ent → Prop} (h : JV X B a G fun d1 G1 => JV X B b G1 fun d2 G2 => (∃ n, Flat n d1 ∧ n ≤ 64) ∧ (∃ m, Flat m d2 ∧ m ≤ 64) ∧ Q (!deq d1 d2) G2) : JT X B (.Compare a [.NotEq] [b] pos) G Q :=
  jt_cmp (op_neD cj.hr.units) (nomark _) (JV.imp h fun _ _ h => JV.imp h fun _ _ ⟨⟨n, f, hn⟩, ⟨m, f', hm⟩, q⟩ => ⟨_, relB_ne f f' hn hm, q⟩)
theorem jv_eq (cj : CJ P w K mg base S k X B E) {Q : D → List Ent → Prop} (h : JV X B a G fun d1 G1 => JV X B b G1 fun d2 G2 => (∃ n, Flat n d1 ∧ n ≤ 64) ∧ (∃ m, Flat m d2 ∧ m ≤ 64) ∧ Q (.bl (deq d1 d2)) G2) : JV X B (.Compare a [.Eq] [b] pos) G Q :=
  jv_cmp (op_eqD cj.hr.units) (nomark _) (JV.imp h fun _ _ h => JV.imp h fun _ _ ⟨⟨n, f, hn⟩, ⟨m, f', hm⟩, q⟩ => ⟨_, relB_eq f f' hn hm, q⟩)
theorem jv_ne (cj : CJ P w K mg base S k X B E) {Q : D → List Ent → Prop} (h : JV X B a G fun d1 G1 => JV X B b G1 fun d2 G2 => (∃ n, Flat n d1 ∧ n ≤ 64) ∧ (∃ m, Flat m d2 ∧ m ≤ 64) ∧ Q (.bl (!deq d1 d2)) G2) : JV X B (.Compare a [.NotEq] [b] pos) G Q :=
  jv_cmp (op_neD cj.hr.units) (nomark _) (JV.imp h fun _ _ h => JV.imp h fun _ _ ⟨⟨n, f, hn⟩, ⟨m, f', hm⟩, q⟩ => ⟨_, relB_ne f f' hn hm, q⟩)
/-! ints alone -/
theorem deq_int (i j : Int) : deq (.int i) (.int j) = decide (i = j) := by
  rw [Bool.eq_iff_iff]; simp [deq, D.py, PyData.eqv]
theorem jt_eqi (cj : CJ P w K mg base S k X B E) {Q : Bool → List Ent → Prop} (h : JV X B a G fun d1 G1 => JV X B b G1 fun d2 G2 => ∃ i j, d1 = .int i ∧ d2 = .int j ∧ Q (decide (i = j)) G2) : JT X B (.Compare a [.Eq] [b] pos) G Q :=
  jt_eq cj (JV.imp h fun _ _ h => JV.imp h fun _ _ ⟨i, j, e1, e2, q⟩ => ⟨⟨0, by rw [e1]; exact .int i, by decide⟩, ⟨0, by rw [e2]; exact .int j, by decide⟩, by rw [e1, e2, deq_int]; exact q⟩)
theorem jt_nei (cj : CJ P w K mg base S k X B E) {Q : Bool → List Ent → Prop} (h : JV X B a G fun d1 G1 => JV X B b G1 fun d2 G2 => ∃ i j, d1 = .int i ∧ d2 = .int j ∧ Q (!decide (i = j)) G2) : JT X B (.Compare a [.NotEq] [b] pos) G Q :=
  jt_ne cj (JV.imp h fun _ _ h => JV.imp h fun _ _ ⟨i, j, e1, e2, q⟩ => ⟨⟨0, by rw [e1]; exact .int i, by decide⟩, ⟨0, by rw [e2]; exact .int j, by decide⟩, by rw [e1, e2, deq_int]; exact q⟩)
theorem jv_eqi (cj : CJ P w K mg base S k X B E) {Q : D → List Ent → Prop} (h : JV X B a G fun d1 G1 => JV X B b G1 fun d2 G2 => ∃ i j, d1 = .int i ∧ d2 = .int j ∧ Q (.bl (decide (i = j))) G2) : JV X B (.Compare a [.Eq] [b] pos) G Q :=
  jv_eq cj (JV.imp h fun _ _ h => JV.imp h fun _ _ ⟨i, j, e1, e2, q⟩ => ⟨⟨0, by rw [e1]; exact .int i, by decide⟩, ⟨0, by rw [e2]; exact .int j, by decide⟩, by rw [e1, e2, deq_int]; exact q⟩)
/-! ### None -/
theorem jt_isN {Q : Bool → List Ent → Prop} (h : JV X B a G fun d1 G1 => JV X B b G1 fun d2 G2 => d2 = .non ∧ ((d1 = .non ∧ Q true G2) ∨ (d1.nn = true ∧ Q false G2))) : JT X B (.Compare a [.Is] [b] pos) G Q :=
  jt_cmp op_isN (nomark _) (JV.imp h fun d1 _ h => JV.imp h fun _ _ ⟨e, q⟩ => by
    subst e
    rcases q with ⟨e, q⟩ | ⟨e, q⟩
    · subst e; exact ⟨true, relB_isN1, q⟩
    · exact ⟨false, relB_isN e, q⟩)
theorem jv_isN {Q : D → List Ent → Prop} (h : JV X B a G fun d1 G1 => JV X B b G1 fun d2 G2 => d2 = .non ∧ ((d1 = .non ∧ Q (.bl true) G2) ∨ (d1.nn = true ∧ Q (.bl false) G2))) : JV X B (.Compare a [.Is] [b] pos) G Q :=
  jv_cmp op_isN (nomark _) (JV.imp h fun d1 _ h => JV.imp h fun _ _ ⟨e, q⟩ => by
    subst e
    rcases q with ⟨e, q⟩ | ⟨e, q⟩
    · subst e; exact ⟨true, relB_isN1, q⟩
    · exact ⟨false, relB_isN e, q⟩)
theorem jt_notN {Q : Bool → List Ent → Prop} (h : JV X B a G fun d1 G1 => JV X B b G1 fun d2 G2 => d2 = .non ∧ ((d1 = .non ∧ Q false G2) ∨ (d1.nn = true ∧ Q true G2))) : JT X B (.Compare a [.IsNot] [b] pos) G Q :=
  jt_cmp op_notN (nomark _) (JV.imp h fun d1 _ h => JV.imp h fun _ _ ⟨e, q⟩ => by
    subst e
    rcases q with ⟨e, q⟩ | ⟨e, q⟩
    · subst e; exact ⟨false, relB_notN1, q⟩
    · exact ⟨true, relB_notN e, q⟩)
/-! ### truth -/
theorem jt_val {Q : Bool → List Ent → Prop} (h : JV X B e G fun d G' => ∃ kk, d = .bl kk ∧ Q kk G') (he : ∀ whole, isTrue e X.env whole = (do let v ← whole; standAt e.pos; holding [v] (truthy v)) := by intro _; rfl) : JT X B e G Q := fun t s z F H TQ hl c q =>
  tT_of (pt_val pe_sem he) (h t s z F H _ hl c fun v F' H' d G' c' ⟨kk, e, hq⟩ => by
    subst e
    cases c'.top
    exact ⟨kk, rfl, q kk F' H' G' c'.pop hq⟩)
theorem jt_not {Q : Bool → List Ent → Prop} (h : JT X B a G fun kk G' => Q (!kk) G') : JT X B (.UnaryOp .Not a pos) G Q := fun t s z F H TQ hl c q =>
  tT_of (pt_not pt_sem) (h t s z F H _ hl c fun kk F' H' G' c' hq => q _ F' H' G' c' hq)
theorem jw_and1 {Q : Bool → List Ent → Prop} (h : JT X B a G Q) : JW X B (.BoolOp .And [a] pos) G Q := fun t s z F H TQ hl c q => tW_of (pw_and1 pt_sem) (h t s z F H TQ hl c q)
theorem jw_or1 {Q : Bool → List Ent → Prop} (h : JT X B a G Q) : JW X B (.BoolOp .Or [a] pos) G Q := fun t s z F H TQ hl c q => tW_of (pw_or1 pt_sem) (h t s z F H TQ hl c q)
theorem jw_and {rest : List Expr} {Q : Bool → List Ent → Prop} (h : JT X B a G fun kk G' => (kk = true → JW X B (.BoolOp .And (b :: rest) pos) G' Q) ∧ (kk = false → Q false G')) : JW X B (.BoolOp .And (a :: b :: rest) pos) G Q := fun t s z F H TQ hl c q =>
  tW_of (pw_and pt_sem pw_sem) (h t s z F H _ hl c fun kk F' H' G' c' hq => by
    cases kk with
    | true => exact hq.1 rfl t s z F' H' TQ hl c' q
    | false => exact q false F' H' G' c' (hq.2 rfl))
theorem jw_or {rest : List Expr} {Q : Bool → List Ent → Prop} (h : JT X B a G fun kk G' => (kk = false → JW X B (.BoolOp .Or (b :: rest) pos) G' Q) ∧ (kk = true → Q true G')) : JW X B (.BoolOp .Or (a :: b :: rest) pos) G Q := fun t s z F H TQ hl c q =>
  tW_of (pw_or pt_sem pw_sem) (h t s z F H _ hl c fun kk F' H' G' c' hq => by
    cases kk with
    | false => exact hq.1 rfl t s z F' H' TQ hl c' q
    | true => exact q true F' H' G' c' (hq.2 rfl))
/-- as values: bools -/
theorem jv_one {op} {Q : D → List Ent → Prop} (h : JV X B a G Q) : JV X B (.BoolOp op [a] pos) G Q := fun t s z F H VQ hl c q => tS_of (pe_one pe_sem) (h t s z F H VQ hl c q)
theorem jv_and {rest : List Expr} {Q : D → List Ent → Prop} (h : JV X B a G fun d G' => ∃ kk, d = .bl kk ∧ (kk = true → JV X B (.BoolOp .And (b :: rest) pos) G' Q) ∧ (kk = false → Q (.bl false) G')) : JV X B (.BoolOp .And (a :: b :: rest) pos) G Q := fun t s z F H VQ hl c q =>
  tS_of (pe_and pe_sem pe_sem) (h t s z F H _ hl c fun v F' H' d G' c' ⟨kk, e, h1, h2⟩ => by
    subst e
    cases c'.top
    refine ⟨kk, rfl, ?_⟩
    cases kk with
    | true => rw [if_pos rfl]; exact h1 rfl t s z F' H' VQ hl c'.pop q
    | false => rw [if_neg Bool.false_ne_true]; exact q _ F' H' _ G' c' (h2 rfl))
theorem jv_or {rest : List Expr} {Q : D → List Ent → Prop} (h : JV X B a G fun d G' => ∃ kk, d = .bl kk ∧ (kk = false → JV X B (.BoolOp .Or (b :: rest) pos) G' Q) ∧ (kk = true → Q (.bl true) G')) : JV X B (.BoolOp .Or (a :: b :: rest) pos) G Q := fun t s z F H VQ hl c q =>
  tS_of (pe_or pe_sem pe_sem) (h t s z F H _ hl c fun v F' H' d G' c' ⟨kk, e, h1, h2⟩ => by
    subst e
    cases c'.top
    refine ⟨kk, rfl, ?_⟩
    cases kk with
    | false => rw [if_neg Bool.false_ne_true]; exact h1 rfl t s z F' H' VQ hl c'.pop q
    | true => rw [if_pos rfl]; exact q _ F' H' _ G' c' (h2 rfl))
theorem jv_not {Q : D → List Ent → Prop} (h : JV X B a G fun d G' => ∃ kk, d = .bl kk ∧ Q (.bl (!kk)) G') : JV X B (.UnaryOp .Not a pos) G Q := fun t s z F H VQ hl c q =>
  tS_of (pe_not pe_sem) (h t s z F H _ hl c fun v F' H' d G' c' ⟨kk, e, hq⟩ => by
    subst e
    cases c'.top
    exact ⟨kk, rfl, q _ F' H' _ G' (c'.pop.fz (.bl _)) hq⟩)
theorem je_if {c : Expr} {Q : Ent → List Ent → Prop} (h : JT X B c G fun kk G' => (kk = true → JE X B a G' Q) ∧ (kk = false → JE X B b G' Q)) : JE X B (.IfExp c a b pos) G Q := fun t s z F H VQ hl cf q =>
  tS_of (pe_ifExp pt_sem pe_sem pe_sem) (h t s z F H _ hl cf fun kk F' H' G' c' hq => by
    cases kk with
    | true => exact hq.1 rfl t s z F' H' VQ hl c' q
    | false => exact hq.2 rfl t s z F' H' VQ hl c' q)
theorem jv_if {c : Expr} {Q : D → List Ent → Prop} (h : JT X B c G fun kk G' => (kk = true → JV X B a G' Q) ∧ (kk = false → JV X B b G' Q)) : JV X B (.IfExp c a b pos) G Q := fun t s z F H VQ hl cf q =>
  tS_of (pe_ifExp pt_sem pe_sem pe_sem) (h t s z F H _ hl cf fun kk F' H' G' c' hq => by
    cases kk with
    | true => exact hq.1 rfl t s z F' H' VQ hl c' q
    | false => exact hq.2 rfl t s z F' H' VQ hl c' q)
/-- a < b < c -/
theorem jv_chain {op op' : CmpOp} {r r' : R2} {cc : Expr} {Q : D → List Ent → Prop} (ho : OpR X (compareOp op) r) (ho' : OpR X (compareOp op') r')
    (h : JV X B a G fun d1 G1 => JV X B b G1 fun d2 G2 => ∃ kk, RelB X r d1 d2 kk ∧ (kk = true → JV X B cc G2 fun d3 G3 => ∃ k2, RelB X r' d2 d3 k2 ∧ Q (.bl k2) G3) ∧ (kk = false → Q (.bl false) G2))
    (h2 : behindInMarks op' cc = false := by exact nomark _) : JV X B (.Compare a [op, op'] [b, cc] pos) G Q := fun t s z F H VQ hl c q =>
  tS_of (pe_chain ho ho' pe_sem pe_sem pe_sem h2) (run2 h hl c fun v u F' H' d1 d2 G' c' ⟨kk, hr, ht, hf⟩ => hr v u H' _ c'.pop.topH c'.topH ⟨kk, rfl, by
    cases kk with
    | true =>
      rw [if_pos rfl]
      refine ht rfl (some u :: some v :: t) s (.fz d2 :: .fz d1 :: z) F' H' _ (by simp [hl]) c' fun y F2 H2 d3 G3 c3 ⟨k2, hr2, hq⟩ => ?_
      exact hr2 u y H2 VQ c3.pop.topH c3.topH (q _ F2 H2 _ G3 (c3.pop.pop.pop.fz (.bl k2)) hq)
    | false =>
      rw [if_neg Bool.false_ne_true]
      exact q _ F' H' _ G' (c'.pop.pop.fz (.bl false)) (hf rfl)⟩)
theorem jt_chain {op op' : CmpOp} {r r' : R2} {cc : Expr} {Q : Bool → List Ent → Prop} (ho : OpR X (compareOp op) r) (ho' : OpR X (compareOp op') r')
    (h : JV X B a G fun d1 G1 => JV X B b G1 fun d2 G2 => ∃ kk, RelB X r d1 d2 kk ∧ (kk = true → JV X B cc G2 fun d3 G3 => ∃ k2, RelB X r' d2 d3 k2 ∧ Q k2 G3) ∧ (kk = false → Q false G2))
    (h2 : behindInMarks op' cc = false := by exact nomark _) : JT X B (.Compare a [op, op'] [b, cc] pos) G Q := fun t s z F H TQ hl c q =>
  tT_of (pt_chain ho ho' pe_sem pe_sem pe_sem h2) (run2 h hl c fun v u F' H' d1 d2 G' c' ⟨kk, hr, ht, hf⟩ => hr v u H' _ c'.pop.topH c'.topH ⟨kk, rfl, by
    cases kk with
    | true =>
      rw [if_pos rfl]
      refine ht rfl (some u :: some v :: t) s (.fz d2 :: .fz d1 :: z) F' H' _ (by simp [hl]) c' fun y F2 H2 d3 G3 c3 ⟨k2, hr2, hq⟩ => ?_
      exact hr2 u y H2 _ c3.pop.topH c3.topH ⟨k2, rfl, q k2 F2 H2 G3 c3.pop.pop.pop hq⟩
    | false =>
      rw [if_neg Bool.false_ne_true]
      exact ⟨false, rfl, q false F' H' G' c'.pop.pop (hf rfl)⟩⟩)
end
end J

namespace J
open PySem PySem.Spec L2

/-! ## owned slots -/
def upE : Ent → Ow → Ent
  | .ow _, o => .ow o
  | .bw m _, o => .bw m o
  | e, _ => e
def setOw : List Ent → Nat → Ow → List Ent
  | [], _, _ => []
  | e :: g, 0, o => upE e o :: g
  | e :: g, n + 1, o => e :: setOw g n o
theorem setOw_ow : ∀ {G : List Ent} {i : Nat} {o o' : Ow}, G[i]? = some (.ow o) → setOw G i o' = G.set i (.ow o')
  | [], _, _, _, h => by simp at h
  | e :: g, 0, _, _, h => by simp at h; subst h; rfl
  | e :: g, n + 1, o, o', h => by
    show e :: setOw g n o' = e :: g.set n (.ow o')
    rw [setOw_ow (o := o) (by simpa using h)]
theorem setOw_bw : ∀ {G : List Ent} {i k : Nat} {o o' : Ow}, G[i]? = some (.bw k o) → setOw G i o' = G.set i (.bw k o')
  | [], _, _, _, _, h => by simp at h
  | e :: g, 0, _, _, _, h => by simp at h; subst h; rfl
  | e :: g, n + 1, k, o, o', h => by
    show e :: setOw g n o' = e :: g.set n (.bw k o')
    rw [setOw_bw (k := k) (o := o) (by simpa using h)]
theorem setOw_len : ∀ (G : List Ent) (i : Nat) (o : Ow), (setOw G i o).length = G.length
  | [], _, _ => rfl
  | _ :: _, 0, _ => rfl
  | e :: g, n + 1, o => by show (setOw g n o).length + 1 = g.length + 1; rw [setOw_len]
theorem Conf.slot {K : PySem.W.Frag} {B : Bs} {F H : Hp} {t s : St} {z G : List Ent} {i : Nat} {o : Ow} (hl : t.length = z.length) (c : Conf K B (t ++ s) F H (z ++ G)) (h : entOw G[i]? = some o) :
    ∃ a, s[i]? = some (some (.ref a)) ∧ OwAt K F H a o ∧ F a = none ∧ ∀ ho o', OwAt K F (upd H a ho) a o' → Conf K B (t ++ s) F (upd H a ho) (z ++ setOw G i o') := by
  rcases entOw_cases h with e | ⟨m, e⟩
  · have hg : (z ++ G)[t.length + i]? = some (.ow o) := by rw [hl, get_app]; exact e
    obtain ⟨v, h1, a, rfl, ow, _⟩ := c.at hg
    refine ⟨a, by rw [← h1, get_app], ow, c.own a (oads_at h1 hg a (by simp [oad])), fun ho o' q => ?_⟩
    have := c.write hg h1 q
    rw [hl, set_app, ← setOw_ow e] at this
    exact this
  · have hg : (z ++ G)[t.length + i]? = some (.bw m o) := by rw [hl, get_app]; exact e
    obtain ⟨v, h1, a, rfl, ow, _⟩ := c.at hg
    refine ⟨a, by rw [← h1, get_app], ow, c.own a (oads_at h1 hg a (by simp [oad])), fun ho o' q => ?_⟩
    have := c.writeB hg h1 q
    rw [hl, set_app, ← setOw_bw e] at this
    exact this

theorem Conf.newL {K : PySem.W.Frag} {B : Bs} {F H : Hp} {s : St} {g : List Ent} {p : Addr} {vs : List V} {ds : List D} (c : Conf K B s F H g) (np : H p = none) (dp : DPs K F vs ds) : Conf K B (some (.ref p) :: s) F (upd H p (.lst vs)) (.ow (.lst ds) :: g) :=
  c.new (ho := .lst vs) (o := .lst ds) np ⟨vs, upd_same, dp⟩
theorem Conf.newT {K : PySem.W.Frag} {B : Bs} {F H : Hp} {s : St} {g : List Ent} {p : Addr} {vs : List V} {ds : List D} (c : Conf K B s F H g) (np : H p = none) (dp : DPs K F vs ds) : Conf K B (some (.ref p) :: s) (upd F p (.tup vs)) (upd H p (.tup vs)) (.fz (.tup ds) :: g) :=
  (c.alloc np).fz (.tup (.inl (.inl upd_same)) (DP.monoL (same_upd (c.fresh np)) _ _ dp))
section
variable {P : Program} {w : World} {K : PySem.W.Frag} {mg : Str → Option Value} {base : Heap} {S : Sc} {k : Nat} {X : Cx} {B : Bs} {E : XW} {G : List Ent} {a b e : Expr} {es : List Expr} {pos : Pos} {x : Str}

/-! ### argument lists -/
theorem JA.nil {Q : List Arg → List Ent → Prop} (h : Q [] G) : JA X B [] G Q := fun t s z F H AQ hl c q => tAr_of pa_nil (q [] [] F H G c .nil h)
theorem JA.cons {Q : List Arg → List Ent → Prop} (h : JV X B e G fun d G1 => JA X B es G1 fun as G2 => Q (.v d :: as) G2) (hs : starEach (e :: es) X.env = (false, eval e X.env) :: starEach es X.env := by rfl) : JA X B (e :: es) G Q := fun t s z F H AQ hl c q =>
  tAr_of (pa_cons pe_sem pa_sem hs) (h t s z F H _ hl c fun v F' H' d G' c' h2 => h2 (some v :: t) s (.fz d :: z) F' H' _ (by simp [hl]) c' fun vs as F2 H2 G2 c2 ab hq => by
    refine q (v :: vs) (.v d :: as) F2 H2 G2 ?_ (.cons trivial ab) hq
    rw [List.map_cons, List.map_cons, List.reverse_cons, List.reverse_cons, List.append_assoc, List.append_assoc]
    exact c2)
theorem JA.lend (cj : CJ P w K mg base S k X B E) (i : Nat) {Q : List Arg → List Ent → Prop} (h : JA X B es G fun as G2 => Q (.b i :: as) G2) (hN : S.N[i]? = some x := by rfl) (hv : i ∈ S.vi := by decide) (hg : (entOw G[i]?).isSome = true := by rfl)
    (hs : starEach (.Name x pos :: es) X.env = (false, eval (.Name x pos) X.env) :: starEach es X.env := by rfl) : JA X B (.Name x pos :: es) G Q := fun t s z F H AQ hl c q => by
  have hn := okName_of (Sc.vis cj.ok hv hN).1
  refine tAr_of (pa_cons (pe_var (cj.xN hN) (cj.vis hv hN) hn.1 hn.2.1) pa_sem hs) ?_
  obtain ⟨o, ho⟩ := Option.isSome_iff_exists.mp hg
  obtain ⟨y, e1, _⟩ := c.slot hl ho
  refine ⟨.ref y, e1, h (some (.ref y) :: t) s (.no :: z) F H _ (by simp [hl]) (c.push trivial (oad_no _)) fun vs as F2 H2 G2 c2 ab hq => ?_⟩
  refine q (.ref y :: vs) (.b i :: as) F2 H2 G2 ?_ (.cons e1 ab) hq
  rw [List.map_cons, List.map_cons, List.reverse_cons, List.reverse_cons, List.append_assoc, List.append_assoc]
  exact c2
/-- the arguments' data -/
theorem args_dp {K : PySem.W.Frag} {B : Bs} {F H : Hp} {u : St} {g : List Ent} {vs : List V} {ds : List D} (hlen : vs.length = ds.length) (c : Conf K B ((vs.map some).reverse ++ u) F H (((List.map Arg.v ds).map Arg.ent).reverse ++ g)) : DPs K F vs ds ∧ Conf K B u F H g := by
  have hl2 : ((vs.map some).reverse).length = (((List.map Arg.v ds).map Arg.ent).reverse).length := by simp [hlen]
  obtain ⟨ea, eb⟩ := psplit hl2 c.env
  have ea : Paired (EntOk K B F H) (vs.map some) ((List.map Arg.v ds).map Arg.ent) := by
    have := prev ea
    rwa [List.reverse_reverse, List.reverse_reverse] at this
  refine ⟨?_, ?_⟩
  · have go : ∀ {vs : List V} {ds : List D}, Paired (EntOk K B F H) (vs.map some) ((List.map Arg.v ds).map Arg.ent) → DPs K F vs ds := by
      intro vs
      induction vs with
      | nil => intro ds h; cases ds with
        | nil => exact .nil
        | cons _ _ => cases h
      | cons v vs ih =>
        intro ds h
        cases ds with
        | nil => cases h
        | cons d ds =>
          cases h with
          | cons q t =>
            obtain ⟨y, e, p⟩ := q
            cases e
            exact .cons p (ih t)
    exact go ea
  · have dropN : ∀ (n : Nat) (x : St) (y : List Ent), x.length = n → y.length = n → Conf K B (x ++ u) F H (y ++ g) → Conf K B u F H g := by
      intro n
      induction n with
      | zero => intro x y hx hy c; cases x <;> cases y <;> simp_all
      | succ n ih =>
        intro x y hx hy c
        cases x with
        | nil => simp at hx
        | cons a x => cases y with
          | nil => simp at hy
          | cons b y => exact ih x y (by simpa using hx) (by simpa using hy) c.pop
    exact dropN _ _ _ rfl hl2.symm c
/-- arguments, all of them frozen -/
def JD (X : Cx) (B : Bs) (es : List Expr) (G : List Ent) (Q : List D → List Ent → Prop) : Prop := JA X B es G fun as G' => ∃ ds : List D, as = List.map Arg.v ds ∧ Q ds G'
theorem runD {Q : List D → List Ent → Prop} (h : JD X B es G Q) {t s : St} {z : List Ent} {F H : Hp} {AQ : List V → Hp → Prop} (hl : t.length = z.length) (c : Conf X.K B (t ++ s) F H (z ++ G))
    (q : ∀ vs ds F' H' G', DPs X.K F' vs ds → Conf X.K B (t ++ s) F' H' (z ++ G') → Q ds G' → AQ vs H') : tAr X es s H AQ :=
  h t s z F H _ hl c fun vs as F' H' G' c' ab ⟨ds, e, hq⟩ => by
    subst e
    obtain ⟨h1, h2⟩ := args_dp (by have := ab.length; simpa using this) c'
    exact q vs ds F' H' G' h1 h2 hq
theorem JD.nil {Q : List D → List Ent → Prop} (h : Q [] G) : JD X B [] G Q := JA.nil ⟨[], rfl, h⟩
theorem JA.imp {Q Q' : List Arg → List Ent → Prop} (h : JA X B es G Q) (i : ∀ d G', Q d G' → Q' d G') : JA X B es G Q' := fun t s z F H VQ hl c k =>
  h t s z F H VQ hl c fun vs as F' H' G' c' ab q => k vs as F' H' G' c' ab (i as G' q)
theorem JD.cons {Q : List D → List Ent → Prop} (h : JV X B e G fun d G1 => JD X B es G1 fun ds G2 => Q (d :: ds) G2) (hs : starEach (e :: es) X.env = (false, eval e X.env) :: starEach es X.env := by rfl) : JD X B (e :: es) G Q :=
  JA.cons (JV.imp h fun d G1 h => JA.imp h fun as G2 ⟨ds, e, q⟩ => ⟨d :: ds, by rw [e]; rfl, q⟩) hs

/-! ### displays -/
theorem jv_tup {x1} {Q : D → List Ent → Prop} (h : JD X B es G fun ds G' => ds.length ≤ sizeLine ∧ Q (.tup ds) G') : JV X B (.Tuple es x1 pos) G Q := fun t s z F H VQ hl c q =>
  tS_of (pe_tup pa_sem) (runD h hl c fun vs ds F' H' G' dp c' ⟨hz, hq⟩ => ⟨by rw [dp.length]; exact hz, fun p np => by
    exact q (.ref p) _ _ _ G' (c'.newT np dp) hq⟩)
theorem je_lst {Q : Ent → List Ent → Prop} (h : JD X B es G fun ds G' => ds.length ≤ sizeLine ∧ Q (.ow (.lst ds)) G') : JE X B (.List es pos) G Q := fun t s z F H VQ hl c q =>
  tS_of (pe_lst pa_sem) (runD h hl c fun vs ds F' H' G' dp c' ⟨hz, hq⟩ => ⟨by rw [dp.length]; exact hz, fun p np =>
    q (.ref p) F' _ _ G' (c'.newL np dp) trivial hq⟩)
/-! ### places -/
theorem atI_paired {α β : Type} {R : α → β → Prop} {l : List α} {m : List β} (h : Paired R l m) {i : Int} {v : β} (e : atI m i = some v) : ∃ u, atI l i = some u ∧ R u v := by
  unfold atI at e ⊢
  rw [h.length]
  cases q : ixN m.length i with
  | none => rw [q] at e; cases e
  | some j =>
    rw [q] at e
    obtain ⟨u, h1, h2⟩ := pget h e
    exact ⟨u, h1, h2⟩
inductive SeqD (ds : List D) : D → Prop
  | lst : SeqD ds (.lst ds)
  | tup : SeqD ds (.tup ds)
  | kls : SeqD ds (.kls ds)
  | tp : SeqD ds (.tp ds)
theorem jv_ix {Q : D → List Ent → Prop} (h : JV X B a G fun d1 G1 => JV X B b G1 fun d2 G2 => ∃ ds i d, SeqD ds d1 ∧ d2 = .int i ∧ atI ds i = some d ∧ Q d G2) (hs : PlainIx b := by exact fun _ _ => rfl) : JV X B (.Subscript a b pos) G Q := fun t s z F H VQ hl c q =>
  tS_of (pe_ix ix_seq pe_sem pe_sem hs) (run2 h hl c fun v u F' H' d1 d2 G' c' ⟨ds, i, d, sd, e, ha, hq⟩ => by
    subst e
    cases c'.top
    have dp := c'.pop.top
    have sm := c'.fh
    cases sd with
    | lst => cases dp with
      | lst h1 h2 =>
        obtain ⟨y, h3, h4⟩ := atI_paired h2 ha
        exact .inl ⟨_, _, i, y, rfl, rfl, .of (sm _ _ h1), h3, q y F' H' d G' (c'.pop.pop.fz h4) hq⟩
    | tup => cases dp with
      | tup h1 h2 =>
        obtain ⟨y, h3, h4⟩ := atI_paired h2 ha
        exact .inr (.inl ⟨_, _, i, y, rfl, rfl, sameT sm h1, h3, q y F' H' d G' (c'.pop.pop.fz h4) hq⟩)
    | kls => cases dp with
      | kls h1 h2 =>
        obtain ⟨y, h3, h4⟩ := atI_paired h2 ha
        exact .inl ⟨_, _, i, y, rfl, rfl, sm.seq h1, h3, q y F' H' d G' (c'.pop.pop.fz h4) hq⟩
    | tp => cases dp with
      | tp h1 h2 =>
        obtain ⟨y, h3, h4⟩ := atI_paired h2 ha
        exact .inr (.inl ⟨_, _, i, y, rfl, rfl, .inl (.inl (sm _ _ h1)), h3, q y F' H' d G' (c'.pop.pop.fz h4) hq⟩))
/-- xs[i], xs an owned list at a slot -/
theorem jv_ixO (cj : CJ P w K mg base S k X B E) (i : Nat) {xp : Pos} {Q : D → List Ent → Prop} (h : JV X B b G fun d2 G2 => ∃ ds j d, entOw G2[i]? = some (.lst ds) ∧ d2 = .int j ∧ atI ds j = some d ∧ Q d G2) (hN : S.N[i]? = some x := by rfl) (hv : i ∈ S.vi := by decide) (hg : (entOw G[i]?).isSome = true := by rfl) (hs : PlainIx b := by exact fun _ _ => rfl) :
    JV X B (.Subscript (.Name x xp) b pos) G Q := fun t s z F H VQ hl c q => by
  have hn := okName_of (Sc.vis cj.ok hv hN).1
  refine tS_of (pe_ix ix_list (pe_var (cj.xN hN) (cj.vis hv hN) hn.1 hn.2.1) pe_sem hs) ?_
  obtain ⟨o, ho⟩ := Option.isSome_iff_exists.mp hg
  obtain ⟨y, e1, _⟩ := c.slot hl ho
  refine ⟨.ref y, e1, h t s z F H _ hl c fun u F' H' d2 G2 c2 ⟨ds, j, d, h1, h2, h3, h4⟩ => ?_⟩
  subst h2
  cases c2.top
  obtain ⟨y', e1', ⟨xs, o1, o2⟩, _⟩ := c2.pop.slot hl h1
  rw [e1] at e1'
  cases e1'
  obtain ⟨v, h5, h6⟩ := atI_paired o2 h3
  exact ⟨y, xs, j, v, rfl, rfl, .of o1, h5, q v F' H' d G2 (c2.pop.fz h6) h4⟩
/-! ### fields of an instance -/
theorem lookup_paired {K : PySem.W.Frag} {F : Hp} {f : Str} {d : D} : ∀ {fs : List (Str × V)} {ns : List Str} {ds : List D}, ns = fs.map (·.1) → DPs K F (fs.map (·.2)) ds → (ns.zip ds).lookup f = some d → ∃ v, fs.lookup f = some v ∧ DP K F v d
  | [], ns, ds, e, h, q => by subst e; cases h; simp at q
  | (g, v) :: fs, ns, ds, e, h, q => by
    subst e
    cases h with
    | cons r t =>
      rw [List.map_cons, List.zip_cons_cons, List.lookup_cons] at q
      rw [List.lookup_cons]
      cases hb : f == g with
      | true =>
        rw [hb] at q
        simp at q
        subst q
        exact ⟨v, rfl, r⟩
      | false =>
        rw [hb] at q
        exact lookup_paired rfl t q
theorem jv_fld {f : Str} {Q : D → List Ent → Prop} (h : JV X B e G fun d1 G1 => ∃ C ns ds d, d1 = .ins C ns ds ∧ Cls X.K C ∧ NoAttr X.K C f ∧ (ns.zip ds).lookup f = some d ∧ Q d G1) (hb : attributeBase e f X.env (eval e X.env) = eval e X.env := by rfl) : JV X B (.Attribute e f pos) G Q := fun t s z F H VQ hl c q =>
  tS_of (pe_fld pe_sem hb) (h t s z F H _ hl c fun v F' H' d G' c' ⟨C, ns, ds, d2, e1, cl, na, lk, hq⟩ => by
    subst e1
    have sm := c'.fh
    cases c'.top with
    | ins h1 h2 h3 h4 =>
      obtain ⟨y, h5, h6⟩ := lookup_paired h3 h4 lk
      exact ⟨_, C, _, _, y, rfl, sm _ _ h1, cl, na, h5, q y F' H' d2 G' (c'.pop.fz h6) hq⟩)
/-! ### x + y -/
theorem je_cat {Q : Ent → List Ent → Prop} (h : JV X B a G fun d1 G1 => JV X B b G1 fun d2 G2 => ∃ ds es, d1 = .lst ds ∧ d2 = .lst es ∧ ds.length + es.length ≤ sizeLine ∧ Q (.ow (.lst (ds ++ es))) G2) : JE X B (.BinOp a .Add b pos) G Q := fun t s z F H VQ hl c q =>
  tS_of (pe_op op_cat pe_sem pe_sem) (run2 h hl c fun v u F' H' d1 d2 G' c' ⟨ds, es, e1, e2, hz, hq⟩ => by
    subst e1 e2
    have sm := c'.fh
    cases c'.top with
    | lst h1 h2 => cases c'.pop.top with
      | lst h3 h4 =>
        refine ⟨_, _, _, _, rfl, rfl, sm _ _ h3, sm _ _ h1, by rw [h4.length, h2.length]; exact hz, fun p np => ?_⟩
        exact q (.ref p) F' _ _ G' (c'.pop.pop.newL np (papp h4 h2)) trivial hq)
theorem jv_catT {Q : D → List Ent → Prop} (h : JV X B a G fun d1 G1 => JV X B b G1 fun d2 G2 => ∃ ds es, d1 = .tup ds ∧ d2 = .tup es ∧ ds.length + es.length ≤ sizeLine ∧ Q (.tup (ds ++ es)) G2) : JV X B (.BinOp a .Add b pos) G Q := fun t s z F H VQ hl c q =>
  tS_of (pe_op op_catA pe_sem pe_sem) (run2 h hl c fun v u F' H' d1 d2 G' c' ⟨ds, es, e1, e2, hz, hq⟩ => by
    subst e1 e2
    have sm := c'.fh
    cases c'.top with
    | tup h1 h2 => cases c'.pop.top with
      | tup h3 h4 =>
        refine ⟨_, _, _, _, rfl, rfl, sameT sm h3, sameT sm h1, by rw [h4.length, h2.length]; exact hz, fun ex => ?_, fun _ ey => ?_, fun _ _ p np => ?_⟩
        · subst ex
          cases h4
          exact q _ F' H' _ G' (c'.pop.pop.fz (.tup h1 h2)) hq
        · subst ey
          cases h2
          rw [List.append_nil] at hq
          exact q _ F' H' _ G' (c'.pop.pop.fz (.tup h3 h4)) hq
        · exact q (.ref p) _ _ _ G' (c'.pop.pop.newT np (papp h4 h2)) hq)
theorem je_rep {Q : Ent → List Ent → Prop} (h : JV X B a G fun d1 G1 => JV X B b G1 fun d2 G2 => ∃ ds n, d1 = .lst ds ∧ d2 = .int n ∧ -(2 ^ 63) ≤ n ∧ n < 2 ^ 63 ∧ ds.length * n.toNat ≤ sizeLine ∧ Q (.ow (.lst (List.replicate n.toNat ds).flatten)) G2) : JE X B (.BinOp a .Mult b pos) G Q := fun t s z F H VQ hl c q =>
  tS_of (pe_op op_rep pe_sem pe_sem) (run2 h hl c fun v u F' H' d1 d2 G' c' ⟨ds, n, e1, e2, h1, h2, hz, hq⟩ => by
    subst e1 e2
    have sm := c'.fh
    cases c'.top
    cases c'.pop.top with
    | lst h3 h4 =>
      refine ⟨_, n, _, rfl, rfl, sm _ _ h3, h1, h2, by rw [h4.length]; exact hz, fun p np => ?_⟩
      exact q (.ref p) F' _ _ G' (c'.pop.pop.newL np (pflat (prep h4 _))) trivial hq)
/-! ### slices -/
/-- an end of a slice -/
def JO (X : Cx) (B : Bs) (o : Option Expr) (G : List Ent) (Q : Option Int → List Ent → Prop) : Prop :=
  match o with
  | none => Q none G
  | some e => JV X B e G fun d G' => ∃ i, d = .int i ∧ Q (some i) G'
def tOs (X : Cx) : Option Expr → TO
  | none => tNoPart
  | some e => tPart (tS X e)
theorem po_sem (o : Option Expr) : PO X o (tOs X o) := by
  cases o with
  | none => exact po_none
  | some e => exact po_some pe_sem
theorem runO {o : Option Expr} {Q : Option Int → List Ent → Prop} (h : JO X B o G Q) {t s : St} {z : List Ent} {F H : Hp} {OQ : Option Int → Hp → Prop} (hl : t.length = z.length) (c : Conf X.K B (t ++ s) F H (z ++ G))
    (q : ∀ i F' H' G', Conf X.K B (t ++ s) F' H' (z ++ G') → Q i G' → OQ i H') : tOs X o s H OQ := by
  cases o with
  | none => exact q none F H G c h
  | some e =>
    have h : JV X B e G fun d G' => ∃ i, d = .int i ∧ Q (some i) G' := h
    exact h t s z F H _ hl c fun v F' H' d G' c' ⟨i, e, hq⟩ => by
      subst e
      cases c'.top
      exact ⟨i, rfl, q (some i) F' H' G' c'.pop hq⟩
def cutD (xs : List D) (lo hi : Option Int) : List D := (xs.drop (HT.sIx xs.length 0 lo)).take (HT.sIx xs.length xs.length hi - HT.sIx xs.length 0 lo)
theorem cut_paired {R : V → D → Prop} {l : List V} {m : List D} (h : Paired R l m) (lo hi : Option Int) : Paired R (cutV l lo hi) (cutD m lo hi) := by
  unfold cutV cutD
  rw [h.length]
  exact ptake _ (pdrop _ h)
theorem je_slice {lo hi : Option Expr} {p2 : Pos} {Q : Ent → List Ent → Prop} (h : JV X B e G fun d G1 => JO X B lo G1 fun i G2 => JO X B hi G2 fun j G3 => ∃ ds, (d = .lst ds ∨ d = .kls ds) ∧ Q (.ow (.lst (cutD ds i j))) G3) : JE X B (.Subscript e (.Slice lo hi none p2) pos) G Q := fun t s z F H VQ hl c q =>
  tS_of (pe_slice sl_list pe_sem (po_sem lo) (po_sem hi)) (h t s z F H _ hl c fun v F1 H1 d G1 c1 h1 => runO h1 (t := some v :: t) (z := .fz d :: z) (by simp [hl]) c1 fun i F2 H2 G2 c2 h2 => runO h2 (t := some v :: t) (z := .fz d :: z) (by simp [hl]) c2 fun j F3 H3 G3 c3 ⟨ds, e, hq⟩ => by
    have sm := c3.fh
    rcases e with e | e
    · subst e
      cases c3.top with
      | lst h3 h4 => exact ⟨_, _, rfl, .of (sm _ _ h3), fun p np => q (.ref p) F3 _ _ G3 (c3.pop.newL np (cut_paired h4 i j)) trivial hq⟩
    · subst e
      cases c3.top with
      | kls h3 h4 => exact ⟨_, _, rfl, sm.seq h3, fun p np => q (.ref p) F3 _ _ G3 (c3.pop.newL np (cut_paired h4 i j)) trivial hq⟩)
theorem cut_whole {xs : List D} {lo hi : Option Int} (h : HT.sIx xs.length 0 lo = 0 ∧ HT.sIx xs.length xs.length hi = xs.length) : cutD xs lo hi = xs := by
  unfold cutD
  rw [h.1, h.2]
  simp
theorem jv_sliceT {lo hi : Option Expr} {p2 : Pos} {Q : D → List Ent → Prop} (h : JV X B e G fun d G1 => JO X B lo G1 fun i G2 => JO X B hi G2 fun j G3 => ∃ ds, d = .tup ds ∧ Q (.tup (cutD ds i j)) G3) : JV X B (.Subscript e (.Slice lo hi none p2) pos) G Q := fun t s z F H VQ hl c q =>
  tS_of (pe_slice sl_tupA pe_sem (po_sem lo) (po_sem hi)) (h t s z F H _ hl c fun v F1 H1 d G1 c1 h1 => runO h1 (t := some v :: t) (z := .fz d :: z) (by simp [hl]) c1 fun i F2 H2 G2 c2 h2 => runO h2 (t := some v :: t) (z := .fz d :: z) (by simp [hl]) c2 fun j F3 H3 G3 c3 ⟨ds, e, hq⟩ => by
    subst e
    have sm := c3.fh
    cases c3.top with
    | tup h3 h4 =>
      refine ⟨_, _, rfl, sameT sm h3, fun hw => ?_, fun _ p np => ?_⟩
      · rw [h4.length] at hw
        rw [cut_whole hw] at hq
        exact q _ F3 H3 _ G3 (c3.pop.fz (.tup h3 h4)) hq
      · exact q (.ref p) _ _ _ G3 (c3.pop.newT np (cut_paired h4 i j)) hq)
end
end J

namespace J
open PySem PySem.Spec L2

/-! ## sorted lists of ints -/
def insI (x : Int) : List Int → List Int
  | [] => [x]
  | y :: r => if x ≤ y then x :: y :: r else y :: insI x r
def isort : List Int → List Int
  | [] => []
  | x :: r => insI x (isort r)
theorem insI_perm (x : Int) : ∀ l : List Int, (insI x l).Perm (x :: l)
  | [] => List.Perm.refl _
  | y :: r => by
    unfold insI
    split
    · exact List.Perm.refl _
    · exact ((insI_perm x r).cons y).trans (List.Perm.swap x y r)
theorem isort_perm : ∀ l : List Int, (isort l).Perm l
  | [] => List.Perm.refl _
  | x :: r => (insI_perm x (isort r)).trans ((isort_perm r).cons x)
theorem insI_sorted (x : Int) : ∀ l : List Int, l.Pairwise (· ≤ ·) → (insI x l).Pairwise (· ≤ ·)
  | [], _ => by simp [insI]
  | y :: r, h => by
    obtain ⟨h1, h2⟩ := List.pairwise_cons.mp h
    unfold insI
    split
    · rename_i hx
      exact List.pairwise_cons.mpr ⟨fun z hz => by
        rcases List.mem_cons.mp hz with e | hz
        · subst e; exact hx
        · exact Int.le_trans hx (h1 z hz), h⟩
    · rename_i hx
      refine List.pairwise_cons.mpr ⟨fun z hz => ?_, insI_sorted x r h2⟩
      rcases List.mem_cons.mp ((insI_perm x r).mem_iff.mp hz) with e | hz
      · subst e; omega
      · exact h1 z hz
theorem isort_sorted : ∀ l : List Int, (isort l).Pairwise (· ≤ ·)
  | [] => List.Pairwise.nil
  | x :: r => insI_sorted x _ (isort_sorted r)
theorem sorted_unique : ∀ {l m : List Int}, l.Perm m → l.Pairwise (· ≤ ·) → m.Pairwise (· ≤ ·) → l = m
  | [], m, p, _, _ => by have := p.length_eq; cases m with
    | nil => rfl
    | cons _ _ => simp at this
  | x :: l, [], p, _, _ => by have := p.length_eq; simp at this
  | x :: l, y :: m, p, h1, h2 => by
    obtain ⟨a1, a2⟩ := List.pairwise_cons.mp h1
    obtain ⟨b1, b2⟩ := List.pairwise_cons.mp h2
    have e : x = y := by
      have hx : x ∈ y :: m := p.mem_iff.mp List.mem_cons_self
      have hy : y ∈ x :: l := p.mem_iff.mpr List.mem_cons_self
      rcases List.mem_cons.mp hx with e | hx
      · exact e
      · rcases List.mem_cons.mp hy with e | hy
        · exact e.symm
        · have := b1 x hx
          have := a1 y hy
          omega
    subst e
    rw [sorted_unique (p.cons_inv) a2 b2]
theorem isort_of {l m : List Int} (p : l.Perm m) (h : l.Pairwise (· ≤ ·)) : l = isort m := sorted_unique (p.trans (isort_perm m).symm) h (isort_sorted m)
theorem isort_self {l : List Int} (h : l.Pairwise (· ≤ ·)) : isort l = l := (isort_of (List.Perm.refl l) h).symm

theorem ints_of_dps {K : PySem.W.Frag} {F : Hp} : ∀ {xs : List V} {ns : List Int}, DPs K F xs (ns.map D.int) → xs = ns.map V.int
  | _, [], h => by cases h; rfl
  | _, n :: ns, h => by
    cases h with
    | cons r t =>
      cases r
      rw [ints_of_dps t]; rfl
theorem dps_ints {K : PySem.W.Frag} {F : Hp} : ∀ (ns : List Int), DPs K F (ns.map V.int) (ns.map D.int)
  | [] => .nil
  | n :: ns => .cons (.int n) (dps_ints ns)

section
variable {P : Program} {w : World} {K : PySem.W.Frag} {mg : Str → Option Value} {base : Heap} {S : Sc} {k : Nat} {X : Cx} {B : Bs} {E : XW} {G : List Ent} {a b e o : Expr} {es : List Expr} {pos p apos : Pos} {x : Str}

/-! ### built-in functions -/
theorem CJ.mgx (cj : CJ P w K mg base S k X B E) {u : Option Value} (hm : mg x = u) : X.mg x = u := by rw [cj.hmg]; exact hm
/-- one that gives a scalar -/
theorem jv_callB (cj : CJ P w K mg base S k X B E) (j : Nat) {id : String} {r : List V → Hp → VK → Prop} {Q : D → List Ent → Prop} (hc : CallR X (.builtin id) r) (hm : mg x = none) (hv : bootBuiltins x = some (.builtin id))
    (h : JD X B (e :: es) G fun ds G' => ∃ v d, Sca v d ∧ (∀ vs H VQ, DPs X.K H vs ds → VQ v H → r vs H VQ) ∧ Q d G') (hj : S.gl[j]? = some x := by rfl)
    (he : starEach (e :: es) X.env = (false, eval e X.env) :: starEach es X.env := by rfl) (hpl : (backTo pos (starEach es X.env)).any (·.1) = false := by rfl) : JV X B (.Call (.Name x p) (e :: es) [] pos) G Q := fun t s z F H VQ hl c q =>
  tS_of (pe_callB hc (cj.gl hj) (cj.mgx hm) hv pa_sem (cj.nnm hj) (cj.dbg hj) he hpl) (runD h hl c fun vs ds F' H' G' dp c' ⟨v, d, sc, hr, hq⟩ => hr vs H' VQ (DP.monoL c'.fh _ _ dp) (q v F' H' d G' (c'.fz sc.dp) hq))
theorem jv_callTy (cj : CJ P w K mg base S k X B E) (j : Nat) {T : String} {r : List V → Hp → VK → Prop} {Q : D → List Ent → Prop} (hc : CallR X (.type T) r) (hm : mg x = none) (hv : bootBuiltins x = some (.type T))
    (h : JD X B (e :: es) G fun ds G' => ∃ v d, Sca v d ∧ (∀ vs H VQ, DPs X.K H vs ds → VQ v H → r vs H VQ) ∧ Q d G') (hj : S.gl[j]? = some x := by rfl)
    (he : starEach (e :: es) X.env = (false, eval e X.env) :: starEach es X.env := by rfl) (hpl : (backTo pos (starEach es X.env)).any (·.1) = false := by rfl) : JV X B (.Call (.Name x p) (e :: es) [] pos) G Q := fun t s z F H VQ hl c q =>
  tS_of (pe_callTy hc (cj.gl hj) (cj.mgx hm) hv pa_sem (cj.nnm hj) (cj.dbg hj) he hpl) (runD h hl c fun vs ds F' H' G' dp c' ⟨v, d, sc, hr, hq⟩ => hr vs H' VQ (DP.monoL c'.fh _ _ dp) (q v F' H' d G' (c'.fz sc.dp) hq))
/-- len of what is frozen -/
theorem jv_len (cj : CJ P w K mg base S k X B E) (j : Nat) {Q : D → List Ent → Prop} (hm : mg "len" = none) (h : JV X B e G fun d G' => ∃ ds, SeqD ds d ∧ Q (.int ds.length) G') (hj : S.gl[j]? = some "len" := by rfl)
    (he : starEach [e] X.env = (false, eval e X.env) :: starEach [] X.env := by rfl) (hpl : (backTo pos (starEach [] X.env)).any (·.1) = false := by rfl) : JV X B (.Call (.Name "len" p) [e] [] pos) G Q :=
  jv_callB cj j call_len hm PySem.boot_len (JD.cons (JV.imp h fun d G' ⟨ds, sd, q⟩ => JD.nil ⟨_, _, .int ds.length, fun vs H VQ dp hq => by
    cases dp with
    | cons r t =>
      cases t
      cases sd with
      | lst => cases r with
        | lst h1 h2 => exact ⟨_, _, rfl, .inl ⟨_, .of h1, by rw [h2.length]⟩, hq⟩
      | tup => cases r with
        | tup h1 h2 => exact ⟨_, _, rfl, .inr ⟨_, h1, by rw [h2.length]⟩, hq⟩
      | kls => cases r with
        | kls h1 h2 => exact ⟨_, _, rfl, .inl ⟨_, h1, by rw [h2.length]⟩, hq⟩
      | tp => cases r with
        | tp h1 h2 => exact ⟨_, _, rfl, .inr ⟨_, .inl (.inl h1), by rw [h2.length]⟩, hq⟩, q⟩) he) hj he hpl
theorem jv_lenS (cj : CJ P w K mg base S k X B E) (j : Nat) {Q : D → List Ent → Prop} (hm : mg "len" = none) (h : JV X B e G fun d G' => ∃ y, d = .str y ∧ y.length ≤ sizeLine ∧ Q (.int y.length) G') (hj : S.gl[j]? = some "len" := by rfl)
    (he : starEach [e] X.env = (false, eval e X.env) :: starEach [] X.env := by rfl) (hpl : (backTo pos (starEach [] X.env)).any (·.1) = false := by rfl) : JV X B (.Call (.Name "len" p) [e] [] pos) G Q :=
  jv_callB cj j call_len_str hm PySem.boot_len (JD.cons (JV.imp h fun d G' ⟨y, sd, hz, q⟩ => JD.nil ⟨_, _, .int y.length, fun vs H VQ dp hq => by
    subst sd
    cases dp with
    | cons r t =>
      cases t
      cases r
      exact ⟨_, rfl, hz, hq⟩, q⟩) he) hj he hpl
/-- len of an owned list at a slot -/
theorem jv_lenO (cj : CJ P w K mg base S k X B E) (j i : Nat) {ds : List D} {xp : Pos} {Q : D → List Ent → Prop} (hm : mg "len" = none) (h : Q (.int ds.length) G) (hg : entOw G[i]? = some (.lst ds) := by rfl) (hj : S.gl[j]? = some "len" := by rfl) (hN : S.N[i]? = some x := by rfl) (hv : i ∈ S.vi := by decide)
    (he : starEach [.Name x xp] X.env = (false, eval (.Name x xp) X.env) :: starEach [] X.env := by rfl) (hpl : (backTo pos (starEach [] X.env)).any (·.1) = false := by rfl) : JV X B (.Call (.Name "len" p) [.Name x xp] [] pos) G Q := fun t s z F H VQ hl c q => by
  have hn := okName_of (Sc.vis cj.ok hv hN).1
  obtain ⟨y, e1, ⟨xs, h1, h2⟩, _⟩ := c.slot hl hg
  refine tS_of (pe_callB call_len (cj.gl hj) (cj.mgx hm) PySem.boot_len (pa_cons (pe_var (cj.xN hN) (cj.vis hv hN) hn.1 hn.2.1) pa_nil he) (cj.nnm hj) (cj.dbg hj) he hpl) ?_
  exact ⟨.ref y, e1, _, _, rfl, .inl ⟨_, .of h1, by rw [h2.length]⟩, q _ F H _ G (c.fz (.int _)) h⟩
theorem jv_abs (cj : CJ P w K mg base S k X B E) (j : Nat) {Q : D → List Ent → Prop} (hm : mg "abs" = none) (h : JV X B e G fun d G' => ∃ i, d = .int i ∧ Q (.int (if i < 0 then -i else i)) G') (hj : S.gl[j]? = some "abs" := by rfl)
    (he : starEach [e] X.env = (false, eval e X.env) :: starEach [] X.env := by rfl) (hpl : (backTo pos (starEach [] X.env)).any (·.1) = false := by rfl) : JV X B (.Call (.Name "abs" p) [e] [] pos) G Q :=
  jv_callB cj j call_abs hm (by decide +kernel) (JD.cons (JV.imp h fun d G' ⟨i, ed, q⟩ => JD.nil ⟨_, _, .int _, fun vs H VQ dp hq => by
    subst ed
    cases dp with
    | cons r t => cases t; cases r; exact ⟨i, rfl, hq⟩, q⟩) he) hj he hpl
theorem jv_max2 (cj : CJ P w K mg base S k X B E) (j : Nat) {Q : D → List Ent → Prop} (hm : mg "max" = none) (h : JV X B a G fun d1 G1 => JV X B b G1 fun d2 G2 => ∃ m n, d1 = .int m ∧ d2 = .int n ∧ Q (.int (if n > m then n else m)) G2) (hj : S.gl[j]? = some "max" := by rfl)
    (he : starEach [a, b] X.env = (false, eval a X.env) :: starEach [b] X.env := by rfl) (he2 : starEach [b] X.env = (false, eval b X.env) :: starEach [] X.env := by rfl) (hpl : (backTo pos (starEach [b] X.env)).any (·.1) = false := by rfl) : JV X B (.Call (.Name "max" p) [a, b] [] pos) G Q :=
  jv_callB cj j (call_max2 cj.calm) hm (by decide +kernel) (JD.cons (JV.imp h fun d1 G1 h => JD.cons (JV.imp h fun d2 G2 ⟨m, n, e1, e2, q⟩ => JD.nil ⟨_, _, .int _, fun vs H VQ dp hq => by
    subst e1 e2
    cases dp with
    | cons r t => cases t with
      | cons r2 t => cases t; cases r; cases r2; exact ⟨m, n, rfl, hq⟩, q⟩) he2) he) hj he hpl
theorem jv_min2 (cj : CJ P w K mg base S k X B E) (j : Nat) {Q : D → List Ent → Prop} (hm : mg "min" = none) (h : JV X B a G fun d1 G1 => JV X B b G1 fun d2 G2 => ∃ m n, d1 = .int m ∧ d2 = .int n ∧ Q (.int (if n < m then n else m)) G2) (hj : S.gl[j]? = some "min" := by rfl)
    (he : starEach [a, b] X.env = (false, eval a X.env) :: starEach [b] X.env := by rfl) (he2 : starEach [b] X.env = (false, eval b X.env) :: starEach [] X.env := by rfl) (hpl : (backTo pos (starEach [b] X.env)).any (·.1) = false := by rfl) : JV X B (.Call (.Name "min" p) [a, b] [] pos) G Q :=
  jv_callB cj j (call_min2 cj.calm) hm (by decide +kernel) (JD.cons (JV.imp h fun d1 G1 h => JD.cons (JV.imp h fun d2 G2 ⟨m, n, e1, e2, q⟩ => JD.nil ⟨_, _, .int _, fun vs H VQ dp hq => by
    subst e1 e2
    cases dp with
    | cons r t => cases t with
      | cons r2 t => cases t; cases r; cases r2; exact ⟨m, n, rfl, hq⟩, q⟩) he2) he) hj he hpl
/-- int of a bool -/
theorem jv_intB (cj : CJ P w K mg base S k X B E) (j : Nat) {Q : D → List Ent → Prop} (hm : mg "int" = none) (h : JV X B e G fun d G' => ∃ y, d = .bl y ∧ Q (.int (if y then 1 else 0)) G') (hj : S.gl[j]? = some "int" := by rfl)
    (he : starEach [e] X.env = (false, eval e X.env) :: starEach [] X.env := by rfl) (hpl : (backTo pos (starEach [] X.env)).any (·.1) = false := by rfl) : JV X B (.Call (.Name "int" p) [e] [] pos) G Q :=
  jv_callTy cj j call_int1 hm (by decide +kernel) (JD.cons (JV.imp h fun d G' ⟨i, ed, q⟩ => JD.nil ⟨_, _, .int _, fun vs H VQ dp hq => by
    subst ed
    cases dp with
    | cons r t => cases t; cases r; exact .inr ⟨i, rfl, hq⟩, q⟩) he) hj he hpl
theorem jv_strI (cj : CJ P w K mg base S k X B E) (j : Nat) {Q : D → List Ent → Prop} (hm : mg "str" = none) (h : JV X B e G fun d G' => ∃ i, d = .int i ∧ i.natAbs.log2 < 1920 ∧ Q (.str (toString i)) G') (hj : S.gl[j]? = some "str" := by rfl)
    (he : starEach [e] X.env = (false, eval e X.env) :: starEach [] X.env := by rfl) (hpl : (backTo pos (starEach [] X.env)).any (·.1) = false := by rfl) : JV X B (.Call (.Name "str" p) [e] [] pos) G Q :=
  jv_callTy cj j call_str_int hm (by decide +kernel) (JD.cons (JV.imp h fun d G' ⟨i, ed, hz, q⟩ => JD.nil ⟨_, _, .str _, fun vs H VQ dp hq => by
    subst ed
    cases dp with
    | cons r t => cases t; cases r; exact ⟨i, rfl, hz, hq⟩, q⟩) he) hj he hpl
theorem jv_sum (cj : CJ P w K mg base S k X B E) (j : Nat) {Q : D → List Ent → Prop} (hm : mg "sum" = none) (h : JV X B e G fun d G' => ∃ ns : List Int, d = .lst (ns.map .int) ∧ Q (.int ns.sum) G') (hj : S.gl[j]? = some "sum" := by rfl)
    (he : starEach [e] X.env = (false, eval e X.env) :: starEach [] X.env := by rfl) (hpl : (backTo pos (starEach [] X.env)).any (·.1) = false := by rfl) : JV X B (.Call (.Name "sum" p) [e] [] pos) G Q :=
  jv_callB cj j (cr_sum cj.calm) hm (by decide +kernel) (JD.cons (JV.imp h fun d G' ⟨ns, ed, q⟩ => JD.nil ⟨_, _, .int _, fun vs H VQ dp hq => by
    subst ed
    cases dp with
    | cons r t =>
      cases t
      cases r with
      | lst h1 h2 =>
        rw [ints_of_dps h2] at h1
        exact ⟨_, ns, rfl, .of h1, hq⟩, q⟩) he) hj he hpl
/-- min, max of a list of ints -/
theorem jv_minL (cj : CJ P w K mg base S k X B E) (j : Nat) {Q : D → List Ent → Prop} (hm : mg "min" = none) (h : JV X B e G fun d G' => ∃ (ns : List Int) (m : Int), d = .lst (ns.map .int) ∧ m ∈ ns ∧ (∀ y ∈ ns, m ≤ y) ∧ Q (.int m) G') (hj : S.gl[j]? = some "min" := by rfl)
    (he : starEach [e] X.env = (false, eval e X.env) :: starEach [] X.env := by rfl) (hpl : (backTo pos (starEach [] X.env)).any (·.1) = false := by rfl) : JV X B (.Call (.Name "min" p) [e] [] pos) G Q :=
  jv_callB cj j (cr_min cj.calm) hm (by decide +kernel) (JD.cons (JV.imp h fun d G' ⟨ns, m, ed, h1, h2, q⟩ => JD.nil ⟨_, _, .int m, fun vs H VQ dp hq => by
    subst ed
    cases dp with
    | cons r t =>
      cases t
      cases r with
      | lst h3 h4 =>
        rw [ints_of_dps h4] at h3
        refine ⟨_, ns, rfl, .of h3, List.length_pos_of_mem h1, fun m' a1 a2 => ?_⟩
        have e1 := h2 m' a1
        have e2 := a2 m h1
        have : m' = m := by omega
        subst this; exact hq, q⟩) he) hj he hpl
/-! ### those that make a list -/
/-- sorted(list of ints) -/
theorem je_sorted (cj : CJ P w K mg base S k X B E) (j : Nat) {Q : Ent → List Ent → Prop} (hm : mg "sorted" = none) (h : JV X B e G fun d G' => ∃ ns : List Int, d = .lst (ns.map .int) ∧ ns.length < 64 ∧ Q (.ow (.lst ((isort ns).map .int))) G') (hj : S.gl[j]? = some "sorted" := by rfl)
    (he : starEach [e] X.env = (false, eval e X.env) :: starEach [] X.env := by rfl) (hpl : (backTo pos (starEach [] X.env)).any (·.1) = false := by rfl) : JE X B (.Call (.Name "sorted" p) [e] [] pos) G Q := fun t s z F H VQ hl c q =>
  tS_of (pe_callB cr_sorted (cj.gl hj) (cj.mgx hm) (by decide +kernel) (pa_cons pe_sem pa_nil he) (cj.nnm hj) (cj.dbg hj) he hpl) (h t s z F H _ hl c fun v F' H' d G' c' ⟨ns, ed, hz, hq⟩ => by
    subst ed
    have sm := c'.fh
    cases c'.top with
    | lst h1 h2 =>
      rw [ints_of_dps h2] at h1
      refine ⟨_, ns, rfl, .of (sm _ _ h1), hz, fun ns' p' pm st np => ?_⟩
      rw [isort_of pm st]
      exact q _ F' _ _ G' (c'.pop.newL np (dps_ints _)) trivial hq)
/-- list(x) of a list or a tuple -/
theorem je_listOf (cj : CJ P w K mg base S k X B E) (j : Nat) {Q : Ent → List Ent → Prop} (hm : mg "list" = none) (h : JV X B e G fun d G' => ∃ ds, SeqD ds d ∧ Q (.ow (.lst ds)) G') (hj : S.gl[j]? = some "list" := by rfl)
    (he : starEach [e] X.env = (false, eval e X.env) :: starEach [] X.env := by rfl) (hpl : (backTo pos (starEach [] X.env)).any (·.1) = false := by rfl) : JE X B (.Call (.Name "list" p) [e] [] pos) G Q := fun t s z F H VQ hl c q =>
  tS_of (pe_callTy call_list_of (cj.gl hj) (cj.mgx hm) (by decide +kernel) (pa_cons pe_sem pa_nil he) (cj.nnm hj) (cj.dbg hj) he hpl) (h t s z F H _ hl c fun v F' H' d G' c' ⟨ds, sd, hq⟩ => by
    have sm := c'.fh
    cases sd with
    | lst => cases c'.top with
      | lst h1 h2 => exact ⟨_, _, rfl, .inl (.of (sm _ _ h1)), fun p' np => q _ F' _ _ G' (c'.pop.newL np h2) trivial hq⟩
    | tup => cases c'.top with
      | tup h1 h2 => exact ⟨_, _, rfl, .inr (sameT sm h1), fun p' np => q _ F' _ _ G' (c'.pop.newL np h2) trivial hq⟩
    | kls => cases c'.top with
      | kls h1 h2 => exact ⟨_, _, rfl, .inl (sm.seq h1), fun p' np => q _ F' _ _ G' (c'.pop.newL np h2) trivial hq⟩
    | tp => cases c'.top with
      | tp h1 h2 => exact ⟨_, _, rfl, .inr (.inl (.inl (sm _ _ h1))), fun p' np => q _ F' _ _ G' (c'.pop.newL np h2) trivial hq⟩)
/-- list(x) of an owned list at a slot -/
theorem je_listO (cj : CJ P w K mg base S k X B E) (j i : Nat) {ds : List D} {xp : Pos} {Q : Ent → List Ent → Prop} (hm : mg "list" = none) (h : Q (.ow (.lst ds)) G) (hg : entOw G[i]? = some (.lst ds) := by rfl) (hj : S.gl[j]? = some "list" := by rfl) (hN : S.N[i]? = some x := by rfl) (hv : i ∈ S.vi := by decide)
    (he : starEach [.Name x xp] X.env = (false, eval (.Name x xp) X.env) :: starEach [] X.env := by rfl) (hpl : (backTo pos (starEach [] X.env)).any (·.1) = false := by rfl) : JE X B (.Call (.Name "list" p) [.Name x xp] [] pos) G Q := fun t s z F H VQ hl c q => by
  have hn := okName_of (Sc.vis cj.ok hv hN).1
  obtain ⟨y, e1, ⟨xs, h1, h2⟩, _⟩ := c.slot hl hg
  refine tS_of (pe_callTy call_list_of (cj.gl hj) (cj.mgx hm) (by decide +kernel) (pa_cons (pe_var (cj.xN hN) (cj.vis hv hN) hn.1 hn.2.1) pa_nil he) (cj.nnm hj) (cj.dbg hj) he hpl) ?_
  exact ⟨.ref y, e1, _, _, rfl, .inl (.of h1), fun p' np => q _ F _ _ G (c.newL np h2) trivial h⟩
/-- tuple(x) -/
theorem jv_tupleOf (cj : CJ P w K mg base S k X B E) (j : Nat) {Q : D → List Ent → Prop} (hm : mg "tuple" = none) (h : JV X B e G fun d G' => ∃ ds, SeqD ds d ∧ Q (.tup ds) G') (hj : S.gl[j]? = some "tuple" := by rfl)
    (he : starEach [e] X.env = (false, eval e X.env) :: starEach [] X.env := by rfl) (hpl : (backTo pos (starEach [] X.env)).any (·.1) = false := by rfl) : JV X B (.Call (.Name "tuple" p) [e] [] pos) G Q := fun t s z F H VQ hl c q =>
  tS_of (pe_callTy call_tuple_of (cj.gl hj) (cj.mgx hm) (by decide +kernel) (pa_cons pe_sem pa_nil he) (cj.nnm hj) (cj.dbg hj) he hpl) (h t s z F H _ hl c fun v F' H' d G' c' ⟨ds, sd, hq⟩ => by
    have sm := c'.fh
    cases sd with
    | lst => cases c'.top with
      | lst h1 h2 => exact ⟨_, _, rfl, .inl ⟨.of (sm _ _ h1), fun p' np => q _ _ _ _ G' (c'.pop.newT np h2) hq⟩⟩
    | tup => cases c'.top with
      | tup h1 h2 => exact ⟨_, _, rfl, .inr ⟨sameT sm h1, q _ F' H' _ G' (c'.pop.fz (.tup h1 h2)) hq⟩⟩
    | kls => cases c'.top with
      | kls h1 h2 => exact ⟨_, _, rfl, .inl ⟨sm.seq h1, fun p' np => q _ _ _ _ G' (c'.pop.newT np h2) hq⟩⟩
    | tp => cases c'.top with
      | tp h1 h2 => exact ⟨_, _, rfl, .inr ⟨.inl (.inl (sm _ _ h1)), q _ F' H' _ G' (c'.pop.fz (.tup (.inl (.inl h1)) h2)) hq⟩⟩)
/-- list(range(n)), tuple(range(n)) -/
def rgI (a b : Int) : List Int := (List.range (b - a).toNat).map fun i => a + (i : Nat)
theorem rgV_eq (a b : Int) : rgV a b = (rgI a b).map V.int := by unfold rgV rgI; rw [List.map_map]; rfl
theorem je_listRg (cj : CJ P w K mg base S k X B E) (j j2 : Nat) {p2 q2 : Pos} {Q : Ent → List Ent → Prop} (hm : mg "list" = none) (hm2 : mg "range" = none) (h : JV X B e G fun d G' => ∃ n : Int, d = .int n ∧ RgOk 0 n ∧ Q (.ow (.lst ((rgI 0 n).map .int))) G') (hj : S.gl[j]? = some "list" := by rfl) (hj2 : S.gl[j2]? = some "range" := by rfl)
    (na : starEach [e] X.env = (false, eval e X.env) :: starEach [] X.env := by rfl) : JE X B (.Call (.Name "list" p) [.Call (.Name "range" p2) [e] [] q2] [] pos) G Q := fun t s z F H VQ hl c q =>
  tS_of (pe_listRg cj.calm (cj.gl hj) (cj.mgx hm) (prg_1 (cj.gl hj2) (cj.mgx hm2) pe_sem na)) (h t s z F H _ hl c fun v F' H' d G' c' ⟨n, ed, hr, hq⟩ => by
    subst ed
    cases c'.top
    refine ⟨n, rfl, hr, fun p' np => ?_⟩
    rw [rgV_eq]
    exact q _ F' _ _ G' (c'.pop.newL np (dps_ints _)) trivial hq)
theorem jv_tupRg (cj : CJ P w K mg base S k X B E) (j j2 : Nat) {p2 q2 : Pos} {Q : D → List Ent → Prop} (hm : mg "tuple" = none) (hm2 : mg "range" = none) (h : JV X B e G fun d G' => ∃ n : Int, d = .int n ∧ RgOk 0 n ∧ Q (.tup ((rgI 0 n).map .int)) G') (hj : S.gl[j]? = some "tuple" := by rfl) (hj2 : S.gl[j2]? = some "range" := by rfl)
    (na : starEach [e] X.env = (false, eval e X.env) :: starEach [] X.env := by rfl) : JV X B (.Call (.Name "tuple" p) [.Call (.Name "range" p2) [e] [] q2] [] pos) G Q := fun t s z F H VQ hl c q =>
  tS_of (pe_tupRg cj.calm (cj.gl hj) (cj.mgx hm) (prg_1 (cj.gl hj2) (cj.mgx hm2) pe_sem na)) (h t s z F H _ hl c fun v F' H' d G' c' ⟨n, ed, hr, hq⟩ => by
    subst ed
    cases c'.top
    refine ⟨n, rfl, hr, fun p' np => ?_⟩
    rw [rgV_eq]
    exact q _ _ _ _ G' (c'.pop.newT np (dps_ints _)) hq)
/-! ### methods of owned lists -/
/-- xs.append(e) as a statement -/
theorem js_append (cj : CJ P w K mg base S k X B E) (i : Nat) {cp xp sp : Pos} {Dd : Dn} (h : JV X B e G fun d G' => ∃ ds, entOw G'[i]? = some (.lst ds) ∧ ds.length < sizeLine ∧ Dd.nx (setOw G' i (.lst (ds ++ [d])))) (hg : (entOw G[i]?).isSome = true := by rfl) (hN : S.N[i]? = some x := by rfl) (hv : i ∈ S.vi := by decide)
    (hls : ∃ ds, entOw G[i]? = some (.lst ds) := by exact ⟨_, rfl⟩)
    (hbase : attributeBase (.Name x xp) "append" X.env (eval (.Name x xp) X.env) = eval (.Name x xp) X.env := by rfl)
    (hfew : ((backTo cp (starEach [e] X.env)).all (fun x => !x.1) && (backToKw cp (keywordEach [] X.env)).all (fun x => x.1.isSome) && decide (([e] : List Expr).length + ([] : List Keyword).length + (if ([] : List Keyword).isEmpty then 0 else 1) < 30)) = true := by rfl)
    (hline : (apos.endLine == cp.line) = true := by rfl) (hs : starEach [e] X.env = (false, eval e X.env) :: starEach [] X.env := by rfl) (hplain : (backTo cp (starEach [] X.env)).any (·.1) = false := by rfl) (hsw : swapsWith (.Call (.Attribute (.Name x xp) "append" apos) [e] [] cp) none sp.line X.env = pure false := by rfl) :
    JS X B (.Expr (.Call (.Attribute (.Name x xp) "append" apos) [e] [] cp) sp) G Dd := fun t s z F H De hl c kk => by
  have hn := okName_of (Sc.vis cj.ok hv hN).1
  refine tSt_of (ps_expr (pe_bm PySem.F.plainAttrs_list PySem.F.slot_list_append PySem.F.type_list_append mt_append (pe_var (cj.xN hN) (cj.vis hv hN) hn.1 hn.2.1) (pa_cons pe_sem pa_nil hs) hbase hfew hline hs hplain) hsw) ?_
  obtain ⟨d0, h0⟩ := hls
  obtain ⟨y, e1, ⟨xs0, h1, _⟩, _⟩ := c.slot hl h0
  refine ⟨.ref y, e1, .inl ⟨rfl, _, .of h1⟩, h t s z F H _ hl c fun v F' H' d G' c' ⟨ds, g2, hz, hq⟩ => ?_⟩
  obtain ⟨y2, e2, ⟨xs, h2, h3⟩, hF, wr⟩ := c'.pop.slot hl g2
  rw [e1] at e2
  cases e2
  refine ⟨y, xs, v, rfl, rfl, h2, by rw [h3.length]; exact hz, ?_⟩
  exact kk.nx s F' _ _ rfl (wr (.lst (xs ++ [v])) (.lst (ds ++ [d])) ⟨_, upd_same, papp h3 (.cons c'.top .nil)⟩) hq
/-- xs.pop() -/
theorem jv_pop (cj : CJ P w K mg base S k X B E) (i : Nat) {ds : List D} {d : D} {cp xp : Pos} {Q : D → List Ent → Prop} (hd : entOw G[i]? = some (.lst (ds ++ [d]))) (h : Q d (setOw G i (.lst ds))) (hN : S.N[i]? = some x := by rfl) (hv : i ∈ S.vi := by decide)
    (hbase : attributeBase (.Name x xp) "pop" X.env (eval (.Name x xp) X.env) = eval (.Name x xp) X.env := by rfl) (hline : (apos.endLine == cp.line) = true := by rfl) : JV X B (.Call (.Attribute (.Name x xp) "pop" apos) [] [] cp) G Q := fun t s z F H VQ hl c q => by
  have hn := okName_of (Sc.vis cj.ok hv hN).1
  refine tS_of (pe_bm0 PySem.F.plainAttrs_list PySem.F.slot_list_pop PySem.F.type_list_pop mt_pop (pe_var (cj.xN hN) (cj.vis hv hN) hn.1 hn.2.1) hbase hline) ?_
  obtain ⟨y, e1, ⟨xs, h1, h2⟩, hF, wr⟩ := c.slot hl hd
  have hlen := h2.length
  obtain ⟨v, h3, h4⟩ := pget h2 (i := xs.length - 1) (b := d) (by rw [hlen]; simp)
  refine ⟨.ref y, e1, .inl ⟨rfl, _, .of h1⟩, y, xs, v, rfl, rfl, h1, h3, ?_⟩
  have h5 := ppop h2
  rw [List.dropLast_concat] at h5
  exact q v F _ d _ ((wr (.lst xs.dropLast) (.lst ds) ⟨_, upd_same, h5⟩).fz h4) h
/-- xs.pop(e) -/
theorem jv_popAt (cj : CJ P w K mg base S k X B E) (i : Nat) {cp xp : Pos} {Q : D → List Ent → Prop} (h : JV X B e G fun d2 G' => ∃ ds j d, entOw G'[i]? = some (.lst ds) ∧ d2 = .int j ∧ 0 ≤ j ∧ j < 2 ^ 63 ∧ ds[j.toNat]? = some d ∧ Q d (setOw G' i (.lst (ds.eraseIdx j.toNat)))) (hls : ∃ ds, entOw G[i]? = some (.lst ds) := by exact ⟨_, rfl⟩) (hN : S.N[i]? = some x := by rfl) (hv : i ∈ S.vi := by decide)
    (hbase : attributeBase (.Name x xp) "pop" X.env (eval (.Name x xp) X.env) = eval (.Name x xp) X.env := by rfl)
    (hfew : ((backTo cp (starEach [e] X.env)).all (fun x => !x.1) && (backToKw cp (keywordEach [] X.env)).all (fun x => x.1.isSome) && decide (([e] : List Expr).length + ([] : List Keyword).length + (if ([] : List Keyword).isEmpty then 0 else 1) < 30)) = true := by rfl)
    (hline : (apos.endLine == cp.line) = true := by rfl) (hs : starEach [e] X.env = (false, eval e X.env) :: starEach [] X.env := by rfl) (hplain : (backTo cp (starEach [] X.env)).any (·.1) = false := by rfl) : JV X B (.Call (.Attribute (.Name x xp) "pop" apos) [e] [] cp) G Q := fun t s z F H VQ hl c q => by
  have hn := okName_of (Sc.vis cj.ok hv hN).1
  refine tS_of (pe_bm PySem.F.plainAttrs_list PySem.F.slot_list_pop PySem.F.type_list_pop mt_popAt (pe_var (cj.xN hN) (cj.vis hv hN) hn.1 hn.2.1) (pa_cons pe_sem pa_nil hs) hbase hfew hline hs hplain) ?_
  obtain ⟨d0, h0⟩ := hls
  obtain ⟨y, e1, ⟨xs0, h1, _⟩, _⟩ := c.slot hl h0
  refine ⟨.ref y, e1, .inl ⟨rfl, _, .of h1⟩, h t s z F H _ hl c fun v F' H' d2 G' c' ⟨ds, j, d, g2, e3, j0, j1, hd, hq⟩ => ?_⟩
  subst e3
  cases c'.top
  obtain ⟨y2, e2, ⟨xs, h2, h3⟩, hF, wr⟩ := c'.pop.slot hl g2
  rw [e1] at e2
  cases e2
  obtain ⟨u, h4, h5⟩ := pget h3 hd
  have hlt : j.toNat < xs.length := (List.getElem?_eq_some_iff.mp h4).1
  refine ⟨y, xs, j, j.toNat, u, rfl, rfl, h2, by omega, j1, ?_, h4, ?_⟩
  · have : ixN xs.length j = some j.toNat := by unfold ixN; rw [if_pos j0, if_pos (by omega)]
    exact (ixN_seq this).1
  · exact q u F' _ d _ ((wr (.lst (xs.eraseIdx j.toNat)) (.lst (ds.eraseIdx j.toNat)) ⟨_, upd_same, perase _ h3⟩).fz h5) hq
/-- xs.extend(e): e a list -/
theorem js_extend (cj : CJ P w K mg base S k X B E) (i : Nat) {cp xp sp : Pos} {Dd : Dn} (h : JV X B e G fun d G' => ∃ ds es', entOw G'[i]? = some (.lst ds) ∧ d = .lst es' ∧ ds.length + es'.length ≤ sizeLine ∧ Dd.nx (setOw G' i (.lst (ds ++ es')))) (hN : S.N[i]? = some x := by rfl) (hv : i ∈ S.vi := by decide)
    (hls : ∃ ds, entOw G[i]? = some (.lst ds) := by exact ⟨_, rfl⟩)
    (hbase : attributeBase (.Name x xp) "extend" X.env (eval (.Name x xp) X.env) = eval (.Name x xp) X.env := by rfl)
    (hfew : ((backTo cp (starEach [e] X.env)).all (fun x => !x.1) && (backToKw cp (keywordEach [] X.env)).all (fun x => x.1.isSome) && decide (([e] : List Expr).length + ([] : List Keyword).length + (if ([] : List Keyword).isEmpty then 0 else 1) < 30)) = true := by rfl)
    (hline : (apos.endLine == cp.line) = true := by rfl) (hs : starEach [e] X.env = (false, eval e X.env) :: starEach [] X.env := by rfl) (hplain : (backTo cp (starEach [] X.env)).any (·.1) = false := by rfl) (hsw : swapsWith (.Call (.Attribute (.Name x xp) "extend" apos) [e] [] cp) none sp.line X.env = pure false := by rfl) :
    JS X B (.Expr (.Call (.Attribute (.Name x xp) "extend" apos) [e] [] cp) sp) G Dd := fun t s z F H De hl c kk => by
  have hn := okName_of (Sc.vis cj.ok hv hN).1
  refine tSt_of (ps_expr (pe_bm PySem.F.plainAttrs_list PySem.F.slot_list_extend PySem.F.type_list_extend mt_extend (pe_var (cj.xN hN) (cj.vis hv hN) hn.1 hn.2.1) (pa_cons pe_sem pa_nil hs) hbase hfew hline hs hplain) hsw) ?_
  obtain ⟨d0, h0⟩ := hls
  obtain ⟨y, e1, ⟨xs0, h1, _⟩, _⟩ := c.slot hl h0
  refine ⟨.ref y, e1, .inl ⟨rfl, _, .of h1⟩, h t s z F H _ hl c fun v F' H' d G' c' ⟨ds, es', g2, ed, hz, hq⟩ => ?_⟩
  subst ed
  have sm := c'.fh
  obtain ⟨y2, e2, ⟨xs, h2, h3⟩, hF, wr⟩ := c'.pop.slot hl g2
  rw [e1] at e2
  cases e2
  cases c'.top with
  | lst h4 h5 =>
    refine ⟨y, _, xs, _, rfl, rfl, h2, sm _ _ h4, by rw [h3.length, h5.length]; exact hz, ?_⟩
    exact kk.nx s F' _ _ rfl (wr (.lst (xs ++ _)) (.lst (ds ++ es')) ⟨_, upd_same, papp h3 h5⟩) hq
/-- xs.reverse(), xs.clear() -/
theorem js_reverse (cj : CJ P w K mg base S k X B E) (i : Nat) {ds : List D} {cp xp sp : Pos} {Dd : Dn} (hd : entOw G[i]? = some (.lst ds)) (h : Dd.nx (setOw G i (.lst ds.reverse))) (hN : S.N[i]? = some x := by rfl) (hv : i ∈ S.vi := by decide)
    (hbase : attributeBase (.Name x xp) "reverse" X.env (eval (.Name x xp) X.env) = eval (.Name x xp) X.env := by rfl) (hline : (apos.endLine == cp.line) = true := by rfl) (hsw : swapsWith (.Call (.Attribute (.Name x xp) "reverse" apos) [] [] cp) none sp.line X.env = pure false := by rfl) :
    JS X B (.Expr (.Call (.Attribute (.Name x xp) "reverse" apos) [] [] cp) sp) G Dd := fun t s z F H De hl c kk => by
  have hn := okName_of (Sc.vis cj.ok hv hN).1
  refine tSt_of (ps_expr (pe_bm0 PySem.F.plainAttrs_list PySem.F.slot_list_reverse PySem.F.type_list_reverse mt_reverse (pe_var (cj.xN hN) (cj.vis hv hN) hn.1 hn.2.1) hbase hline) hsw) ?_
  obtain ⟨y, e1, ⟨xs, h1, h2⟩, hF, wr⟩ := c.slot hl hd
  refine ⟨.ref y, e1, .inl ⟨rfl, _, .of h1⟩, y, xs, rfl, rfl, h1, ?_⟩
  exact kk.nx s F _ _ rfl (wr (.lst xs.reverse) (.lst ds.reverse) ⟨_, upd_same, prev h2⟩) h
theorem js_clear (cj : CJ P w K mg base S k X B E) (i : Nat) {ds : List D} {cp xp sp : Pos} {Dd : Dn} (hd : entOw G[i]? = some (.lst ds)) (h : Dd.nx (setOw G i (.lst []))) (hN : S.N[i]? = some x := by rfl) (hv : i ∈ S.vi := by decide)
    (hbase : attributeBase (.Name x xp) "clear" X.env (eval (.Name x xp) X.env) = eval (.Name x xp) X.env := by rfl) (hline : (apos.endLine == cp.line) = true := by rfl) (hsw : swapsWith (.Call (.Attribute (.Name x xp) "clear" apos) [] [] cp) none sp.line X.env = pure false := by rfl) :
    JS X B (.Expr (.Call (.Attribute (.Name x xp) "clear" apos) [] [] cp) sp) G Dd := fun t s z F H De hl c kk => by
  have hn := okName_of (Sc.vis cj.ok hv hN).1
  refine tSt_of (ps_expr (pe_bm0 PySem.F.plainAttrs_list PySem.F.slot_list_clear PySem.F.type_list_clear mt_clear (pe_var (cj.xN hN) (cj.vis hv hN) hn.1 hn.2.1) hbase hline) hsw) ?_
  obtain ⟨y, e1, ⟨xs, h1, h2⟩, hF, wr⟩ := c.slot hl hd
  refine ⟨.ref y, e1, .inl ⟨rfl, _, .of h1⟩, y, xs, rfl, rfl, h1, ?_⟩
  exact kk.nx s F _ _ rfl (wr (.lst []) (.lst []) ⟨_, upd_same, .nil⟩) h
/-! ### stores -/
/-- xs[b] = e, xs an owned list at a slot -/
theorem js_setix (cj : CJ P w K mg base S k X B E) (i : Nat) {xp tp sp : Pos} {Dd : Dn} (h : JV X B e G fun d G1 => JV X B b G1 fun d2 G2 => ∃ ds j m, entOw G2[i]? = some (.lst ds) ∧ d2 = .int j ∧ ixN ds.length j = some m ∧ Dd.nx (setOw G2 i (.lst (ds.set m d)))) (hN : S.N[i]? = some x := by rfl) (hv : i ∈ S.vi := by decide) (hls : (entOw G[i]?).isSome = true := by rfl)
    (ha : ∀ v, assign (.Subscript (.Name x xp) b tp) X.env v = (do
      let ov ← holding [v] (eval (.Name x xp) X.env)
      let iv ← holding [v, ov] (eval b X.env)
      standAt tp
      holding [v, ov, iv] (setItem ov iv v)
      release [v, ov, iv] []) := by intro _; rfl)
    (hs : swapsWithSole [.Subscript (.Name x xp) b tp] e sp.line X.env = pure false := by rfl) (hw : swappedStores [.Subscript (.Name x xp) b tp] e X.env = pure none := by rfl)
    (h1 : (assignEach [.Subscript (.Name x xp) b tp] X.env).map (·.2) = [assign (.Subscript (.Name x xp) b tp) X.env] := by rfl) : JS X B (.Assign [.Subscript (.Name x xp) b tp] e sp) G Dd := fun t s z F H De hl c kk => by
  have hn := okName_of (Sc.vis cj.ok hv hN).1
  refine tSt_of (ps_asg pe_sem (pg_sub (pe_var (cj.xN hN) (cj.vis hv hN) hn.1 hn.2.1) pe_sem set_list ha) hs hw h1) ?_
  obtain ⟨o0, h0⟩ := Option.isSome_iff_exists.mp hls
  obtain ⟨y, e1, _⟩ := c.slot hl h0
  refine h t s z F H _ hl c fun v F' H' d G1 c1 h2 => ⟨.ref y, e1, h2 (some v :: t) s (.fz d :: z) F' H' _ (by simp [hl]) c1 fun u F2 H2 d2 G2 c2 ⟨ds, j, m, g2, ed, hm, hq⟩ => ?_⟩
  subst ed
  cases c2.top
  obtain ⟨y2, e2, ⟨xs, h3, h4⟩, hF, wr⟩ := c2.pop.pop.slot hl g2
  rw [e1] at e2
  cases e2
  refine ⟨y, xs, j, m, rfl, rfl, h3, by rw [h4.length]; exact hm, ?_⟩
  exact kk.nx s F2 _ _ rfl (wr (.lst (xs.set m v)) (.lst (ds.set m d)) ⟨_, upd_same, pset c2.pop.top m h4⟩) hq
/-! ### targets -/
theorem JG.name (cj : CJ P w K mg base S k X B E) (i : Nat) {r : Ent} {Q : List Ent → Prop} (h : Q (G.set i r)) (hN : S.N[i]? = some x := by rfl) (hv : i ∈ S.li := by decide) : JG X B S.li (.Name x pos) r G Q := fun t s z F H v GQ hl c ir q =>
  tGt_of (pg_name cj.nd (cj.xN hN) (cj.loc hv hN) (cj.fn' hv hN)) (q _ F H _ (by simp) (fun j hj => List.getElem?_set_ne fun e => hj (by rw [← e]; exact hv)) (c.store hl) h)
def JGs (X : Cx) (B : Bs) (L : List Nat) : List Expr → List D → List Ent → (List Ent → Prop) → Prop
  | [], [], G, Q => Q G
  | e :: es, d :: ds, G, Q => ((assignEach (e :: es) X.env).map (·.2) = assign e X.env :: (assignEach es X.env).map (·.2)) ∧ JG X B L e (.fz d) G fun G' => JGs X B L es ds G' Q
  | [], _ :: _, _, _ => False
  | _ :: _, [], _, _ => False
theorem JGs.nil {L : List Nat} {Q : List Ent → Prop} (h : Q G) : JGs X B L [] [] G Q := h
theorem JGs.cons {L : List Nat} {d : D} {ds : List D} {Q : List Ent → Prop} (h : JG X B L e (.fz d) G fun G' => JGs X B L es ds G' Q) (hs : (assignEach (e :: es) X.env).map (·.2) = assign e X.env :: (assignEach es X.env).map (·.2) := by rfl) : JGs X B L (e :: es) (d :: ds) G Q := ⟨hs, h⟩
theorem JG.tup (cj : CJ P w K mg base S k X B E) {L : List Nat} {kk : Nat} {ds : List D} {Q : List Ent → Prop} (h : JGs X B L es ds G Q) (hn : (assignEach es X.env).length = ds.length := by rfl) (hst : (assignEach es X.env).findIdx? (·.1) = none := by rfl) : JG X B L (.Tuple es kk pos) (.fz (.tup ds)) G Q := fun t s z F H v GQ hl c ir q => by
  have go : ∀ {es : List Expr} {ds : List D} {G : List Ent} {Q : List Ent → Prop}, JGs X B L es ds G Q → ∃ tg : TGs, PGs X es tg ∧ ∀ (xs : List V) (t s : St) (z : List Ent) (F H : Hp) (GQ : St → Hp → Prop), t.length = z.length → DPs X.K F xs ds → Conf X.K B (t ++ s) F H (z ++ G) →
      (∀ s' F' H' G', s'.length = s.length → (∀ i : Nat, i ∉ L → s'[i]? = s[i]?) → Conf X.K B (t ++ s') F' H' (z ++ G') → Q G' → GQ s' H') → tg xs s H GQ := by
    intro es
    induction es with
    | nil =>
      intro ds G Q h
      cases ds with
      | cons _ _ => exact False.elim h
      | nil => exact ⟨_, pgs_nil, fun xs t s z F H GQ hl dp c q => by cases dp; exact ⟨rfl, q s F H _ rfl (fun _ _ => rfl) c h⟩⟩
    | cons e es ih =>
      intro ds G Q h
      cases ds with
      | nil => exact False.elim h
      | cons d ds =>
        obtain ⟨hs, h⟩ := h
        refine ⟨_, pgs_cons pg_sem (t := tGt X e) (u := fun vs s H GQ => ∀ pins sh us, Inv X pins s H sh → Vals vs us → wpAny (model X.prog X.w) X.A (assignInOrder ((assignEach es X.env).map (·.2)) us) (fun _ s' => ∃ s2 H', Inv X pins s2 H' s' ∧ GQ s2 H') X.xe sh) ⟨fun pins s σ H vs us Q I r h => h pins s us I r⟩ hs, fun xs t s z F H GQ hl dp c q => ?_⟩
        cases dp with
        | @cons x _ xs _ r tl =>
          refine ⟨_, _, rfl, h (xs.reverse.map some ++ t) s (ds.reverse.map Ent.fz ++ z) F H x _ (by simp [hl, tl.length]) ?_ trivial fun s' F' H' G' hs' ho c' hq => ?_⟩
          · -- the rest of the items waits below
            have rest : ∀ {xs : List V} {ds : List D} {u : St} {g : List Ent}, DPs X.K F xs ds → Conf X.K B u F H g → Conf X.K B (xs.map some ++ u) F H (ds.map Ent.fz ++ g) := by
              intro xs ds u g dp
              induction dp with
              | nil => intro c; exact c
              | cons r _ ih => intro c; exact (ih c).fz r
            have := rest (prev tl) c
            rw [List.append_assoc, List.append_assoc]
            exact this.fz r
          · obtain ⟨tg, p, run⟩ := ih hq
            intro pins sh us I rv
            refine p.run pins sh s' H' xs us GQ I rv ?_
            have c'' : Conf X.K B (xs.reverse.map some ++ (t ++ s')) F' H' (ds.reverse.map Ent.fz ++ (z ++ G')) := by rw [← List.append_assoc, ← List.append_assoc]; exact c'
            have back : ∀ {xs : List V} {ds : List D} {u : St} {g : List Ent}, xs.length = ds.length → Conf X.K B (xs.map some ++ u) F' H' (ds.map Ent.fz ++ g) → DPs X.K F' xs ds ∧ Conf X.K B u F' H' g := by
              intro xs
              induction xs with
              | nil => intro ds u g hl c; cases ds with
                | nil => exact ⟨.nil, c⟩
                | cons _ _ => simp at hl
              | cons v xs ih => intro ds u g hl c; cases ds with
                | nil => simp at hl
                | cons d ds =>
                  obtain ⟨h1, h2⟩ := ih (by simpa using hl) c.pop
                  exact ⟨.cons c.top h1, h2⟩
            obtain ⟨b1, b2⟩ := back (by simp [tl.length]) c''
            have b1 := prev b1
            rw [List.reverse_reverse, List.reverse_reverse] at b1
            exact run xs t s' z F' H' GQ hl b1 b2 fun s2 F2 H2 G2 hs2 ho2 c2 hq2 => q s2 F2 H2 G2 (hs2.trans hs') (fun j hj => (ho2 j hj).trans (ho j hj)) c2 hq2
  obtain ⟨tg, pg, run⟩ := go h
  have sm := c.fh
  cases c.top with
  | tup h1 h2 =>
    refine tGt_of (pg_tup cj.calm pg (hn := rfl) hst) ⟨_, _, rfl, sameT sm h1, by rw [h2.length]; exact hn.symm, ?_⟩
    exact run _ t s z F H GQ hl h2 c.pop q
/-- name = value -/
theorem js_set (cj : CJ P w K mg base S k X B E) (i : Nat) {tp sp : Pos} {Dd : Dn} (h : JE X B e G fun r G' => Dd.nx (G'.set i r)) (hN : S.N[i]? = some x := by rfl) (hv : i ∈ S.li := by decide)
    (hs : swapsWith e (some (.Name x tp)) sp.line X.env = pure false := by rfl) : JS X B (.Assign [.Name x tp] e sp) G Dd := fun t s z F H De hl c kk =>
  tSt_of (ps_set cj.nd (cj.xN hN) (cj.loc hv hN) pe_sem hs (cj.fn' hv hN)) (h t s z F H _ hl c fun v F' H' r G' c' ir hq => kk.nx _ F' H' _ (by simp) (c'.store hl) hq)
/-- a, b = e1, e2 with plain local names -/
theorem js_par (cj : CJ P w K mg base S k X B E) (i j : Nat) {y : Str} {px py pt sp : Pos} {kt k2 pt2} {Dd : Dn} (h : JV X B a G fun d1 G1 => JV X B b G1 fun d2 G2 => Dd.nx ((G2.set i (.fz d1)).set j (.fz d2)))
    (hx : S.sc.names.lookup x = some .local) (hy : S.sc.names.lookup y = some .local) (hN : S.N[i]? = some x := by rfl) (hN2 : S.N[j]? = some y := by rfl) (hv : i ∈ S.li := by decide) (hv2 : j ∈ S.li := by decide) (hij : i ≠ j := by decide)
    (hps : PS X (.Assign [.Tuple [.Name x px, .Name y py] kt pt] (.Tuple [a, b] k2 pt2) sp) (tPar i j (tAr X [a, b]))) (hs : starEach [a, b] X.env = (false, eval a X.env) :: starEach [b] X.env := by rfl) (hs2 : starEach [b] X.env = (false, eval b X.env) :: starEach [] X.env := by rfl) :
    JS X B (.Assign [.Tuple [.Name x px, .Name y py] kt pt] (.Tuple [a, b] k2 pt2) sp) G Dd := fun t s z F H De hl c kk => by
  refine tSt_of hps ?_
  have h' : JD X B [a, b] G fun ds G2 => ∃ d1 d2, ds = [d1, d2] ∧ Dd.nx ((G2.set i (.fz d1)).set j (.fz d2)) := JD.cons (JV.imp h fun d1 G1 h => JD.cons (JV.imp h fun d2 G2 q => JD.nil ⟨d1, d2, rfl, q⟩) hs2) hs
  refine runD h' hl c fun vs ds F' H' G' dp c' ⟨d1, d2, ed, hq⟩ => ?_
  subst ed
  cases dp with
  | @cons v _ _ _ r1 tl => cases tl with
    | @cons u _ _ _ r2 tl =>
      cases tl
      refine ⟨v, u, rfl, kk.nx _ F' H' _ (by simp) ?_ hq⟩
      have c1 := (c'.fz r1).store (i := i) hl
      exact (c1.fz r2).store (i := j) hl
end
end J

namespace J
open PySem PySem.Spec L2

/-! ## what is walked -/
structure WalkD (X : Cx) (B : Bs) (J : It) (n : Nat) (hv : St) (he : List Ent) (item : Nat → D → Prop) : Prop where
  goes : ∀ i u F H g, i < n → Conf X.K B (hv ++ u) F H (he ++ g) → J.go i H
  stops : ∀ u F H g, Conf X.K B (hv ++ u) F H (he ++ g) → J.stop n H
  yields : ∀ i x u F H g H', i < n → Conf X.K B (hv ++ u) F H (he ++ g) → J.yld i H x H' → ∃ F' d, item i d ∧ Conf X.K B (some x :: (hv ++ u)) F' H' (.fz d :: (he ++ g))
def JI (X : Cx) (B : Bs) (tg iter : Expr) (G : List Ent) (Q : Nat → (Nat → D → Prop) → List Ent → Prop) : Prop :=
  ∀ (t s : St) (z : List Ent) (F H : Hp) (R : It → Hp → Prop), t.length = z.length → Conf X.K B (t ++ s) F H (z ++ G) →
    (∀ J n hv he item F' H' G', hv.length = he.length → WalkD X B J n hv he item → Conf X.K B (hv ++ (t ++ s)) F' H' (he ++ (z ++ G')) → Q n item G' → R J H') → tIt X tg iter s H R

section
variable {P : Program} {w : World} {K : PySem.W.Frag} {mg : Str → Option Value} {base : Heap} {S : Sc} {k : Nat} {X : Cx} {B : Bs} {E : XW} {G : List Ent} {a b e tg : Expr} {es : List Expr} {pos p tpos : Pos} {x : Str}
theorem walkD_list {l : Addr} {xs : List V} {ds : List D} {d : D} (sd : ∀ F, DP X.K F (.ref l) d → SqL X.K F l xs ∧ DPs X.K F xs ds) : WalkD X B (Itl X.K l) ds.length [some (.ref l)] [.fz d] (fun i d => ds[i]? = some d) where
  goes := fun i u F H g hi c => by
    have c : Conf X.K B (some (.ref l) :: u) F H (.fz d :: g) := c
    obtain ⟨h1, h2⟩ := sd F c.top
    obtain ⟨v, h3, _⟩ := pget h2 (List.getElem?_eq_getElem hi)
    exact ⟨xs, v, c.fh.seq h1, h3⟩
  stops := fun u F H g c => by
    have c : Conf X.K B (some (.ref l) :: u) F H (.fz d :: g) := c
    obtain ⟨h1, h2⟩ := sd F c.top
    exact ⟨xs, c.fh.seq h1, by rw [h2.length]; exact Nat.le_refl _⟩
  yields := fun i x u F H g H' hi c y => by
    have c : Conf X.K B (some (.ref l) :: u) F H (.fz d :: g) := c
    obtain ⟨h1, h2⟩ := sd F c.top
    obtain ⟨e, y⟩ := y
    subst e
    obtain ⟨v, h3, h4⟩ := pget h2 (List.getElem?_eq_getElem hi)
    have := y xs (c.fh.seq h1)
    rw [h3] at this; cases this
    exact ⟨F, ds[i], List.getElem?_eq_getElem hi, c.fz h4⟩
theorem walkD_tup {l : Addr} {xs : List V} {ds : List D} {d : D} (sd : ∀ F, DP X.K F (.ref l) d → SqT X.K F l xs ∧ DPs X.K F xs ds) : WalkD X B (Itt X.K l) ds.length [some (.ref l)] [.fz d] (fun i d => ds[i]? = some d) where
  goes := fun i u F H g hi c => by
    have c : Conf X.K B (some (.ref l) :: u) F H (.fz d :: g) := c
    obtain ⟨h1, h2⟩ := sd F c.top
    obtain ⟨v, h3, _⟩ := pget h2 (List.getElem?_eq_getElem hi)
    exact ⟨xs, v, sameT c.fh h1, h3⟩
  stops := fun u F H g c => by
    have c : Conf X.K B (some (.ref l) :: u) F H (.fz d :: g) := c
    obtain ⟨h1, h2⟩ := sd F c.top
    exact ⟨xs, sameT c.fh h1, by rw [h2.length]; exact Nat.le_refl _⟩
  yields := fun i x u F H g H' hi c y => by
    have c : Conf X.K B (some (.ref l) :: u) F H (.fz d :: g) := c
    obtain ⟨h1, h2⟩ := sd F c.top
    obtain ⟨e, y⟩ := y
    subst e
    obtain ⟨v, h3, h4⟩ := pget h2 (List.getElem?_eq_getElem hi)
    have := y xs (sameT c.fh h1)
    rw [h3] at this; cases this
    exact ⟨F, ds[i], List.getElem?_eq_getElem hi, c.fz h4⟩
theorem walkD_range {lo : Int} {n : Nat} : WalkD X B (Itr lo n) n [] [] (fun i d => d = .int (lo + (i : Nat))) where
  goes := fun i u F H g hi c => hi
  stops := fun u F H g c => Nat.le_refl _
  yields := fun i x u F H g H' hi c y => by
    obtain ⟨e, y⟩ := y
    subst e y
    exact ⟨F, _, rfl, c.fz (.int _)⟩
/-! the values of what is held do not change: the list that is walked -/
theorem DP.lst_at {K : PySem.W.Frag} {F F' : Hp} {l : Addr} {ds : List D} (h : DP K F (.ref l) (.lst ds)) : ∃ xs, F l = some (.lst xs) ∧ DPs K F xs ds := by
  cases h with | lst h1 h2 => exact ⟨_, h1, h2⟩
/-- over a frozen list: what is held tells the list, whatever the frozen heap has grown to -/
theorem ji_seq {Q : Nat → (Nat → D → Prop) → List Ent → Prop} (h : JV X B e G fun d G' => ∃ ds, (d = .lst ds ∨ d = .kls ds) ∧ Q ds.length (fun i d => ds[i]? = some d) G') : JI X B tg e G Q := fun t s z F H R hl c q =>
  tIt_of (pi_list pe_sem) (h t s z F H _ hl c fun v F' H' d G' c' ⟨ds, ed, hq⟩ => by
    have sm := c'.fh
    obtain ⟨l, xs, ev, h1, h2⟩ : ∃ l xs, v = .ref l ∧ SqL X.K F' l xs ∧ DPs X.K F' xs ds := by
      rcases ed with ed | ed
      · subst ed; cases c'.top with | lst h1 h2 => exact ⟨_, _, rfl, .of h1, h2⟩
      · subst ed; cases c'.top with | kls h1 h2 => exact ⟨_, _, rfl, h1, h2⟩
    subst ev
    refine ⟨l, rfl, ⟨xs, sm.seq h1⟩, ?_⟩
    -- what is held: the list, and that its items are as they were
    refine q (Itl X.K l) ds.length [some (.ref l)] [.fz d] (fun i d => ds[i]? = some d) F' H' G' rfl ⟨fun i u F2 H2 g hi c2 => ?_, fun u F2 H2 g c2 => ?_, fun i x u F2 H2 g H3 hi c2 y => ?_⟩ c' hq
    all_goals
      have c2 : Conf X.K B (some (.ref l) :: u) F2 H2 (.fz d :: g) := c2
      have sm2 := c2.fh
      obtain ⟨ys, h3, h4⟩ : ∃ ys, SqL X.K F2 l ys ∧ DPs X.K F2 ys ds := by
        rcases ed with ed | ed
        · subst ed; cases c2.top with | lst h1 h2 => exact ⟨_, .of h1, h2⟩
        · subst ed; cases c2.top with | kls h1 h2 => exact ⟨_, h1, h2⟩
    · obtain ⟨v, h5, _⟩ := pget h4 (List.getElem?_eq_getElem hi)
      exact ⟨ys, v, sm2.seq h3, h5⟩
    · exact ⟨ys, sm2.seq h3, by rw [h4.length]; exact Nat.le_refl _⟩
    · obtain ⟨e, y⟩ := y
      subst e
      obtain ⟨v, h5, h6⟩ := pget h4 (List.getElem?_eq_getElem hi)
      have := y ys (sm2.seq h3)
      rw [h5] at this; cases this
      exact ⟨F2, ds[i], List.getElem?_eq_getElem hi, c2.fz h6⟩)
theorem ji_tup {Q : Nat → (Nat → D → Prop) → List Ent → Prop} (h : JV X B e G fun d G' => ∃ ds, d = .tup ds ∧ Q ds.length (fun i d => ds[i]? = some d) G') : JI X B tg e G Q := fun t s z F H R hl c q =>
  tIt_of (pi_tup pe_sem) (h t s z F H _ hl c fun v F' H' d G' c' ⟨ds, ed, hq⟩ => by
    subst ed
    have sm := c'.fh
    cases c'.top with
    | @tup l xs _ h1 h2 =>
      refine ⟨l, rfl, ⟨xs, sameT sm h1⟩, ?_⟩
      refine q (Itt X.K l) ds.length [some (.ref l)] [.fz (.tup ds)] (fun i d => ds[i]? = some d) F' H' G' rfl ⟨fun i u F2 H2 g hi c2 => ?_, fun u F2 H2 g c2 => ?_, fun i x u F2 H2 g H3 hi c2 y => ?_⟩ c' hq
      all_goals
        have c2 : Conf X.K B (some (.ref l) :: u) F2 H2 (.fz (.tup ds) :: g) := c2
        have sm2 := c2.fh
        obtain ⟨ys, h3, h4⟩ : ∃ ys, SqT X.K F2 l ys ∧ DPs X.K F2 ys ds := by
          cases c2.top with | tup h1 h2 => exact ⟨_, h1, h2⟩
      · obtain ⟨v, h5, _⟩ := pget h4 (List.getElem?_eq_getElem hi)
        exact ⟨ys, v, sameT sm2 h3, h5⟩
      · exact ⟨ys, sameT sm2 h3, by rw [h4.length]; exact Nat.le_refl _⟩
      · obtain ⟨e, y⟩ := y
        subst e
        obtain ⟨v, h5, h6⟩ := pget h4 (List.getElem?_eq_getElem hi)
        have := y ys (sameT sm2 h3)
        rw [h5] at this; cases this
        exact ⟨F2, ds[i], List.getElem?_eq_getElem hi, c2.fz h6⟩)
theorem ji_range1 (cj : CJ P w K mg base S k X B E) (j : Nat) {Q : Nat → (Nat → D → Prop) → List Ent → Prop} (hm : mg "range" = none) (h : JV X B a G fun d G' => ∃ n : Int, d = .int n ∧ -(2 ^ 62) ≤ n ∧ n < 2 ^ 62 ∧ Q n.toNat (fun i d => d = .int (0 + (i : Nat))) G') (hj : S.gl[j]? = some "range" := by rfl)
    (hs : starEach [a] X.env = [(false, eval a X.env)] := by rfl) : JI X B tg (.Call (.Name "range" p) [a] [] pos) G Q := fun t s z F H R hl c q =>
  tIt_of (pi_range1 (cj.gl hj) (cj.mgx hm) (pa_cons pe_sem pa_nil hs) hs) (h t s z F H _ hl c fun v F' H' d G' c' ⟨n, ed, h1, h2, hq⟩ => by
    subst ed
    cases c'.top
    exact ⟨n, rfl, h1, h2, q _ _ [] [] _ F' H' G' rfl walkD_range c'.pop hq⟩)
theorem ji_range2 (cj : CJ P w K mg base S k X B E) (j : Nat) {Q : Nat → (Nat → D → Prop) → List Ent → Prop} (hm : mg "range" = none) (h : JV X B a G fun d1 G1 => JV X B b G1 fun d2 G2 => ∃ m n : Int, d1 = .int m ∧ d2 = .int n ∧ (-(2 ^ 62) ≤ m ∧ m < 2 ^ 62 ∧ -(2 ^ 62) ≤ n ∧ n < 2 ^ 62) ∧ Q (n - m).toNat (fun i d => d = .int (m + (i : Nat))) G2) (hj : S.gl[j]? = some "range" := by rfl)
    (hs : starEach [a, b] X.env = [(false, eval a X.env), (false, eval b X.env)] := by rfl) (hs2 : starEach [b] X.env = [(false, eval b X.env)] := by rfl) : JI X B tg (.Call (.Name "range" p) [a, b] [] pos) G Q := fun t s z F H R hl c q =>
  tIt_of (pi_range2 (cj.gl hj) (cj.mgx hm) (pa_cons pe_sem (pa_cons pe_sem pa_nil hs2) (by rw [hs, hs2])) hs hs2) (run2 h hl c fun v u F' H' d1 d2 G' c' ⟨m, n, e1, e2, hb, hq⟩ => by
    subst e1 e2
    cases c'.top
    cases c'.pop.top
    exact ⟨m, n, rfl, hb, q _ _ [] [] _ F' H' G' rfl walkD_range c'.pop.pop hq⟩)
theorem ji_rev (cj : CJ P w K mg base S k X B E) (j : Nat) {Q : Nat → (Nat → D → Prop) → List Ent → Prop} (hm : mg "reversed" = none) (h : JV X B e G fun d G' => ∃ ds, d = .lst ds ∧ Q ds.length (fun i d => ds[ds.length - 1 - i]? = some d) G') (hj : S.gl[j]? = some "reversed" := by rfl)
    (hs : starEach [e] X.env = [(false, eval e X.env)] := by rfl) : JI X B tg (.Call (.Name "reversed" p) [e] [] pos) G Q := fun t s z F H R hl c q =>
  tIt_of (pi_reversed (cj.gl hj) (cj.mgx hm) (pa_cons pe_sem pa_nil hs) hs) (h t s z F H _ hl c fun v F' H' d G' c' ⟨ds, ed, hq⟩ => by
    subst ed
    have sm := c'.fh
    cases c'.top with
    | @lst l xs _ h1 h2 =>
      refine ⟨l, xs, rfl, .of (sm _ _ h1), ?_⟩
      have hlen := h2.length
      refine q (Itv X.K l xs.length) ds.length [some (.ref l)] [.fz (.lst ds)] (fun i d => ds[ds.length - 1 - i]? = some d) F' H' G' rfl ⟨fun i u F2 H2 g hi c2 => ?_, fun u F2 H2 g c2 => ?_, fun i x u F2 H2 g H3 hi c2 y => ?_⟩ c' hq
      all_goals
        have c2 : Conf X.K B (some (.ref l) :: u) F2 H2 (.fz (.lst ds) :: g) := c2
        have sm2 := c2.fh
        obtain ⟨ys, h3, h4⟩ : ∃ ys, SqL X.K F2 l ys ∧ DPs X.K F2 ys ds := by
          cases c2.top with | lst h1 h2 => exact ⟨_, .of h1, h2⟩
        have hlen2 := h4.length
      · have e : xs.length = ys.length := by omega
        have := (walk_rev (K := X.K) (a := l) (xs := ys)).goes i H2 (by omega) (sm2.seq h3)
        rw [e]; exact this
      · have e : xs.length = ys.length := by omega
        have := (walk_rev (K := X.K) (a := l) (xs := ys)).stops H2 (sm2.seq h3)
        rw [e, ← hlen2]; exact this
      · have e : xs.length = ys.length := by omega
        rw [e] at y
        obtain ⟨e1, e2⟩ := (walk_rev (K := X.K) (a := l) (xs := ys)).yields i H2 x H3 (by omega) (sm2.seq h3) y
        subst e1
        obtain ⟨dd, h5, h6⟩ := pgetL h4 e2
        refine ⟨F2, dd, ?_, c2.fz h6⟩
        rw [← hlen2]; exact h5)
/-- enumerate(list): pairs -/
theorem ji_enum (cj : CJ P w K mg base S k X B E) (j : Nat) {elts : List Expr} {kk : Nat} {Q : Nat → (Nat → D → Prop) → List Ent → Prop} (hm : mg "enumerate" = none) (h : JV X B e G fun d G' => ∃ ds, d = .lst ds ∧ Q ds.length (fun i d => ∃ y, ds[i]? = some y ∧ d = .tup [.int (i : Nat), y]) G') (hj : S.gl[j]? = some "enumerate" := by rfl)
    (hs : starEach [e] X.env = [(false, eval e X.env)] := by rfl) : JI X B (.Tuple elts kk tpos) (.Call (.Name "enumerate" p) [e] [] pos) G Q := fun t s z F H R hl c q =>
  tIt_of (pi_enum (cj.gl hj) (cj.mgx hm) (pa_cons pe_sem pa_nil hs) hs) (h t s z F H _ hl c fun v F' H' d G' c' ⟨ds, ed, hq⟩ => by
    subst ed
    have sm := c'.fh
    cases c'.top with
    | @lst l xs _ h1 h2 =>
      refine ⟨l, xs, rfl, .of (sm _ _ h1), ?_⟩
      refine q (Ite X.K l) ds.length [some (.ref l)] [.fz (.lst ds)] _ F' H' G' rfl ⟨fun i u F2 H2 g hi c2 => ?_, fun u F2 H2 g c2 => ?_, fun i x u F2 H2 g H3 hi c2 y => ?_⟩ c' hq
      all_goals
        have c2 : Conf X.K B (some (.ref l) :: u) F2 H2 (.fz (.lst ds) :: g) := c2
        have sm2 := c2.fh
        obtain ⟨ys, h3, h4⟩ : ∃ ys, SqL X.K F2 l ys ∧ DPs X.K F2 ys ds := by
          cases c2.top with | lst h1 h2 => exact ⟨_, .of h1, h2⟩
        have hlen2 := h4.length
      · exact (walk_enum (K := X.K) (a := l) (xs := ys)).goes i H2 (by omega) (sm2.seq h3)
      · have := (walk_enum (K := X.K) (a := l) (xs := ys)).stops H2 (sm2.seq h3)
        rw [← hlen2]; exact this
      · obtain ⟨T, x1, x2, e1, nT, e2, f1, f2⟩ := (walk_enum (K := X.K) (a := l) (xs := ys)).yields i H2 x H3 (by omega) (sm2.seq h3) y
        subst e1 e2
        cases f1
        obtain ⟨dd, h5, h6⟩ := pgetL h4 f2
        exact ⟨_, _, ⟨dd, h5, rfl⟩, c2.newT nT (.cons (.int _) (.cons h6 .nil))⟩)
/-- zip of two frozen lists -/
theorem ji_zip (cj : CJ P w K mg base S k X B E) (j : Nat) {elts : List Expr} {kk : Nat} {Q : Nat → (Nat → D → Prop) → List Ent → Prop} (hm : mg "zip" = none) (h : JV X B a G fun d1 G1 => JV X B b G1 fun d2 G2 => ∃ ds es, d1 = .lst ds ∧ d2 = .lst es ∧ Q (min ds.length es.length) (fun i d => ∃ y z, ds[i]? = some y ∧ es[i]? = some z ∧ d = .tup [y, z]) G2) (hj : S.gl[j]? = some "zip" := by rfl)
    (hs : starEach [a, b] X.env = (false, eval a X.env) :: starEach [b] X.env := by rfl) (hs2 : starEach [b] X.env = (false, eval b X.env) :: starEach [] X.env := by rfl) (hpl : (backTo pos (starEach [b] X.env)).any (·.1) = false := by rfl) : JI X B (.Tuple elts kk tpos) (.Call (.Name "zip" p) [a, b] [] pos) G Q := fun t s z F H R hl c q =>
  tIt_of (pi_zip (cj.gl hj) (cj.mgx hm) (pa_cons pe_sem (pa_cons pe_sem pa_nil hs2) hs) hs hpl) (run2 h hl c fun v u F' H' d1 d2 G' c' ⟨ds, es, e1, e2, hq⟩ => by
    subst e1 e2
    have sm := c'.fh
    cases c'.top with
    | @lst l2 xs2 _ h1 h2 => cases c'.pop.top with
      | @lst l1 xs1 _ h3 h4 =>
        refine ⟨l1, l2, xs1, xs2, rfl, .of (sm _ _ h3), .of (sm _ _ h1), ?_⟩
        refine q (Itz X.K l1 l2) (min ds.length es.length) [some (.ref l2), some (.ref l1)] [.fz (.lst es), .fz (.lst ds)] _ F' H' G' rfl ⟨fun i u F2 H2 g hi c2 => ?_, fun u F2 H2 g c2 => ?_, fun i x u F2 H2 g H3 hi c2 y => ?_⟩ c' hq
        all_goals
          have c2 : Conf X.K B (some (.ref l2) :: some (.ref l1) :: u) F2 H2 (.fz (.lst es) :: .fz (.lst ds) :: g) := c2
          have sm2 := c2.fh
          obtain ⟨ys2, h5, h6⟩ : ∃ ys, SqL X.K F2 l2 ys ∧ DPs X.K F2 ys es := by
            cases c2.top with | lst h1 h2 => exact ⟨_, .of h1, h2⟩
          obtain ⟨ys1, h7, h8⟩ : ∃ ys, SqL X.K F2 l1 ys ∧ DPs X.K F2 ys ds := by
            cases c2.pop.top with | lst h1 h2 => exact ⟨_, .of h1, h2⟩
          have len1 := h6.length
          have len2 := h8.length
          have wz := walk_zip (K := X.K) (a := l1) (b := l2) (xs := ys1) (ys := ys2) rfl
          rw [len1, len2] at wz
        · exact wz.goes i H2 hi ⟨sm2.seq h7, sm2.seq h5⟩
        · exact wz.stops H2 ⟨sm2.seq h7, sm2.seq h5⟩
        · obtain ⟨T, x1, x2, e1, nT, e2, f1, f2⟩ := wz.yields i H2 x H3 hi ⟨sm2.seq h7, sm2.seq h5⟩ y
          subst e1 e2
          obtain ⟨dd1, g1, g2⟩ := pgetL h8 f1
          obtain ⟨dd2, g3, g4⟩ := pgetL h6 f2
          exact ⟨_, _, ⟨dd1, dd2, g1, g3, rfl⟩, c2.newT nT (.cons g2 (.cons g4 .nil))⟩)
/-- a text, sign by sign -/
theorem ji_str {Q : Nat → (Nat → D → Prop) → List Ent → Prop} (h : JV X B e G fun d G' => ∃ y : Str, d = .str y ∧ Q y.cps.size (fun i d => ∃ c, y.cps[i]? = some c ∧ d = .str ⟨#[c]⟩) G') : JI X B tg e G Q := fun t s z F H R hl c q =>
  tIt_of (pi_str pe_sem) (h t s z F H _ hl c fun v F' H' d G' c' ⟨y, ed, hq⟩ => by
    subst ed
    cases c'.top
    exact ⟨y, rfl, q (Its y) _ [] [] _ F' H' G' rfl ⟨fun i u F H g hi c => hi, fun u F H g c => Nat.le_refl _, fun i x u F H g H' hi c yy => by
      obtain ⟨e, cc, h1, h2⟩ := yy
      subst e h2
      exact ⟨F, _, ⟨cc, h1, rfl⟩, c.fz (.str _)⟩⟩ c'.pop hq⟩)

/-! ## for -/
theorem js_for (cj : CJ P w K mg base S k X B E) {iter : Expr} {body : List Stmt} {Dd : Dn}
    (h : JI X B tg iter G fun n item G1 => ∃ I : Nat → List Ent → Prop, I 0 G1 ∧ (∀ i d G2, i < n → item i d → I i G2 → JG X B S.li tg (.fz d) G2 fun G3 => JSs X B body G3 { Dd with nx := I (i + 1), ct := I (i + 1), bk := Dd.nx }) ∧ (∀ G2, I n G2 → Dd.nx G2))
    (hs : ∀ x, foldedSetIterable iter X.env x = pure x := by intro _; rfl) : JS X B (.For tg iter body [] pos) G Dd := fun t s z F H De hl c kk =>
  tSt_of (ps_for cj.po cj.calm pi_sem pg_sem pss_sem hs) (h t s z F H _ hl c fun Jt n hv he item F' H' G' hl' wd c' ⟨I, i0, step, fin⟩ => by
    refine ⟨fun i m s' H' => m = n - i ∧ i ≤ n ∧ s'.length = s.length ∧ ∃ F G, Conf X.K B (hv ++ (t ++ s')) F H' (he ++ (z ++ G)) ∧ I i G, ⟨n, by simp, Nat.zero_le _, rfl, F', G', c', i0⟩, ?_⟩
    have drop : ∀ {hv : St} {he : List Ent} {u : St} {g : List Ent} {F H : Hp}, hv.length = he.length → Conf X.K B (hv ++ u) F H (he ++ g) → Conf X.K B u F H g := by
      intro hv
      induction hv with
      | nil => intro he u g F H hl c; cases he with
        | nil => exact c
        | cons _ _ => simp at hl
      | cons v hv ih => intro he u g F H hl c; cases he with
        | nil => simp at hl
        | cons e he => exact ih (by simpa using hl) c.pop
    rintro i m s1 H1 ⟨rfl, hi, hs1, F1, G1, c1, ii⟩
    by_cases hlt : i < n
    · refine .inr ⟨wd.goes i _ F1 H1 _ hlt c1, fun s' H' => s'.length = s.length ∧ ∃ F G, Conf X.K B (hv ++ (t ++ s')) F H' (he ++ (z ++ G)) ∧ I (i + 1) G, fun s' H' ⟨h1, F, G, h2, h3⟩ => ⟨n - (i + 1), by omega, rfl, hlt, h1, F, G, h2, h3⟩, fun x H2 y => ?_⟩
      obtain ⟨F2, d, hd, c2⟩ := wd.yields i x _ F1 H1 _ H2 hlt c1 y
      refine step i d G1 hlt hd ii (hv ++ t) s1 (he ++ z) F2 H2 x _ (by simp [hl', hl]) (by simpa [List.append_assoc] using c2) trivial fun s3 F3 H3 G3 hs3 _ c3 q3 => ?_
      refine q3 (hv ++ t) s3 (he ++ z) F3 H3 _ (by simp [hl', hl]) c3 ⟨fun s' F' H' G' e c' q => ⟨by rw [e, hs3, hs1], F', G', by simpa [List.append_assoc] using c', q⟩, fun v s' F' H' r G' c' ir q => ?_, fun s' F' H' G' e c' q => ?_, fun s' F' H' G' e c' q => ⟨by rw [e, hs3, hs1], F', G', by simpa [List.append_assoc] using c', q⟩⟩
      · -- a return: what is held goes
        refine kk.rt v s' F' H' r G' ?_ ir q
        have c'' : Conf X.K B (some v :: (hv ++ (t ++ s'))) F' H' (r :: (he ++ (z ++ G'))) := by simpa [List.append_assoc] using c'
        have sub : ∀ {hv : St} {he : List Ent} {u : St} {g : List Ent}, hv.length = he.length → Conf X.K B (some v :: (hv ++ u)) F' H' (r :: (he ++ g)) → Conf X.K B (some v :: u) F' H' (r :: g) := by
          intro hv
          induction hv with
          | nil => intro he u g hl c; cases he with
            | nil => exact c
            | cons _ _ => simp at hl
          | cons y hv ih => intro he u g hl c; cases he with
            | nil => simp at hl
            | cons e he =>
              refine ih (he := he) (by simpa using hl) ?_
              have nd := List.nodup_append.mp (show (oad (some v) r ++ (oad y e ++ oads (hv ++ u) (he ++ g))).Nodup from c.nd)
              have nd2 := List.nodup_append.mp nd.2.1
              cases c.env with
              | cons q1 tl => cases tl with
                | cons q2 tl => exact ⟨c.fh, c.ff, c.keep, c.there, c.old, .cons q1 tl, by
                    show (oad (some v) r ++ oads (hv ++ u) (he ++ g)).Nodup
                    exact List.nodup_append.mpr ⟨nd.1, nd2.2.1, fun a ha b hb => nd.2.2 a ha b (List.mem_append_right _ hb)⟩, fun a ha => c.own a (by
                      show a ∈ oad (some v) r ++ (oad y e ++ oads (hv ++ u) (he ++ g))
                      rcases List.mem_append.mp (show a ∈ oad (some v) r ++ oads (hv ++ u) (he ++ g) from ha) with z | z
                      · exact List.mem_append_left _ z
                      · exact List.mem_append_right _ (List.mem_append_right _ z))⟩
        exact sub hl' c''
      · refine kk.nx s' F' H' G' (by rw [e, hs3, hs1]) ?_ q
        have c'' : Conf X.K B (hv ++ (t ++ s')) F' H' (he ++ (z ++ G')) := by simpa [List.append_assoc] using c'
        exact drop hl' c''
    · have e : i = n := by omega
      subst e
      exact .inl ⟨wd.stops _ F1 H1 _ c1, kk.nx s1 F1 H1 G1 hs1 (drop hl' c1) (fin G1 ii)⟩)

/-! ## list comprehensions -/
def wipeE (G : List Ent) : List Nat → List Ent
  | [] => G
  | v :: vs => (wipeE G vs).set v .no
theorem Conf.wipe1 {K : PySem.W.Frag} {B : Bs} {F H : Hp} {t s : St} {z G : List Ent} (hl : t.length = z.length) (c : Conf K B (t ++ s) F H (z ++ G)) (i : Nat) (v : Option V) : Conf K B (t ++ s.set i v) F H (z ++ G.set i .no) :=
  (c.push (v := v) (e := .no) trivial (oad_no _)).store hl
theorem Conf.wipe {K : PySem.W.Frag} {B : Bs} {F H : Hp} {t s : St} {z G : List Ent} (hl : t.length = z.length) (c : Conf K B (t ++ s) F H (z ++ G)) : ∀ vs : List Nat, Conf K B (t ++ L2.wipe s vs) F H (z ++ wipeE G vs)
  | [] => c
  | v :: vs => (Conf.wipe hl c vs).wipe1 hl v none
/-- other values in slots of which nothing is told -/
theorem Conf.slots {K : PySem.W.Frag} {B : Bs} {F H : Hp} : ∀ {s s' : St} {g : List Ent}, s.length = s'.length → (∀ i : Nat, s[i]? = s'[i]? ∨ g[i]? = some .no) → Conf K B s F H g → Conf K B s' F H g := by
  intro s s' g hl h c
  have go : ∀ {s s' : St} {g : List Ent}, s.length = s'.length → (∀ i : Nat, s[i]? = s'[i]? ∨ g[i]? = some .no) → Paired (EntOk K B F H) s g → Paired (EntOk K B F H) s' g ∧ oads s' g = oads s g := by
    intro s
    induction s with
    | nil => intro s' g hl h p; cases s' with
      | nil => exact ⟨p, rfl⟩
      | cons _ _ => simp at hl
    | cons v s ih =>
      intro s' g hl h p
      cases s' with
      | nil => simp at hl
      | cons v' s' =>
        cases p with
        | @cons _ e _ g r tl =>
          obtain ⟨h1, h2⟩ := ih (by simpa using hl) (fun i => by simpa using h (i + 1)) tl
          rcases h 0 with q | q
          · simp at q; subst q
            exact ⟨.cons r h1, by show oad v e ++ oads s' g = oad v e ++ oads s g; rw [h2]⟩
          · simp at q; subst q
            exact ⟨.cons trivial h1, by show oad v' .no ++ oads s' g = oad v .no ++ oads s g; rw [h2, oad_no, oad_no]⟩
  obtain ⟨h1, h2⟩ := go hl h c.env
  exact ⟨c.fh, c.ff, c.keep, c.there, c.old, h1, by rw [h2]; exact c.nd, by rw [h2]; exact c.own⟩
theorem wipe_none {s : St} : ∀ {vs : List Nat} {i : Nat}, i ∈ vs → i < s.length → (L2.wipe s vs)[i]? = some none
  | [], _, h, _ => by cases h
  | v :: vs, i, h, hi => by
    unfold L2.wipe
    by_cases e : v = i
    · subst e; rw [List.getElem?_set_self (by rw [wipe_length]; exact hi)]
    · rw [List.getElem?_set_ne e]
      exact wipe_none ((List.mem_cons.mp h).resolve_left fun z => e z.symm) hi
theorem wipe_out' {s : St} : ∀ {vs : List Nat} {i : Nat}, i ∉ vs → (L2.wipe s vs)[i]? = s[i]?
  | [], _, _ => rfl
  | v :: vs, i, h => by
    unfold L2.wipe
    rw [List.getElem?_set_ne fun z => h (by rw [z]; exact List.mem_cons_self)]
    exact wipe_out' fun z => h (List.mem_cons_of_mem _ z)
theorem wipeE_no {G : List Ent} : ∀ {vs : List Nat} {i : Nat}, i ∈ vs → i < G.length → (wipeE G vs)[i]? = some .no
  | [], _, h, _ => by cases h
  | v :: vs, i, h, hi => by
    have hlen : ∀ vs : List Nat, (wipeE G vs).length = G.length := by
      intro vs; induction vs with
      | nil => rfl
      | cons v vs ih => show ((wipeE G vs).set v .no).length = _; rw [List.length_set, ih]
    unfold wipeE
    by_cases e : v = i
    · subst e; rw [List.getElem?_set_self (by rw [hlen]; exact hi)]
    · rw [List.getElem?_set_ne e]
      exact wipeE_no ((List.mem_cons.mp h).resolve_left fun z => e z.symm) hi
theorem wipeE_len (G : List Ent) : ∀ vs : List Nat, (wipeE G vs).length = G.length
  | [] => rfl
  | v :: vs => by show ((wipeE G vs).set v .no).length = _; rw [List.length_set, wipeE_len G vs]

/-- the tests of a clause -/
def tPs (X : Cx) (ifs : List Expr) : TT := fun s H Q => ∀ pins sh, Inv X pins s H sh →
  wpAny (model X.prog X.w) X.A (forIn ifs true fun c r => if r = true then do let ok ← isTrue c X.env (eval c X.env); pure (ForInStep.yield ok) else pure (ForInStep.yield r)) (TP X pins s Q) X.xe sh
def JTs (X : Cx) (B : Bs) (ifs : List Expr) (G : List Ent) (Q : Bool → List Ent → Prop) : Prop :=
  ∀ (t s : St) (z : List Ent) (F H : Hp) (TQ : Bool → Hp → Prop), t.length = z.length → Conf X.K B (t ++ s) F H (z ++ G) →
    (∀ b F' H' G', Conf X.K B (t ++ s) F' H' (z ++ G') → Q b G' → TQ b H') → tPs X ifs s H TQ
theorem JTs.nil {Q : Bool → List Ent → Prop} (h : Q true G) : JTs X B [] G Q := fun t s z F H TQ hl c q => fun pins sh I => (pts_nil (X := X)).run pins sh s H TQ I (q true F H G c h)
theorem JTs.one {c : Expr} {Q : Bool → List Ent → Prop} (h : JT X B c G Q) : JTs X B [c] G Q := fun t s z F H TQ hl cf q => fun pins sh I => (pts_one pt_sem).run pins sh s H TQ I (h t s z F H TQ hl cf q)

/-- the block's own context -/
theorem CJ.blk (cj : CJ P w K mg base S k X B E) {S' : Sc} {scope : Scope} (hN : S'.N = S.N) (hsc : S'.sc = relS scope S.sc) (hok : S'.ok = true) (hfn : (S'.li.all fun i => match S'.N[i]? with
    | some x => (scope.names.lookup x == some .cell) || (S'.sc.names.lookup x == some .local)
    | none => true) = true) (s0 : Shared) (H0 : Hp) (C : Addr) (cl : List (Str × Addr)) (fp : List Addr) : CJ P w K mg base S' k (X.blk s0 H0 scope (compEnvC scope cl C X.env) fp) B XW.non where
  hprog := cj.hprog
  hw := cj.hw
  hK := cj.hK
  hmg := cj.hmg
  hbase := cj.hbase
  hN := cj.hN.trans hN.symm
  hsc := by
    show (compEnvC scope cl C X.env).scope = S'.sc
    rw [hsc, ← cj.hsc]; rfl
  ok := hok
  fn := fun i x hi hx => by
    have := List.all_eq_true.mp hfn i hi
    rw [hx] at this
    simp only [Bool.or_eq_true, beq_iff_eq] at this
    rcases this with h | h
    · exact .inl (by show (scope.names.lookup x == some .cell) = true; rw [h]; rfl)
    · exact .inr h
  calm := cj.calm
  hr := cj.hr
  po := PassesOwn.never
  tk := takes0
  ind := fun _ _ _ _ _ h => h
  lk := fun _ _ _ _ _ _ _ _ _ _ _ h => h.elim
theorem Conf.rot {K : PySem.W.Frag} {B : Bs} {F H : Hp} {a b c : St} {a' b' c' : List Ent} (h1 : a.length = a'.length) (h2 : b.length = b'.length) (cf : Conf K B (a ++ (b ++ c)) F H (a' ++ (b' ++ c'))) : Conf K B (b ++ (a ++ c)) F H (b' ++ (a' ++ c')) := by
  obtain ⟨e1, e2⟩ := psplit h1 cf.env
  obtain ⟨e3, e4⟩ := psplit h2 e2
  have nd := cf.nd
  have own := cf.own
  rw [oads_app h1, oads_app h2] at nd own
  have pm : (oads a a' ++ (oads b b' ++ oads c c')).Perm (oads b b' ++ (oads a a' ++ oads c c')) := by
    rw [← List.append_assoc, ← List.append_assoc]
    exact List.Perm.append_right _ List.perm_append_comm
  refine ⟨cf.fh, cf.ff, cf.keep, cf.there, cf.old, papp e3 (papp e1 e4), ?_, fun x hx => ?_⟩
  · rw [oads_app h2, oads_app h1]
    exact pm.nodup_iff.mp nd
  · rw [oads_app h2, oads_app h1] at hx
    exact own x (pm.mem_iff.mpr hx)
theorem wipe_same {s s' : St} {vs : List Nat} (hl : s'.length = s.length) (h : ∀ i : Nat, i ∉ vs → s'[i]? = (L2.wipe s vs)[i]?) : L2.wipe s' vs = L2.wipe s vs := by
  apply List.ext_getElem?
  intro i
  by_cases hi : i ∈ vs
  · by_cases hlt : i < s.length
    · rw [wipe_none hi hlt, wipe_none hi (by omega)]
    · rw [List.getElem?_eq_none (by rw [wipe_length]; omega), List.getElem?_eq_none (by rw [wipe_length]; omega)]
  · rw [wipe_out' hi, h i hi]
/-- the readings of a comprehension's parts, in whatever block -/
def gB (X : Cx) (scope : Scope) (tg : Expr) : TG := fun v s H Q => ∀ s0 H0 C cl fp, tGt (X.blk s0 H0 scope (compEnvC scope cl C X.env) fp) tg v s H Q
def pB (X : Cx) (scope : Scope) (ifs : List Expr) : TT := fun s H Q => ∀ s0 H0 C cl fp, tPs (X.blk s0 H0 scope (compEnvC scope cl C X.env) fp) ifs s H Q
def eB (X : Cx) (scope : Scope) (e : Expr) : TE := fun s H Q => ∀ s0 H0 C cl fp, tS (X.blk s0 H0 scope (compEnvC scope cl C X.env) fp) e s H Q
/-- one turn of it -/
def JTurn (CJX : Cx → Prop) (B : Bs) (S' : Sc) (tg elt : Expr) (ifs : List Expr) (d : D) (G : List Ent) (Q : Option D → List Ent → Prop) : Prop :=
  ∀ X1, CJX X1 → JG X1 B S'.li tg (.fz d) G fun G3 => ∀ X2, CJX X2 → JTs X2 B ifs G3 fun b G4 => (b = true → ∀ X3, CJX X3 → JV X3 B elt G4 fun d' G5 => Q (some d') (wipeE G5 S'.li)) ∧ (b = false → Q none (wipeE G4 S'.li))
def ScOk (S S' : Sc) (scope : Scope) : Prop := S'.N = S.N ∧ S'.sc = relS scope S.sc ∧ S'.ok = true ∧ (S'.li.all fun i => match S'.N[i]? with
    | some x => (scope.names.lookup x == some .cell) || (S'.sc.names.lookup x == some .local)
    | none => true) = true
def LcI (n : Nat) (item : Nat → D → Prop) (CJX : Cx → Prop) (B : Bs) (S' : Sc) (tg elt : Expr) (ifs : List Expr) (G : List Ent) (Q : List D → List Ent → Prop) : Prop :=
  n ≤ sizeLine ∧ ∃ I : Nat → List D → List Ent → Prop, I 0 [] (wipeE G S'.li) ∧
    (∀ i d acc G2, i < n → item i d → I i acc G2 → acc.length ≤ i → JTurn CJX B S' tg elt ifs d G2 fun o G5 => match o with
        | some d' => I (i + 1) (acc ++ [d']) G5
        | none => I (i + 1) acc G5) ∧ (∀ acc G2, I n acc G2 → Q acc G2)
theorem lc_run (cj : CJ P w K mg base S k X B E) {elt iter : Expr} {ifs : List Expr} {scope : Scope} (S' : Sc) (so : ScOk S S' scope) {Q : List D → List Ent → Prop}
    (h : JI X B tg iter G fun n item G1 => LcI n item (fun X' => CJ P w K mg base S' k X' B XW.non) B S' tg elt ifs G1 Q) {t s : St} {z : List Ent} {F H : Hp} {VQ : VK} (hl : t.length = z.length) (c : Conf X.K B (t ++ s) F H (z ++ G))
    (q : ∀ p F' H' acc G', Conf X.K B (some (V.ref p) :: (t ++ s)) F' H' (Ent.ow (.lst acc) :: (z ++ G')) → Q acc G' → VQ (V.ref p) H') :
    tLc (tIt X tg iter) (gB X scope tg) (pB X scope ifs) (eB X scope elt) S'.li s H VQ :=
  h t s z F H _ hl c fun Jt n hv he item F1 H1 G1 hlv wd c1 ⟨hn, I, i0, step, fin⟩ => fun D hD => by
    obtain ⟨hN, hsc, hok, hfn⟩ := so
    have slen : s.length = G1.length := by
      have := c1.len
      simp only [List.length_append] at this
      omega
    have c2 : Conf X.K B ((hv ++ t) ++ s) F1 H1 ((he ++ z) ++ G1) := by simpa [List.append_assoc] using c1
    have c3 := (c2.wipe (by simp [hl, hlv]) S'.li).newL (vs := []) (ds := []) hD .nil
    have c4 : Conf X.K B (hv ++ ([some (V.ref D)] ++ (t ++ L2.wipe s S'.li))) F1 (upd H1 D (.lst [])) (he ++ ([Ent.ow (.lst [])] ++ (z ++ wipeE G1 S'.li))) := by
      have : Conf X.K B ([some (V.ref D)] ++ (hv ++ (t ++ L2.wipe s S'.li))) F1 (upd H1 D (.lst [])) ([Ent.ow (.lst [])] ++ (he ++ (z ++ wipeE G1 S'.li))) := by simpa [List.append_assoc] using c3
      exact this.rot rfl hlv
    refine ⟨fun i m H => m = n - i ∧ i ≤ n ∧ ∃ F G acc, acc.length ≤ i ∧ G.length = s.length ∧ (∀ j, j ∈ S'.li → j < G.length → G[j]? = some Ent.no) ∧ Conf X.K B (hv ++ ([some (V.ref D)] ++ (t ++ L2.wipe s S'.li))) F H (he ++ ([Ent.ow (.lst acc)] ++ (z ++ G))) ∧ I i acc G,
      ⟨n, by simp, Nat.zero_le _, F1, _, [], Nat.le_refl _, by rw [wipeE_len]; exact slen.symm, fun j hj hlt => wipeE_no hj (by rw [wipeE_len] at hlt; exact hlt), c4, i0⟩, ?_⟩
    rintro i m H2 ⟨rfl, hi, F2, G2, acc, hacc, gl, gno, c5, ii⟩
    by_cases hlt : i < n
    · refine .inr ⟨wd.goes i _ F2 H2 _ hlt c5, fun H => ∃ F G acc, acc.length ≤ i + 1 ∧ G.length = s.length ∧ (∀ j, j ∈ S'.li → j < G.length → G[j]? = some Ent.no) ∧ Conf X.K B (hv ++ ([some (V.ref D)] ++ (t ++ L2.wipe s S'.li))) F H (he ++ ([Ent.ow (.lst acc)] ++ (z ++ G))) ∧ I (i + 1) acc G, fun H' ⟨F, G, acc, a1, a2, a3, a4, a5⟩ => ⟨n - (i + 1), by omega, rfl, hlt, F, G, acc, a1, a2, a3, a4, a5⟩, fun x H3 y => ?_⟩
      obtain ⟨F3, d, hd, c6⟩ := wd.yields i x _ F2 H2 _ H3 hlt c5 y
      have tl : (hv ++ ([some (V.ref D)] ++ t)).length = (he ++ ([Ent.ow (.lst acc)] ++ z)).length := by simp [hlv, hl]
      intro s0 H0 C cl fp
      refine step i d acc G2 hlt hd ii hacc _ (cj.blk hN hsc hok hfn s0 H0 C cl fp) (hv ++ ([some (V.ref D)] ++ t)) (L2.wipe s S'.li) (he ++ ([Ent.ow (.lst acc)] ++ z)) F3 H3 x _ tl (by simpa [List.append_assoc] using c6) trivial fun s4 F4 H4 G4 hs4 ho4 c7 q4 => ?_
      have hs4' : s4.length = s.length := by rw [hs4, wipe_length]
      have ws : L2.wipe s4 S'.li = L2.wipe s S'.li := wipe_same hs4' ho4
      refine ⟨ws, fun s0 H0 C cl fp => ?_⟩
      -- the tests and the element
      refine q4 _ (cj.blk hN hsc hok hfn s0 H0 C cl fp) (hv ++ ([some (V.ref D)] ++ t)) s4 (he ++ ([Ent.ow (.lst acc)] ++ z)) F4 H4 _ tl c7 fun b F5 H5 G5 c8 q5 => ?_
      have fini : ∀ {acc' : List _root_.J.D} {F H : Hp} {G : List Ent}, acc'.length ≤ i + 1 → Conf X.K B ((hv ++ ([some (V.ref D)] ++ t)) ++ s4) F H ((he ++ ([Ent.ow (.lst acc')] ++ z)) ++ G) → I (i + 1) acc' (wipeE G S'.li) →
          ∃ F G acc, acc.length ≤ i + 1 ∧ G.length = s.length ∧ (∀ j, j ∈ S'.li → j < G.length → G[j]? = some Ent.no) ∧ Conf X.K B (hv ++ ([some (V.ref D)] ++ (t ++ L2.wipe s S'.li))) F H (he ++ ([Ent.ow (.lst acc)] ++ (z ++ G))) ∧ I (i + 1) acc G := fun {acc' F H G} ha cc hI => by
        have tl' : (hv ++ ([some (V.ref D)] ++ t)).length = (he ++ ([Ent.ow (.lst acc')] ++ z)).length := by simp [hlv, hl]
        have gl' : s4.length = G.length := by
          have := cc.len
          simp only [List.length_append, List.length_cons, List.length_nil] at this
          omega
        have cw := cc.wipe tl' S'.li
        rw [ws] at cw
        exact ⟨F, wipeE G S'.li, acc', ha, by rw [wipeE_len, ← gl', hs4'], fun j hj hlt => wipeE_no hj (by rw [wipeE_len] at hlt; exact hlt), by simpa [List.append_assoc] using cw, hI⟩
      cases b with
      | false =>
        rw [if_neg Bool.false_ne_true]
        exact fini (by omega) c8 (q5.2 rfl)
      | true =>
        rw [if_pos rfl]
        intro s0 H0 C cl fp
        refine q5.1 rfl _ (cj.blk hN hsc hok hfn s0 H0 C cl fp) (hv ++ ([some (V.ref D)] ++ t)) s4 (he ++ ([Ent.ow (.lst acc)] ++ z)) F5 H5 _ tl c8 fun y F6 H6 d' G6 c9 q6 => ?_
        -- the list stands at D as it was left
        have ig : (he ++ ([Ent.ow (.lst acc)] ++ z) ++ G6)[he.length]? = some (Ent.ow (.lst acc)) := by simp
        have is : (hv ++ ([some (V.ref D)] ++ t) ++ s4)[he.length]? = some (some (V.ref D)) := by rw [← hlv]; simp
        obtain ⟨v, e1, a, e2, ⟨xs, o1, o2⟩, _⟩ := c9.pop.at ig
        have is' := is
        rw [e1] at is'
        cases is'
        cases e2
        refine ⟨xs, o1, by rw [o2.length]; omega, ?_⟩
        have cw := c9.pop.write (i := he.length) (ho := .lst (xs ++ [y])) (o' := .lst (acc ++ [d'])) ig is ⟨_, upd_same, papp o2 (.cons c9.top .nil)⟩
        refine fini (F := F6) (acc' := acc ++ [d']) (by simp; omega) ?_ q6
        have es : (he ++ ([Ent.ow (.lst acc)] ++ z) ++ G6).set he.length (Ent.ow (.lst (acc ++ [d']))) = he ++ ([Ent.ow (.lst (acc ++ [d']))] ++ z) ++ G6 := by simp
        rw [es] at cw
        exact cw
    · have e : i = n := by omega
      subst e
      refine .inl ⟨wd.stops _ F2 H2 _ c5, ?_⟩
      -- the def's own slots are back
      have c6 := c5.rot hlv rfl
      have c7 : Conf X.K B (some (V.ref D) :: (t ++ L2.wipe s S'.li)) F2 H2 (Ent.ow (.lst acc) :: (z ++ G2)) := by
        have dropM : ∀ {hv : St} {he : List Ent} {u : St} {g : List Ent}, hv.length = he.length → Conf X.K B (hv ++ u) F2 H2 (he ++ g) → Conf X.K B u F2 H2 g := by
          intro hv
          induction hv with
          | nil => intro he u g hl c; cases he with
            | nil => exact c
            | cons _ _ => simp at hl
          | cons v hv ih => intro he u g hl c; cases he with
            | nil => simp at hl
            | cons e he => exact ih (by simpa using hl) c.pop
        exact dropM hlv c5
      refine q D F2 H2 acc G2 (c7.slots (by simp [wipe_length]) fun j => ?_) (fin acc G2 ii)
      cases j with
      | zero => exact .inl rfl
      | succ j =>
        show (t ++ L2.wipe s S'.li)[j]? = (t ++ s)[j]? ∨ (z ++ G2)[j]? = some Ent.no
        by_cases hj : j < t.length
        · exact .inl (by rw [List.getElem?_append_left hj, List.getElem?_append_left hj])
        · rw [List.getElem?_append_right (by omega), List.getElem?_append_right (by omega), List.getElem?_append_right (by omega), hl]
          by_cases hm : j - z.length ∈ S'.li
          · by_cases hlt2 : j - z.length < G2.length
            · exact .inr (gno _ hm hlt2)
            · exact .inl (by rw [List.getElem?_eq_none (by rw [wipe_length]; omega), List.getElem?_eq_none (by omega)])
          · exact .inl (wipe_out' hm)
theorem gB_ok {scope : Scope} (s0 : Shared) (H0 : Hp) (C : Addr) (cl : List (Str × Addr)) (fp : List Addr) : PG (X.blk s0 H0 scope (compEnvC scope cl C X.env) fp) tg (gB X scope tg) := ⟨fun pins s _ _ _ u _ I r h => h s0 H0 C cl fp pins s u I r⟩
theorem pB_ok {scope : Scope} {ifs : List Expr} (s0 : Shared) (H0 : Hp) (C : Addr) (cl : List (Str × Addr)) (fp : List Addr) : PTs (X.blk s0 H0 scope (compEnvC scope cl C X.env) fp) ifs (pB X scope ifs) := ⟨fun pins s _ _ _ I h => h s0 H0 C cl fp pins s I⟩
theorem eB_ok {scope : Scope} (s0 : Shared) (H0 : Hp) (C : Addr) (cl : List (Str × Addr)) (fp : List Addr) : PE (X.blk s0 H0 scope (compEnvC scope cl C X.env) fp) e (eB X scope e) := ⟨fun pins s _ _ _ I h => h s0 H0 C cl fp pins s I⟩
/-- a list comprehension as a value -/
theorem je_lc (cj : CJ P w K mg base S k X B E) {elt iter : Expr} {ifs : List Expr} {scope : Scope} (S' : Sc) (own : List (Str × Nat)) {Q : Ent → List Ent → Prop}
    (h : JI X B tg iter G fun n item G1 => LcI n item (fun X' => CJ P w K mg base S' k X' B XW.non) B S' tg elt ifs G1 fun acc G2 => Q (.ow (.lst acc)) G2)
    (so : ScOk S S' scope) (bo : blkC S.N S.sc scope own = true) (ho : own.map (·.2) = S'.li := by rfl) (hs : ∀ x, foldedSetIterable iter X.env x = pure x := by intro _; rfl) :
    JE X B (.ListComp elt [⟨tg, iter, ifs, 0⟩] scope pos) G Q := fun t s z F H VQ hl c q => by
  have bo' : BlkOk X.N X.env.scope scope own := by rw [cj.hN, cj.hsc]; exact blkOk_by bo
  refine tS_of (pe_lc cj.calm cj.nd pi_sem bo' gB_ok pB_ok eB_ok hs) ?_
  rw [ho]
  exact lc_run cj S' so h hl c fun p' F' H' acc G' c' hq => q _ F' H' _ G' c' trivial hq
/-- name = [..] on one line, the name a local -/
theorem js_setLc (cj : CJ P w K mg base S k X B E) (i : Nat) {elt iter : Expr} {ifs : List Expr} {scope : Scope} {py sp : Pos} (S' : Sc) (own : List (Str × Nat)) {Dd : Dn}
    (h : JI X B tg iter G fun n item G1 => LcI n item (fun X' => CJ P w K mg base S' k X' B XW.non) B S' tg elt ifs G1 fun acc G2 => Dd.nx (G2.set i (.ow (.lst acc))))
    (so : ScOk S S' scope) (bo : blkC S.N S.sc scope own = true) (hyl : S.sc.names.lookup x = some .local) (hsw : swapsWith (.ListComp elt [⟨tg, iter, ifs, 0⟩] scope pos) (some (.Name x py)) sp.line X.env = pure true)
    (hN : S.N[i]? = some x := by rfl) (ho : own.map (·.2) = S'.li := by rfl) (hs : ∀ x, foldedSetIterable iter X.env x = pure x := by intro _; rfl) :
    JS X B (.Assign [.Name x py] (.ListComp elt [⟨tg, iter, ifs, 0⟩] scope pos) sp) G Dd := fun t s z F H De hl c kk => by
  have bo' : BlkOk X.N X.env.scope scope own := by rw [cj.hN, cj.hsc]; exact blkOk_by bo
  refine tSt_of (ps_setLc cj.calm cj.nd (cj.xN hN) (by rw [cj.hsc]; exact hyl) hsw pi_sem bo' gB_ok pB_ok eB_ok hs) ?_
  rw [ho]
  exact lc_run cj S' so h hl c fun p' F' H' acc G' c' hq => kk.nx _ F' H' _ (by simp) (c'.store hl) hq
end
end J

namespace J
open PySem PySem.Spec L2
open PyProof.Rows (IntsAre)
/-! a set made of a list of ints: as for a tuple in the library, the walk another -/
section
variable {P : Program} {w : World} {A : Around} {E : Value → Shared → Prop} {s : Shared}
abbrev setO0 (w : World) : Obj := { cls := .type "set", dict := none, data := .set #[] 0 (.fresh 0 0 (!w.params.followText "set-order")) }
set_option maxHeartbeats 3200000 in
theorem call_set_lst {l : Addr} {zs : Array Value} (ns : List Int) {Q : Value → Shared → Prop} (hh : A.handled = none) (hl : s.heap.IsList l zs) (hi : IntsAre zs.toList ns) (hb : ns.length + 1 < scanBound)
    (h : ∀ (h' : Heap) (tk c : Nat), SetR w h' s.heap.objs.size (fun j => decide (j ∈ ns)) c → c ≤ ns.length → (∀ b o, s.heap.get? b = some o → h'.get? b = some o) → Q (.ref s.heap.objs.size) { s with heap := h', toks := tk }) :
    wpAny (model P w) A (call (.type "set") [.ref l]) Q E s := by
  have zsz : zs.size = ns.length := by have q := hi.length; simpa using q
  obtain ⟨c0, t0, mro0⟩ := F.called_set.mro
  have m1 := F.called_set.made
  have m2 := F.called_set.sub
  apply wpAny_call
  apply codeAny_of_tree
  show wpAny _ _ (callAny (.type "set") _) _ _ _
  refine wpAny_pure (And.intro (Code.quiet_builtin _ (by decide +kernel)) (codeAny_builtin F.entry_type_call ?_))
  rw [Around.under_plain (weight_type_call_type "set" [.ref l] []) rfl]
  have m3 := F.called_set.notType
  have m4 := F.called_set.canCreate
  have m5 := F.typeCall_set_1 (.ref l)
  repeat (any_goals (first | assumption | wp_step))
  refine codeAny_mono (code_set_led1 (.ref l) (E := E) (Q₁ := fun ob t₁ => ob = .ref s.heap.objs.size ∧ t₁ = { s with heap := s.heap.push (setO0 w) }) (And.intro rfl rfl)) fun r s₁ hr => ?_
  cases r with
  | error e => exact hr
  | ok fl => cases fl with
    | next => exact hr.elim
    | brk => exact hr.elim
    | cont => exact hr.elim
    | ret ob =>
      obtain ⟨rfl, rfl⟩ := hr
      have gS : (s.heap.push (setO0 w)).get? s.heap.objs.size = some (setO0 w) := Heap.get?_push_size _ rfl
      have gT : Shared.TypeIs { s with heap := s.heap.push (setO0 w) } (.ref s.heap.objs.size) "set" := Exists.intro _ (And.intro gS rfl)
      have m6 := F.called_set.init.lookup
      have m7 := F.called_set.init.bind (.ref s.heap.objs.size)
      repeat (any_goals (first | assumption | wp_step))
      refine codeAny_mono (codeAny_call_builtin (R := wants (fun r t₂ => r = .none ∧ ∃ (h' : Heap) (tk c : Nat), t₂ = { s with heap := h', toks := tk } ∧ SetR w h' s.heap.objs.size (fun j => decide (j ∈ ns)) c ∧ c ≤ ns.length ∧ (∀ b o, s.heap.get? b = some o → h'.get? b = some o)) E)
        F.called_set.init.plain F.entry_set_init (check_set_init_1 gT ?_)) fun r₂ t₂ hr₂ => ?_
      · have hl0 := hl
        obtain ⟨ol, hol, hcl, nl, hdl⟩ := hl
        rcases ol with ⟨oc, odi, oda, osl⟩
        simp only at hcl hdl
        cases hcl
        cases hdl
        have gl : (s.heap.push (setO0 w)).get? l = some { cls := .type "list", dict := odi, data := .seq zs nl, slots := osl } := Heap.get?_push_of_some _ hol
        have m8 := F.sub_list_set
        have m9 := F.sub_list_frozenset
        have mA : (Value.type "list" == Value.type "dict") = false := by decide
        have gl1 : (s.heap.push (setO0 w)).IsList l zs := hl0.push _
        unfold Builtin.«set.__init__» noKeywords Builtin.Frozenset.updateFrom
        generalize hIt : pyIter = It
        wp_walk
        subst hIt
        refine wpAny_pyIter_list gl1 ?_
        refine wpAny_bind (wpAny_runValue ?_)
        have lS : l < s.heap.objs.size := Heap.lt_size hol
        have hd3 : A.in1.in1.in1.handled = none := by simp [hh]
        have sz1 : (s.heap.push (setO0 w)).objs.size = s.heap.objs.size + 1 := Heap.size_push ..
        have neI : l ≠ (s.heap.push (setO0 w)).objs.size := by rw [sz1]; exact Nat.ne_of_lt (Nat.lt_succ_of_lt lS)
        have nfp : s.heap.objs.size ∉ [(s.heap.push (setO0 w)).objs.size, l] := by
          rw [sz1]
          intro z
          rcases List.mem_cons.mp z with z | z
          · exact absurd z (Nat.ne_of_lt (Nat.lt_succ_self _))
          · have z : s.heap.objs.size = l := by simpa using z
            exact absurd z (Nat.ne_of_gt lS)
        have vals : ∀ (i : Nat) (v : Value), zs[i]? = some v → ∃ k t, ns[i]? = some k ∧ v = .int k t := fun i v hv => by
          have hi' : i < ns.length := by rw [← zsz]; exact (Array.getElem?_eq_some_iff.mp hv).1
          obtain ⟨t, e⟩ := PyProof.Rows.IntsAre.int_at hi i v (by rw [Array.getElem?_toList]; exact hv)
          have eg : ns[i]? = some ns[i] := List.getElem?_eq_getElem hi'
          exact ⟨ns[i], t, eg, by rw [e, List.getD_eq_getElem?_getD, eg]; rfl⟩
        refine set_update_ints ((Walks.list hd3 _ l neI zs).toS) s.heap.objs.size nfp ns zsz hb vals (zs.size - 0) 0 _ (by omega) (Nat.zero_le _) ⟨⟨_, Heap.get?_push_size _ rfl, rfl, rfl⟩, gl1.push _⟩ ?z0 ?zR
        case z0 =>
          have hget : ((s.heap.push (setO0 w)).push { cls := .type "list_iterator", data := .fields #[.ref l, .int 0 0] }).get? s.heap.objs.size = some (setO0 w) := Heap.get?_push_of_some _ gS
          exact ⟨0, Nat.le_refl 0, setR_new_at hget⟩
        case zR =>
          intro s' c' hm hc' hS'
          rcases s' with ⟨h', g2, d', tk', os'⟩
          obtain rfl : g2 = s.gens := hm.gens
          obtain rfl : d' = s.drawn := hm.drawn
          obtain rfl : os' = s.os := hm.os
          show wpAny _ _ _ _ _ _
          refine wpAny_pure ?_
          show wpAny _ _ (ret Value.none) _ _ _
          rw [zsz] at hc'
          refine wpAny_pure ⟨rfl, h', tk', c', rfl, hS', hc', fun b o e => hm.heap b o (fun z => ?_) (Heap.get?_push_of_some _ (Heap.get?_push_of_some _ e))⟩
          have lt := Heap.lt_size e
          rcases List.mem_cons.mp z with z | z
          · exact absurd z (Nat.ne_of_lt lt)
          · have z : b = (s.heap.push (setO0 w)).objs.size := by simpa using z
            rw [sz1] at z
            exact absurd z (Nat.ne_of_lt (Nat.lt_succ_of_lt lt))
      · cases r₂ with
        | error e => exact hr₂
        | ok fl₂ => cases fl₂ with
          | next => exact hr₂.elim
          | brk => exact hr₂.elim
          | cont => exact hr₂.elim
          | ret r =>
            obtain ⟨rfl, h', tk, c', rfl, hS', hc', hk'⟩ := hr₂
            repeat (any_goals (first | assumption | wp_step))
            exact h _ _ _ hS' hc' hk'
end
end J

namespace J
open PySem PySem.Spec L2

theorem SpJ.monoE {K : PySem.W.Frag} {U : Spec} {vs : List V} {H : Hp} {Q : VK} {E E' : XK} (h : SpJ K U vs H Q E) (i : ∀ c d H, E c d H → E' c d H) : SpJ K U vs H Q E' := by
  obtain ⟨F, ps, B, R, RX, e0, e1, e2, c, sp, hq, hx⟩ := h
  exact ⟨F, ps, B, R, RX, e0, e1, e2, c, sp, hq, fun x F' H' od c' xo r => i _ _ _ (hx x F' H' od c' xo r)⟩

/-! ## sets of ints -/
def rSetL (K : PySem.W.Frag) (w : World) : List V → Hp → VK → Prop := fun xs H Q => ∃ (l : Addr) (ns : List Int), xs = [.ref l] ∧ (SqL K H l (ns.map V.int) ∨ SqT K H l (ns.map V.int)) ∧ ns.length < 64 ∧
  ∀ p c, H p = none → c ≤ ns.length → Q (.ref p) (upd H p (SetO w p (fun j => decide (j ∈ ns)) c))
section
variable {X : Cx}
theorem cr_setL (hc : X.calm = true) : CallR X (.type "set") (rSetL X.K X.w) := by
  intro pins s σ H xs us Q I r h
  obtain ⟨l, ns, rfl, hl, hf, q⟩ := h
  rw [Vals.ref1 r]
  have hb : ns.length + 1 < scanBound := by unfold scanBound; omega
  have hn : H s.heap.objs.size = none := I.hok.fresh (Nat.le_refl _)
  rcases hl with hl | hl
  · obtain ⟨its, rv, pl, hz⟩ := I.list hl
    refine call_set_lst ns (I.ok.hd hc) pl.isList (by simpa using rv.ints) hb fun h' tk c hS hk k => ?_
    exact ⟨.ref s.heap.objs.size, upd H s.heap.objs.size _, I.laid (t' := tk) k (Nat.le_refl _) (setO_new hS), rfl, q _ c hn hk⟩
  · obtain ⟨its, rv, pl, hz⟩ := I.tuple hl
    refine call_set_tupI ns (I.ok.hd hc) pl (by simpa using rv.ints) hb fun h' tk c hS hk k => ?_
    exact ⟨.ref s.heap.objs.size, upd H s.heap.objs.size _, I.laid (t' := tk) k (Nat.le_refl _) (setO_new hS), rfl, q _ c hn hk⟩
def rLenSet (w : World) : List V → Hp → VK → Prop := fun xs H Q => ∃ (a : Addr) (S : Int → Bool) (n : Nat), xs = [.ref a] ∧ H a = some (SetO w a S n) ∧ n < 64 ∧ ∀ ks : List Int, ks.Nodup → (∀ k, k ∈ ks ↔ S k = true) → ks.length = n → Q (.int n) H
theorem cr_lenSet : CallR X (.builtin "len") (rLenSet X.w) := by
  intro pins s σ H xs us Q I r h
  obtain ⟨a, S, n, rfl, ha, hz, q⟩ := h
  rw [Vals.ref1 r]
  obtain ⟨o, es, ep, t, ho, hex, hd, _, hnd, hS, _, hf, hn, _⟩ := setO_get I ha
  refine PySem.call_len_set ho hex hd hf (by rw [hn]; omega) ⟨.int n, H, I.tok _, ⟨_, by rw [hn]⟩, q _ hnd (fun k => (hS k).symm) (by rw [List.length_map, Array.length_toList, hn])⟩
end

section
variable {P : Program} {w : World} {K : PySem.W.Frag} {mg : Str → Option Value} {base : Heap} {S : Sc} {k : Nat} {X : Cx} {B : Bs} {E : XW} {G : List Ent} {a b e o : Expr} {es : List Expr} {pos p apos : Pos} {x : Str}
inductive IntSeq (ns : List Int) : D → Prop
  | lst : IntSeq ns (.lst (ns.map .int))
  | tup : IntSeq ns (.tup (ns.map .int))
  | tp : IntSeq ns (.tp (ns.map .int))
theorem IntSeq.at {F H : Hp} {ns : List Int} {d : D} {v : V} (i : IntSeq ns d) (sm : Same F H) (h : DP K F v d) : ∃ l, v = .ref l ∧ (SqL K H l (ns.map V.int) ∨ SqT K H l (ns.map V.int)) := by
  cases i with
  | lst => cases h with
    | lst h1 h2 => rw [ints_of_dps h2] at h1; exact ⟨_, rfl, .inl (.of (sm _ _ h1))⟩
  | tup => cases h with
    | tup h1 h2 => rw [ints_of_dps h2] at h1; exact ⟨_, rfl, .inr (sameT sm h1)⟩
  | tp => cases h with
    | tp h1 h2 => rw [ints_of_dps h2] at h1; exact ⟨_, rfl, .inr (.inl (.inl (sm _ _ h1)))⟩
/-- len(set(x)) -/
theorem jv_lenSet (cj : CJ P w K mg base S k X B E) (j j2 : Nat) {p2 q2 : Pos} {Q : D → List Ent → Prop} (hm : mg "len" = none) (hm2 : mg "set" = none)
    (h : JV X B e G fun d G' => ∃ ns : List Int, IntSeq ns d ∧ ns.length < 64 ∧ ∀ ks : List Int, ks.Nodup → (∀ k, k ∈ ks ↔ k ∈ ns) → Q (.int ks.length) G') (hj : S.gl[j]? = some "len" := by rfl) (hj2 : S.gl[j2]? = some "set" := by rfl)
    (he : starEach [e] X.env = (false, eval e X.env) :: starEach [] X.env := by rfl) (hpl : (backTo q2 (starEach [] X.env)).any (·.1) = false := by rfl)
    (he2 : starEach [.Call (.Name "set" p2) [e] [] q2] X.env = (false, eval (.Call (.Name "set" p2) [e] [] q2) X.env) :: starEach [] X.env := by rfl) (hpl2 : (backTo pos (starEach [] X.env)).any (·.1) = false := by rfl) :
    JV X B (.Call (.Name "len" p) [.Call (.Name "set" p2) [e] [] q2] [] pos) G Q := fun t s z F H VQ hl c q =>
  tS_of (pe_callB cr_lenSet (cj.gl hj) (cj.mgx hm) (by decide +kernel) (pa_cons (pe_callTy (cr_setL cj.calm) (cj.gl hj2) (cj.mgx hm2) (by decide +kernel) (pa_cons pe_sem pa_nil he) (cj.nnm hj2) (cj.dbg hj2) he hpl) pa_nil he2) (cj.nnm hj) (cj.dbg hj) he2 hpl2)
    (h t s z F H _ hl c fun v F' H' d G' c' ⟨ns, sd, hz, hq⟩ => by
      obtain ⟨l, ev, hs⟩ := sd.at c'.fh c'.top
      subst ev
      refine ⟨l, ns, rfl, hs, hz, fun p' cc np hc => ?_⟩
      refine ⟨p', _, cc, rfl, upd_same, by omega, fun ks nd hk hlen => ?_⟩
      rw [← hlen]
      exact q _ _ _ _ G' ((c'.pop.alloc np).fz (.int _)) (hq ks nd fun k => (hk k).trans (decide_eq_true_iff)))
/-- sorted(set(x)) -/
theorem je_sortedSet (cj : CJ P w K mg base S k X B E) (j j2 : Nat) {p2 q2 : Pos} {Q : Ent → List Ent → Prop} (hm : mg "sorted" = none) (hm2 : mg "set" = none)
    (h : JV X B e G fun d G' => ∃ ns : List Int, IntSeq ns d ∧ ns.length < 64 ∧ ∀ ks : List Int, ks.Pairwise (· < ·) → (∀ k, k ∈ ks ↔ k ∈ ns) → Q (.ow (.lst (ks.map .int))) G') (hj : S.gl[j]? = some "sorted" := by rfl) (hj2 : S.gl[j2]? = some "set" := by rfl)
    (he : starEach [e] X.env = (false, eval e X.env) :: starEach [] X.env := by rfl) (hpl : (backTo q2 (starEach [] X.env)).any (·.1) = false := by rfl)
    (he2 : starEach [.Call (.Name "set" p2) [e] [] q2] X.env = (false, eval (.Call (.Name "set" p2) [e] [] q2) X.env) :: starEach [] X.env := by rfl) (hpl2 : (backTo pos (starEach [] X.env)).any (·.1) = false := by rfl) :
    JE X B (.Call (.Name "sorted" p) [.Call (.Name "set" p2) [e] [] q2] [] pos) G Q := fun t s z F H VQ hl c q =>
  tS_of (pe_callB (cr_sortedSet cj.calm) (cj.gl hj) (cj.mgx hm) (by decide +kernel) (pa_cons (pe_callTy (cr_setL cj.calm) (cj.gl hj2) (cj.mgx hm2) (by decide +kernel) (pa_cons pe_sem pa_nil he) (cj.nnm hj2) (cj.dbg hj2) he hpl) pa_nil he2) (cj.nnm hj) (cj.dbg hj) he2 hpl2)
    (h t s z F H _ hl c fun v F' H' d G' c' ⟨ns, sd, hz, hq⟩ => by
      obtain ⟨l, ev, hs⟩ := sd.at c'.fh c'.top
      subst ev
      refine ⟨l, ns, rfl, hs, hz, fun p' cc np hc => ?_⟩
      refine ⟨p', _, cc, rfl, upd_same, by omega, fun ks r pw hk hlen nr => ?_⟩
      exact q _ _ _ _ G' ((c'.pop.alloc np).newL nr (dps_ints ks)) trivial (hq ks pw fun k => (hk k).trans (decide_eq_true_iff)))

/-! ## types, isinstance -/
theorem jv_ty (cj : CJ P w K mg base S k X B E) (j : Nat) {T : String} {Q : D → List Ent → Prop} (hm : mg x = none) (hv : bootBuiltins x = some (.type T)) (h : Q (.raw (.ty T)) G) (hj : S.gl[j]? = some x := by rfl) : JV X B (.Name x pos) G Q := fun t s z F H VQ hl c q =>
  tS_of (pe_bltn (v := .ty T) (cj.gl hj) (cj.mgx hm) hv rfl (cj.nnm hj) (cj.dbg hj)) (q _ F H _ G (c.fz (.raw _)) h)
/-- the built-in type that a datum has -/
def D.tyn : D → Option String
  | .non => some "NoneType"
  | .bl _ => some "bool"
  | .int _ => some "int"
  | .str _ => some "str"
  | .tup _ => some "tuple"
  | .tp _ => some "tuple"
  | .lst _ => some "list"
  | .kls _ => some "list"
  | _ => none
theorem D.ty {F : Hp} {v : V} {d : D} {T : String} (h : DP K F v d) (e : d.tyn = some T) : TyX K F v (.type T) := by
  cases h with
  | non => cases e; exact .base .non
  | bl b => cases e; exact .base (.bl b)
  | int b => cases e; exact .base (.int b)
  | str b => cases e; exact .base (.str b)
  | tup h1 h2 =>
    cases e
    rcases h1 with (h1 | ⟨o, h1⟩) | ⟨o, _, _, h1, h2, _⟩
    · exact .base (.tup h1)
    · exact .fTuple h1
    · exact .kTuple h1 h2
  | lst h1 h2 => cases e; exact .base (.lst h1)
  | kls h1 h2 =>
    cases e
    rcases h1 with (h1 | ⟨o, h1⟩) | ⟨o, _, _, h1, h2, _⟩
    · exact .base (.lst h1)
    · exact .base (.frz h1)
    · exact .kList h1 h2
  | ins _ _ _ _ => cases e
  | raw v => cases e
  | tp h1 h2 => cases e; exact .base (.tup h1)
  | exc _ _ _ => cases e
  | dct _ _ _ => cases e
theorem jv_isi (cj : CJ P w K mg base S k X B E) (j : Nat) {Q : D → List Ent → Prop} (hm : mg "isinstance" = none) (h : JV X B a G fun d1 G1 => JV X B b G1 fun d2 G2 => ∃ T T' r, d1.tyn = some T ∧ d2 = .raw (.ty T') ∧ kitB T T' = some r ∧ Q (.bl r) G2) (hj : S.gl[j]? = some "isinstance" := by rfl)
    (he : starEach [a, b] X.env = (false, eval a X.env) :: starEach [b] X.env := by rfl) (he2 : starEach [b] X.env = (false, eval b X.env) :: starEach [] X.env := by rfl) (hpl : (backTo pos (starEach [b] X.env)).any (·.1) = false := by rfl) : JV X B (.Call (.Name "isinstance" p) [a, b] [] pos) G Q := fun t s z F H VQ hl c q =>
  tS_of (pe_callB call_isi (cj.gl hj) (cj.mgx hm) (by decide +kernel) (pa_cons pe_sem (pa_cons pe_sem pa_nil he2) he) (cj.nnm hj) (cj.dbg hj) he hpl)
    (run2 h hl c fun v u F' H' d1 d2 G' c' ⟨T, T', r, e1, e2, e3, hq⟩ => by
      subst e2
      have tv : TyX X.K H' v (.type T) := D.ty c'.pop.topH e1
      cases c'.top
      exact ⟨v, _, _, _, r, rfl, .ty T', tv, kit_ty e3, q _ F' H' _ G' (c'.pop.pop.fz (.bl r)) hq⟩)
end
end J

namespace J
open PySem PySem.Spec L2
section
variable {P : Program} {w : World} {K : PySem.W.Frag} {mg : Str → Option Value} {base : Heap} {S : Sc} {k : Nat} {X : Cx} {B : Bs} {E : XW} {G : List Ent} {a b e o : Expr} {es : List Expr} {pos p apos : Pos} {x : Str}
theorem CJ.pass (cj : CJ P w K mg base S k X B E) : Passes (L2.CX P w) X (fun cls d H => E.W cls d [] H) := by
  have := passes_call (E := fun cls d H => E.W cls d [] H) cj.tk (fun cls d s H h => cj.ind cls d [] s H h)
  rw [cj.hprog, cj.hw] at this
  exact this
theorem lookup_no {ns : List Str} {m : Str} : ∀ {fs : List (Str × V)}, ns = fs.map (·.1) → m ∉ ns → fs.lookup m = none
  | [], _, _ => rfl
  | (g, v) :: fs, e, h => by
    subst e
    rw [List.map_cons] at h
    rw [List.lookup_cons]
    have h1 : m ≠ g := fun z => h (by rw [z]; exact List.mem_cons_self)
    rw [show (m == g) = false from beq_eq_false_iff_ne.mpr h1]
    exact lookup_no rfl fun z => h (List.mem_cons_of_mem _ z)
/-- o.m(..) of a frozen instance -/
theorem meth_run {U : Spec} {C : Addr} {m : Str} {Q : Ent → List Ent → Prop} (cj : CJ P w K mg base S k X B E)
    (h : JV X B o G fun d0 G0 => ∃ ns fs, d0 = .ins C ns fs ∧ m ∉ ns ∧ JD X B es G0 fun ds G' => U (.v (.ins C ns fs) :: ds.map .v) (fun r _ => Q r G') (fun x => E.R x G'))
    {t s : St} {z : List Ent} {F H : Hp} {VQ : VK} (hl : t.length = z.length) (c : Conf X.K B (t ++ s) F H (z ++ G))
    (q : ∀ v F' H' r G', Conf X.K B (some v :: (t ++ s)) F' H' (r :: (z ++ G')) → IsR r → Q r G' → VQ v H') :
    tMeth C m (SpJ K U) [] (fun cls d H => E.W cls d [] H) (tS X o) (tAr X es) s H VQ := by
  refine h t s z F H _ hl c fun v F' H' d0 G0 c' ⟨ns, fs, e0, hm, h2⟩ => ?_
  subst e0
  have tp := c'.topH
  cases tp with
  | @ins a _ dx fvs _ _ h3 h4 h5 h6 =>
    refine ⟨a, dx, fvs, rfl, h3, lookup_no h5 hm, ?_⟩
    refine h2 (some (.ref a) :: t) s (.fz (.ins C ns fs) :: z) F' H' _ (by simp [hl]) c' fun vs as F2 H2 G2 c2 ab ⟨ds, eas, sp⟩ => ?_
    subst eas
    rw [List.append_nil]
    have c3 : Conf X.K B (((V.ref a :: vs).map some).reverse ++ (t ++ s)) F2 H2 ((((.ins C ns fs :: ds).map Arg.v).map Arg.ent).reverse ++ (z ++ G2)) := by
      rw [List.map_cons, List.map_cons, List.map_cons, List.reverse_cons, List.reverse_cons, List.append_assoc, List.append_assoc]
      exact c2
    refine (call_ok (as := (D.ins C ns fs :: ds).map Arg.v) cj hl c3 (.cons trivial ab) (okB_vs _ _) ?_ q).monoE fun cls d H hE => cj.ind cls d s [] H hE
    rw [parsOf_vs, updB_vs]
    exact (funext fun r => funext fun bs => by rw [updB_vs] : (fun r bs => Q r (updB ((D.ins C ns fs :: ds).map .v) bs 0 G2)) = fun r _ => Q r G2) ▸ sp
theorem je_meth {U : Spec} {C f : Addr} {fd : FuncData} {ps : List Str} {kf : Nat} {m : Str} {Q : Ent → List Ent → Prop} {pl : Sem Bool} (cj : CJ P w K mg base S k X B E) (Fo : FnOk P w K mg base (L2.CX P w) kf f fd ps (SpJ K U)) (hk : kf ≤ k) (cl : Cls K C) (me : Meth K C m f) (bi : Binds K fd ps [])
    (h : JV X B o G fun d0 G0 => ∃ ns fs, d0 = .ins C ns fs ∧ m ∉ ns ∧ JD X B (e :: es) G0 fun ds G' => U (.v (.ins C ns fs) :: ds.map .v) (fun r _ => Q r G') (fun x => E.R x G'))
    (he : starEach (e :: es) X.env = (false, eval e X.env) :: starEach es X.env := by rfl) (hpl : (backTo pos (starEach es X.env)).any (·.1) = false := by rfl)
    (ht : eval (.Call (.Attribute o m apos) (e :: es) [] pos) X.env = (do
      let ov ← eval o X.env
      standAt apos.atName
      let (f, first) ← holding [ov] (getMethod ov m pl)
      callWith pos f first (backTo pos (starEach (e :: es) X.env)) (backToKw pos (keywordEach [] X.env))) := by rfl) :
    JE X B (.Call (.Attribute o m apos) (e :: es) [] pos) G Q := fun t s z F H VQ hl c q => by
  have bi' : Binds X.K fd ps [] := by rw [cj.hK]; exact bi
  have cl' : Cls X.K C := by rw [cj.hK]; exact cl
  have me' : Meth X.K C m f := by rw [cj.hK]; exact me
  exact tS_of (pe_meth (CX := L2.CX P w) pe_sem cl' me' (fnAt cj Fo) (cj.hr.mono hk) bi' .nil cj.pass pa_sem he hpl ht) (meth_run cj h hl c q)
theorem je_meth0 {U : Spec} {C f : Addr} {fd : FuncData} {ps : List Str} {kf : Nat} {m : Str} {Q : Ent → List Ent → Prop} {pl : Sem Bool} (cj : CJ P w K mg base S k X B E) (Fo : FnOk P w K mg base (L2.CX P w) kf f fd ps (SpJ K U)) (hk : kf ≤ k) (cl : Cls K C) (me : Meth K C m f) (bi : Binds K fd ps [])
    (h : JV X B o G fun d0 G0 => ∃ ns fs, d0 = .ins C ns fs ∧ m ∉ ns ∧ U [.v (.ins C ns fs)] (fun r _ => Q r G0) (fun x => E.R x G0))
    (ht : eval (.Call (.Attribute o m apos) [] [] pos) X.env = (do
      let ov ← eval o X.env
      standAt apos.atName
      let (f, first) ← holding [ov] (getMethod ov m pl)
      callWith pos f first (backTo pos (starEach [] X.env)) (backToKw pos (keywordEach [] X.env))) := by rfl) :
    JE X B (.Call (.Attribute o m apos) [] [] pos) G Q := fun t s z F H VQ hl c q => by
  have bi' : Binds X.K fd ps [] := by rw [cj.hK]; exact bi
  have cl' : Cls X.K C := by rw [cj.hK]; exact cl
  have me' : Meth X.K C m f := by rw [cj.hK]; exact me
  refine tS_of (pe_meth0 (CX := L2.CX P w) pe_sem cl' me' (fnAt cj Fo) (cj.hr.mono hk) bi' .nil cj.pass ht) ?_
  refine h t s z F H _ hl c fun v F' H' d0 G0 c' ⟨ns, fs, e0, hm, sp⟩ => ?_
  subst e0
  have tp := c'.topH
  cases tp with
  | @ins a _ dx fvs _ _ h3 h4 h5 h6 =>
    refine ⟨a, dx, fvs, rfl, h3, lookup_no h5 hm, ?_⟩
    refine (fun hh => hh) ((call_ok (vs := [.ref a]) (as := [D.ins C ns fs].map Arg.v) cj hl c' (.cons trivial .nil) (okB_vs _ _) ?_ q).monoE fun cls d H hE => cj.ind cls d s [] H hE)
    rw [parsOf_vs, updB_vs]
    exact (funext fun r => funext fun bs => by rw [updB_vs] : (fun r bs => Q r (updB ([D.ins C ns fs].map .v) bs 0 G0)) = fun r _ => Q r G0) ▸ sp
/-- C(..): a new instance -/
theorem je_make {U : Spec} {C f : Addr} {fd : FuncData} {ps : List Str} {kf : Nat} {Q : Ent → List Ent → Prop} (cj : CJ P w K mg base S k X B E) (Fo : FnOk P w K mg base (L2.CX P w) kf f fd ps (SpJ K U)) (hk : kf + 1 ≤ k) (j : Nat) (mk : Mk K C f) (hm : mg x = some (.ref C)) (bi : Binds K fd ps [])
    (h : JD X B (e :: es) G fun ds G' => U (.b (.ins C [] []) :: ds.map .v) (fun r bs => r = .fz .non ∧ ∃ o, bs.lookup 0 = some o ∧ Q (.ow o) G') (fun x => E.R x G')) (hj : S.gl[j]? = some x := by rfl)
    (he : starEach (e :: es) X.env = (false, eval e X.env) :: starEach es X.env := by rfl) (hpl : (backTo pos (starEach es X.env)).any (·.1) = false := by rfl) :
    JE X B (.Call (.Name x p) (e :: es) [] pos) G Q := fun t s z F H VQ hl c q => by
  have bi' : Binds X.K fd ps [] := by rw [cj.hK]; exact bi
  have mk' : Mk X.K C f := by rw [cj.hK]; exact mk
  refine tS_of (pe_make (CX := L2.CX P w) mk' (fnAt cj Fo) (cj.hr.mono hk) (cj.gl hj) (cj.mgx hm) bi' .nil cj.pass pa_sem (cj.dbg hj) he hpl) ?_
  refine h t s z F H _ hl c fun vs as F1 H1 G1 c1 ab ⟨ds, eas, sp⟩ => ?_
  subst eas
  intro a dx na ndx ne
  rw [List.append_nil]
  have c2 := c1.alloc (o := .own a) ndx
  have na2 : (upd H1 dx (.own a)) a = none := by rw [upd_ne (fun z => ne z.symm)]; exact na
  have c3 := c2.new (p := a) (ho := .ins C dx []) (o := .ins C [] []) na2 ⟨dx, [], upd_same, upd_same, rfl, .nil⟩
  have c4 := c3.push (v := some (.ref a)) (e := .no) trivial (oad_no _)
  have hl2 : ((vs.map some).reverse).length = (((ds.map Arg.v).map Arg.ent).reverse).length := by simp [ab.length]
  have c5 : Conf X.K B (((V.ref a :: vs).map some).reverse ++ ([] ++ (some (.ref a) :: (t ++ s)))) (upd F1 dx (.own a)) (upd (upd H1 dx (.own a)) a (.ins C dx [])) (((Arg.b 0 :: ds.map Arg.v).map Arg.ent).reverse ++ ([] ++ (.ow (.ins C [] []) :: (z ++ G1)))) := by
    have : Conf X.K B ([some (.ref a), some (.ref a)] ++ ((vs.map some).reverse ++ (t ++ s))) (upd F1 dx (.own a)) (upd (upd H1 dx (.own a)) a (.ins C dx [])) ([.no, .ow (.ins C [] [])] ++ (((ds.map Arg.v).map Arg.ent).reverse ++ (z ++ G1))) := c4
    have r := this.rot rfl hl2
    rw [List.map_cons, List.map_cons, List.reverse_cons, List.reverse_cons, List.append_assoc, List.append_assoc]
    exact r
  have ab5 : Paired (ArgB (some (.ref a) :: (t ++ s))) (V.ref a :: vs) (Arg.b 0 :: ds.map Arg.v) := by
    refine .cons rfl ?_
    have go : ∀ {vs : List V} {ds : List D}, vs.length = ds.length → Paired (ArgB (some (.ref a) :: (t ++ s))) vs (ds.map Arg.v) := by
      intro vs
      induction vs with
      | nil => intro ds h; cases ds with
        | nil => exact .nil
        | cons _ _ => simp at h
      | cons v vs ih => intro ds h; cases ds with
        | nil => simp at h
        | cons d ds => exact .cons trivial (ih (by simpa using h))
    exact go (by simpa using ab.length)
  have fb : findB 0 1 (ds.map Arg.v) = none := findB_vs 0 1 ds
  have ok5 : okB (.ow (.ins C [] []) :: (z ++ G1)) (Arg.b 0 :: ds.map Arg.v) = true := by
    show ((entOw (some (.ow (.ins C [] [])))).isSome && (findB 0 0 (ds.map Arg.v)).isNone && okB _ (ds.map Arg.v)) = true
    rw [findB_vs, okB_vs]; rfl
  have pe5 : parsOf (.ow (.ins C [] []) :: (z ++ G1)) (Arg.b 0 :: ds.map Arg.v) = .b (.ins C [] []) :: ds.map .v := by
    show Par.b (.ins C [] []) :: parsOf _ (ds.map Arg.v) = _
    rw [parsOf_vs]
  rw [← cj.hK]
  have tail : ∀ (bs : List (Nat × Ow)), updB (Arg.b 0 :: ds.map Arg.v) bs 0 (.ow (.ins C [] []) :: (z ++ G1)) = newE (Arg.b 0 :: ds.map Arg.v) bs 0 (.ow (.ins C [] [])) :: (z ++ G1) := fun bs => by
    show newE _ bs 0 _ :: updB _ bs 1 (z ++ G1) = _
    congr 1
    have go : ∀ (g : List Ent) (j : Nat), 1 ≤ j → updB (Arg.b 0 :: ds.map Arg.v) bs j g = g := by
      intro g
      induction g with
      | nil => intro j _; rfl
      | cons e g ih =>
        intro j hj
        show newE _ bs j e :: updB _ bs (j + 1) g = e :: g
        rw [ih (j + 1) (by omega)]
        have : findB j 0 (Arg.b 0 :: ds.map Arg.v) = none := by
          show (if 0 = j then some 0 else findB j 1 (ds.map Arg.v)) = none
          rw [if_neg (by omega), findB_vs]
        simp [newE, this]
    exact go _ 1 (Nat.le_refl 1)
  have sp2 : U (Par.b (.ins C [] []) :: ds.map .v) (fun r bs => r = .fz .non ∧ ∃ o, bs.lookup 0 = some o ∧ Q (.ow o) G1) (fun x => E.R x G1) := sp
  rw [← pe5] at sp2
  refine ⟨_, _, ⟨upd F1 dx (.own a), _, V.ref a :: vs, lentM (V.ref a :: vs) (Arg.b 0 :: ds.map Arg.v)⟩, _, _, rfl, rfl, rfl, c5.enter rfl ab5 ok5, sp2, fun v F' H' r bs fi ⟨er, o, hlo, hq⟩ => ?_, fun xd F' H' od c' xo hx => ?_⟩
  · obtain ⟨c6, hn⟩ := Conf.leave rfl rfl c5 ab5 ok5 fi.c bs fi.bs
    subst er
    have ev : v = .non := by
      cases fi.c.top; rfl
    refine ⟨ev, ?_⟩
    rw [tail] at c6
    have ne0 : newE (Arg.b 0 :: ds.map Arg.v) bs 0 (.ow (.ins C [] [])) = .ow o := by
      simp [newE, findB, hlo]
    rw [ne0] at c6
    exact q _ F' H' (.ow o) G1 c6 trivial hq
  · obtain ⟨c6, _⟩ := Conf.leave rfl rfl c5 ab5 ok5 c' [] (fun p hp => by cases hp)
    rw [tail] at c6
    exact cj.ind _ _ s [] H' (cj.lk t s z F' H' _ xd od hl c6.pop xo hx)
/-- self.f = e, a new field -/
theorem putF_new {f : Str} {v : V} : ∀ {fs : List (Str × V)}, f ∉ fs.map (·.1) → putF f v fs = fs ++ [(f, v)]
  | [], _ => rfl
  | (g, y) :: fs, h => by
    rw [List.map_cons] at h
    show (if g = f then (g, v) :: fs else (g, y) :: putF f v fs) = _
    rw [if_neg fun z => h (by rw [z]; exact List.mem_cons_self), putF_new fun z => h (List.mem_cons_of_mem _ z)]
    rfl
theorem js_fld (cj : CJ P w K mg base S k X B E) (i : Nat) {f : Str} {xp p2 : Pos} {Dd : Dn} (h : JV X B e G fun d G' => ∃ C ns ds, entOw G'[i]? = some (.ins C ns ds) ∧ Cls K C ∧ NoAttr K C f ∧ ns.length < 1000 ∧ f ∉ ns ∧ Dd.nx (setOw G' i (.ins C (ns ++ [f]) (ds ++ [d]))))
    (hN : S.N[i]? = some x := by rfl) (hv : i ∈ S.vi := by decide) (hs : swapsWith e (some (.Attribute (.Name x xp) f p2)) pos.line X.env = pure false := by rfl) : JS X B (.Assign [.Attribute (.Name x xp) f p2] e pos) G Dd := fun t s z F H De hl c kk => by
  have hn := okName_of (Sc.vis cj.ok hv hN).1
  refine tSt_of (ps_fld (pe_var (cj.xN hN) (cj.vis hv hN) hn.1 hn.2.1) pe_sem hs) ?_
  refine h t s z F H _ hl c fun v F' H' d G' c' ⟨C, ns, ds, eo, cl, na, hz, hf, hq⟩ => ?_
  have dp := c'.top
  obtain ⟨a, e1, ⟨dx, fs, h1, h2, h3, h4⟩, fa, wr⟩ := c'.pop.slot hl eo
  subst h3
  rw [← cj.hK] at cl na
  refine ⟨.ref a, e1, a, C, dx, fs, rfl, h1, cl, na, by simpa using hz, ?_⟩
  rw [putF_new hf]
  refine kk.nx s F' _ _ rfl (wr _ (.ins C (fs.map (·.1) ++ [f]) (ds ++ [d])) ⟨dx, fs ++ [(f, v)], upd_same, ?_, by simp, ?_⟩) hq
  · exact h2
  · rw [List.map_append]; exact papp h4 (.cons dp .nil)
/-- raise C('..') -/
theorem js_raise (cj : CJ P w K mg base S k X B E) (j : Nat) {C : Addr} {bmB : List Value} {Bn newId initId : String} {m : Str} {jj : Nat} {p2 pos2 : Pos} {Dd : Dn} (xb : ExcBaseFacts Bn newId initId bmB) (xi : PySem.W.excIn K C bmB newId = true) (hm : mg x = some (.ref C)) (kp : PySem.W.keepIn K (.ref C) = true)
    (su : PySem.W.subIn K (.ref C) (.type "BaseException") = some true) (ty : PySem.W.typeIn K (.ref C) = some (.type "type")) (h : E.R ⟨C, []⟩ G) (hj : S.gl[j]? = some x := by rfl) :
    JS X B (.Raise (some (.Call (.Name x p) [.Constant (.str m) jj p2] [] pos2)) none pos) G Dd := fun t s z F H De hl c kk => by
  rw [← cj.hK] at xi kp su ty
  exact tSt_of (ps_raise cj.calm cj.tk (pmk_own xb xi (cj.mgx hm) kp (raises_own su ty) (cj.gl hj) (cj.dbg hj))) (cj.lk t s z F H G ⟨C, []⟩ none hl c (.inl ⟨rfl, rfl⟩) h)
/-- (..) * n -/
theorem jv_repT {Q : D → List Ent → Prop} (h : JV X B a G fun d1 G1 => JV X B b G1 fun d2 G2 => ∃ ds n, d1 = .tup ds ∧ d2 = .int n ∧ ds ≠ [] ∧ 2 ≤ n ∧ n ≤ 1000 ∧ ds.length ≤ 1000 ∧ Q (.tup (List.replicate n.toNat ds).flatten) G2) : JV X B (.BinOp a .Mult b pos) G Q := fun t s z F H VQ hl c q =>
  tS_of (pe_op op_repT pe_sem pe_sem) (run2 h hl c fun v u F' H' d1 d2 G' c' ⟨ds, n, e1, e2, h0, h1, h2, hz, hq⟩ => by
    subst e1 e2
    have sm := c'.fh
    cases c'.top
    cases c'.pop.top with
    | @tup _ xs _ h3 h4 =>
      refine ⟨_, n, _, rfl, rfl, sameT sm h3, fun z => ?_, h1, h2, by rw [h4.length]; exact hz, fun p np => ?_⟩
      · subst z; cases h4; exact h0 rfl
      · exact q (.ref p) _ _ _ G' (c'.pop.pop.newT np (pflat (prep h4 _))) hq)
/-! ### a slot read as a frozen thing where it may be one's own -/
end
end J

namespace J
open PySem PySem.Spec L2
section
variable {P : Program} {w : World} {K : PySem.W.Frag} {mg : Str → Option Value} {base : Heap} {S : Sc} {k : Nat} {X : Cx} {B : Bs} {E : XW} {G : List Ent} {a b e o : Expr} {es : List Expr} {pos p apos : Pos} {x : Str}
/-- a call that is handed a new thing of the caller's -/
theorem give_ok {U : Spec} {ow : Ow} {ad : Addr} {t s : St} {z : List Ent} {F H : Hp} {vs : List V} {ds : List D} {R : Ent → List (Nat × Ow) → Prop} {RX : XD → Prop} {VQ : VK} (cj : CJ P w K mg base S k X B E) (hl : t.length = z.length)
    (c : Conf X.K B ((vs.map some).reverse ++ (some (.ref ad) :: (t ++ s))) F H (((ds.map Arg.v).map Arg.ent).reverse ++ (.ow ow :: (z ++ G)))) (hlen : vs.length = ds.length)
    (sp : U (.b ow :: ds.map .v) R RX)
    (hR : ∀ v F' H' r bs, Conf X.K B (some v :: (t ++ s)) F' H' (r :: (z ++ G)) → IsR r → R r bs → VQ v H') (hX : ∀ x, RX x → E.R x G) :
    SpJ K U (.ref ad :: vs) H VQ (fun cls d H => E.W cls d [] H) := by
  have hl2 : ((vs.map some).reverse).length = (((ds.map Arg.v).map Arg.ent).reverse).length := by simp [hlen]
  have c5 : Conf X.K B (((V.ref ad :: vs).map some).reverse ++ ([] ++ (some (.ref ad) :: (t ++ s)))) F H (((Arg.b 0 :: ds.map Arg.v).map Arg.ent).reverse ++ ([] ++ (.ow ow :: (z ++ G)))) := by
    have c4 := c.push (v := some (.ref ad)) (e := .no) trivial (oad_no _)
    have : Conf X.K B ([some (.ref ad)] ++ ((vs.map some).reverse ++ (some (.ref ad) :: (t ++ s)))) F H ([.no] ++ (((ds.map Arg.v).map Arg.ent).reverse ++ (.ow ow :: (z ++ G)))) := c4
    have r := this.rot rfl hl2
    rw [List.map_cons, List.map_cons, List.reverse_cons, List.reverse_cons, List.append_assoc, List.append_assoc]
    exact r
  have ab5 : Paired (ArgB (some (.ref ad) :: (t ++ s))) (V.ref ad :: vs) (Arg.b 0 :: ds.map Arg.v) := by
    refine .cons rfl ?_
    have go : ∀ {vs : List V} {ds : List D}, vs.length = ds.length → Paired (ArgB (some (.ref ad) :: (t ++ s))) vs (ds.map Arg.v) := by
      intro vs
      induction vs with
      | nil => intro ds h; cases ds with
        | nil => exact .nil
        | cons _ _ => simp at h
      | cons v vs ih => intro ds h; cases ds with
        | nil => simp at h
        | cons d ds => exact .cons trivial (ih (by simpa using h))
    exact go hlen
  have ok5 : okB (.ow ow :: (z ++ G)) (Arg.b 0 :: ds.map Arg.v) = true := by
    show ((entOw (some (.ow ow))).isSome && (findB 0 0 (ds.map Arg.v)).isNone && okB _ (ds.map Arg.v)) = true
    rw [findB_vs, okB_vs]; rfl
  have pe5 : parsOf (.ow ow :: (z ++ G)) (Arg.b 0 :: ds.map Arg.v) = .b ow :: ds.map .v := by
    show Par.b ow :: parsOf _ (ds.map Arg.v) = _
    rw [parsOf_vs]
  rw [← cj.hK]
  have tail : ∀ (bs : List (Nat × Ow)), updB (Arg.b 0 :: ds.map Arg.v) bs 0 (.ow ow :: (z ++ G)) = newE (Arg.b 0 :: ds.map Arg.v) bs 0 (.ow ow) :: (z ++ G) := fun bs => by
    show newE _ bs 0 _ :: updB _ bs 1 (z ++ G) = _
    congr 1
    have go : ∀ (g : List Ent) (j : Nat), 1 ≤ j → updB (Arg.b 0 :: ds.map Arg.v) bs j g = g := by
      intro g
      induction g with
      | nil => intro j _; rfl
      | cons e g ih =>
        intro j hj
        show newE _ bs j e :: updB _ bs (j + 1) g = e :: g
        rw [ih (j + 1) (by omega)]
        have : findB j 0 (Arg.b 0 :: ds.map Arg.v) = none := by
          show (if 0 = j then some 0 else findB j 1 (ds.map Arg.v)) = none
          rw [if_neg (by omega), findB_vs]
        simp [newE, this]
    exact go _ 1 (Nat.le_refl 1)
  rw [← pe5] at sp
  refine ⟨_, _, ⟨F, _, V.ref ad :: vs, lentM (V.ref ad :: vs) (Arg.b 0 :: ds.map Arg.v)⟩, _, _, rfl, rfl, rfl, c5.enter rfl ab5 ok5, sp, fun v F' H' r bs fi hq => ?_, fun xd F' H' od c' xo hx => ?_⟩
  · obtain ⟨c6, hn⟩ := Conf.leave rfl rfl c5 ab5 ok5 fi.c bs fi.bs
    have c7 := c6.result hn fi.c rfl c5.there fi.ir
    rw [tail] at c7
    have c8 : Conf X.K B ([some v] ++ ([some (.ref ad)] ++ (t ++ s))) F' H' ([r] ++ ([newE (Arg.b 0 :: ds.map Arg.v) bs 0 (.ow ow)] ++ (z ++ G))) := c7
    exact hR v F' H' r bs (c8.rot rfl rfl).pop fi.ir hq
  · obtain ⟨c6, _⟩ := Conf.leave rfl rfl c5 ab5 ok5 c' [] (fun p hp => by cases hp)
    rw [tail] at c6
    exact cj.ind _ _ s [] H' (cj.lk t s z F' H' _ xd od hl c6.pop xo (hX xd hx))
/-- f(new thing, ..) -/
theorem je_callG {p pos : Pos} {U : Spec} {kf : Nat} {f : Addr} {fd : FuncData} {ps : List Str} {Q : Ent → List Ent → Prop} (cj : CJ P w K mg base S k X B E) (Fo : FnOk P w K mg base (L2.CX P w) kf f fd ps (SpJ K U)) (hk : kf ≤ k) (j : Nat)
    (hm : mg x = some (.ref f)) (kp : PySem.W.keepIn K (.ref f) = true) (bi : Binds K fd ps [])
    (h : JE X B e G fun r G0 => ∃ ow, r = .ow ow ∧ JD X B es G0 fun ds G' => U (.b ow :: ds.map .v) (fun r _ => Q r G') (fun x => E.R x G'))
    (hj : S.gl[j]? = some x := by rfl) (he : starEach (e :: es) X.env = (false, eval e X.env) :: starEach es X.env := by rfl) (hpl : (backTo pos (starEach es X.env)).any (·.1) = false := by rfl) :
    JE X B (.Call (.Name x p) (e :: es) [] pos) G Q := fun t s z F H VQ hl c q => by
  have bi' : Binds X.K fd ps [] := by rw [cj.hK]; exact bi
  have kp' : PySem.W.keepIn X.K (.ref f) = true := by rw [cj.hK]; exact kp
  refine tS_of (pe_call (CX := L2.CX P w) (fnAt cj Fo) (cj.hr.mono hk) (cj.gl hj) (cj.mgx hm) kp' bi' .nil cj.pass (pa_cons pe_sem pa_sem he) (cj.dbg hj) he hpl) ?_
  refine h t s z F H _ hl c fun v F1 H1 r G0 c1 ir ⟨ow, er, h2⟩ => ?_
  subst er
  obtain ⟨a0, ev, _⟩ := (c1.at (i := 0) rfl)
  have : ∃ ad, v = .ref ad := by
    cases c1.env with
    | cons q _ => obtain ⟨ad, e1, _⟩ := q; cases e1; exact ⟨ad, rfl⟩
  obtain ⟨ad, rfl⟩ := this
  refine h2 (some (.ref ad) :: t) s (.ow ow :: z) F1 H1 _ (by simp [hl]) c1 fun vs as F2 H2 G2 c2 ab ⟨ds, eas, sp⟩ => ?_
  subst eas
  rw [List.append_nil]
  exact give_ok cj hl c2 (by simpa using ab.length) sp (fun v F' H' r bs cc ir hq => q v F' H' r G2 cc ir hq) (fun x hx => hx)
end
end J

namespace J
open PySem PySem.Spec L2
/-- a law's promise -/
@[reducible] def spLaw : Spec := fun ps R _ => ∃ ns : List Int, ps = [.v (.kls (ns.map .int))] ∧ ns.length ≤ 63 ∧ R (.fz (.bl true)) []
theorem spLaw_start {K : PySem.W.Frag} {H : Hp} {a : Addr} {ns : List Int} (hS : SqL K H a (ns.map V.int)) (hl : ns.length ≤ 63) : SpJ K spLaw [.ref a] H (fun v _ => v = .bl true) (fun _ _ _ => False) := by
  refine ⟨H, [.v (.kls (ns.map .int))], ⟨H, H, [.ref a], fun _ => False⟩, fun r _ => r = .fz (.bl true), fun _ => False, rfl, rfl, rfl, ?_, ⟨ns, rfl, hl, rfl⟩, fun v F' H' r bs fi e => ?_, fun x F' H' od _ _ h => h⟩
  · refine ⟨Same.refl H, Same.refl H, fun a o _ e => e, fun a h => h, fun a n h => ⟨h, n⟩, .cons ⟨_, rfl, .kls hS (dps_ints ns)⟩ .nil, ?_, fun b hb => ?_⟩
    · show (oad _ _ ++ []).Nodup
      rw [oad_fz]; exact List.nodup_nil
    · have : b ∈ oad (some (V.ref a)) (.fz (.kls (ns.map .int))) ++ [] := hb
      rw [oad_fz] at this; cases this
  · subst e
    cases fi.c.top; rfl
theorem cx_none {P : Program} (w : World) (H : Hp) (s : Shared) (e : Value) (s' : Shared) (h : L2.CX P w [] H s (fun _ _ _ => False) e s') : False := by
  obtain ⟨_, _, _, _, _, h⟩ := h
  simp at h
theorem dp_const {K : PySem.W.Frag} {F : Hp} {u n : Nat} {od : Option Addr} {its : Array Value} {sl : Array (Option Value)} {ns : List Int} (h : K.lookup u = some ⟨.type "tuple", od, .seq its n, sl⟩) (r : Vals (ns.map V.int) its.toList) (hz : its.size ≤ sizeLine) : DP K F (.ref u) (.tup (ns.map .int)) :=
  .tup (.inr ⟨_, its, n, h, rfl, rfl, hz, r⟩) (dps_ints ns)
def blkSc (S : Sc) (scope : Scope) (vi li : List Nat) (gl : List Str) : Sc := ⟨S.N, relS scope S.sc, vi, li, gl⟩
def blkFn (S' : Sc) (scope : Scope) : Bool := S'.li.all fun i => match S'.N[i]? with
    | some x => (scope.names.lookup x == some .cell) || (S'.sc.names.lookup x == some .local)
    | none => true
section
variable {P : Program} {w : World} {K : PySem.W.Frag} {mg : Str → Option Value} {base : Heap} {S : Sc} {k : Nat} {X : Cx} {B : Bs} {E : XW} {G : List Ent} {a b e o tg : Expr} {es : List Expr} {pos p apos : Pos} {x : Str}
/-- a field, the class known by the facts -/
theorem jv_fldK (cj : CJ P w K mg base S k X B E) {C : Addr} {f : Str} {Q : D → List Ent → Prop} (cl : Cls K C) (na : NoAttr K C f) (h : JV X B e G fun d1 G1 => ∃ ns ds d, d1 = .ins C ns ds ∧ (ns.zip ds).lookup f = some d ∧ Q d G1) (hb : attributeBase e f X.env (eval e X.env) = eval e X.env := by rfl) : JV X B (.Attribute e f pos) G Q := by
  rw [← cj.hK] at cl na
  exact jv_fld (h.imp fun d1 G1 ⟨ns, ds, d, e1, e2, q⟩ => ⟨C, ns, ds, d, e1, cl, na, e2, q⟩) hb
/-- the block of a comprehension by its lists -/
abbrev InB (P : Program) (w : World) (K : PySem.W.Frag) (mg : Str → Option Value) (base : Heap) (S' : Sc) (k : Nat) (B : Bs) : Cx → Prop := fun X' => CJ P w K mg base S' k X' B XW.non
theorem je_lcB (cj : CJ P w K mg base S k X B E) {elt iter : Expr} {ifs : List Expr} {scope : Scope} (vi li : List Nat) (gl : List Str) (own : List (Str × Nat)) {Q : Ent → List Ent → Prop}
    (h : JI X B tg iter G fun n item G1 => LcI n item (InB P w K mg base (blkSc S scope vi li gl) k B) B (blkSc S scope vi li gl) tg elt ifs G1 fun acc G2 => Q (.ow (.lst acc)) G2)
    (so : (blkSc S scope vi li gl).ok = true := by decide +kernel) (fo : blkFn (blkSc S scope vi li gl) scope = true := by decide +kernel) (bo : blkC S.N S.sc scope own = true := by decide +kernel) (ho : own.map (·.2) = li := by rfl) (hs : ∀ x, foldedSetIterable iter X.env x = pure x := by intro _; rfl) :
    JE X B (.ListComp elt [⟨tg, iter, ifs, 0⟩] scope pos) G Q := je_lc cj (blkSc S scope vi li gl) own h ⟨rfl, rfl, so, fo⟩ bo ho hs
def swB (sc scope : Scope) (t : Str) (same : Bool) : Bool := ((if sc.kind.isAnnotationScope then ScopeKind.function else sc.kind) == .function) && (sc.names.lookup t == some .local) && same && !(scope.names.any fun (n, k) => n == t && (k == .local || k == .cell))
theorem swaps_eq (h : X.env.scope = S.sc) {elt : Expr} {gens : List Comprehension} {scope : Scope} {t : Str} {l : Nat} : swapsWith (.ListComp elt gens scope pos) (some (.Name t p)) l X.env = pure (swB S.sc scope t (p.line == pos.line)) := by
  rw [← h]; rfl
/-- name = [..]: the name a local, on one line -/
theorem js_setLcB (cj : CJ P w K mg base S k X B E) (i : Nat) {elt iter : Expr} {ifs : List Expr} {scope : Scope} {py sp : Pos} (vi li : List Nat) (gl : List Str) (own : List (Str × Nat)) {Dd : Dn}
    (h : JI X B tg iter G fun n item G1 => LcI n item (InB P w K mg base (blkSc S scope vi li gl) k B) B (blkSc S scope vi li gl) tg elt ifs G1 fun acc G2 => Dd.nx (G2.set i (.ow (.lst acc))))
    (so : (blkSc S scope vi li gl).ok = true := by decide +kernel) (fo : blkFn (blkSc S scope vi li gl) scope = true := by decide +kernel) (bo : blkC S.N S.sc scope own = true := by decide +kernel) (hyl : S.sc.names.lookup x = some .local := by decide +kernel) (hsw : swB S.sc scope x (py.line == pos.line) = true := by decide +kernel)
    (hN : S.N[i]? = some x := by rfl) (ho : own.map (·.2) = li := by rfl) (hs : ∀ x, foldedSetIterable iter X.env x = pure x := by intro _; rfl) :
    JS X B (.Assign [.Name x py] (.ListComp elt [⟨tg, iter, ifs, 0⟩] scope pos) sp) G Dd := js_setLc cj i (blkSc S scope vi li gl) own h ⟨rfl, rfl, so, fo⟩ bo hyl (by rw [swaps_eq cj.hsc, hsw]) hN ho hs
/-- .. the name captured by another block -/
theorem js_setLcC (cj : CJ P w K mg base S k X B E) (i : Nat) {elt iter : Expr} {ifs : List Expr} {scope : Scope} {py sp : Pos} (vi li : List Nat) (gl : List Str) (own : List (Str × Nat)) {Dd : Dn}
    (h : JI X B tg iter G fun n item G1 => LcI n item (InB P w K mg base (blkSc S scope vi li gl) k B) B (blkSc S scope vi li gl) tg elt ifs G1 fun acc G2 => Dd.nx (G2.set i (.ow (.lst acc))))
    (so : (blkSc S scope vi li gl).ok = true := by decide +kernel) (fo : blkFn (blkSc S scope vi li gl) scope = true := by decide +kernel) (bo : blkC S.N S.sc scope own = true := by decide +kernel) (hsw : swB S.sc scope x (py.line == pos.line) = false := by decide +kernel)
    (hN : S.N[i]? = some x := by rfl) (hv : i ∈ S.li := by decide) (ho : own.map (·.2) = li := by rfl) (hs : ∀ x, foldedSetIterable iter X.env x = pure x := by intro _; rfl) :
    JS X B (.Assign [.Name x py] (.ListComp elt [⟨tg, iter, ifs, 0⟩] scope pos) sp) G Dd := js_set cj i (je_lcB cj vi li gl own h so fo bo ho hs) hN hv (by rw [swaps_eq cj.hsc, hsw])
/-- a comprehension where each turn leaves the same behind, its value of an item told by a relation -/
theorem LcI.map {n : Nat} {item : Nat → D → Prop} {CJX : Cx → Prop} {S' : Sc} {elt : Expr} {Q : List D → List Ent → Prop} (V : Nat → D → Prop) (hn : n ≤ sizeLine) (I : List Ent → Prop) (h0 : I (wipeE G S'.li))
    (step : ∀ i d G2, i < n → item i d → I G2 → ∀ X1, CJX X1 → JG X1 B S'.li tg (.fz d) G2 fun G3 => ∀ X3, CJX X3 → JV X3 B elt G3 fun d' G5 => V i d' ∧ I (wipeE G5 S'.li))
    (fin : ∀ acc G2, acc.length = n → (∀ i d, acc[i]? = some d → V i d) → I G2 → Q acc G2) : LcI n item CJX B S' tg elt [] G Q := by
  refine ⟨hn, fun i acc G2 => acc.length = i ∧ (∀ j d, acc[j]? = some d → V j d) ∧ I G2, ⟨rfl, fun j d h => by simp at h, h0⟩, fun i d acc G2 hi hd ⟨ha, hv, hI⟩ _ => ?_, fun acc G2 ⟨ha, hv, hI⟩ => fin acc G2 ha hv hI⟩
  intro X1 c1
  refine fun t s z F H v GQ hl c ir q => step i d G2 hi hd hI X1 c1 t s z F H v GQ hl c ir fun s' F' H' G' e1 e2 c' q' => q s' F' H' G' e1 e2 c' fun X2 c2 => JTs.nil ⟨fun _ X3 c3 => (q' X3 c3).imp fun d' G5 ⟨hv', hI'⟩ => ⟨by simp [ha], fun j d2 h => ?_, hI'⟩, fun z => nomatch z⟩
  by_cases hj : j < acc.length
  · rw [List.getElem?_append_left hj] at h; exact hv j d2 h
  · rw [List.getElem?_append_right (by omega)] at h
    have : j - acc.length = 0 := by
      by_cases hz : j - acc.length = 0
      · exact hz
      · rw [List.getElem?_eq_none (by simp; omega)] at h; cases h
    rw [this] at h
    simp at h
    subst h
    have : j = i := by omega
    subst this
    exact hv'
end
end J

namespace J
open PySem PySem.Spec L2
theorem lz {n : Nat} (h : Nat.ble n 1000 = true) : n ≤ sizeLine := Nat.le_trans (Nat.le_of_ble_eq_true h) (by decide)
theorem at_pos {α : Type} {ds : List α} {i : Int} {d : α} (h0 : 0 ≤ i) (h : ds[i.toNat]? = some d) : atI ds i = some d := by
  have e : i = ((i.toNat : Nat) : Int) := by omega
  rw [e]
  exact atI_nat h
theorem at_nat {α : Type} {ds : List α} {i : Nat} {d : α} (h : ds[i]? = some d) : atI ds (i : Int) = some d := atI_nat h
theorem atI_pos_get {α : Type} {ds : List α} {i : Int} (h0 : 0 ≤ i) (h : i < ds.length) : ∃ d, atI ds i = some d ∧ ds[i.toNat]? = some d := by
  have hlt : i.toNat < ds.length := by omega
  exact ⟨ds[i.toNat], at_pos h0 (List.getElem?_eq_getElem hlt), List.getElem?_eq_getElem hlt⟩
/-- an int of a list of ints -/
def gI (ns : List Int) (i : Int) : Int := ns.getD i.toNat 0
theorem at_int {ns : List Int} {i : Int} (h0 : 0 ≤ i) (h : i < ns.length) : atI (ns.map D.int) i = some (.int (gI ns i)) := by
  have hlt : i.toNat < ns.length := by omega
  refine at_pos h0 ?_
  rw [List.getElem?_map, List.getElem?_eq_getElem hlt]
  simp [gI, List.getD, List.getElem?_eq_getElem hlt]
theorem gI_mem {ns : List Int} {i : Int} (h0 : 0 ≤ i) (h : i < ns.length) : gI ns i ∈ ns := by
  have hlt : i.toNat < ns.length := by omega
  simp [gI, List.getD, List.getElem?_eq_getElem hlt]
theorem gI_nat {ns : List Int} {i : Nat} {x : Int} (h : ns[i]? = some x) : gI ns (i : Int) = x := by simp [gI, h]
theorem ixN_pos {n : Nat} {i : Int} (h0 : 0 ≤ i) (h : i < n) : ixN n i = some i.toNat := by simp [ixN, h0, h]
/-- the data of a list of ints, told from without -/
theorem map_int_get {ns : List Int} {i : Nat} {d : D} (h : (ns.map D.int)[i]? = some d) : ∃ x, ns[i]? = some x ∧ d = .int x := by
  rw [List.getElem?_map] at h
  obtain ⟨x, h1, h2⟩ := Option.map_eq_some_iff.mp h
  exact ⟨x, h1, h2.symm⟩
theorem map_get {α : Type} {f : α → D} {ns : List α} {i : Nat} {d : D} (h : (ns.map f)[i]? = some d) : ∃ x, ns[i]? = some x ∧ d = f x := by
  rw [List.getElem?_map] at h
  obtain ⟨x, h1, h2⟩ := Option.map_eq_some_iff.mp h
  exact ⟨x, h1, h2.symm⟩
theorem at_map {α : Type} {f : α → D} {ns : List α} {i : Int} {x : α} (h0 : 0 ≤ i) (h : ns[i.toNat]? = some x) : atI (ns.map f) i = some (f x) := at_pos h0 (by rw [List.getElem?_map, h]; rfl)
theorem at_mapN {α : Type} {f : α → D} {ns : List α} {i : Nat} {x : α} (h : ns[i]? = some x) : atI (ns.map f) (i : Int) = some (f x) := at_nat (by rw [List.getElem?_map, h]; rfl)
/-- a list of data, each of a kind told by its place -/
theorem ints_of {acc : List D} {n : Nat} {f : Nat → Int} (hl : acc.length = n) (h : ∀ (i : Nat) (d : D), acc[i]? = some d → d = .int (f i)) : acc = ((List.range n).map f).map D.int := by
  apply List.ext_getElem?
  intro i
  by_cases hi : i < n
  · rw [List.map_map, List.getElem?_map, List.getElem?_range hi]
    have hlt : i < acc.length := by omega
    rw [List.getElem?_eq_getElem hlt]
    have := h i acc[i] (List.getElem?_eq_getElem hlt)
    rw [this]; rfl
  · rw [List.getElem?_eq_none (by omega), List.getElem?_eq_none (by simp; omega)]
theorem ints_ex {acc : List D} {p : Int → Prop} (h : ∀ (i : Nat) (d : D), acc[i]? = some d → ∃ x, d = .int x ∧ p x) : ∃ ns : List Int, acc = ns.map D.int ∧ ∀ x ∈ ns, p x := by
  induction acc with
  | nil => exact ⟨[], rfl, fun x h => by cases h⟩
  | cons d acc ih =>
    obtain ⟨x, rfl, hx⟩ := h 0 d rfl
    obtain ⟨ns, e, hn⟩ := ih fun i d hd => h (i + 1) d (by simpa using hd)
    exact ⟨x :: ns, by rw [e]; rfl, fun y hy => by
      rcases List.mem_cons.mp hy with rfl | hy
      · exact hx
      · exact hn y hy⟩
theorem flat_ints {n : Nat} (ns : List Int) : ∀ d ∈ ns.map D.int, Flat n d := fun d hd => by
  obtain ⟨x, _, rfl⟩ := List.mem_map.mp hd
  exact .int x
theorem ints_inj : ∀ {ns ms : List Int}, ns.map D.int = ms.map D.int → ns = ms
  | [], [], _ => rfl
  | [], _ :: _, h => by simp at h
  | _ :: _, [], h => by simp at h
  | x :: ns, y :: ms, h => by
    obtain ⟨h1, h2⟩ := List.cons.inj h
    cases h1
    rw [ints_inj h2]
section
variable {P : Program} {w : World} {K : PySem.W.Frag} {mg : Str → Option Value} {base : Heap} {S : Sc} {k : Nat} {X : Cx} {B : Bs} {E : XW} {G : List Ent} {a b e o cc : Expr} {es : List Expr} {pos p apos : Pos} {x : Str}
theorem jv_globI (cj : CJ P w K mg base S k X B E) (j : Nat) {i : Int} {Q : D → List Ent → Prop} (hm : ∃ t, mg x = some (.int i t)) (h : Q (.int i) G) (hj : S.gl[j]? = some x := by rfl) : JV X B (.Name x pos) G Q := by
  obtain ⟨t, ht⟩ := hm
  exact jv_glob (v := .int i) cj j ht ⟨t, rfl⟩ (fun _ => .int i) h hj
theorem jv_globT (cj : CJ P w K mg base S k X B E) (j : Nat) {u : Addr} {d : D} {Q : D → List Ent → Prop} (hm : mg x = some (.ref u)) (dp : ∀ F, DP K F (.ref u) d) (h : Q d G) (hj : S.gl[j]? = some x := by rfl) : JV X B (.Name x pos) G Q :=
  jv_glob (v := .ref u) cj j hm rfl dp h hj
/-- a <= b <= c of ints, as a value -/
theorem jv_lele {Q : D → List Ent → Prop} (h : JV X B a G fun d1 G1 => JV X B b G1 fun d2 G2 => ∃ i j, d1 = .int i ∧ d2 = .int j ∧ (i ≤ j → JV X B cc G2 fun d3 G3 => ∃ m, d3 = .int m ∧ Q (.bl (decide (j ≤ m))) G3) ∧ (¬ i ≤ j → Q (.bl false) G2)) (h2 : behindInMarks .LtE cc = false := by exact nomark _) : JV X B (.Compare a [.LtE, .LtE] [b, cc] pos) G Q :=
  jv_chain op_le op_le (h.imp fun d1 G1 h1 => h1.imp fun d2 G2 ⟨i, j, e1, e2, ht, hf⟩ => by
    subst e1 e2
    exact ⟨_, relB_le, fun hk => (ht (of_decide_eq_true hk)).imp fun d3 G3 ⟨m, e3, q⟩ => by subst e3; exact ⟨_, relB_le, q⟩, fun hk => hf (of_decide_eq_false hk)⟩) h2
theorem jv_lelt {Q : D → List Ent → Prop} (h : JV X B a G fun d1 G1 => JV X B b G1 fun d2 G2 => ∃ i j, d1 = .int i ∧ d2 = .int j ∧ (i ≤ j → JV X B cc G2 fun d3 G3 => ∃ m, d3 = .int m ∧ Q (.bl (decide (j < m))) G3) ∧ (¬ i ≤ j → Q (.bl false) G2)) (h2 : behindInMarks .Lt cc = false := by exact nomark _) : JV X B (.Compare a [.LtE, .Lt] [b, cc] pos) G Q :=
  jv_chain op_le op_lt (h.imp fun d1 G1 h1 => h1.imp fun d2 G2 ⟨i, j, e1, e2, ht, hf⟩ => by
    subst e1 e2
    exact ⟨_, relB_le, fun hk => (ht (of_decide_eq_true hk)).imp fun d3 G3 ⟨m, e3, q⟩ => by subst e3; exact ⟨_, relB_lt, q⟩, fun hk => hf (of_decide_eq_false hk)⟩) h2
theorem jt_lele {Q : Bool → List Ent → Prop} (h : JV X B a G fun d1 G1 => JV X B b G1 fun d2 G2 => ∃ i j, d1 = .int i ∧ d2 = .int j ∧ (i ≤ j → JV X B cc G2 fun d3 G3 => ∃ m, d3 = .int m ∧ Q (decide (j ≤ m)) G3) ∧ (¬ i ≤ j → Q false G2)) (h2 : behindInMarks .LtE cc = false := by exact nomark _) : JT X B (.Compare a [.LtE, .LtE] [b, cc] pos) G Q :=
  jt_chain op_le op_le (h.imp fun d1 G1 h1 => h1.imp fun d2 G2 ⟨i, j, e1, e2, ht, hf⟩ => by
    subst e1 e2
    exact ⟨_, relB_le, fun hk => (ht (of_decide_eq_true hk)).imp fun d3 G3 ⟨m, e3, q⟩ => by subst e3; exact ⟨_, relB_le, q⟩, fun hk => hf (of_decide_eq_false hk)⟩) h2
theorem jt_lelt {Q : Bool → List Ent → Prop} (h : JV X B a G fun d1 G1 => JV X B b G1 fun d2 G2 => ∃ i j, d1 = .int i ∧ d2 = .int j ∧ (i ≤ j → JV X B cc G2 fun d3 G3 => ∃ m, d3 = .int m ∧ Q (decide (j < m)) G3) ∧ (¬ i ≤ j → Q false G2)) (h2 : behindInMarks .Lt cc = false := by exact nomark _) : JT X B (.Compare a [.LtE, .Lt] [b, cc] pos) G Q :=
  jt_chain op_le op_lt (h.imp fun d1 G1 h1 => h1.imp fun d2 G2 ⟨i, j, e1, e2, ht, hf⟩ => by
    subst e1 e2
    exact ⟨_, relB_le, fun hk => (ht (of_decide_eq_true hk)).imp fun d3 G3 ⟨m, e3, q⟩ => by subst e3; exact ⟨_, relB_lt, q⟩, fun hk => hf (of_decide_eq_false hk)⟩) h2
theorem JS.imp {st : Stmt} {Dd Dd' : Dn} (h : JS X B st G Dd) (n : ∀ G', Dd.nx G' → Dd'.nx G') (r : ∀ x G', Dd.rt x G' → Dd'.rt x G') (b : ∀ G', Dd.bk G' → Dd'.bk G') (ct : ∀ G', Dd.ct G' → Dd'.ct G') : JS X B st G Dd' := fun t s z F H De hl c k =>
  h t s z F H De hl c ⟨fun s' F' H' G' e c' q => k.nx s' F' H' G' e c' (n G' q), fun v s' F' H' x G' c' i q => k.rt v s' F' H' x G' c' i (r x G' q), fun s' F' H' G' e c' q => k.bk s' F' H' G' e c' (b G' q), fun s' F' H' G' e c' q => k.ct s' F' H' G' e c' (ct G' q)⟩
/-- behind a statement: what holds there, whichever way was taken -/
theorem JSs.mid {st : Stmt} {sts : List Stmt} {Dd : Dn} (M : List Ent → Prop) (h1 : JS X B st G { Dd with nx := M }) (h2 : ∀ G', M G' → JSs X B sts G' Dd) : JSs X B (st :: sts) G Dd :=
  JSs.cons (h1.imp h2 (fun _ _ q => q) (fun _ q => q) (fun _ q => q))
end
end J

namespace J
open PySem PySem.Spec L2
section
variable {P : Program} {w : World} {K : PySem.W.Frag} {mg : Str → Option Value} {base : Heap} {S : Sc} {k : Nat} {X : Cx} {B : Bs} {E : XW} {G : List Ent} {a b e o cc tg : Expr} {es : List Expr} {pos p apos : Pos} {x : Str} {D : Dn}
/-- while, by an invariant with a number that falls -/
theorem JS.whileN (cj : CJ P w K mg base S k X B E) {c : Expr} {body : List Stmt} (I : Nat → List Ent → Prop) (n0 : Nat) (h0 : I n0 G)
    (hs : ∀ n G', I n G' → JT X B c G' fun b G2 => (b = true → JSs X B body G2 { D with nx := fun G3 => ∃ m, m < n ∧ I m G3, ct := fun G3 => ∃ m, m < n ∧ I m G3, bk := D.nx }) ∧ (b = false → D.nx G2)) : JS X B (.While c body [] pos) G D := fun t s z F H De hl cf k =>
  tSt_of (ps_while cj.po pt_sem pss_sem) (by
    refine ⟨fun n s' H' => ∃ F' G', s'.length = s.length ∧ Conf X.K B (t ++ s') F' H' (z ++ G') ∧ I n G', ⟨n0, F, G, rfl, cf, h0⟩, ?_⟩
    rintro n s1 H1 ⟨F1, G1, e1, c1, i1⟩
    refine hs n G1 i1 t s1 z F1 H1 _ hl c1 fun b F2 H2 G2 c2 q2 => ?_
    cases b with
    | true =>
      rw [if_pos rfl]
      refine ⟨fun s' H' => ∃ F' G', s'.length = s.length ∧ Conf X.K B (t ++ s') F' H' (z ++ G') ∧ ∃ m, m < n ∧ I m G', fun s' H' ⟨F', G', a, b, m, hm, hI⟩ => ⟨m, hm, F', G', a, b, hI⟩, ?_⟩
      exact q2.1 rfl t s1 z F2 H2 _ hl c2 ⟨fun s' F' H' G' e c' q => ⟨F', G', e.trans e1, c', q⟩, k.rt, fun s' F' H' G' e c' q => k.nx s' F' H' G' (e.trans e1) c' q, fun s' F' H' G' e c' q => ⟨F', G', e.trans e1, c', q⟩⟩
    | false =>
      rw [if_neg Bool.false_ne_true]
      exact k.nx s1 F2 H2 G2 e1 c2 (q2.2 rfl))
/-- raise C('..') by the facts of a class over LongError -/
theorem js_raiseV (cj : CJ P w K mg base S k X B E) (j : Nat) {C : Addr} {m : Str} {jj : Nat} {p2 pos2 : Pos} {Dd : Dn} (xi : PySem.W.excIn K C [.type "ValueError", .type "Exception", .type "BaseException", .type "object"] "ValueError.__new__" = true) (hm : mg x = some (.ref C)) (kp : PySem.W.keepIn K (.ref C) = true)
    (su : PySem.W.subIn K (.ref C) (.type "BaseException") = some true) (ty : PySem.W.typeIn K (.ref C) = some (.type "type")) (h : E.R ⟨C, []⟩ G) (hj : S.gl[j]? = some x := by rfl) :
    JS X B (.Raise (some (.Call (.Name x p) [.Constant (.str m) jj p2] [] pos2)) none pos) G Dd := js_raise cj j PySem.F.excBase_ValueError xi hm kp su ty h hj
end
/-- what is lent, behind the call -/
@[reducible] def putB (G : List Ent) (i : Nat) (bs : List (Nat × Ow)) : List Ent :=
  match bs.lookup 0 with
  | some o' => setOw G i o'
  | none => G.set i .no
theorem updB_putB {G : List Ent} {i : Nat} {o : Ow} {ds : List J.D} {bs : List (Nat × Ow)} (h : entOw G[i]? = some o) : updB (.b i :: ds.map Arg.v) bs 0 G = putB G i bs := by
  apply List.ext_getElem?
  intro n
  have hlen : (putB G i bs).length = G.length := by
    unfold putB
    split
    · rw [setOw_len]
    · simp
  cases hn : G[n]? with
  | none => rw [List.getElem?_eq_none (by rw [updB_len]; exact List.getElem?_eq_none_iff.mp hn), List.getElem?_eq_none (by rw [hlen]; exact List.getElem?_eq_none_iff.mp hn)]
  | some e =>
    rw [updB_at _ _ 0 G n e hn, Nat.zero_add]
    have hlt := (List.getElem?_eq_some_iff.mp hn).1
    by_cases z : i = n
    · subst z
      have fb : findB i 0 (Arg.b i :: ds.map Arg.v) = some 0 := by simp [findB]
      cases hb : bs.lookup 0 with
      | none =>
        have : putB G i bs = G.set i .no := by unfold putB; rw [hb]
        rw [this, List.getElem?_set_self hlt]
        rcases entOw_cases h with q | ⟨m, q⟩ <;> (rw [q] at hn; cases hn; simp [newE, fb, hb])
      | some o' =>
        have : putB G i bs = setOw G i o' := by unfold putB; rw [hb]
        rw [this]
        rcases entOw_cases h with q | ⟨m, q⟩
        · rw [q] at hn; cases hn
          rw [setOw_ow q, List.getElem?_set_self hlt]
          simp only [newE, fb, hb]
        · rw [q] at hn; cases hn
          rw [setOw_bw q, List.getElem?_set_self hlt]
          simp only [newE, fb, hb]
    · have fb : findB n 0 (Arg.b i :: ds.map Arg.v) = none := by
        show (if i = n then some 0 else findB n 1 (ds.map Arg.v)) = none
        rw [if_neg z, findB_vs]
      have ne : newE (.b i :: ds.map Arg.v) bs n e = e := by simp only [newE, fb]
      rw [ne]
      unfold putB
      split
      · rcases entOw_cases h with q | ⟨m, q⟩
        · rw [setOw_ow q, List.getElem?_set_ne z, hn]
        · rw [setOw_bw q, List.getElem?_set_ne z, hn]
      · rw [List.getElem?_set_ne z, hn]
section
variable {P : Program} {w : World} {K : PySem.W.Frag} {mg : Str → Option Value} {base : Heap} {S : Sc} {k : Nat} {X : Cx} {B : Bs} {E : XW} {G : List Ent} {es : List Expr}
/-- f(x, ..), x one's own, lent; the others frozen -/
theorem je_callL {x y : Str} {p pos px : Pos} {U : J.Spec} {kf : Nat} {f : Addr} {fd : FuncData} {ps : List Str} {Q : Ent → List Ent → Prop} (cj : CJ P w K mg base S k X B E) (Fo : FnOk P w K mg base (L2.CX P w) kf f fd ps (SpJ K U)) (hk : kf ≤ k) (j i : Nat)
    (hm : mg x = some (.ref f)) (kp : PySem.W.keepIn K (.ref f) = true) (bi : Binds K fd ps [])
    (h : JD X B es G fun ds G' => ∃ o, entOw G'[i]? = some o ∧ U (.b o :: ds.map .v) (fun r bs => Q r (putB G' i bs)) (fun x => E.R x (G'.set i .no)))
    (hj : S.gl[j]? = some x := by rfl) (hN : S.N[i]? = some y := by rfl) (hv : i ∈ S.vi := by decide) (hg : (entOw G[i]?).isSome = true := by rfl)
    (he : starEach (.Name y px :: es) X.env = (false, eval (.Name y px) X.env) :: starEach es X.env := by rfl) (hpl : (backTo pos (starEach es X.env)).any (·.1) = false := by rfl) :
    JE X B (.Call (.Name x p) (.Name y px :: es) [] pos) G Q :=
  je_call cj Fo hk j hm kp bi (JA.lend cj i (JA.imp h fun as G' ⟨ds, eas, o, ho, hu⟩ => by
    subst eas
    have e1 : ∀ bs, updB (.b i :: ds.map Arg.v) bs 0 G' = putB G' i bs := fun bs => updB_putB ho
    refine ⟨?_, ?_⟩
    · show ((entOw G'[i]?).isSome && (findB i 0 (ds.map Arg.v)).isNone && okB G' (ds.map Arg.v)) = true
      rw [ho, findB_vs, okB_vs]; rfl
    · have e2 : parsOf G' (.b i :: ds.map Arg.v) = .b o :: ds.map .v := by
        show (match entOw G'[i]? with | some o => Par.b o | none => Par.v .non) :: parsOf G' (ds.map Arg.v) = _
        rw [ho, parsOf_vs]
      rw [e2]
      simp only [e1]
      exact hu) hN hv hg he) hj he hpl
end
theorem JO.non {X : Cx} {B : Bs} {G : List Ent} {Q : Option Int → List Ent → Prop} (h : Q none G) : JO X B none G Q := h
theorem JO.som {X : Cx} {B : Bs} {e : Expr} {G : List Ent} {Q : Option Int → List Ent → Prop} (h : JV X B e G fun d G' => ∃ i, d = .int i ∧ Q (some i) G') : JO X B (some e) G Q := h
theorem cutD_take (xs : List D) (k : Nat) : cutD xs none (some (k : Int)) = xs.take k := by
  unfold cutD
  rw [HT.sIx_none, HT.sIx_nat]
  simp [List.take_eq_take_iff]
theorem cutD_drop (xs : List D) (k : Nat) : cutD xs (some (k : Int)) none = xs.drop k := by
  unfold cutD
  rw [HT.sIx_none, HT.sIx_nat]
  rcases Nat.le_total k xs.length with h | h
  · rw [Nat.min_eq_left h, ← List.length_drop, List.take_length]
  · rw [Nat.min_eq_right h, List.drop_length, List.drop_of_length_le h]; simp
/-! ## plain lists of ints -/
def rg (n : Int) : List Int := (List.range n.toNat).map fun i => ((i : Nat) : Int)
theorem rgI0 (n : Int) : rgI 0 n = rg n := by
  unfold rgI rg
  rw [Int.sub_zero]
  exact List.map_congr_left fun i _ => by omega
theorem rg_len {n : Int} : (rg n).length = n.toNat := by simp [rg]
theorem rg_mem {n x : Int} : x ∈ rg n ↔ 0 ≤ x ∧ x < n := by
  simp only [rg, List.mem_map, List.mem_range]
  constructor
  · rintro ⟨i, h, rfl⟩; omega
  · intro h; exact ⟨x.toNat, by omega, by omega⟩
theorem rg_get {n : Int} {i : Nat} (h : i < n.toNat) : (rg n)[i]? = some (i : Int) := by simp [rg, h]
theorem gI_rg {n i : Int} (h0 : 0 ≤ i) (h : i < n) : gI (rg n) i = i := by
  unfold gI
  rw [List.getD_eq_getElem?_getD, rg_get (by omega)]
  simp; omega
/-- a list of n ints, by places -/
theorem eq_rg {l : List Int} {n : Int} {f : Int → Int} (hl : l.length = n.toNat) (h : ∀ i : Nat, i < n.toNat → gI l i = f i) : l = (rg n).map f := by
  apply List.ext_getElem?
  intro i
  by_cases hi : i < n.toNat
  · have hlt : i < l.length := by omega
    have := h i hi
    simp only [gI, Int.toNat_natCast, List.getD_eq_getElem?_getD, List.getElem?_eq_getElem hlt, Option.getD_some] at this
    rw [List.getElem?_map, rg_get hi, List.getElem?_eq_getElem hlt]
    simp [this]
  · rw [List.getElem?_eq_none (by omega), List.getElem?_eq_none (by rw [List.length_map, rg_len]; omega)]
theorem gI_map {l : List Int} {f : Int → Int} {i : Int} (h0 : 0 ≤ i) (h : i < l.length) : gI (l.map f) i = f (gI l i) := by
  have hlt : i.toNat < l.length := by omega
  simp [gI, List.getD_eq_getElem?_getD, List.getElem?_eq_getElem hlt]
theorem gI_rgmap {n : Int} {f : Int → Int} {i : Int} (h0 : 0 ≤ i) (h : i < n) : gI ((rg n).map f) i = f i := by
  rw [gI_map h0 (by rw [rg_len]; omega), gI_rg h0 h]
/-- all of one kind -/
def One (l : List Int) : Prop := ∀ x ∈ l, ∀ y ∈ l, x = y
theorem set_one {l ks : List Int} (nd : ks.Nodup) (h : ∀ k, k ∈ ks ↔ k ∈ l) (hl : l ≠ []) : (ks.length = 1 ↔ One l) ∧ 1 ≤ ks.length := by
  obtain ⟨x, hx⟩ := List.exists_mem_of_ne_nil l hl
  have hx' := (h x).mpr hx
  refine ⟨⟨fun e => ?_, fun o => ?_⟩, List.length_pos_of_mem hx'⟩
  · obtain ⟨y, rfl⟩ := List.length_eq_one_iff.mp e
    intro a ha b hb
    have h1 := (h a).mpr ha
    have h2 := (h b).mpr hb
    simp at h1 h2
    rw [h1, h2]
  · match ks, nd, h, hx' with
    | [y], _, _, _ => rfl
    | y :: z :: r, nd, h, _ =>
      have := o y ((h y).mp (by simp)) z ((h z).mp (by simp))
      subst this
      simp at nd
end J

namespace J
open PySem PySem.Spec L2
section
open PyProof.Rows RT
variable {prog : Program} {w : World} {A : Around} {E : Value → Shared → Prop} {s : Shared}
theorem call_list_rev {it l : Addr} {items : Array Value} {Q : Value → Shared → Prop} (hh : A.handled = none) (hit : s.heap.IsRevIter it l ((items.size : Int) - 1)) (hl : s.heap.IsList l items) (hne : l ≠ it) (hn : items.size ≤ sizeLine)
    (hQ : ∀ (h' : Heap) (tk : Nat) (acc : Array Value) (c' : Nat), (∀ b o, b ≠ it → s.heap.get? b = some o → h'.get? b = some o) → h'.get? s.heap.objs.size = some { cls := .type "list", dict := none, data := .seq acc c', slots := #[] } →
      ItemsOf (fun i v => items[items.size - 1 - i]? = some v) acc items.size → Q (.ref s.heap.objs.size) { s with heap := h', toks := tk }) :
    wpAny (model prog w) A (call (.type "list") [.ref it]) Q E s := by
  refine callType_codes (Q₁ := fun obj s₁ => obj = .ref s.heap.objs.size ∧ s₁ = { s with heap := s.heap.push { cls := .type "list", data := .seq #[] } }) F.called_list (F.typeCall_list_1 _) F.entry_list_init
    (code_list_new _ ⟨rfl, rfl⟩) fun obj s₁ h₁ => ?_
  obtain ⟨rfl, rfl⟩ := h₁
  have hS : (s.heap.push { cls := .type "list", data := .seq #[] }).get? s.heap.objs.size = some { cls := .type "list", data := .seq #[] } := Heap.get?_push_size _ rfl
  have W := (Walks.listRev (prog := prog) (w := w) (A := A.in1.in1) hh it l hne items).toS
  obtain ⟨oi, hoi, _⟩ := id hit
  obtain ⟨ol, hol, _⟩ := id hl
  have hSi : s.heap.objs.size ≠ it := Nat.ne_of_gt (Heap.lt_size hoi)
  have hSl : s.heap.objs.size ≠ l := Nat.ne_of_gt (Heap.lt_size hol)
  have hSf : s.heap.objs.size ∉ [it, l] := by simp only [List.mem_cons, List.not_mem_nil, or_false, not_or]; exact ⟨hSi, hSl⟩
  refine ⟨⟨_, hS, rfl⟩, F.args_list_init_2 _ _, ?_⟩
  show wpAny _ _ (do let old ← Builtin.List.listItems (.ref s.heap.objs.size); Builtin.List.listUpdate (.ref s.heap.objs.size) (fun _ => #[]); letGo old.toList.reverse; Builtin.List.listExtendWith (.ref s.heap.objs.size) (.ref it) .none) _ _ _
  refine wpAny_bind ?_
  unfold Builtin.List.listItems
  refine wpAny_bind (wpAny_seqItems hS rfl (wpAny_pure ?_))
  show wpAny _ _ (updateSeq s.heap.objs.size (fun _ => #[]) >>= fun _ => letGo (#[] : Array Value).toList.reverse >>= fun _ => Builtin.List.listExtendWith (.ref s.heap.objs.size) (.ref it) .none) _ _ _
  refine wpAny_bind (wpAny_updateSeq hS rfl ?_)
  have hS₁ := Heap.get?_update_self (Obj.mapSeq (fun _ => (#[] : Array Value))) hS rfl
  have oth : ∀ b o, b ≠ s.heap.objs.size → s.heap.get? b = some o → ((s.heap.push { cls := .type "list", data := .seq #[] }).update s.heap.objs.size (Obj.mapSeq (fun _ => (#[] : Array Value)))).get? b = some o :=
    fun b o hb e => (Heap.get?_update_other _ _ (Ne.symm hb)).trans (Heap.get?_push_of_some _ e)
  refine wpAny_bind (wpAny_letGo ?_)
  generalize hH : (s.heap.push { cls := .type "list", data := .seq #[] }).update s.heap.objs.size (Obj.mapSeq (fun _ => (#[] : Array Value))) = Hn at hS₁ oth
  have hit1 : Hn.IsRevIter it l ((items.size : Int) - 1) := hit.at fun o e => oth _ o (Ne.symm hSi) e
  have hl1 : Hn.IsList l items := by
    obtain ⟨o, e, r⟩ := hl
    exact ⟨o, oth _ o (Ne.symm hSl) e, r⟩
  have hT : ({ s with heap := Hn } : Shared).TypeIs (.ref it) "list_reverseiterator" := Heap.IsRevIter.typeIs (s := { s with heap := Hn }) hit1
  have h1 : Builtin.List.listSameRef (.ref s.heap.objs.size) (.ref it) = false := by simp [Builtin.List.listSameRef, hSi]
  unfold Builtin.List.listExtendWith
  refine wpAny_bind (wpAny_typeOf hT ?_)
  rw [if_neg (by rw [h1]; decide)]
  refine wpAny_bind (wpAny_pyIter_revIter (s := { s with heap := Hn }) hit1 ?_)
  refine wpAny_bind (wpAny_holding ?_)
  unfold Builtin.List.listLengthHint
  refine wpAny_bind (wpAny_specialOf hT nolen_lri ?_)
  show wpAny _ _ (specialOf (Value.ref it) (Str.ofString "__length_hint__") >>= _) _ _ _
  refine wpAny_bind (wpAny_specialOf hT hint_lri ?_)
  generalize hid : ("list_reverseiterator.__length_hint__" : String) = id0
  wp_delta
  rw [show splitId id0 = some ("list_reverseiterator", "__length_hint__") from by subst hid; decide +kernel]
  subst hid
  refine wpAny_bind (wpAny_isInstance (b := true) hT (by rw [isSubtype_type]; kernel_rfl) ?_)
  refine wpAny_pure ?_
  rw [if_neg (by decide)]
  have e0 : ((items.size : Nat) : Int) - 1 - ((0 : Nat) : Int) = (items.size : Int) - 1 := by omega
  refine wpAny_pure ⟨plainId_quiet F.plain_extend_loop _, codeAny_extend_loopS W hn _ hSf _ items.size 0 _ _ _ rfl (Nat.zero_le _) ⟨Nat.zero_le _, by rw [e0]; exact hit1, hl1⟩ hS₁ (ItemsOf.nil _) fun s' acc' c' hm hS' hacc => ?_⟩
  rw [Moved.eq_with hm]
  refine ⟨rfl, hQ s'.heap s'.toks acc' c' (fun b o hb e => hm.heap b o (fun hmem => ?_) (oth b o (Nat.ne_of_lt (Heap.lt_size e)) e)) hS' hacc⟩
  rcases List.mem_cons.mp hmem with e' | hmem
  · exact absurd (Heap.lt_size e) (by rw [e']; exact Nat.lt_irrefl _)
  · exact hb (List.mem_singleton.mp hmem)
end
section
open PyProof.Rows RT
variable {X : Cx}
/-- list(reversed(x)), x a list: a new list -/
def tLstRev (K : PySem.W.Frag) (te : TE) : TE := fun σ H Q => te σ H fun v H1 => ∃ (a : Addr) (xs : List V), v = .ref a ∧ SqL K H1 a xs ∧ ∀ q, H1 q = none → Q (.ref q) (upd H1 q (.lst xs.reverse))
theorem pe_lstRev {e : Expr} {te : TE} {p p2 pos pos2 : Pos} (hc : X.calm = true) (hg : Gl X "list") (hm : X.mg "list" = none) (hg2 : Gl X "reversed") (hm2 : X.mg "reversed" = none) (he : PE X e te)
    (hs : starEach [e] X.env = (false, eval e X.env) :: starEach [] X.env := by rfl)
    (hs2 : starEach [.Call (.Name "reversed" p2) [e] [] pos2] X.env = (false, eval (.Call (.Name "reversed" p2) [e] [] pos2) X.env) :: starEach [] X.env := by rfl) :
    PE X (.Call (.Name "list" p) [.Call (.Name "reversed" p2) [e] [] pos2] [] pos) (tLstRev X.K te) := by
  refine ⟨fun pins s σ H Q I h => ?_⟩
  refine Call_ (ld_blt I hg hm PyProof.Rows.boot_list (PyProof.Rows.callWith_type1 (args_cons (Call_ (ld_blt I hg2 hm2 PyProof.Rows.boot_reversed (PyProof.Rows.callWith_type1 (args_cons (thn (he.run pins s σ H _ I h) fun u s1 ⟨v, H1, I1, r1, q1⟩ => args_nil ?_) hs) hs rfl))) hs2) hs2 rfl))
  obtain ⟨a, xs, ev, hq, q⟩ := q1
  subst ev
  obtain rfl : u = Value.ref a := r1
  obtain ⟨its, rv, p', hz⟩ := I1.list hq
  refine call_reversed_list p'.isList (args_nil ?_)
  have k0 : ∀ b o, s1.heap.get? b = some o → (s1.heap.push (revObj a ((its.toArray.size : Int) - 1))).get? b = some o := fun b o e => Heap.get?_push_of_some _ e
  have I2 : Inv X pins σ H1 { s1 with heap := s1.heap.push (revObj a ((its.toArray.size : Int) - 1)) } := I1.kept (t' := s1.toks) k0
  obtain ⟨f0, f1, f2, f3, f4, f5⟩ := I1.fpOk (H' := H1) (b := s1.heap.objs.size) (Nat.le_refl _) (I1.hok.fresh (Nat.le_refl _))
  have hl := p'.isList
  obtain ⟨ol, hol, _⟩ := id hl
  have hne : a ≠ s1.heap.objs.size := Nat.ne_of_lt (Heap.lt_size hol)
  have hn : its.toArray.size ≤ sizeLine := by rw [List.size_toArray, ← rv.length]; exact hz
  have nf : H1 (s1.heap.push (revObj a ((its.toArray.size : Int) - 1))).objs.size = none := I2.hok.fresh (Nat.le_refl _)
  refine call_list_rev (s := { s1 with heap := s1.heap.push (revObj a ((its.toArray.size : Int) - 1)) }) (I1.ok.hd hc) ⟨_, Heap.get?_push_size _ rfl, rfl, rfl⟩ (hl.push _) hne hn fun h' tk acc c' hk hS hi => ?_
  have hsz : s1.heap.objs.size ≤ (s1.heap.push (revObj a ((its.toArray.size : Int) - 1))).objs.size := by rw [Heap.size_push]; exact Nat.le_succ _
  refine ⟨.ref (s1.heap.push (revObj a ((its.toArray.size : Int) - 1))).objs.size, upd H1 _ (.lst xs.reverse), I1.laid (t' := tk) (fun b o e => hk b o (Nat.ne_of_lt (Heap.lt_size e)) (k0 b o e)) hsz (show ObjOk X.prog X.w _ _ _ (.lst xs.reverse) from ⟨by rw [List.length_reverse]; exact hz, acc.toList, c', vals_rev rv hi, ?_⟩), rfl, q _ nf⟩
  rw [Array.toArray_toList]; exact hS
end
section
variable {P : Program} {w : World} {K : PySem.W.Frag} {mg : Str → Option Value} {base : Heap} {S : Sc} {k : Nat} {X : Cx} {B : Bs} {E : XW} {G : List Ent} {e : Expr} {pos p : Pos}
theorem je_listRev (cj : CJ P w K mg base S k X B E) (j j2 : Nat) {p2 q2 : Pos} {Q : Ent → List Ent → Prop} (hm : mg "list" = none) (hm2 : mg "reversed" = none) (h : JV X B e G fun d G' => ∃ ds, d = .lst ds ∧ Q (.ow (.lst ds.reverse)) G') (hj : S.gl[j]? = some "list" := by rfl) (hj2 : S.gl[j2]? = some "reversed" := by rfl)
    (hs : starEach [e] X.env = (false, eval e X.env) :: starEach [] X.env := by rfl)
    (hs2 : starEach [.Call (.Name "reversed" p2) [e] [] q2] X.env = (false, eval (.Call (.Name "reversed" p2) [e] [] q2) X.env) :: starEach [] X.env := by rfl) : JE X B (.Call (.Name "list" p) [.Call (.Name "reversed" p2) [e] [] q2] [] pos) G Q := fun t s z F H VQ hl c q =>
  tS_of (pe_lstRev cj.calm (cj.gl hj) (cj.mgx hm) (cj.gl hj2) (cj.mgx hm2) pe_sem hs hs2) (h t s z F H _ hl c fun v F' H' d G' c' ⟨ds, ed, hq⟩ => by
    subst ed
    have sm := c'.fh
    cases c'.top with
    | @lst l xs _ h1 h2 => exact ⟨l, xs, rfl, .of (sm _ _ h1), fun p np => q _ F' _ _ G' (c'.pop.newL np (prev h2)) trivial hq⟩)
end
end J

namespace J
open PySem PySem.Spec L2
/-! ## the members of a list, rising -/
def insS (x : Int) : List Int → List Int
  | [] => [x]
  | y :: r => if x < y then x :: y :: r else if x = y then y :: r else y :: insS x r
def ss : List Int → List Int
  | [] => []
  | x :: r => insS x (ss r)
theorem insS_mem {x k : Int} : ∀ {l : List Int}, k ∈ insS x l ↔ k = x ∨ k ∈ l
  | [] => by simp [insS]
  | y :: r => by
    unfold insS
    split
    · simp
    · split
      · rename_i h; subst h; simp
      · rw [List.mem_cons, insS_mem, List.mem_cons]
        constructor
        · rintro (h | h | h) <;> simp [h]
        · rintro (h | h | h) <;> simp [h]
theorem ss_mem {k : Int} : ∀ {l : List Int}, k ∈ ss l ↔ k ∈ l
  | [] => by simp [ss]
  | x :: r => by
    show k ∈ insS x (ss r) ↔ _
    rw [insS_mem, ss_mem, List.mem_cons]
theorem insS_sorted {x : Int} : ∀ {l : List Int}, l.Pairwise (· < ·) → (insS x l).Pairwise (· < ·)
  | [], _ => by simp [insS]
  | y :: r, h => by
    obtain ⟨h1, h2⟩ := List.pairwise_cons.mp h
    unfold insS
    split
    · rename_i hx
      exact List.pairwise_cons.mpr ⟨fun z hz => by
        rcases List.mem_cons.mp hz with e | hz
        · subst e; exact hx
        · exact Int.lt_trans hx (h1 z hz), h⟩
    · split
      · exact h
      · refine List.pairwise_cons.mpr ⟨fun z hz => ?_, insS_sorted h2⟩
        rcases insS_mem.mp hz with e | hz
        · subst e; omega
        · exact h1 z hz
theorem ss_sorted : ∀ (l : List Int), (ss l).Pairwise (· < ·)
  | [] => List.Pairwise.nil
  | x :: r => insS_sorted (ss_sorted r)
theorem nodup_lt {l : List Int} (h : l.Pairwise (· < ·)) : l.Nodup := h.imp fun h => Int.ne_of_lt h
theorem ss_uniq : ∀ {l m : List Int}, l.Pairwise (· < ·) → m.Pairwise (· < ·) → (∀ k, k ∈ l ↔ k ∈ m) → l = m := fun {l m} hl hm h =>
  sorted_unique ((List.perm_ext_iff_of_nodup (nodup_lt hl) (nodup_lt hm)).mpr h) (hl.imp fun h => Int.le_of_lt h) (hm.imp fun h => Int.le_of_lt h)
theorem ss_of {ks l : List Int} (h : ks.Pairwise (· < ·)) (hm : ∀ k, k ∈ ks ↔ k ∈ l) : ks = ss l := ss_uniq h (ss_sorted l) fun k => (hm k).trans ss_mem.symm
theorem ss_len {ks l : List Int} (nd : ks.Nodup) (hm : ∀ k, k ∈ ks ↔ k ∈ l) : ks.length = (ss l).length :=
  ((List.perm_ext_iff_of_nodup nd (nodup_lt (ss_sorted l))).mpr fun k => (hm k).trans ss_mem.symm).length_eq
theorem ss_one {l : List Int} (hl : l ≠ []) : ((ss l).length = 1 ↔ One l) ∧ 1 ≤ (ss l).length := set_one (nodup_lt (ss_sorted l)) (fun _ => ss_mem) hl
theorem ss_le : ∀ (l : List Int), (ss l).length ≤ l.length
  | [] => Nat.le_refl _
  | x :: r => by
    have go : ∀ m : List Int, (insS x m).length ≤ m.length + 1 := by
      intro m
      induction m with
      | nil => simp [insS]
      | cons y m ih =>
        unfold insS
        split
        · simp
        · split
          · simp
          · simp only [List.length_cons]; omega
    have := ss_le r
    show (insS x (ss r)).length ≤ r.length + 1
    have := go (ss r)
    omega
section
variable {P : Program} {w : World} {K : PySem.W.Frag} {mg : Str → Option Value} {base : Heap} {S : Sc} {k : Nat} {X : Cx} {B : Bs} {E : XW} {G : List Ent} {e tg : Expr} {pos p : Pos}
theorem jv_lenSetS (cj : CJ P w K mg base S k X B E) (j j2 : Nat) {p2 q2 : Pos} {Q : D → List Ent → Prop} (hm : mg "len" = none) (hm2 : mg "set" = none)
    (h : JV X B e G fun d G' => ∃ ns : List Int, IntSeq ns d ∧ ns.length < 64 ∧ Q (.int (ss ns).length) G') (hj : S.gl[j]? = some "len" := by rfl) (hj2 : S.gl[j2]? = some "set" := by rfl)
    (he : starEach [e] X.env = (false, eval e X.env) :: starEach [] X.env := by rfl) (hpl : (backTo q2 (starEach [] X.env)).any (·.1) = false := by rfl)
    (he2 : starEach [.Call (.Name "set" p2) [e] [] q2] X.env = (false, eval (.Call (.Name "set" p2) [e] [] q2) X.env) :: starEach [] X.env := by rfl) (hpl2 : (backTo pos (starEach [] X.env)).any (·.1) = false := by rfl) :
    JV X B (.Call (.Name "len" p) [.Call (.Name "set" p2) [e] [] q2] [] pos) G Q :=
  jv_lenSet cj j j2 hm hm2 (h.imp fun d G' ⟨ns, hd, hl, q⟩ => ⟨ns, hd, hl, fun ks nd hk => by rw [ss_len nd hk]; exact q⟩) hj hj2 he hpl he2 hpl2
theorem je_sortedSetS (cj : CJ P w K mg base S k X B E) (j j2 : Nat) {p2 q2 : Pos} {Q : Ent → List Ent → Prop} (hm : mg "sorted" = none) (hm2 : mg "set" = none)
    (h : JV X B e G fun d G' => ∃ ns : List Int, IntSeq ns d ∧ ns.length < 64 ∧ Q (.ow (.lst ((ss ns).map .int))) G') (hj : S.gl[j]? = some "sorted" := by rfl) (hj2 : S.gl[j2]? = some "set" := by rfl)
    (he : starEach [e] X.env = (false, eval e X.env) :: starEach [] X.env := by rfl) (hpl : (backTo q2 (starEach [] X.env)).any (·.1) = false := by rfl)
    (he2 : starEach [.Call (.Name "set" p2) [e] [] q2] X.env = (false, eval (.Call (.Name "set" p2) [e] [] q2) X.env) :: starEach [] X.env := by rfl) (hpl2 : (backTo pos (starEach [] X.env)).any (·.1) = false := by rfl) :
    JE X B (.Call (.Name "sorted" p) [.Call (.Name "set" p2) [e] [] q2] [] pos) G Q :=
  je_sortedSet cj j j2 hm hm2 (h.imp fun d G' ⟨ns, hd, hl, q⟩ => ⟨ns, hd, hl, fun ks nd hk => by rw [ss_of nd hk]; exact q⟩) hj hj2 he hpl he2 hpl2
/-- a comprehension whose turns change what stands around it -/
theorem LcI.mapN {n : Nat} {item : Nat → D → Prop} {CJX : Cx → Prop} {S' : Sc} {elt : Expr} {Q : List D → List Ent → Prop} (V : Nat → D → Prop) (hn : n ≤ sizeLine) (I : Nat → List Ent → Prop) (h0 : I 0 (wipeE G S'.li))
    (step : ∀ i d G2, i < n → item i d → I i G2 → ∀ X1, CJX X1 → JG X1 B S'.li tg (.fz d) G2 fun G3 => ∀ X3, CJX X3 → JV X3 B elt G3 fun d' G5 => V i d' ∧ I (i + 1) (wipeE G5 S'.li))
    (fin : ∀ acc G2, acc.length = n → (∀ i d, acc[i]? = some d → V i d) → I n G2 → Q acc G2) : LcI n item CJX B S' tg elt [] G Q := by
  refine ⟨hn, fun i acc G2 => acc.length = i ∧ (∀ j d, acc[j]? = some d → V j d) ∧ I i G2, ⟨rfl, fun j d h => by simp at h, h0⟩, fun i d acc G2 hi hd ⟨ha, hv, hI⟩ _ => ?_, fun acc G2 ⟨ha, hv, hI⟩ => fin acc G2 ha hv hI⟩
  intro X1 c1
  refine fun t s z F H v GQ hl c ir q => step i d G2 hi hd hI X1 c1 t s z F H v GQ hl c ir fun s' F' H' G' e1 e2 c' q' => q s' F' H' G' e1 e2 c' fun X2 c2 => JTs.nil ⟨fun _ X3 c3 => (q' X3 c3).imp fun d' G5 ⟨hv', hI'⟩ => ⟨by simp [ha], fun j d2 h => ?_, hI'⟩, fun z => nomatch z⟩
  by_cases hj : j < acc.length
  · rw [List.getElem?_append_left hj] at h; exact hv j d2 h
  · rw [List.getElem?_append_right (by omega)] at h
    have : j - acc.length = 0 := by
      by_cases hz : j - acc.length = 0
      · exact hz
      · rw [List.getElem?_eq_none (by simp; omega)] at h; cases h
    rw [this] at h
    simp at h
    subst h
    have : j = i := by omega
    subst this
    exact hv'
/-- x == e where x is an own list -/
theorem own_dp {t s : St} {z : List Ent} {F H : Hp} {i : Nat} {ds : List J.D} (hl : t.length = z.length) (c : Conf X.K B (t ++ s) F H (z ++ G)) (hg : entOw G[i]? = some (.lst ds)) : ∃ y, s[i]? = some (some (.ref y)) ∧ DP X.K H (.ref y) (.lst ds) := by
  obtain ⟨y, e1, ⟨xs, o1, o2⟩, _⟩ := c.slot hl hg
  exact ⟨y, e1, .lst o1 (DP.monoL c.fh _ _ o2)⟩
theorem jt_cmpO {b : Expr} {x : Str} {xp : Pos} (cj : CJ P w K mg base S k X B E) (i : Nat) {op : CmpOp} {r : R2} {Q : Bool → List Ent → Prop} (ho : OpR X (compareOp op) r) (hm : behindInMarks op b = false)
    (h : JV X B b G fun d2 G2 => ∃ ds kk, entOw G2[i]? = some (.lst ds) ∧ RelB X r (.lst ds) d2 kk ∧ Q kk G2) (hN : S.N[i]? = some x := by rfl) (hv : i ∈ S.vi := by decide) (hg : (entOw G[i]?).isSome = true := by rfl) : JT X B (.Compare (.Name x xp) [op] [b] pos) G Q := fun t s z F H TQ hl c q => by
  have hn := okName_of (Sc.vis cj.ok hv hN).1
  refine tT_of (pt_cmpR ho (pe_var (cj.xN hN) (cj.vis hv hN) hn.1 hn.2.1) pe_sem hm) ?_
  obtain ⟨o, ho'⟩ := Option.isSome_iff_exists.mp hg
  obtain ⟨y, e1, _⟩ := c.slot hl ho'
  refine ⟨.ref y, e1, h t s z F H _ hl c fun u F' H' d2 G2 c2 ⟨ds, kk, h1, h2, h3⟩ => ?_⟩
  obtain ⟨y', e1', dp⟩ := own_dp hl c2.pop h1
  rw [e1] at e1'
  cases e1'
  exact h2 _ u H' _ dp c2.topH ⟨kk, rfl, q kk F' H' G2 c2.pop h3⟩
theorem jv_cmpO {b : Expr} {x : Str} {xp : Pos} (cj : CJ P w K mg base S k X B E) (i : Nat) {op : CmpOp} {r : R2} {Q : J.D → List Ent → Prop} (ho : OpR X (compareOp op) r) (hm : behindInMarks op b = false)
    (h : JV X B b G fun d2 G2 => ∃ ds kk, entOw G2[i]? = some (.lst ds) ∧ RelB X r (.lst ds) d2 kk ∧ Q (.bl kk) G2) (hN : S.N[i]? = some x := by rfl) (hv : i ∈ S.vi := by decide) (hg : (entOw G[i]?).isSome = true := by rfl) : JV X B (.Compare (.Name x xp) [op] [b] pos) G Q := fun t s z F H TQ hl c q => by
  have hn := okName_of (Sc.vis cj.ok hv hN).1
  refine tS_of (pe_cmpR ho (pe_var (cj.xN hN) (cj.vis hv hN) hn.1 hn.2.1) pe_sem hm) ?_
  obtain ⟨o, ho'⟩ := Option.isSome_iff_exists.mp hg
  obtain ⟨y, e1, _⟩ := c.slot hl ho'
  refine ⟨.ref y, e1, h t s z F H _ hl c fun u F' H' d2 G2 c2 ⟨ds, kk, h1, h2, h3⟩ => ?_⟩
  obtain ⟨y', e1', dp⟩ := own_dp hl c2.pop h1
  rw [e1] at e1'
  cases e1'
  exact h2 _ u H' TQ dp c2.topH (q _ F' H' _ G2 (c2.pop.fz (.bl kk)) h3)
theorem jt_eqO {b : Expr} {x : Str} {xp : Pos} (cj : CJ P w K mg base S k X B E) (i : Nat) {Q : Bool → List Ent → Prop}
    (h : JV X B b G fun d2 G2 => ∃ ds, entOw G2[i]? = some (.lst ds) ∧ (∃ n, Flat n (.lst ds) ∧ n ≤ 64) ∧ (∃ m, Flat m d2 ∧ m ≤ 64) ∧ Q (deq (.lst ds) d2) G2) (hN : S.N[i]? = some x := by rfl) (hv : i ∈ S.vi := by decide) (hg : (entOw G[i]?).isSome = true := by rfl) : JT X B (.Compare (.Name x xp) [.Eq] [b] pos) G Q :=
  jt_cmpO cj i (op_eqD cj.hr.units) (nomark _) (h.imp fun d2 G2 ⟨ds, h1, ⟨n, f, hn⟩, ⟨m, f', hm⟩, q⟩ => ⟨ds, _, h1, relB_eq f f' hn hm, q⟩) hN hv hg
theorem jt_neO {b : Expr} {x : Str} {xp : Pos} (cj : CJ P w K mg base S k X B E) (i : Nat) {Q : Bool → List Ent → Prop}
    (h : JV X B b G fun d2 G2 => ∃ ds, entOw G2[i]? = some (.lst ds) ∧ (∃ n, Flat n (.lst ds) ∧ n ≤ 64) ∧ (∃ m, Flat m d2 ∧ m ≤ 64) ∧ Q (!deq (.lst ds) d2) G2) (hN : S.N[i]? = some x := by rfl) (hv : i ∈ S.vi := by decide) (hg : (entOw G[i]?).isSome = true := by rfl) : JT X B (.Compare (.Name x xp) [.NotEq] [b] pos) G Q :=
  jt_cmpO cj i (op_neD cj.hr.units) (nomark _) (h.imp fun d2 G2 ⟨ds, h1, ⟨n, f, hn⟩, ⟨m, f', hm⟩, q⟩ => ⟨ds, _, h1, relB_ne f f' hn hm, q⟩) hN hv hg
theorem jv_eqO {b : Expr} {x : Str} {xp : Pos} (cj : CJ P w K mg base S k X B E) (i : Nat) {Q : J.D → List Ent → Prop}
    (h : JV X B b G fun d2 G2 => ∃ ds, entOw G2[i]? = some (.lst ds) ∧ (∃ n, Flat n (.lst ds) ∧ n ≤ 64) ∧ (∃ m, Flat m d2 ∧ m ≤ 64) ∧ Q (.bl (deq (.lst ds) d2)) G2) (hN : S.N[i]? = some x := by rfl) (hv : i ∈ S.vi := by decide) (hg : (entOw G[i]?).isSome = true := by rfl) : JV X B (.Compare (.Name x xp) [.Eq] [b] pos) G Q :=
  jv_cmpO cj i (op_eqD cj.hr.units) (nomark _) (h.imp fun d2 G2 ⟨ds, h1, ⟨n, f, hn⟩, ⟨m, f', hm⟩, q⟩ => ⟨ds, _, h1, relB_eq f f' hn hm, q⟩) hN hv hg
end
theorem eraseIdx_mapD {α : Type} (f : α → J.D) : ∀ (l : List α) (i : Nat), (l.map f).eraseIdx i = (l.eraseIdx i).map f
  | [], _ => rfl
  | _ :: _, 0 => rfl
  | x :: l, i + 1 => by
    show f x :: (l.map f).eraseIdx i = f x :: (l.eraseIdx i).map f
    rw [eraseIdx_mapD f l i]
theorem mem_eraseIdx_of {α : Type} {l : List α} {i : Nat} {x : α} (h : x ∈ l.eraseIdx i) : x ∈ l := (List.eraseIdx_sublist l i).subset h
end J

namespace J
open PySem PySem.Spec L2
theorem swst_scope {tgs : List Expr} {v : Expr} {e e' : Env} (h : e.scope = e'.scope) : swappedStores tgs v e = swappedStores tgs v e' := by
  unfold swappedStores Env.blockKind Env.kindOf
  rw [h]
section
variable {P : Program} {w : World} {K : PySem.W.Frag} {mg : Str → Option Value} {base : Heap} {S : Sc} {k : Nat} {X : Cx} {B : Bs} {E : XW} {G : List Ent} {a b : Expr} {pos p : Pos} {x : Str}
/-- x, y = a, b -/
theorem js_parB (cj : CJ P w K mg base S k X B E) (i j : Nat) {y : Str} {px py pt sp : Pos} {kt k2 : Nat} {pt2 : Pos} {Dd : Dn} (h : JV X B a G fun d1 G1 => JV X B b G1 fun d2 G2 => Dd.nx ((G2.set i (.fz d1)).set j (.fz d2)))
    (hx : S.sc.names.lookup x = some .local := by decide +kernel) (hy : S.sc.names.lookup y = some .local := by decide +kernel) (hN : S.N[i]? = some x := by rfl) (hN2 : S.N[j]? = some y := by rfl) (hv : i ∈ S.li := by decide) (hv2 : j ∈ S.li := by decide) (hij : i ≠ j := by decide)
    (hw : swappedStores [.Tuple [.Name x px, .Name y py] kt pt] (.Tuple [a, b] k2 pt2) { X.env with scope := S.sc } = pure (some [x, y]) := by rfl)
    (hs : starEach [a, b] X.env = (false, eval a X.env) :: starEach [b] X.env := by rfl) (hs2 : starEach [b] X.env = (false, eval b X.env) :: starEach [] X.env := by rfl) :
    JS X B (.Assign [.Tuple [.Name x px, .Name y py] kt pt] (.Tuple [a, b] k2 pt2) sp) G Dd :=
  js_par cj i j h hx hy hN hN2 hv hv2 hij (ps_par cj.calm cj.nd (cj.xN hN) (cj.xN hN2) hij (by rw [cj.hsc]; exact hx) (by rw [cj.hsc]; exact hy) pa_sem (by rw [swst_scope (e' := { X.env with scope := S.sc }) cj.hsc]; exact hw)) hs hs2
end
/-! ## fractions -/
@[reducible] def frD (q : Rat) : D := .tup [.int q.num, .int q.den]
theorem frD_flat (q : Rat) : Flat 1 (frD q) := .tup fun d hd => by
  rcases List.mem_cons.mp hd with rfl | hd
  · exact .int _
  · rcases List.mem_singleton.mp hd with rfl
    exact .int _
theorem frD_inj {q r : Rat} (h : frD q = frD r) : q = r := by
  have : [D.int q.num, .int q.den] = [.int r.num, .int r.den] := by injection h
  injection this with h1 h2
  injection h1 with h1
  injection h2 with h2 _
  injection h2 with h2
  rw [← Rat.mkRat_self q, ← Rat.mkRat_self r, h1, show q.den = r.den by omega]
theorem frD_mk {t b : Int} (h : 0 < b) : frD (mkRat t b.toNat) = .tup [.int (t / ((t.natAbs.gcd b.natAbs : Nat) : Int)), .int (b / ((t.natAbs.gcd b.natAbs : Nat) : Int))] := by
  have hb : b.toNat ≠ 0 := by omega
  have e := Rat.normalize_eq (num := t) hb
  rw [Rat.normalize_eq_mkRat] at e
  have e2 : b.toNat = b.natAbs := by omega
  have e3 : b = ((b.natAbs : Nat) : Int) := by omega
  unfold frD
  rw [e]
  simp only
  rw [e2]
  congr 4
  rw [Int.natCast_ediv, ← e3]
end J

namespace J
open PySem PySem.Spec L2
/-! ## a caught exception -/
def rIsET (K : PySem.W.Frag) (D a : Addr) : List V → Hp → VK → Prop := fun xs H Q => ∃ (tp : Addr) (cs : List V) (us : List Value) (b : Bool), xs = [.ref a, .ref tp] ∧ SqT K H tp cs ∧ Paired ClsV cs us ∧ PySem.W.kitAny K (.ref D) us = some b ∧ Q (.bl b) H
theorem call_isET {X : Cx} {a D : Addr} {oe : Obj} {pn : List (Addr × Obj)} (C : ExcC X.K D) (hz : Zc (.ref D) none oe) (hf : ∃ vs, oe.data = .fields vs) : CallR (X.suite a ((a, oe) :: pn)) (.builtin "isinstance") (rIsET X.K D a) := by
  intro pins s σ H xs us Q I r h
  obtain ⟨tp, cs, ws, b, rfl, hT, hcl, e, q⟩ := h
  cases r with
  | cons rx rr =>
    cases rr with
    | cons rt rr =>
      cases rr
      cases rx
      cases rt
      obtain ⟨hget, _⟩ := I.pin (a, oe) (List.mem_append.mpr (.inl List.mem_cons_self))
      obtain ⟨vs, hv⟩ := hf
      have J : PySem.W.InstAt s.heap a oe D none := by
        obtain ⟨oc, od, oda, osl⟩ := oe
        obtain ⟨h1, h2⟩ := hz
        dsimp only at h1 h2 hv
        subst h1 h2 hv
        exact ⟨hget, rfl, rfl, trivial⟩
      obtain ⟨its, rv, ⟨⟨oc, od, dt, sl⟩, ho, hc, n, hd⟩, hs⟩ := I.tuple hT
      simp only at hc hd
      subst hc hd
      have e3 := ClsV.all hcl rv
      subst e3
      exact PySem.W.kia_tup (PySem.W.handS_kitx_exc C.hg C.hk C.hs C.hd C.ha C.hn C.ht C.hm) I.kIn J ho e (fun z => nomatch z) fun tk => ⟨.bl b, H, I.kept (t' := tk) fun _ _ z => z, rfl, q⟩
/-- what stands of a context within a suite -/
structure CS (K : PySem.W.Frag) (mg : Str → Option Value) (S : Sc) (X : Cx) : Prop where
  hK : X.K = K
  hmg : X.mg = mg
  hN : X.N = S.N
  hsc : X.env.scope = S.sc
  ok : S.ok = true
section
variable {P : Program} {w : World} {K : PySem.W.Frag} {mg : Str → Option Value} {base : Heap} {S : Sc} {k : Nat} {X : Cx} {B : Bs} {E : XW} {G : List Ent} {a b e : Expr} {pos p : Pos} {x : Str}
theorem CS.of (cj : CJ P w K mg base S k X B E) {a : Addr} {pn : List (Addr × Obj)} : CS K mg S (X.suite a pn) := ⟨cj.hK, cj.hmg, cj.hN, cj.hsc, cj.ok⟩
theorem CS.gl (cs : CS K mg S X) {j : Nat} {x : Str} (h : S.gl[j]? = some x) : Gl X x := by
  show X.env.scope.names.lookup x = _
  rw [cs.hsc]; exact (Sc.glb cs.ok h).2
theorem cs_name (cs : CS K mg S X) (i : Nat) {d : J.D} {Q : J.D → List Ent → Prop} (h : Q d G) (hN : S.N[i]? = some x := by rfl) (hv : i ∈ S.vi := by decide) (hg : G[i]? = some (.fz d) := by rfl) : JV X B (.Name x pos) G Q := fun t s z F H VQ hl c q => by
  have hn := okName_of (Sc.vis cs.ok hv hN).1
  have xN : X.N[i]? = some x := by rw [cs.hN]; exact hN
  have vs : Vis X.env.scope x := by rw [cs.hsc]; exact (Sc.vis cs.ok hv hN).2
  refine tS_of (pe_var xN vs hn.1 hn.2.1) ?_
  have hi' : (z ++ G)[t.length + i]? = some (.fz d) := by rw [hl, get_app]; exact hg
  obtain ⟨v, e1, y, e2, dp⟩ := c.at hi'
  subst e2
  rw [get_app] at e1
  exact ⟨y, e1, q y F H d G (c.fz dp) h⟩
theorem cs_glob (cs : CS K mg S X) (j : Nat) {v : V} {u : Value} {d : J.D} {Q : J.D → List Ent → Prop} (hm : mg x = some u) (r : RelV v u) (dp : ∀ F, DP K F v d) (h : Q d G) (hj : S.gl[j]? = some x := by rfl) : JV X B (.Name x pos) G Q := fun t s z F H VQ hl c q => by
  have hn := okName_of (Sc.glb cs.ok hj).1
  have := cs.hK
  exact tS_of (pe_glob (cs.gl hj) (by rw [cs.hmg]; exact hm) r hn.1) (q v F H d G (c.fz (by rw [this]; exact dp F)) h)
theorem cs_nameF (cs : CS K mg S X) (i : Nat) {o : Ow} {d : J.D} {Q : J.D → List Ent → Prop} (h : Q d (G.set i (.fz d))) (hN : S.N[i]? = some x := by rfl) (hv : i ∈ S.vi := by decide) (hg : G[i]? = some (.ow o) := by rfl) (hf : frzOw o = some d := by rfl) : JV X B (.Name x pos) G Q := fun t s z F H VQ hl c q => by
  have hi' : (z ++ G)[z.length + i]? = some (.ow o) := by rw [get_app]; exact hg
  obtain ⟨F2, _, c2⟩ := c.freeze hi' hf
  rw [set_app] at c2
  have hlt : i < G.length := (List.getElem?_eq_some_iff.mp hg).1
  exact cs_name cs i (G := G.set i (.fz d)) (Q := Q) h hN hv (by rw [List.getElem?_set_self hlt]) t s z F2 H VQ hl c2 q
/-- isinstance(e, C), e caught -/
theorem cs_isE1 {a0 : Addr} {oe : Obj} {pn : List (Addr × Obj)} {D : Addr} (cs : CS K mg S (X.suite a0 ((a0, oe) :: pn))) (C : ExcC K D) (hz : Zc (.ref D) none oe) (hf : ∃ vs, oe.data = .fields vs) (j : Nat) {Q : J.D → List Ent → Prop} (hm : mg "isinstance" = none)
    (h : JV (X.suite a0 ((a0, oe) :: pn)) B a G fun d1 G1 => JV (X.suite a0 ((a0, oe) :: pn)) B b G1 fun d2 G2 => ∃ c cv r, d1 = .raw (.ref a0) ∧ d2 = .raw c ∧ ClsV c cv ∧ PySem.W.kitOne K (.ref D) cv = some r ∧ Q (.bl r) G2) (hj : S.gl[j]? = some ("isinstance" : Str) := by rfl)
    (he : starEach [a, b] X.env = (false, eval a X.env) :: starEach [b] X.env := by rfl) (he2 : starEach [b] X.env = (false, eval b X.env) :: starEach [] X.env := by rfl) (hpl : (backTo pos (starEach [b] X.env)).any (·.1) = false := by rfl) :
    JV (X.suite a0 ((a0, oe) :: pn)) B (.Call (.Name "isinstance" p) [a, b] [] pos) G Q := fun t s z F H VQ hl c q => by
  have hK : X.K = K := cs.hK
  have hn := okName_of (Sc.glb cs.ok hj).1
  refine tS_of (pe_callB (call_isE (hK.symm ▸ C) hz hf) (cs.gl hj) (by rw [cs.hmg]; exact hm) (by decide +kernel) (pa_cons pe_sem (pa_cons pe_sem pa_nil he2) he) hn.2.2 hn.1 he hpl)
    (run2 h hl c fun v u F' H' d1 d2 G' c' ⟨cc, cv, r, e1, e2, hcv, hk, hq⟩ => ?_)
  subst e1 e2
  cases c'.pop.top
  cases c'.top
  exact ⟨_, cv, r, rfl, fun u hu => hcv.eq hu, by rw [hK]; exact hk, q _ F' H' _ G' (c'.pop.pop.fz (.bl r)) hq⟩
/-- isinstance(e, (C, ..)) -/
theorem cs_isET {a0 : Addr} {oe : Obj} {pn : List (Addr × Obj)} {D : Addr} (cs : CS K mg S (X.suite a0 ((a0, oe) :: pn))) (C : ExcC K D) (hz : Zc (.ref D) none oe) (hf : ∃ vs, oe.data = .fields vs) (j : Nat) {Q : J.D → List Ent → Prop} (hm : mg "isinstance" = none)
    (h : JV (X.suite a0 ((a0, oe) :: pn)) B a G fun d1 G1 => JV (X.suite a0 ((a0, oe) :: pn)) B b G1 fun d2 G2 => ∃ (vs : List V) (us : List Value) (r : Bool), d1 = .raw (.ref a0) ∧ d2 = .tup (vs.map .raw) ∧ Paired ClsV vs us ∧ PySem.W.kitAny K (.ref D) us = some r ∧ Q (.bl r) G2) (hj : S.gl[j]? = some ("isinstance" : Str) := by rfl)
    (he : starEach [a, b] X.env = (false, eval a X.env) :: starEach [b] X.env := by rfl) (he2 : starEach [b] X.env = (false, eval b X.env) :: starEach [] X.env := by rfl) (hpl : (backTo pos (starEach [b] X.env)).any (·.1) = false := by rfl) :
    JV (X.suite a0 ((a0, oe) :: pn)) B (.Call (.Name "isinstance" p) [a, b] [] pos) G Q := fun t s z F H VQ hl c q => by
  have hK : X.K = K := cs.hK
  have hn := okName_of (Sc.glb cs.ok hj).1
  refine tS_of (pe_callB (call_isET (hK.symm ▸ C) hz hf) (cs.gl hj) (by rw [cs.hmg]; exact hm) (by decide +kernel) (pa_cons pe_sem (pa_cons pe_sem pa_nil he2) he) hn.2.2 hn.1 he hpl)
    (run2 h hl c fun v u F' H' d1 d2 G' c' ⟨vs, us, r, e1, e2, hcv, hk, hq⟩ => ?_)
  subst e1 e2
  have sm := c'.fh
  cases c'.pop.top
  have raws : ∀ {xs vs : List V}, Paired (DP (X.suite a0 ((a0, oe) :: pn)).K F') xs (vs.map J.D.raw) → xs = vs := by
    intro xs
    induction xs with
    | nil => intro vs h; cases vs with
      | nil => rfl
      | cons _ _ => cases h
    | cons x xs ih => intro vs h; cases vs with
      | nil => cases h
      | cons v vs => cases h with
        | cons r t => cases r; rw [ih t]
  cases c'.top with
  | @tup tp xs _ h1 h2 =>
    rw [raws h2] at h1
    exact ⟨tp, vs, us, r, rfl, sameT sm h1, hcv, by rw [hK]; exact hk, q _ F' H' _ G' (c'.pop.pop.fz (.bl r)) hq⟩
end
/-! ## where one stands in a try's body -/
structure CT (P : Program) (w : World) (K : PySem.W.Frag) (mg : Str → Option Value) (base : Heap) (S : Sc) (k : Nat) (X : Cx) (B : Bs) (E : XW) : Prop where
  hprog : X.prog = P
  hw : X.w = w
  hK : X.K = K
  hmg : X.mg = mg
  hbase : X.base = base
  hN : X.N = S.N
  hsc : X.env.scope = S.sc
  ok : S.ok = true
  hr : Room k X.A
  tk : Takes X E.W
  lk : ∀ (t s : St) (z : List Ent) (F H : Hp) (G : List Ent) (x : XD) (od : Option Addr), t.length = z.length → Conf X.K B (t ++ s) F H (z ++ G) → XOk X.K F H x od → E.R x G → E.W (.ref x.C) od s H
def JSs0 (X : Cx) (B : Bs) (sts : List Stmt) (G : List Ent) (D : Dn) : Prop :=
  ∀ (s : St) (F H : Hp) (De : Ends), Conf X.K B s F H G → DOk X B [] [] s.length D De → tSs X sts De s H
section
variable {P : Program} {w : World} {K : PySem.W.Frag} {mg : Str → Option Value} {base : Heap} {S : Sc} {k : Nat} {X : Cx} {B : Bs} {E : XW} {G : List Ent} {a b e : Expr} {es : List Expr} {pos p : Pos} {x : Str}
theorem CT.cs (ct : CT P w K mg base S k X B E) : CS K mg S X := ⟨ct.hK, ct.hmg, ct.hN, ct.hsc, ct.ok⟩
theorem ct_call0 {U : J.Spec} {kf : Nat} {f : Addr} {fd : FuncData} {ps : List Str} {Q : Ent → List Ent → Prop} (ct : CT P w K mg base S k X B E) (Fo : FnOk P w K mg base (L2.CX P w) kf f fd ps (SpJ K U)) (hk : kf ≤ k) (j : Nat)
    (hm : mg x = some (.ref f)) (kp : PySem.W.keepIn K (.ref f) = true) (bi : Binds K fd ps [])
    (h : JD X B (e :: es) G fun ds G' => U (ds.map .v) (fun r _ => Q r G') (fun x => E.R x G'))
    (hj : S.gl[j]? = some x := by rfl) (he : starEach (e :: es) X.env = (false, eval e X.env) :: starEach es X.env := by rfl) (hpl : (backTo pos (starEach es X.env)).any (·.1) = false := by rfl) :
    JE X B (.Call (.Name x p) (e :: es) [] pos) G Q := fun t s z F H VQ hl c q => by
  have hm' : X.mg x = some (.ref f) := by rw [ct.hmg]; exact hm
  have kp' : PySem.W.keepIn X.K (.ref f) = true := by rw [ct.hK]; exact kp
  have bi' : Binds X.K fd ps [] := by rw [ct.hK]; exact bi
  have Fo' : FnOk X.prog X.w X.K X.mg X.base (L2.CX P w) kf f fd ps (SpJ K U) := by rw [ct.hprog, ct.hw, ct.hK, ct.hmg, ct.hbase]; exact Fo
  have cxx : ∀ s : St, PassesAt (L2.CX P w) X s (WE E.W s) := fun s => by
    have := passAt ct.tk s
    rwa [ct.hprog, ct.hw] at this
  refine tS_of (pe_callS (CX := L2.CX P w) (E := WE E.W) Fo' (ct.hr.mono hk) (ct.cs.gl hj) hm' kp' bi' cxx pa_sem (okName_of (Sc.glb ct.ok hj).1).1 he hpl) ?_
  show tAr X (e :: es) s H fun vs H1 => SpJ K U vs H1 VQ (WE E.W s)
  refine h t s z F H _ hl c fun vs as F1 H1 G1 c1 ab ⟨ds, eas, sp⟩ => ?_
  subst eas
  have hK := ct.hK
  rw [← hK]
  have ok := okB_vs G1 ds
  have pe := parsOf_vs G1 ds
  refine ⟨F1, parsOf G1 (ds.map .v), ⟨F1, H1, vs, lentM vs (ds.map .v)⟩, _, _, rfl, rfl, rfl, c1.enter hl ab ok, by rw [pe]; exact sp, fun v F' H' r bs fi hq => ?_, fun x F' H' od c' xo hx => ?_⟩
  · obtain ⟨c2, hn⟩ := Conf.leave rfl hl c1 ab ok fi.c bs fi.bs
    rw [updB_vs] at c2 hn
    exact q v F' H' r _ (c2.result hn fi.c rfl c1.there fi.ir) fi.ir hq
  · obtain ⟨c2, _⟩ := Conf.leave rfl hl c1 ab ok c' [] (fun p hp => by cases hp)
    rw [updB_vs] at c2
    exact ct.lk t s z F' H' _ x od hl c2 xo hx
theorem JSs0.of {sts : List Stmt} {D : Dn} (h : JSs X B sts G D) : JSs0 X B sts G D := fun s F H De c k => h [] s [] F H De rfl c k
theorem JSs0.cons {st : Stmt} {sts : List Stmt} {D : Dn} (h : JS X B st G { D with nx := fun G' => JSs0 X B sts G' D }) : JSs0 X B (st :: sts) G D := fun s F H De c k =>
  tSs_of (pss_cons ps_sem pss_sem) (h [] s [] F H _ rfl c ⟨fun s' F' H' G' e c' q => q s' F' H' De c' (by rw [e]; exact k), k.rt, k.bk, k.ct⟩)
theorem JSs0.freeze {sts : List Stmt} {D : Dn} (i : Nat) {o : Ow} {d : J.D} (hi : G[i]? = some (.ow o)) (hf : frzOw o = some d) (h : JSs0 X B sts (G.set i (.fz d)) D) : JSs0 X B sts G D := fun s F H De c k => by
  obtain ⟨F2, _, c2⟩ := c.freeze hi hf
  exact h s F2 H De c2 k
theorem JSs0.forget {sts : List Stmt} {D : Dn} (i : Nat) (h : JSs0 X B sts (G.set i .no) D) : JSs0 X B sts G D := fun s F H De c k => h s F H De (c.forget (i := i)) k
/-- what the wish of a body asks of an exception that leaves it -/
def TryR (K : PySem.W.Frag) (X : Cx) (B : Bs) (E : XW) (i : Nat) (c : Value) (suite : List Stmt) (DS : Dn) (xd : XD) (G : List Ent) : Prop :=
  ∃ b, PySem.W.exmOne K (.ref xd.C) c = some b ∧
    (b = true → xd.fs = [] ∧ ∀ a oe pn, Zc (.ref xd.C) none oe → (∃ vs, oe.data = .fields vs) → JSs (X.suite a ((a, oe) :: pn)) B suite (G.set i (.fz (.raw (.ref a)))) DS) ∧ (b = false → E.R xd G)
theorem JSs0.try_ (cj : CJ P w K mg base S k X B E) (i j : Nat) {n : Str} {body suite rest : List Stmt} {b₀ : Stmt} {c : Value} {np pos' : Pos} {D : Dn} (hst : X.stack = X.env :: X.outer) (hfr : X.env.frame = some X.env.locals) (hc : mg x = some c)
    (h : ∀ X' E', CT P w K mg base S k X' B E' → (∀ xd G', TryR K X B E i c (b₀ :: suite) ⟨fun G2 => JSs0 X B rest (G2.set i .no) D, D.rt, fun _ => False, fun _ => False⟩ xd G' → E'.R xd G') →
      JSs X' B body G ⟨fun G' => JSs0 X B rest G' D, D.rt, D.bk, D.ct⟩)
    (hj : S.gl[j]? = some x := by rfl) (hN : S.N[i]? = some n := by rfl) (hln : S.sc.names.lookup n = some .local := by decide +kernel) :
    JSs0 X B (.Try body [.ExceptHandler (some (.Name x np)) (some n) (b₀ :: suite) pos'] [] [] pos :: rest) G D := fun s F H De cf kk => by
  have nm : Names X x c := ⟨cj.gl hj, cj.dbg hj, .inl (cj.mgx hc)⟩
  have hln' : X.env.kindOf n = some .local := by show X.env.scope.names.lookup n = _; rw [cj.hsc]; exact hln
  refine tSs_of (pss_cons (ps_try_as (i := i) (Wout := E.W) (tb := fun W D σ H => ∀ (pn : List (Addr × Obj)) (xe : Value → Shared → Prop), Takes (X.tr pn xe) W → PassesOwn (model X.prog X.w) X.A X.env xe → tSs (X.tr pn xe) body D σ H)
    (ts := fun a cls d D σ H => ∀ oe pn, Zc cls d oe → (∃ vs, oe.data = .fields vs) → tSs (X.suite a ((a, oe) :: pn)) (b₀ :: suite) D σ H) hst hfr cj.nd (cj.xN hN) hln' nm cj.tk
    (fun W pn xe tk po => ⟨fun pins s _ _ _ I h => h pn xe tk po pins s I⟩) (fun a oe cls d pn hz hf => ⟨fun pins s _ _ _ I h => h oe pn hz hf pins s I⟩)) pss_sem) ?_
  intro pn xe tk po pins0 sh0 I0
  have slen : s.length = X.N.length := I0.len
  have tk2 : Takes (X.tr pn xe) (fun cls d σ H => σ.length = s.length → wAs X.K c i (fun a cls d D σ H => ∀ oe pn, Zc cls d oe → (∃ vs, oe.data = .fields vs) → tSs (X.suite a ((a, oe) :: pn)) (b₀ :: suite) D σ H) E.W
      { De with nx := fun σ H => tSs X rest De σ H } cls d σ H) := fun u s' ⟨a, B0, sI, pins, σ, H, cls, d, e1, I, q1, q2, q3, q4, q5, q6, W⟩ =>
    tk u s' ⟨a, B0, sI, pins, σ, H, cls, d, e1, I, q1, q2, q3, q4, q5, q6, W (by rw [slen]; exact I.len)⟩
  revert pins0 sh0 I0
  refine h (X.tr pn xe) ⟨_, TryR K X B E i c (b₀ :: suite) ⟨fun G2 => JSs0 X B rest (G2.set i .no) D, D.rt, fun _ => False, fun _ => False⟩⟩ ⟨cj.hprog, cj.hw, cj.hK, cj.hmg, cj.hbase, cj.hN, cj.hsc, cj.ok, cj.hr, tk2, ?_⟩ (fun _ _ h => h) [] s [] F H _ rfl cf ?_
  · intro t s2 z F2 H2 G2 xd od hl cc xo ⟨b, hx, hb1, hb2⟩ hlen2
    have hKe : (X.tr pn xe).K = K := cj.hK
    refine ⟨b, by rw [cj.hK]; exact hx, fun eb a na => ?_, fun eb => cj.lk t s2 z F2 H2 G2 xd od hl cc xo (hb2 eb)⟩
    obtain ⟨hfs, hs⟩ := hb1 eb
    intro oe pn2 hz hf
    have eod : od = none := by
      rcases xo with ⟨_, h⟩ | ⟨hne, _⟩
      · exact h
      · exact absurd hfs hne
    subst eod
    have c1 : Conf X.K B s2 F2 H2 G2 := by
      have dropM : ∀ {hv : St} {he : List Ent} {u : St} {g : List Ent}, hv.length = he.length → Conf X.K B (hv ++ u) F2 H2 (he ++ g) → Conf X.K B u F2 H2 g := by
        intro hv
        induction hv with
        | nil => intro he u g hl c; cases he with
          | nil => exact c
          | cons _ _ => simp at hl
        | cons v hv ih => intro he u g hl c; cases he with
          | nil => simp at hl
          | cons e he => exact ih (by simpa using hl) c.pop
      exact dropM hl cc
    have c2 : Conf X.K B ([] ++ s2.set i (some (.ref a))) F2 H2 ([] ++ G2.set i (.fz (.raw (.ref a)))) := Conf.store (t := []) (z := []) rfl (c1.fz (.raw (.ref a)))
    refine hs a oe pn2 hz hf [] _ [] F2 H2 _ rfl c2 ⟨fun s' F' H' G' e c' q => ?_, kk.rt, fun _ _ _ _ _ _ q => q.elim, fun _ _ _ _ _ _ q => q.elim⟩
    have c3 : Conf X.K B ([] ++ s'.set i none) F' H' ([] ++ G'.set i .no) := Conf.store (t := []) (z := []) rfl (Conf.push (v := none) (e := .no) c' trivial (oad_no _))
    have len2 : (s'.set i none).length = s.length := by
      have h1 := c1.len
      have h2 := c'.len
      have h3 := cf.len
      rw [List.length_set, e, List.length_set]
      exact hlen2
    exact q _ F' H' De c3 ⟨by rw [len2]; exact kk.nx, kk.rt, by rw [len2]; exact kk.bk, by rw [len2]; exact kk.ct⟩
  · exact ⟨fun s' F' H' G' e c' q => q s' F' H' De c' (by rw [e]; exact kk), kk.rt, kk.bk, kk.ct⟩
/-- THE RULE for a def whose body has a try -/
theorem jfn0 {x qual : Str} {st : Stmt} {f : Addr} {fd : FuncData} {ps : List Str} {k : Nat} (Fu : Fun K x qual st f fd) (Z : Sc) (hz : Z.ok = true) (S : FnScope Z.N ps Z.sc) (spec : J.Spec) (len : ∀ as R RX, spec as R RX → as.length = ps.length)
    (body : ∀ (X : Cx) (B : Bs) (E : XW) (as : List Par) (R : Ent → List (Nat × Ow) → Prop) (RX : XD → Prop), CJ P w K mg base Z k X B E → X.stack = X.env :: X.outer → X.env.frame = some X.env.locals → (∀ x G, RX x → E.R x G) → spec as R RX →
      JSs0 X B (defBody st) (parEnts 0 as ++ List.replicate (Z.N.length - ps.length) .no) ⟨fun G' => R (.fz .non) (bws G'), fun r G' => R r (bws G'), fun _ => False, fun _ => False⟩) (hsc : Z.sc = defScope st := by rfl) :
    FnOk P w K mg base (L2.CX P w) (k + 1) f fd ps (SpJ K spec) := by
  have plen : ∀ {vs : List V} {H : Hp} {Q : VK} {E : XK}, SpJ K spec vs H Q E → vs.length = ps.length := fun {vs H Q E} h => by
    obtain ⟨F, as, B, R, RX, _, _, _, c, sp, _⟩ := h
    have := c.len
    rw [List.length_map, parEnts_len] at this
    rw [this]; exact len _ _ _ sp
  refine Fu.okX (hsc ▸ S) (fun vs H Q E h => plen h) fun cdv A outer s H vs Q E hr h => ?_
  have hlen := plen h
  obtain ⟨F, as, B, R, RX, e0, e1, e2, c, sp, hq, hx⟩ := h
  refine ⟨_, pss_sem, ?_⟩
  have cj : CJ P w K mg base Z k (cxOf (L2.CX P w) P w K mg base Z.N qual (defScope st) f cdv A outer s H E) B ⟨fun cls d _ H => E cls d H, fun x _ => RX x⟩ :=
    ⟨rfl, rfl, rfl, rfl, rfl, rfl, hsc.symm, hz, fun _ _ _ _ => .inl rfl, rfl, hr, passes_of rfl, takes_of rfl rfl rfl rfl, fun _ _ _ _ _ h => h, fun t s z F H G x od _ c xo r => hx x F H od c.nil xo r⟩
  have b := body _ B _ as R RX cj rfl rfl (fun _ _ h => h) sp
  refine b (L2.start Z.N vs) F H _ ?_ ⟨fun s' F' H' G' _ c' q => ?_, fun v s' F' H' r G' c' ir q => ?_, fun _ _ _ _ _ _ q => q.elim, fun _ _ _ _ _ _ q => q.elim⟩
  · have := c.nos (Z.N.length - vs.length)
    rw [hlen] at this
    show Conf K B (L2.start Z.N vs) F H _
    unfold L2.start
    rw [hlen]
    exact this
  · exact hq _ F' H' _ _ ((c'.fz (v := .non) (d := .non) .non).fin trivial) q
  · exact hq v F' H' r _ (c'.fin ir) q
end
end J

namespace J
open PySem PySem.Spec L2
section
variable {P : Program} {w : World} {K : PySem.W.Frag} {mg : Str → Option Value} {base : Heap} {S : Sc} {k : Nat} {X : Cx} {B : Bs} {E : XW} {G : List Ent} {a b e : Expr} {es : List Expr} {pos p : Pos} {x : Str}
theorem cs_ty (cs : CS K mg S X) (j : Nat) {T : String} {Q : D → List Ent → Prop} (hm : mg x = none) (hv : bootBuiltins x = some (.type T)) (h : Q (.raw (.ty T)) G) (hj : S.gl[j]? = some x := by rfl) : JV X B (.Name x pos) G Q := fun t s z F H VQ hl c q => by
  have hn := okName_of (Sc.glb cs.ok hj).1
  exact tS_of (pe_bltn (v := .ty T) (cs.gl hj) (by rw [cs.hmg]; exact hm) hv rfl hn.2.2 hn.1) (q _ F H _ G (c.fz (.raw _)) h)
/-- a class by its name -/
theorem cs_cls (cs : CS K mg S X) (j : Nat) {C : Addr} {Q : D → List Ent → Prop} (hm : mg x = some (.ref C)) (h : Q (.raw (.ref C)) G) (hj : S.gl[j]? = some x := by rfl) : JV X B (.Name x pos) G Q :=
  cs_glob (v := .ref C) cs j hm rfl (fun _ => .raw _) h hj
end
end J

namespace J
open PySem PySem.Spec L2
/-! ## dicts whose keys are ints -/
abbrev KD := List (Int × D)
def kd (m : KD) : List (Key × D) := m.map fun p => (Sum.inl p.1, p.2)
def dget (m : KD) (k : Int) : Option D := (m.find? fun p => decide (p.1 = k)).map (·.2)
def dput (m : KD) (k : Int) (d : D) : KD := if (m.any fun p => decide (p.1 = k)) = true then m.map (fun p => if p.1 = k then (p.1, d) else p) else m ++ [(k, d)]
theorem pk_get {K : PySem.W.Frag} {F : Hp} (k : Int) : ∀ {kvs : List (Key × V)} {m : KD}, PK K F kvs (kd m) → (dget m k = none → valV kvs (Sum.inl k) = none) ∧ (∀ d, dget m k = some d → ∃ v, valV kvs (Sum.inl k) = some v ∧ DP K F v d)
  | _, [], h => by cases h; exact ⟨fun _ => rfl, fun d h => by simp [dget] at h⟩
  | _, (n, d0) :: m, h => by
    cases h with
    | @cons p _ kvs _ r t =>
      obtain ⟨kk, v⟩ := p
      obtain ⟨e, dp⟩ := r
      simp only at e dp
      subst e
      by_cases z : n = k
      · subst z
        refine ⟨fun h => by simp [dget] at h, fun d hd => ⟨v, by rw [valV_pos rfl], ?_⟩⟩
        simp [dget] at hd; subst hd; exact dp
      · have ih := pk_get (K := K) (F := F) k t
        have hz : ¬ (Sum.inl n : Key) = Sum.inl k := fun e => z (Sum.inl.inj e)
        have e1 : dget ((n, d0) :: m) k = dget m k := by simp [dget, List.find?_cons, z]
        rw [valV_neg hz, e1]
        exact ih
theorem pk_put {K : PySem.W.Frag} {F : Hp} (k : Int) {v : V} {d : D} (dp : DP K F v d) {kvs : List (Key × V)} {m : KD} (h : PK K F kvs (kd m)) : PK K F (putK kvs (Sum.inl k) v) (kd (dput m k d)) := by
  have any_eq : ∀ {kvs : List (Key × V)} {m : KD}, PK K F kvs (kd m) → (kvs.any fun kv => decide (kv.1 = (Sum.inl k : Key))) = (m.any fun p => decide (p.1 = k)) := by
    intro kvs m
    induction m generalizing kvs with
    | nil => intro h; cases h; rfl
    | cons p m ih =>
      intro h
      cases h with
      | cons r t =>
        rw [List.any_cons, List.any_cons, ih t]
        congr 1
        rw [r.1]
        by_cases z : p.1 = k
        · rw [decide_eq_true z, decide_eq_true (show (Sum.inl p.1 : Key) = Sum.inl k by rw [z])]
        · rw [decide_eq_false z, decide_eq_false fun e => z (Sum.inl.inj e)]
  have map_eq : ∀ {kvs : List (Key × V)} {m : KD}, PK K F kvs (kd m) → PK K F (kvs.map fun kv => if kv.1 = (Sum.inl k : Key) then (kv.1, v) else kv) (kd (m.map fun p => if p.1 = k then (p.1, d) else p)) := by
    intro kvs m
    induction m generalizing kvs with
    | nil => intro h; cases h; exact .nil
    | cons p m ih =>
      intro h
      cases h with
      | @cons q _ _ _ r t =>
        refine .cons ?_ (ih t)
        obtain ⟨r1, r2⟩ := r
        have r1 : q.1 = (Sum.inl p.1 : Key) := r1
        show (if q.1 = (Sum.inl k : Key) then (q.1, v) else q).1 = (Sum.inl (if p.1 = k then (p.1, d) else p).1 : Key) ∧ DP K F (if q.1 = (Sum.inl k : Key) then (q.1, v) else q).2 (if p.1 = k then (p.1, d) else p).2
        by_cases z : p.1 = k
        · rw [if_pos (by rw [r1, z]), if_pos z]; exact ⟨r1, dp⟩
        · rw [if_neg (by rw [r1]; exact fun e => z (Sum.inl.inj e)), if_neg z]; exact ⟨r1, r2⟩
  unfold putK dput
  rw [any_eq h]
  split
  · exact map_eq h
  · unfold kd
    rw [List.map_append]
    exact papp h (.cons ⟨rfl, dp⟩ .nil)
section
variable {P : Program} {w : World} {K : PySem.W.Frag} {mg : Str → Option Value} {base : Heap} {S : Sc} {k : Nat} {X : Cx} {B : Bs} {E : XW} {G : List Ent} {a b e : Expr} {es : List Expr} {pos p : Pos} {x : Str}
theorem je_dnew {Q : Ent → List Ent → Prop} (h : Q (.ow (.dK (kd []))) G) : JE X B (.Dict [] [] pos) G Q := fun t s z F H VQ hl c q =>
  tS_of pe_dnewK fun p np => q (.ref p) F _ _ G (c.new (o := .dK (kd [])) np ⟨[], upd_same, .nil⟩) trivial h
/-- x[e], x an own dict -/
theorem jv_dget (cj : CJ P w K mg base S k X B E) (i : Nat) {xp : Pos} {Q : D → List Ent → Prop} (h : JV X B e G fun d2 G2 => ∃ m n d, entOw G2[i]? = some (.dK (kd m)) ∧ d2 = .int n ∧ dget m n = some d ∧ Q d G2) (hN : S.N[i]? = some x := by rfl) (hv : i ∈ S.vi := by decide) (hg : (entOw G[i]?).isSome = true := by rfl) (hs : NoSl e := by exact fun _ _ => rfl) :
    JV X B (.Subscript (.Name x xp) e pos) G Q := fun t s z F H VQ hl c q => by
  have hn := okName_of (Sc.vis cj.ok hv hN).1
  refine tS_of (pe_dget (by have := cj.hr.units; omega) (pe_var (cj.xN hN) (cj.vis hv hN) hn.1 hn.2.1) pe_sem hs) ?_
  obtain ⟨o, ho⟩ := Option.isSome_iff_exists.mp hg
  obtain ⟨y, e1, _⟩ := c.slot hl ho
  refine ⟨.ref y, e1, h t s z F H _ hl c fun u F' H' d2 G2 c2 ⟨m, n, d, h1, h2, h3, h4⟩ => ?_⟩
  subst h2
  cases c2.top
  obtain ⟨y', e1', ⟨ks, o1, o2⟩, _⟩ := c2.pop.slot hl h1
  rw [e1] at e1'
  cases e1'
  obtain ⟨v, h5, h6⟩ := (pk_get n o2).2 d h3
  refine ⟨y, v, rfl, ?_, q v F' H' d G2 (c2.pop.fz h6) h4⟩
  have := DGet.k (k := Sum.inl n) o1
  rw [h5] at this
  exact this
/-- x[e] = v, x an own dict -/
theorem js_dput (cj : CJ P w K mg base S k X B E) (i : Nat) {xp tp sp : Pos} {Dd : Dn} (h : JV X B e G fun d G1 => JV X B b G1 fun d2 G2 => ∃ m n, entOw G2[i]? = some (.dK (kd m)) ∧ d2 = .int n ∧ m.length < sizeLine ∧ Dd.nx (setOw G2 i (.dK (kd (dput m n d))))) (hN : S.N[i]? = some x := by rfl) (hv : i ∈ S.vi := by decide)
    (hls : (entOw G[i]?).isSome = true := by rfl) (hs : swapsWith e (some (.Subscript (.Name x xp) b tp)) sp.line X.env = pure false := by rfl) : JS X B (.Assign [.Subscript (.Name x xp) b tp] e sp) G Dd := fun t s z F H De hl c kk => by
  have hn := okName_of (Sc.vis cj.ok hv hN).1
  refine tSt_of (ps_dput (by have := cj.hr.units; omega) (pe_var (cj.xN hN) (cj.vis hv hN) hn.1 hn.2.1) pe_sem pe_sem hs) ?_
  obtain ⟨o, ho⟩ := Option.isSome_iff_exists.mp hls
  obtain ⟨y, e1, _⟩ := c.slot hl ho
  refine h t s z F H _ hl c fun v F1 H1 d G1 c1 h2 => ?_
  refine ⟨.ref y, e1, h2 (some v :: t) s (.fz d :: z) F1 H1 _ (by simp [hl]) c1 fun u F2 H2 d2 G2 c2 ⟨m, n, h3, h4, h5, h6⟩ => ?_⟩
  subst h4
  cases c2.top
  have dp : DP X.K F2 v d := c2.pop.top
  obtain ⟨y', e1', ⟨ks, o1, o2⟩, _, wr⟩ := c2.pop.pop.slot hl h3
  rw [e1] at e1'
  cases e1'
  have hlen : ks.length < sizeLine := by rw [o2.length]; unfold kd; rw [List.length_map]; exact h5
  exact ⟨y, _, rfl, DPut.k (k := Sum.inl n) o1 hlen, kk.nx s F2 _ _ rfl (wr _ (.dK (kd (dput m n d))) ⟨_, upd_same, pk_put n dp o2⟩) h6⟩
/-- e not in x -/
theorem jt_dnotin (cj : CJ P w K mg base S k X B E) (i : Nat) {xp : Pos} {Q : Bool → List Ent → Prop} (h : JV X B e G fun d2 G2 => ∃ m n, entOw G2[i]? = some (.dK (kd m)) ∧ d2 = .int n ∧ Q (dget m n).isNone G2) (hN : S.N[i]? = some x := by rfl) (hv : i ∈ S.vi := by decide) :
    JT X B (.Compare e [.NotIn] [.Name x xp] pos) G Q := fun t s z F H TQ hl c q => by
  have hn := okName_of (Sc.vis cj.ok hv hN).1
  refine tT_of (pt_cmp (pc_dnotin (by have := cj.hr.units; omega) pe_sem (pe_var (cj.xN hN) (cj.vis hv hN) hn.1 hn.2.1))) ?_
  refine h t s z F H _ hl c fun u F2 H2 d2 G2 c2 ⟨m, n, h3, h4, h5⟩ => ?_
  subst h4
  cases c2.top
  obtain ⟨y, e1, ⟨ks, o1, o2⟩, _⟩ := c2.pop.slot hl h3
  refine ⟨.ref y, e1, y, _, rfl, DGet.k (k := Sum.inl n) o1, ?_⟩
  have hb : (!(valV ks (Sum.inl n)).isSome) = (dget m n).isNone := by
    cases hd : dget m n with
    | none => rw [(pk_get n o2).1 hd]; rfl
    | some d => obtain ⟨v, h, _⟩ := (pk_get n o2).2 d hd; rw [h]; rfl
  rw [hb]
  exact ⟨_, rfl, q _ F2 H2 G2 c2.pop h5⟩
end
end J

namespace J
open PySem PySem.Spec L2
section
variable {P : Program} {w : World} {K : PySem.W.Frag} {mg : Str → Option Value} {base : Heap} {S : Sc} {k : Nat} {X : Cx} {B : Bs} {E : XW} {G : List Ent} {a b e : Expr} {es : List Expr} {pos p : Pos} {x : Str}
/-- {a: b}, the key an int -/
theorem je_disp1 {Q : Ent → List Ent → Prop} (h : JV X B a G fun d1 G1 => JV X B b G1 fun d2 G2 => ∃ n, d1 = .int n ∧ Q (.ow (.dK (kd [(n, d2)]))) G2) : JE X B (.Dict [some a] [b] pos) G Q := fun t s z F H VQ hl c q => by
  refine tS_of (pe_disp (pps_cons pe_sem pe_sem pps_nil) (by rfl) rfl (by simp) (by simp)) ?_
  intro p np
  have c1 : Conf X.K B ((some (.ref p) :: t) ++ s) F (upd H p (.dK [])) ((.ow (.dK (kd [])) :: z) ++ G) := c.new (o := .dK (kd [])) np ⟨[], upd_same, .nil⟩
  refine h (some (.ref p) :: t) s (.ow (.dK (kd [])) :: z) F _ _ (by simp [hl]) c1 fun v F1 H1 d1 G1 c2 h2 => ?_
  refine h2 (some v :: some (.ref p) :: t) s (.fz d1 :: .ow (.dK (kd [])) :: z) F1 H1 _ (by simp [hl]) c2 fun u F2 H2 d2 G2 c3 ⟨n, e1, hq⟩ => ?_
  subst e1
  have dp : DP X.K F2 u d2 := c3.top
  have c4 := c3.pop
  cases c4.top
  have c5 : Conf X.K B (some (.ref p) :: (t ++ s)) F2 H2 (.ow (.dK (kd [])) :: (z ++ G2)) := c4.pop
  obtain ⟨v0, e2, a0, e3, ⟨ks, o1, o2⟩, _⟩ := c5.at (i := 0) rfl
  cases e2
  cases e3
  have : ks = [] := by cases o2; rfl
  subst this
  refine ⟨o1, [(Sum.inl n, u)], rfl, by simp, ?_⟩
  have c6 := c5.write (i := 0) (o' := .dK (kd [(n, d2)])) (ho := .dK [(Sum.inl n, u)]) rfl rfl ⟨_, upd_same, .cons ⟨rfl, dp⟩ .nil⟩
  exact q _ F2 _ _ G2 c6 trivial hq
/-- sorted(x), x an own dict -/
theorem je_sortedD (cj : CJ P w K mg base S k X B E) (j i : Nat) {m : KD} {xp : Pos} {Q : Ent → List Ent → Prop} (hm : mg "sorted" = none) (hl64 : m.length < 64) (h : Q (.ow (.lst ((isort (m.map (·.1))).map .int))) G) (hg : entOw G[i]? = some (.dK (kd m)) := by rfl) (hj : S.gl[j]? = some "sorted" := by rfl) (hN : S.N[i]? = some x := by rfl) (hv : i ∈ S.vi := by decide)
    (he : starEach [.Name x xp] X.env = (false, eval (.Name x xp) X.env) :: starEach [] X.env := by rfl) (hpl : (backTo pos (starEach [] X.env)).any (·.1) = false := by rfl) : JE X B (.Call (.Name "sorted" p) [.Name x xp] [] pos) G Q := fun t s z F H VQ hl c q => by
  have hn := okName_of (Sc.vis cj.ok hv hN).1
  refine tS_of (pe_callB (call_sortedDI cj.calm) (cj.gl hj) (cj.mgx hm) (by decide +kernel) (pa_cons (pe_var (cj.xN hN) (cj.vis hv hN) hn.1 hn.2.1) pa_nil he) (cj.nnm hj) (cj.dbg hj) he hpl) ?_
  obtain ⟨y, e1, ⟨ks, o1, o2⟩, _⟩ := c.slot hl hg
  have keys : ∀ {kvs : List (Key × V)} {m : KD}, PK X.K F kvs (kd m) → kvs.map (·.1) = (m.map (·.1)).map Sum.inl := by
    intro kvs m
    induction m generalizing kvs with
    | nil => intro h; cases h; rfl
    | cons p m ih => intro h; cases h with
      | cons r t => rw [List.map_cons, ih t, r.1]; rfl
  refine ⟨.ref y, e1, y, ks, m.map (·.1), rfl, .inl o1, keys o2, by rw [List.length_map]; exact hl64, fun ys r pm so nr => ?_⟩
  rw [isort_of pm so]
  exact q _ F _ _ G (c.newL nr (dps_ints _)) trivial h
end
end J

namespace J
open PySem PySem.Spec L2
theorem pys_get : ∀ {ns : List Int} {j : Nat} {x : Int}, ns[j]? = some x → (D.pys (ns.map D.int))[j]? = some (D.py (.int x))
  | [], _, _, h => by simp at h
  | n :: ns, 0, x, h => by simp at h; subst h; rfl
  | n :: ns, j + 1, x, h => by
    show (D.pys (ns.map D.int))[j]? = _
    exact pys_get (by simpa using h)
theorem pys_getL : ∀ {ns : List Int} {j : Nat} {z : PyData}, (D.pys (ns.map D.int))[j]? = some z → ∃ x, ns[j]? = some x ∧ z = D.py (.int x)
  | [], _, _, h => by simp [D.pys] at h
  | n :: ns, 0, z, h => by
    have h : some (D.py (.int n)) = some z := h
    exact ⟨n, rfl, (Option.some.inj h).symm⟩
  | n :: ns, j + 1, z, h => by
    have h : (D.pys (ns.map D.int))[j]? = some z := h
    obtain ⟨x, h1, h2⟩ := pys_getL h
    exact ⟨x, by simpa using h1, h2⟩
theorem eqv_int (i j : Int) : PyData.eqv (D.py (.int i)) (D.py (.int j)) = decide (i = j) := deq_int i j
/-- the place of an int in a list -/
def ix (ns : List Int) (x : Int) : Nat := ns.findIdx fun y => decide (y = x)
theorem ix_spec {ns : List Int} {x : Int} (h : x ∈ ns) : ns[ix ns x]? = some x ∧ ∀ m, m < ix ns x → ∀ y, ns[m]? = some y → y ≠ x := by
  have hlt : ix ns x < ns.length := List.findIdx_lt_length_of_exists ⟨x, h, by simp⟩
  refine ⟨?_, fun m hm y hy => ?_⟩
  · rw [List.getElem?_eq_getElem hlt]
    have this' : ns[ix ns x] = x := of_decide_eq_true (List.findIdx_getElem (p := fun y => decide (y = x)) (xs := ns) (w := hlt))
    rw [this']
  · have := List.not_of_lt_findIdx hm
    have hm2 : m < ns.length := Nat.lt_trans hm hlt
    rw [List.getElem?_eq_getElem hm2] at hy
    cases hy
    simpa using this
section
variable {P : Program} {w : World} {K : PySem.W.Frag} {mg : Str → Option Value} {base : Heap} {S : Sc} {k : Nat} {X : Cx} {B : Bs} {E : XW} {G : List Ent} {a b e o : Expr} {es : List Expr} {pos p apos : Pos} {x : Str}
theorem CJ.u65 (cj : CJ P w K mg base S k X B E) : X.A.units + 65 < cLine := by have := cj.hr.un; omega
theorem jv_index (cj : CJ P w K mg base S k X B E) {cp : Pos} {Q : D → List Ent → Prop} (h : JV X B o G fun d1 G1 => ∃ ns : List Int, d1 = .lst (ns.map .int) ∧ JV X B e G1 fun d2 G2 => ∃ y, d2 = .int y ∧ y ∈ ns ∧ Q (.int (ix ns y : Nat)) G2)
    (hbase : attributeBase o "index" X.env (eval o X.env) = eval o X.env := by rfl)
    (hfew : ((backTo cp (starEach [e] X.env)).all (fun x => !x.1) && (backToKw cp (keywordEach [] X.env)).all (fun x => x.1.isSome) && decide (([e] : List Expr).length + ([] : List Keyword).length + (if ([] : List Keyword).isEmpty then 0 else 1) < 30)) = true := by rfl)
    (hline : (apos.endLine == cp.line) = true := by rfl) (hs : starEach [e] X.env = (false, eval e X.env) :: starEach [] X.env := by rfl) (hplain : (backTo cp (starEach [] X.env)).any (·.1) = false := by rfl) : JV X B (.Call (.Attribute o "index" apos) [e] [] cp) G Q := fun t s z F H VQ hl c q => by
  refine tS_of (pe_bm PySem.F.plainAttrs_list PySem.F.slot_list_index PySem.F.type_list_index (mt_indexD cj.u65) pe_sem (pa_cons pe_sem pa_nil hs) hbase hfew hline hs hplain) ?_
  refine h t s z F H _ hl c fun v F1 H1 d1 G1 c1 ⟨ns, e1, h2⟩ => ?_
  subst e1
  obtain ⟨l, xs, rfl, hx1, hx2⟩ : ∃ l xs, v = .ref l ∧ F1 l = some (.lst xs) ∧ DPs X.K F1 xs (ns.map .int) := by
    cases c1.top with | lst h1 h2 => exact ⟨_, _, rfl, h1, h2⟩
  refine ⟨.inl ⟨rfl, _, .of (c1.fh _ _ hx1)⟩, ?_⟩
  refine h2 (some (.ref l) :: t) s (.fz (.lst (ns.map .int)) :: z) F1 H1 _ (by simp [hl]) c1 fun u F2 H2 d2 G2 c2 ⟨y, e2, hy, hq⟩ => ?_
  subst e2
  obtain ⟨i1, i2⟩ := ix_spec hy
  have dl : Dp X.K H2 (.ref l) (D.py (.lst (ns.map .int))) := DP.dp _ _ c2.pop.topH (Flat.lst (k := 0) (flat_ints ns))
  have fl : Flat 1 (.lst (ns.map .int)) := .lst (flat_ints ns)
  have eu : u = .int y := by cases c2.top; rfl
  subst eu
  have dy : Dp X.K H2 (.int y) (D.py (.int y)) := DP.dp _ _ c2.topH (Flat.int (k := 0) y)
  exact ⟨l, .int y, _, _, ix ns y, _, rfl, rfl, dl, dy, fl.shaped, (Flat.int (k := 0) y).shaped, pys_get i1, by rw [eqv_int]; simp, fun m z' hm hz => by
    obtain ⟨x', h3, rfl⟩ := pys_getL hz
    rw [eqv_int]
    exact decide_eq_false (i2 m hm x' h3), q _ F2 H2 _ G2 (c2.pop.pop.fz (.int _)) hq⟩
/-- e in x, of ints -/
theorem any_int (ns : List Int) (y : Int) : ((D.pys (ns.map D.int)).any fun z => PyData.eqv z (D.py (.int y))) = decide (y ∈ ns) := by
  induction ns with
  | nil => rfl
  | cons n ns ih =>
    show (PyData.eqv (D.py (.int n)) (D.py (.int y)) || (D.pys (ns.map D.int)).any fun z => PyData.eqv z (D.py (.int y))) = _
    rw [ih, eqv_int]
    by_cases z : n = y
    · subst z; simp
    · have : ¬ y = n := fun e => z e.symm
      simp [z, this]
theorem relB_inL {ns : List Int} {y : Int} : RelB X (rInD X.K) (.int y) (.lst (ns.map .int)) (decide (y ∈ ns)) := fun v u H VQ h1 h2 q => by
  have fl : Flat 1 (.lst (ns.map .int)) := .lst (flat_ints ns)
  exact ⟨_, _, DP.dp _ v h1 (Flat.int (k := 0) y), DP.dp _ u h2 fl, (Flat.int (k := 0) y).shaped, fl.shaped, by rw [any_int]; exact q⟩
theorem relB_notinL {ns : List Int} {y : Int} : RelB X (rNotInD X.K) (.int y) (.lst (ns.map .int)) (!decide (y ∈ ns)) := fun v u H VQ h1 h2 q => by
  have fl : Flat 1 (.lst (ns.map .int)) := .lst (flat_ints ns)
  exact ⟨_, _, DP.dp _ v h1 (Flat.int (k := 0) y), DP.dp _ u h2 fl, (Flat.int (k := 0) y).shaped, fl.shaped, by rw [any_int]; exact q⟩
theorem jt_inL (cj : CJ P w K mg base S k X B E) {Q : Bool → List Ent → Prop} (h : JV X B a G fun d1 G1 => JV X B b G1 fun d2 G2 => ∃ (y : Int) (ns : List Int), d1 = .int y ∧ d2 = .lst (ns.map .int) ∧ Q (decide (y ∈ ns)) G2) (hm : behindInMarks .In b = false := by with_unfolding_all rfl) : JT X B (.Compare a [.In] [b] pos) G Q :=
  jt_cmp (op_inD cj.u65) hm (JV.imp h fun _ _ h => JV.imp h fun _ _ ⟨y, ns, e1, e2, q⟩ => by subst e1 e2; exact ⟨_, relB_inL, q⟩)
theorem jt_notinL (cj : CJ P w K mg base S k X B E) {Q : Bool → List Ent → Prop} (h : JV X B a G fun d1 G1 => JV X B b G1 fun d2 G2 => ∃ (y : Int) (ns : List Int), d1 = .int y ∧ d2 = .lst (ns.map .int) ∧ Q (!decide (y ∈ ns)) G2) (hm : behindInMarks .NotIn b = false := by with_unfolding_all rfl) : JT X B (.Compare a [.NotIn] [b] pos) G Q :=
  jt_cmp (op_notInD cj.u65) hm (JV.imp h fun _ _ h => JV.imp h fun _ _ ⟨y, ns, e1, e2, q⟩ => by subst e1 e2; exact ⟨_, relB_notinL, q⟩)
end
end J

namespace J
open PySem PySem.Spec L2
section
variable {P : Program} {w : World} {K : PySem.W.Frag} {mg : Str → Option Value} {base : Heap} {S : Sc} {k : Nat} {X : Cx} {B : Bs} {E : XW} {G : List Ent} {a b e o : Expr} {es : List Expr} {pos p apos cp : Pos} {x : Str}
theorem strs_of_dps {K : PySem.W.Frag} {F : Hp} : ∀ {xs : List V} {ns : List Str}, DPs K F xs (ns.map D.str) → xs = ns.map V.str
  | _, [], h => by cases h; rfl
  | _, n :: ns, h => by
    cases h with
    | cons r t =>
      cases r
      rw [strs_of_dps t]; rfl
theorem dps_strs {K : PySem.W.Frag} {F : Hp} : ∀ (ns : List Str), DPs K F (ns.map V.str) (ns.map D.str)
  | [] => .nil
  | n :: ns => .cons (.str n) (dps_strs ns)
/-- a text's method with one thing handed: first the text, then the other -/
theorem runM1 {r : V → List V → Hp → VK → Prop} {R : Str → D → List Ent → Prop} (h : JV X B o G fun d1 G1 => ∃ s, d1 = .str s ∧ JV X B e G1 fun d2 G2 => R s d2 G2) {t s : St} {z : List Ent} {F H : Hp} {VQ : VK} (hl : t.length = z.length) (c : Conf X.K B (t ++ s) F H (z ++ G))
    (q : ∀ (a : Str) u F' H' d2 G', Conf X.K B (some u :: (t ++ s)) F' H' (.fz d2 :: (z ++ G')) → R a d2 G' → r (.str a) [u] H' VQ) : tM1 r (tS X o) (tS X e) s H VQ :=
  h t s z F H _ hl c fun v F1 H1 d1 G1 c1 ⟨a, e1, h2⟩ => by
    subst e1
    have ev : v = .str a := by cases c1.top; rfl
    subst ev
    exact ⟨⟨a, rfl⟩, h2 t s z F1 H1 _ hl c1.pop fun u F2 H2 d2 G2 c2 q2 => q a u F2 H2 d2 G2 c2 q2⟩
theorem jv_join {Q : D → List Ent → Prop} (h : JV X B o G fun d1 G1 => ∃ s : Str, d1 = .str s ∧ JV X B e G1 fun d2 G2 => ∃ ys : List Str, d2 = .lst (ys.map .str) ∧ (ys.map (·.length)).sum + ys.length * s.length ≤ 16777216 ∧ Q (.str (Txt.join s ys)) G2)
    (hs : starEach [e] X.env = [(false, eval e X.env)] := by rfl) (hbase : attributeBase o "join" X.env (eval o X.env) = eval o X.env := by rfl) (hline : (apos.endLine == pos.line) = true := by rfl) : JV X B (.Call (.Attribute o "join" apos) [e] [] pos) G Q := fun t s z F H VQ hl c q =>
  tS_of (pe_join pe_sem pe_sem hs hbase hline) (runM1 h hl c fun a u F' H' d2 G' c' ⟨ys, e1, hz, hq⟩ => by
    subst e1
    have sm := c'.fh
    cases c'.top with
    | lst h1 h2 =>
      rw [strs_of_dps h2] at h1
      exact ⟨a, _, ys, rfl, rfl, .inl (.of (sm _ _ h1)), hz, q _ F' H' _ G' (c'.pop.fz (.str _)) hq⟩)
theorem je_split {Q : Ent → List Ent → Prop} (h : JV X B o G fun d1 G1 => ∃ s : Str, d1 = .str s ∧ JV X B e G1 fun d2 G2 => ∃ b : Str, d2 = .str b ∧ (b.length == 0) = false ∧ s.length + 2 ≤ sizeLine ∧ Q (.ow (.lst ((Txt.split s b).map .str))) G2)
    (hs : starEach [e] X.env = [(false, eval e X.env)] := by rfl) (hbase : attributeBase o "split" X.env (eval o X.env) = eval o X.env := by rfl) (hline : (apos.endLine == pos.line) = true := by rfl) : JE X B (.Call (.Attribute o "split" apos) [e] [] pos) G Q := fun t s z F H VQ hl c q =>
  tS_of (pe_split pe_sem pe_sem hs hbase hline) (runM1 h hl c fun a u F' H' d2 G' c' ⟨b, e1, hb, hz, hq⟩ => by
    subst e1
    have eu : u = .str b := by cases c'.top; rfl
    subst eu
    exact ⟨a, b, rfl, rfl, hb, hz, fun p np => q _ F' _ _ G' (c'.pop.newL np (dps_strs _)) trivial hq⟩)
theorem jv_partition {Q : D → List Ent → Prop} (h : JV X B o G fun d1 G1 => ∃ s : Str, d1 = .str s ∧ JV X B e G1 fun d2 G2 => ∃ b : Str, d2 = .str b ∧ (b.length == 0) = false ∧ s.length ≤ sizeLine ∧ Q (.tup [.str (Txt.partition s b).1, .str (Txt.partition s b).2.1, .str (Txt.partition s b).2.2]) G2)
    (hs : starEach [e] X.env = [(false, eval e X.env)] := by rfl) (hbase : attributeBase o "partition" X.env (eval o X.env) = eval o X.env := by rfl) (hline : (apos.endLine == pos.line) = true := by rfl) : JV X B (.Call (.Attribute o "partition" apos) [e] [] pos) G Q := fun t s z F H VQ hl c q =>
  tS_of (pe_partition pe_sem pe_sem hs hbase hline) (runM1 h hl c fun a u F' H' d2 G' c' ⟨b, e1, hb, hz, hq⟩ => by
    subst e1
    have eu : u = .str b := by cases c'.top; rfl
    subst eu
    exact ⟨a, b, rfl, rfl, hb, hz, fun p np => q _ _ _ _ G' (c'.pop.newT np (.cons (.str _) (.cons (.str _) (.cons (.str _) .nil)))) hq⟩)
end
end J

namespace J
open PySem PySem.Spec L2
section
variable {P : Program} {w : World} {K : PySem.W.Frag} {mg : Str → Option Value} {base : Heap} {S : Sc} {k : Nat} {X : Cx} {B : Bs} {E : XW} {G : List Ent} {a b e o tg : Expr} {es : List Expr} {pos p apos cp : Pos} {x : Str}
/-- for .. in x, x a borrowed list that the body leaves as it is -/
theorem js_forB (cj : CJ P w K mg base S k X B E) (i kk0 : Nat) {xp : Pos} {body : List Stmt} {Dd : Dn} (ds : List D) (I : Nat → List Ent → Prop) (h0 : I 0 G) (hI : ∀ j G2, I j G2 → G2[i]? = some (.bw kk0 (.lst ds)))
    (step : ∀ j d G2, j < ds.length → ds[j]? = some d → I j G2 → JG X B S.li tg (.fz d) G2 fun G3 => JSs X B body G3 { Dd with nx := I (j + 1), ct := I (j + 1), bk := Dd.nx }) (fin : ∀ G2, I ds.length G2 → Dd.nx G2)
    (hN : S.N[i]? = some x := by rfl) (hv : i ∈ S.vi := by decide) (hs : ∀ v, foldedSetIterable (.Name x xp) X.env v = pure v := by intro _; rfl) : JS X B (.For tg (.Name x xp) body [] pos) G Dd := fun t s z F H De hl c kk => by
  have hn := okName_of (Sc.vis cj.ok hv hN).1
  have look : ∀ {s : St} {F H : Hp} {G : List Ent} {j : Nat}, Conf X.K B (t ++ s) F H (z ++ G) → I j G → ∃ l xs, s[i]? = some (some (.ref l)) ∧ H l = some (.lst xs) ∧ DPs X.K F xs ds ∧ B.ps[kk0]? = some (.ref l) := fun {s F H G j} c ii => by
    obtain ⟨v, e1, l, e2, ⟨xs, o1, o2⟩, e3, _⟩ := c.at (i := z.length + i) (by rw [get_app]; exact hI j G ii)
    subst e2
    rw [← hl, get_app] at e1
    exact ⟨l, xs, e1, o1, o2, e3⟩
  refine tSt_of (ps_for cj.po cj.calm (pi_list (pe_var (cj.xN hN) (cj.vis hv hN) hn.1 hn.2.1)) pg_sem pss_sem hs) ?_
  obtain ⟨l, xs0, e1, o1, _, e3⟩ := look c h0
  refine ⟨.ref l, e1, l, rfl, ⟨xs0, .of o1⟩, ?_⟩
  refine ⟨fun j m s' H' => m = ds.length - j ∧ j ≤ ds.length ∧ s'.length = s.length ∧ ∃ F G, Conf X.K B (t ++ s') F H' (z ++ G) ∧ I j G, ⟨ds.length, by simp, Nat.zero_le _, rfl, F, G, c, h0⟩, ?_⟩
  rintro j m s1 H1 ⟨rfl, hj, hs1, F1, G1, c1, ii⟩
  obtain ⟨l1, xs, _, o2, o3, e4⟩ := look c1 ii
  rw [e3] at e4
  cases e4
  have hlen := o3.length
  by_cases hlt : j < ds.length
  · have hx : j < xs.length := by omega
    refine .inr ⟨⟨xs, xs[j], .of o2, List.getElem?_eq_getElem hx⟩, fun s' H' => s'.length = s.length ∧ ∃ F G, Conf X.K B (t ++ s') F H' (z ++ G) ∧ I (j + 1) G, fun s' H' ⟨h1, F, G, h3, h4⟩ => ⟨ds.length - (j + 1), by omega, rfl, hlt, h1, F, G, h3, h4⟩, fun v H2 y => ?_⟩
    obtain ⟨eH, y⟩ := y
    subst eH
    have yv := y xs (.of o2)
    rw [List.getElem?_eq_getElem hx] at yv
    cases yv
    obtain ⟨d, hd, dp⟩ := pgetL o3 (List.getElem?_eq_getElem hx)
    refine step j d G1 hlt hd ii t s1 z F1 _ _ _ hl (c1.fz dp) trivial fun s3 F3 H3 G3 hs3 _ c3 q3 => ?_
    exact q3 t s3 z F3 H3 _ hl c3 ⟨fun s' F' H' G' e c' q => ⟨by rw [e, hs3, hs1], F', G', c', q⟩, fun v s' F' H' r G' c' ir q => kk.rt v s' F' H' r G' c' ir q, fun s' F' H' G' e c' q => kk.nx s' F' H' G' (by rw [e, hs3, hs1]) c' q, fun s' F' H' G' e c' q => ⟨by rw [e, hs3, hs1], F', G', c', q⟩⟩
  · have e : j = ds.length := by omega
    subst e
    exact .inl ⟨⟨xs, .of o2, by rw [hlen]; exact Nat.le_refl _⟩, kk.nx s1 F1 H1 G1 hs1 c1 (fin G1 ii)⟩
end
end J

namespace J
open PySem PySem.Spec L2
/-- what is lent as the k-th, behind the call -/
@[reducible] def putK' (G : List Ent) (i k : Nat) (bs : List (Nat × Ow)) : List Ent :=
  match bs.lookup k with
  | some o' => setOw G i o'
  | none => G.set i .no
theorem putK'_len (G : List Ent) (i k : Nat) (bs : List (Nat × Ow)) : (putK' G i k bs).length = G.length := by
  unfold putK'
  split
  · rw [setOw_len]
  · simp
def mrgE : Ent → Option Ow → Ent
  | .ow _, some o => .ow o
  | .bw m _, some o => .bw m o
  | _, _ => .no
theorem newE_some {as : List Arg} {bs : List (Nat × Ow)} {j k : Nat} {e : Ent} (h : findB j 0 as = some k) : newE as bs j e = mrgE e (bs.lookup k) := by
  cases e <;> cases hq : bs.lookup k <;> simp [newE, h, hq, mrgE]
theorem putK'_at {G : List Ent} {i k : Nat} {o : Ow} {bs : List (Nat × Ow)} (h : entOw G[i]? = some o) {n : Nat} {e : Ent} (hn : G[n]? = some e) :
    (putK' G i k bs)[n]? = some (if n = i then mrgE e (bs.lookup k) else e) := by
  have hlt := (List.getElem?_eq_some_iff.mp hn).1
  by_cases z : i = n
  · subst z
    rw [if_pos rfl]
    unfold putK'
    cases hb : bs.lookup k with
    | none =>
      simp only
      rw [List.getElem?_set_self hlt]
      cases e <;> rfl
    | some o' =>
      simp only
      rcases entOw_cases h with q | ⟨m, q⟩
      · rw [q] at hn; cases hn
        rw [setOw_ow q, List.getElem?_set_self hlt]; rfl
      · rw [q] at hn; cases hn
        rw [setOw_bw q, List.getElem?_set_self hlt]; rfl
  · rw [if_neg fun e => z e.symm]
    unfold putK'
    split
    · rcases entOw_cases h with q | ⟨m, q⟩
      · rw [setOw_ow q, List.getElem?_set_ne z, hn]
      · rw [setOw_bw q, List.getElem?_set_ne z, hn]
    · rw [List.getElem?_set_ne z, hn]
section
variable {P : Program} {w : World} {K : PySem.W.Frag} {mg : Str → Option Value} {base : Heap} {S : Sc} {k : Nat} {X : Cx} {B : Bs} {E : XW} {G : List Ent} {a b e o : Expr} {es : List Expr} {pos p px : Pos} {x y : Str}
/-- C(e, y), y an own thing that is lent -/
theorem je_make2 {U : J.Spec} {C f : Addr} {fd : FuncData} {ps : List Str} {kf : Nat} {Q : Ent → List Ent → Prop} (cj : CJ P w K mg base S k X B E) (Fo : FnOk P w K mg base (L2.CX P w) kf f fd ps (SpJ K U)) (hk : kf + 1 ≤ k) (j i : Nat) (mk : Mk K C f) (hm : mg x = some (.ref C)) (bi : Binds K fd ps [])
    (h : JV X B e G fun d G' => ∃ ow, entOw G'[i]? = some ow ∧ U [.b (.ins C [] []), .v d, .b ow] (fun r bs => r = .fz .non ∧ ∃ o, bs.lookup 0 = some o ∧ Q (.ow o) (putK' G' i 2 bs)) (fun x => E.R x (G'.set i .no)))
    (hj : S.gl[j]? = some x := by rfl) (hN : S.N[i]? = some y := by rfl) (hv : i ∈ S.vi := by decide) (he : starEach [e, .Name y px] X.env = (false, eval e X.env) :: starEach [.Name y px] X.env := by rfl) (he2 : starEach [.Name y px] X.env = (false, eval (.Name y px) X.env) :: starEach [] X.env := by rfl) (hpl : (backTo pos (starEach [.Name y px] X.env)).any (·.1) = false := by rfl) :
    JE X B (.Call (.Name x p) [e, .Name y px] [] pos) G Q := fun t s z F H VQ hl c q => by
  have bi' : Binds X.K fd ps [] := by rw [cj.hK]; exact bi
  have mk' : Mk X.K C f := by rw [cj.hK]; exact mk
  refine tS_of (pe_make (CX := L2.CX P w) mk' (fnAt cj Fo) (cj.hr.mono hk) (cj.gl hj) (cj.mgx hm) bi' .nil cj.pass pa_sem (cj.dbg hj) he hpl) ?_
  have h' : JA X B [e, .Name y px] G fun as G' => ∃ d ow, as = [.v d, .b i] ∧ entOw G'[i]? = some ow ∧ U [.b (.ins C [] []), .v d, .b ow] (fun r bs => r = .fz .non ∧ ∃ o, bs.lookup 0 = some o ∧ Q (.ow o) (putK' G' i 2 bs)) (fun x => E.R x (G'.set i .no)) :=
    JA.cons (h.imp fun d G' ⟨ow, ho, hu⟩ => JA.lend cj i (JA.nil ⟨d, ow, rfl, ho, hu⟩) hN hv (by rw [ho]; rfl) he2) he
  refine h' t s z F H _ hl c fun vs as F1 H1 G1 c1 ab ⟨d, ow, eas, ho, sp⟩ => ?_
  subst eas
  intro a dx na ndx ne
  rw [List.append_nil]
  have c2 := c1.alloc (o := .own a) ndx
  have na2 : (upd H1 dx (.own a)) a = none := by rw [upd_ne (fun z => ne z.symm)]; exact na
  have c3 := c2.new (p := a) (ho := .ins C dx []) (o := .ins C [] []) na2 ⟨dx, [], upd_same, upd_same, rfl, .nil⟩
  have c4 := c3.push (v := some (.ref a)) (e := .no) trivial (oad_no _)
  obtain ⟨v1, v2, rfl⟩ : ∃ v1 v2, vs = [v1, v2] := by
    have hlen := ab.length
    match vs, hlen with
    | [v1, v2], _ => exact ⟨v1, v2, rfl⟩
  have as2 : s[i]? = some (some v2) := by
    cases ab with
    | cons _ t => cases t with
      | cons q _ => exact q
  have c5 : Conf X.K B (((V.ref a :: [v1, v2]).map some).reverse ++ ([] ++ (some (.ref a) :: (t ++ s)))) (upd F1 dx (.own a)) (upd (upd H1 dx (.own a)) a (.ins C dx [])) ((([Arg.b 0, .v d, .b (1 + t.length + i)] : List Arg).map Arg.ent).reverse ++ ([] ++ (.ow (.ins C [] []) :: (z ++ G1)))) := by
    have : Conf X.K B ([some (.ref a), some (.ref a)] ++ ([some v2, some v1] ++ (t ++ s))) (upd F1 dx (.own a)) (upd (upd H1 dx (.own a)) a (.ins C dx [])) ([.no, .ow (.ins C [] [])] ++ ([.no, .fz d] ++ (z ++ G1))) := c4
    exact this.rot (a := [some (V.ref a), some (V.ref a)]) (b := [some v2, some v1]) (a' := [Ent.no, .ow (.ins C [] [])]) (b' := [Ent.no, .fz d]) rfl rfl
  have gi : (Ent.ow (.ins C [] []) :: (z ++ G1))[1 + t.length + i]? = G1[i]? := by
    rw [show 1 + t.length + i = (t.length + i) + 1 by omega, List.getElem?_cons_succ, hl, get_app]
  have si : (some (V.ref a) :: (t ++ s))[1 + t.length + i]? = s[i]? := by
    rw [show 1 + t.length + i = (t.length + i) + 1 by omega, List.getElem?_cons_succ, get_app]
  have ab5 : Paired (ArgB (some (.ref a) :: (t ++ s))) [V.ref a, v1, v2] [Arg.b 0, .v d, .b (1 + t.length + i)] := .cons rfl (.cons trivial (.cons (si.trans as2) .nil))
  have ok5 : okB (.ow (.ins C [] []) :: (z ++ G1)) [Arg.b 0, .v d, .b (1 + t.length + i)] = true := by
    show ((entOw (some (.ow (.ins C [] [])))).isSome && (findB 0 0 [Arg.v d, .b (1 + t.length + i)]).isNone && ((entOw (Ent.ow (.ins C [] []) :: (z ++ G1))[1 + t.length + i]?).isSome && (findB (1 + t.length + i) 0 []).isNone && true)) = true
    rw [gi, ho]
    have : findB 0 0 [Arg.v d, .b (1 + t.length + i)] = none := by
      show (if 1 + t.length + i = 0 then some 1 else none) = none
      rw [if_neg (by omega)]
    rw [this]; rfl
  have pe5 : parsOf (.ow (.ins C [] []) :: (z ++ G1)) [Arg.b 0, .v d, .b (1 + t.length + i)] = [.b (.ins C [] []), .v d, .b ow] := by
    show Par.b (.ins C [] []) :: .v d :: (match entOw (Ent.ow (.ins C [] []) :: (z ++ G1))[1 + t.length + i]? with | some o => Par.b o | none => Par.v .non) :: [] = _
    rw [gi, ho]
  have tail : ∀ (bs : List (Nat × Ow)), updB [Arg.b 0, .v d, .b (1 + t.length + i)] bs 0 (.ow (.ins C [] []) :: (z ++ G1)) = newE [Arg.b 0, .v d, .b (1 + t.length + i)] bs 0 (.ow (.ins C [] [])) :: (z ++ putK' G1 i 2 bs) := fun bs => by
    apply List.ext_getElem?
    intro n
    cases n with
    | zero => rfl
    | succ n =>
      rw [List.getElem?_cons_succ]
      cases hn : (z ++ G1)[n]? with
      | none =>
        have hlen : (z ++ putK' G1 i 2 bs).length = (z ++ G1).length := by simp [putK'_len]
        rw [List.getElem?_eq_none (by rw [updB_len, List.length_cons]; have := List.getElem?_eq_none_iff.mp hn; omega), List.getElem?_eq_none (by rw [hlen]; exact List.getElem?_eq_none_iff.mp hn)]
      | some e0 =>
        rw [updB_at _ _ 0 _ (n + 1) e0 (by rw [List.getElem?_cons_succ]; exact hn)]
        by_cases hz : n < z.length
        · rw [List.getElem?_append_left hz]
          rw [List.getElem?_append_left hz] at hn
          rw [hn]
          have : findB (0 + (n + 1)) 0 [Arg.b 0, .v d, .b (1 + t.length + i)] = none := by
            show (if 0 = 0 + (n + 1) then some 0 else if 1 + t.length + i = 0 + (n + 1) then some 2 else none) = none
            rw [if_neg (by omega), if_neg (by omega)]
          simp only [newE, this]
        · rw [List.getElem?_append_right (by omega)]
          rw [List.getElem?_append_right (by omega)] at hn
          rw [putK'_at ho hn]
          by_cases e1 : n - z.length = i
          · rw [if_pos e1]
            have : findB (0 + (n + 1)) 0 [Arg.b 0, .v d, .b (1 + t.length + i)] = some 2 := by
              show (if 0 = 0 + (n + 1) then some 0 else if 1 + t.length + i = 0 + (n + 1) then some 2 else none) = some 2
              rw [if_neg (by omega), if_pos (by omega)]
            rw [newE_some this]
          · rw [if_neg e1]
            have : findB (0 + (n + 1)) 0 [Arg.b 0, .v d, .b (1 + t.length + i)] = none := by
              show (if 0 = 0 + (n + 1) then some 0 else if 1 + t.length + i = 0 + (n + 1) then some 2 else none) = none
              rw [if_neg (by omega), if_neg (by omega)]
            simp only [newE, this]
  rw [← cj.hK]
  rw [← pe5] at sp
  refine ⟨_, _, ⟨upd F1 dx (.own a), _, [V.ref a, v1, v2], lentM [V.ref a, v1, v2] [Arg.b 0, .v d, .b (1 + t.length + i)]⟩, _, _, rfl, rfl, rfl, c5.enter rfl ab5 ok5, sp, fun v F' H' r bs fi hq => ?_, fun xd F' H' od c' xo hx => ?_⟩
  · obtain ⟨er, o, hlo, hq⟩ := hq
    obtain ⟨c6, hn⟩ := Conf.leave rfl rfl c5 ab5 ok5 fi.c bs fi.bs
    subst er
    have ev : v = .non := by
      cases fi.c.top; rfl
    refine ⟨ev, ?_⟩
    rw [tail] at c6
    have ne0 : newE [Arg.b 0, .v d, .b (1 + t.length + i)] bs 0 (.ow (.ins C [] [])) = .ow o := by
      simp [newE, findB, hlo]
    rw [ne0] at c6
    exact q _ F' H' (.ow o) _ c6 trivial hq
  · obtain ⟨c6, _⟩ := Conf.leave rfl rfl c5 ab5 ok5 c' [] (fun p hp => by cases hp)
    rw [tail] at c6
    exact cj.ind _ _ s [] H' (cj.lk t s z F' H' _ xd od hl c6.pop xo hx)
end
end J

namespace J
open PySem PySem.Spec L2
/-! ## a comprehension whose turn may raise -/
section
open HandSPX
variable {M : Model} {A : Around} {E : Value → Shared → Prop} {s : Shared} {Z : Obj → Prop} {base : Heap} {env : Env} {outer : List Env} {L e : Addr}
/-- noted by another frame's number before -/
theorem looks_otherZ {fl : Value} {Q : Unit → Shared → Prop} (hZ : Steady Z) (hfr : A.frames = some (env :: outer)) (hf : env.frame = some L) (hkb : base.StaysIn s.heap) (hen : base.get? e = none) (hl : s.heap.FunFrames base (env :: outer)) (ht : TracedZ s.heap base e Z fl) (hne : (fl == rawInt L) = false)
    (hQ : ∀ hp, HeldZ base (env :: outer) e Z L hp → s.heap.UpToSlots hp → Q () { s with heap := hp }) : wpAny M A (noteFrame (.ref e) env) Q E s := by
  obtain ⟨obe, efs, T, obT, tfs, ge, gz, gd, gv, gn, gT, gh, gt, gf⟩ := ht
  unfold noteFrame
  simp only [hf]
  refine wpAny_bind (wpAny_field ge gd gv ?_)
  rw [if_pos (show (Value.ref T != Value.none) = true from by simp)]
  refine wpAny_bind (wpAny_field gh gt gf ?_)
  rw [if_neg (show ¬ ((fl == rawInt L) = true) from by rw [hne]; simp)]
  refine wpAny_bind (wpAny_setField gh gt (Array.getElem?_eq_some_iff.mp gf).1 ?_)
  have oth : ∀ adr, adr ≠ T → (s.heap.update T (Obj.mapFields (·.setIfInBounds 3 Value.none))).get? adr = s.heap.get? adr := fun adr kb => Heap.get?_update_other _ _ (Ne.symm kb)
  have nrec : ∀ adr ob, s.heap.get? adr = some ob → (∀ efs, ob.data ≠ .fields efs) → adr ≠ T := fun adr ob kb knf kq => by
    rw [kq, gh] at kb; injection kb with kb; subst kb; exact knf tfs gt
  refine wpAny_entryZ hZ hfr (hl.of_keeps fun adr ob kb knf => ⟨ob, (oth adr (nrec adr ob kb knf)).trans kb, rfl⟩) hf ((oth e (Ne.symm gT)).trans ge)
    (fun adr ob kbo => (oth adr fun kq => by rw [kq, gn] at kbo; cases kbo).trans (hkb adr ob kbo)) hen gd (Array.getElem?_eq_some_iff.mp gv).1 gz fun h' gN => ?_
  obtain ⟨y1, y2, y3, y4⟩ := gN
  exact hQ h' ⟨y1, hen, y2, y3⟩ fun adr ob kb knf => y4 adr ob ((oth adr (nrec adr ob kb knf)).trans kb) knf
theorem note_env {x : Value} {e1 e2 : Env} (h : e1.frame = e2.frame) : noteFrame x e1 = noteFrame x e2 := by
  unfold noteFrame frameOf
  rw [h]
theorem thnX {α : Type} {t : Sem α} {Q Q' : α → Shared → Prop} (h : wpAny M A t Q E s) (hQ : ∀ a s, Q a s → Q' a s) : wpAny M A t Q' E s := wpAny_mono h hQ fun _ _ z => z
def compPostX (M : Model) (A : Around) (E : Value → Shared → Prop) (use : Option (Value → Sem Unit)) (Q : Value → Shared → Prop) (acc : Value) (cenv : Env) (r : Result) (s' : Shared) : Prop :=
  match r, use with
  | .ok _, none => ∃ mm, s'.heap.Ns cenv.locals mm ∧ ∀ hp, Heap.SameBut cenv.locals s'.heap hp → Q acc { s' with heap := hp }
  | .ok _, some us => wpAny M A (us acc) (fun _ t => ∃ mm, t.heap.Ns cenv.locals mm ∧ ∀ hp, Heap.SameBut cenv.locals t.heap hp → Q .none { t with heap := hp }) E s'
  | .error x, _ => ∃ m, s'.heap.Ns cenv.locals m ∧ ∀ h', Heap.SameBut cenv.locals s'.heap h' → wpAny M A (passOn "comprehension.variables-let-go" x cenv : Sem Value) (fun _ _ => False) E { s' with heap := h' }
theorem wpAny_comprehension_freeX {e : Expr} {scope : Scope} {pos : Pos} {newAcc first : Sem Value} {g : Comprehension} {gr : List Comprehension} {clo : List (Str × Addr)} {use : Option (Value → Sem Unit)}
    {Q : Value → Shared → Prop}
    (ecl : clausesOf e = g :: gr) (eit : ∀ y, foldedSetIterable g.iter env y = pure y) (eclo : closureFor scope env = pure clo)
    (ekd : scope.kind = .function) (enm : ∀ y ∈ scope.names, y.2 = .local → scope.names.lookup y.1 = some .local)
    (hw : wpAny M A first (fun y t₁ => wpAny M A (pyIter y) (fun itr t₂ => wpAny M A newAcc (fun lst t₃ =>
      wpAny M A (newFunctionEnv scope env.globals clo [] env.qual none .none (some env)) (fun ev t₄ =>
        codeAny M A (.compStart e 0 itr lst { ev with scope := relabel scope env }) (compPostX M A E use Q lst { ev with scope := relabel scope env }) t₄) E t₃) E t₂) E t₁) E s) : wpAny M A (comprehension e scope env pos newAcc false first use) Q E s := by
  unfold comprehension
  rw [eclo, ecl]
  refine wpAny_bind (wpAny_mono hw (fun y t₁ w₁ => wpAny_bind (wpAny_standAt (wpAny_bind (wpAny_of_eq (eit y) (wpAny_bind (wpAny_holding (wpAny_mono w₁ (fun itr t₂ w₂ =>
    wpAny_standIf (wpAny_bind (wpAny_mono w₂ (fun lst t₃ w₃ => wpAny_bind (wpAny_pure (wpAny_bind (wpAny_mono w₃ (fun ev t₄ w₄ => ?_) fun _ _ hp => hp)))) fun _ _ hp => hp)))
      fun _ _ hp => hp))))))) fun _ _ hp => hp)
  dsimp only
  have kv : ∀ y ∈ (scope.names.filter fun y => (y.2 == .local || y.2 == .cell) && y.1 != (".0" : Str)).reverse, y.2 = .local →
      Env.kindOf { ev with scope := relabel scope env } y.1 = some .local := fun y ky kl => lookup_relabel_local (enm y (List.mem_filter.mp (List.mem_reverse.mp ky)).1 kl)
  have kv2 : ∀ y ∈ (scope.names.filter fun y => (y.2 == .local || y.2 == .cell) && y.1 != (".0" : Str)).reverse.drop 1 ++ (scope.names.filter fun y => (y.2 == .local || y.2 == .cell) && y.1 != (".0" : Str)).reverse.take 1,
      y.2 = .local → Env.kindOf { ev with scope := relabel scope env } y.1 = some .local := fun y ky kl => by
    rcases List.mem_append.mp ky with m1 | m1
    · exact kv y (List.mem_of_mem_drop m1) kl
    · exact kv y (List.mem_of_mem_take m1) kl
  refine wpAny_holding (wpAny_bind (wpAny_attempt (wpAny_holding (wpAny_run (codeAny_mono w₄ fun res tz kr => ?_)))))
  cases res with
  | ok fl =>
    cases use with
    | none =>
      obtain ⟨m, kn, kr⟩ := kr
      exact wpAny_bind (wpAny_holding (wpAny_comp_letGo (cenv := { ev with scope := relabel scope env }) ekd _ tz m kv kn fun hp m2 _ ksb => wpAny_pure (kr hp ksb)))
    | some use1 =>
      refine wpAny_bind (wpAny_rule (wpAny_bind (wpAny_holding (wpAny_mono kr (fun _ tzz kr2 => ?_) fun _ _ hp => hp))))
      obtain ⟨m, kn, kr2⟩ := kr2
      exact wpAny_bind (wpAny_comp_letGo (cenv := { ev with scope := relabel scope env }) ekd _ tzz m kv2 kn fun hp m2 _ ksb => wpAny_pure (kr2 hp ksb))
  | error y =>
    have kr2 : ∃ m, tz.heap.Ns ev.locals m ∧ ∀ hp, Heap.SameBut ev.locals tz.heap hp → wpAny M A (passOn "comprehension.variables-let-go" y { ev with scope := relabel scope env } : Sem Value) (fun _ _ => False) E { tz with heap := hp } := by cases use <;> exact kr
    obtain ⟨m, kn, kr⟩ := kr2
    exact wpAny_bind (wpAny_holding (wpAny_comp_letGo (cenv := { ev with scope := relabel scope env }) ekd _ tz m kv kn fun hp m2 _ ksb => wpAny_mono (kr hp ksb) (fun _ _ fl => fl.elim) fun _ _ y => y))
end
section
open HandSPX
variable {X : Cx} {pins : List (Addr × Obj)} {σ : St} {H : Hp} {s : Shared}
abbrev blkX (X : Cx) (s : Shared) (H : Hp) (scope : Scope) (cenv : Env) (fp : List Addr) (xe : Value → Shared → Prop) : Cx := { X.blk s H scope cenv fp with xe := xe }
theorem inv_xe {xe : Value → Shared → Prop} (I : Inv X pins σ H s) : Inv { X with xe := xe } pins σ H s :=
  ⟨⟨I.ok.mod, I.ok.kind, I.ok.glob, I.ok.blt, I.ok.above, I.ok.inj, I.ok.has, I.ok.cab, I.ok.hd, I.ok.frames, I.ok.stk, I.ok.exf, I.ok.bs, I.ok.bsz, I.ok.noex, I.ok.exfs, I.ok.funs, I.ok.frf⟩, I.os, I.bare, I.base, I.loc, I.cell, I.free, I.freeC, I.pin, I.hok, I.len⟩
/-- an exception of the block, in the air of the def -/
theorem blk_takes {W : WX} {scope : Scope} {s3 : Shared} {H3 : Hp} {ce : Env} {fp : List Addr} {D : Value} {use : Option (Value → Sem Unit)} {Qf : Value → Shared → Prop}
    (hst : X.stack = X.env :: X.outer) (hf : X.env.frame = some X.env.locals) (tk : Takes X W) (hW : ∀ cls d σ σ' H, W cls d σ H → W cls d σ' H) (I3 : Inv X pins σ H3 s3) (cL : ce.locals = s3.heap.objs.size) (cF : ce.frame = X.env.frame)
    (f3 : ∀ b ∈ fp, FpOk X pins H3 b) :
    Takes (blkX X s3 H3 scope ce fp (notedBy (model X.prog X.w) X.A ce fun e s' => compPostX (model X.prog X.w) X.A X.xe use Qf D ce (.error e) s')) W := by
  rintro u s' ⟨a, B, sI, pins', σ', H', cls, d, rfl, I', nb, up, sky, na, os, ag, w'⟩
  show wpAny (model X.prog X.w) X.A (noteFrame (.ref a) ce) _ _ _
  rw [note_env cF]
  have hfrm : X.A.frames = some (X.env :: X.outer) := by rw [I3.ok.frames, hst]
  have nC : H' ce.locals = none := I'.free
  have fC : FpOk X pins H' ce.locals := I3.fpOk (Nat.le_of_eq cL.symm) nC
  obtain ⟨f0, f1, f2, f4, f5, f6⟩ := fC
  have back : ∀ {s : Shared} {p : List (Addr × Obj)} {σ2 : St}, Inv (blkX X s3 H3 scope ce fp (notedBy (model X.prog X.w) X.A ce fun e s' => compPostX (model X.prog X.w) X.A X.xe use Qf D ce (.error e) s')) p σ2 H' s → Inv X pins σ H' s := fun {s p σ2} I6 =>
    I3.call' (ch := fp) I6.os I6.base I6.hok I6.bare fun b hb => ⟨(f3 b hb).2.2.2.1, (f3 b hb).2.1, (f3 b hb).2.2.2.2.1, (f3 b hb).2.2.2.2.2⟩
  have sky' : Sky B (X.env :: X.outer) a (Zc cls d) ce.locals s'.heap := by rw [← hst]; exact sky
  have fin : ∀ h1, HeldZ B (X.env :: X.outer) a (Zc cls d) X.env.locals h1 → s'.heap.UpToSlots h1 → compPostX (model X.prog X.w) X.A X.xe use Qf D ce (.error (.ref a)) { s' with heap := h1 } := fun h1 hh up1 => by
    have J1 := I'.landed (s' := { s' with heap := h1 }) nb hh.1 (up.trans up1) os ag
    obtain ⟨m, hn, _⟩ := id J1.loc
    refine (show ∃ m, h1.Ns ce.locals m ∧ _ from ⟨m, hn, fun h2 sb => ?_⟩)
    obtain ⟨k1, k2, k3, oe, vs, T, oT, ts, he, hz, hd, hv1, hnT, hTe, hT, hdT, hv3⟩ := hh
    obtain ⟨oC, es, ep, hC, hdC, _⟩ := hn
    have aC : a ≠ ce.locals := fun z => by rw [z] at he; rw [show h1.get? ce.locals = _ from hC] at he; cases he; rw [hdC] at hd; cases hd
    have TC : T ≠ ce.locals := fun z => by rw [z] at hT; rw [show h1.get? ce.locals = _ from hC] at hT; cases hT; rw [hdC] at hdT; cases hdT
    have I8 : Inv X pins σ H' { s' with heap := h2 } := (back J1).turned (t' := s'.toks) (fun b o hb e => (sb.2 b hb).trans e) f0 f1 f4 f5 f6
    obtain ⟨B2, b1, b2⟩ := restrict B fun b => decide (b ≠ ce.locals)
    have b3 : ∀ b o, B2.get? b = some o → b ≠ ce.locals ∧ B.get? b = some o := fun b o e => by
      by_cases z : b = ce.locals
      · rw [b2 b (by simp [z])] at e; cases e
      · rw [b1 b (by simp [z])] at e; exact ⟨z, e⟩
    have b4 : ∀ b, B.get? b = none → B2.get? b = none := fun b e => by
      cases q : B2.get? b with
      | none => rfl
      | some o => have := (b3 b o q).2; rw [e] at this; cases this
    have he2 : h2.get? a = some oe := (sb.2 a aC).trans he
    have hT2 : h2.get? T = some oT := (sb.2 T TC).trans hT
    have hh2 : HeldZ B2 (X.env :: X.outer) a (Zc cls d) X.env.locals h2 := by
      refine ⟨fun b o e => ?_, b4 a k2, ?_, oe, vs, T, oT, ts, he2, hz, hd, hv1, b4 T hnT, hTe, hT2, hdT, hv3⟩
      · obtain ⟨z, e'⟩ := b3 b o e
        exact (sb.2 b z).trans (k1 b o e')
      · have q := I8.stack
        rw [hst] at q
        refine funFrames_none q fun b hb => b4 b ?_
        exact (k3.mem hb).1
    have fin2 : wpAny (model X.prog X.w) X.A (setFlight (.ref a) ce.frame) (fun _ s4 => wpAny (model X.prog X.w) X.A (throw (.ref a) : Sem Value) (fun _ _ => False) X.xe s4) X.xe { s' with heap := h2 } := by
      rw [cF, hf]
      refine setFlight_onZ hh2 fun h4 hh4 up4 => wpAny_throw (tk _ _ ?_)
      obtain ⟨G, g1, g2⟩ := restrict sI.heap fun b => decide (b ≠ ce.locals)
      have g3 : ∀ b o, G.get? b = some o → b ≠ ce.locals ∧ sI.heap.get? b = some o := fun b o e => by
        by_cases z : b = ce.locals
        · rw [g2 b (by simp [z])] at e; cases e
        · rw [g1 b (by simp [z])] at e; exact ⟨z, e⟩
      have I9 : Inv X pins σ H' { sI with heap := G } := (back I').turned (t' := sI.toks) (fun b o hb e => (g1 b (by simp [hb])).trans e) f0 f1 f4 f5 f6
      refine ⟨a, B2, { sI with heap := G }, pins, σ, H', cls, d, rfl, I9, fun b o e hb => ?_, fun b o e hnf => ?_, .inr (.inr (by rw [hst]; exact hh4)), na, os, ag, hW _ _ _ _ _ w'⟩
      · obtain ⟨z, e'⟩ := g3 b o e
        rw [b1 b (by simp [z])]
        exact nb b o e' hb
      · obtain ⟨z, e'⟩ := g3 b o e
        obtain ⟨sl1, q1⟩ := (up.trans up1) b o e' hnf
        obtain ⟨sl2, q2⟩ := up4 b _ ((sb.2 b z).trans q1) hnf
        exact ⟨sl2, q2⟩
    unfold PySem.passOn
    refine wpAny_bind (wpAny_field he2 hd hv1 ?_)
    rw [if_neg (show ¬ ((Value.ref T == Value.none) = true) from by simp)]
    first
      | exact wpAny_bind (wpAny_pure (wpAny_bind fin2))
      | exact wpAny_bind fin2
  rcases sky' with ⟨hB, hn, hl, oe, vs, he, hz, hd, h1⟩ | fl | hd
  · exact look_newZ Zc.steady hfrm hl hf he hB hn hd h1 hz fin
  · exact looks_onZ Zc.steady hfrm hf fl fin
  · obtain ⟨k1, k2, k3, k4⟩ := hd
    refine looks_otherZ Zc.steady hfrm hf k1 k2 k3 k4 ?_ fin
    have : ce.locals ≠ X.env.locals := f1
    refine beq_eq_false_iff_ne.mpr fun z => this ?_
    simp only [rawInt, Value.int.injEq] at z
    exact Int.ofNat.inj z.1
theorem lc_coreX {W : WX} {pins : List (Addr × Obj)} {s : Shared} {σ : St} {H : Hp} {Q : VK} {elt tg iter : Expr} {ifs : List Expr} {scope : Scope} {own : List (Str × Nat)} {pos pos' : Pos} {wi : TI} {g : TG} {tt : TT} {te : TE} {use : Option (Value → Sem Unit)} {Qf : Value → Shared → Prop}
    (hst : X.stack = X.env :: X.outer) (hfr : X.env.frame = some X.env.locals) (tk : Takes X W) (hW : ∀ cls d σ σ' H, W cls d σ H → W cls d σ' H) (hcm : X.calm = true) (hnd : X.N.Nodup) (Iv : Inv X pins σ H s) (hit : PI X tg iter wi) (hok : BlkOk X.N X.env.scope scope own)
    (hg : ∀ (s : Shared) (H : Hp) (C : Addr) (cl : List (Str × Addr)) (ads : List Addr) (xe : Value → Shared → Prop), Takes (blkX X s H scope (compEnvC scope cl C X.env) ads xe) W → PassesOwn (model X.prog X.w) X.A (compEnvC scope cl C X.env) xe → PG (blkX X s H scope (compEnvC scope cl C X.env) ads xe) tg g) (ht : ∀ (s : Shared) (H : Hp) (C : Addr) (cl : List (Str × Addr)) (ads : List Addr) (xe : Value → Shared → Prop), Takes (blkX X s H scope (compEnvC scope cl C X.env) ads xe) W → PassesOwn (model X.prog X.w) X.A (compEnvC scope cl C X.env) xe → PTs (blkX X s H scope (compEnvC scope cl C X.env) ads xe) ifs tt)
    (he : ∀ (s : Shared) (H : Hp) (C : Addr) (cl : List (Str × Addr)) (ads : List Addr) (xe : Value → Shared → Prop), Takes (blkX X s H scope (compEnvC scope cl C X.env) ads xe) W → PassesOwn (model X.prog X.w) X.A (compEnvC scope cl C X.env) xe → PE (blkX X s H scope (compEnvC scope cl C X.env) ads xe) elt te) (hfs : ∀ xx, foldedSetIterable iter X.env xx = pure xx)
    (hq : tLc wi g tt te (own.map (·.2)) σ H Q)
    (hRR : ∀ D (cv : Env) s' mm H', Inv X pins σ H' s' → Q (.ref D) H' → s'.heap.Ns cv.locals mm → FpOk X pins H' cv.locals → compPostX (model X.prog X.w) X.A X.xe use Qf (.ref D) cv (.ok .next) s') : wpAny (model X.prog X.w) X.A (comprehension (.ListComp elt [⟨tg, iter, ifs, 0⟩] scope pos) scope X.env pos' (newList []) false (eval iter X.env) use) Qf X.xe s := by
  have kfree : ∀ y ∈ scope.names, y.2 = .free → ∃ c, X.env.cells.lookup y.1 = some c := fun y ky eq => by
    rcases hok.free y ky eq with kk | kk
    · exact Iv.ok.has _ (.inl kk)
    · exact Iv.ok.has _ (.inr kk)
  refine wpAny_comprehension_freeX (use := use) rfl hfs (closure_ok kfree) hok.kind (fun y ky eq => by rw [hok.uniq y ky, eq])
    (thn (hit.run pins s σ H _ Iv hq) fun v0 t1 q0 => thn q0 fun v1 t2 q2 => ?_)
  obtain ⟨itr, ads, tnr, Jt, Hb, eq, Ib, Tr, sa2, fa2, qb⟩ := q2
  subst eq
  refine wpAny_newObj_type (newEnv_comp ?_) (Nat.zero_le _)
  generalize eD : t2.heap.objs.size = D
  have nD : Hb D = none := Ib.hok.fresh (Nat.le_of_eq eD)
  obtain ⟨W, ⟨mm0, ww0⟩, trn⟩ := qb D nD
  -- the new list
  generalize es3 : ({ t2 with heap := t2.heap.push { cls := .type "list", data := .seq ([] : List Value).toArray } } : Shared) = t3
  have Ic : Inv X pins σ (upd Hb D (.lst [])) t3 := by
    rw [← es3]
    refine Ib.laid (t' := t2.toks) (fun bb oo eq => Heap.get?_push_of_some _ eq) (Nat.le_of_eq eD) ⟨Nat.zero_le _, [], 0, .nil, ?_⟩
    rw [← eD]
    refine Heap.get?_push_size _ ?_; rfl
  have eh3 : t3.heap = t2.heap.push { cls := .type "list", data := .seq ([] : List Value).toArray } := by rw [← es3]
  have szs : ∀ bb ∈ ads, bb < t2.heap.objs.size := fun bb kb => by
    obtain ⟨oo, eq, _⟩ := Tr.obj _ _ sa2 bb kb
    exact Heap.lt_size eq
  have fa3 : ∀ bb ∈ ads, FpOk X pins (upd Hb D (.lst [])) bb ∧ bb < t3.heap.objs.size := fun bb kb => by
    have klt := szs bb kb
    refine ⟨⟨?_, (fa2 bb kb).2⟩, by rw [eh3, Heap.size_push]; exact Nat.lt_succ_of_lt klt⟩
    rw [upd_ne (by rw [← eD]; exact Nat.ne_of_lt klt)]
    exact (fa2 bb kb).1
  have sa3 : tnr 0 t3.heap := Tr.keep _ _ _ sa2 fun bb _ oo eq => by rw [eh3]; exact Heap.get?_push_of_some _ eq
  have Id := block_start Ic hok hnd fa3
  have nads : ∀ bb ∈ ads, (upd Hb D (.lst [])) bb = none := fun bb kb => (fa3 bb kb).1.1
  show codeAny _ _ (.compStart (.ListComp elt [⟨tg, iter, ifs, 0⟩] scope pos) 0 (.ref itr) (.ref D) (compEnvC scope (cellsFrom (t3.heap.objs.size + 1) scope.names (cloFrom X.env.cells scope.names [])) t3.heap.objs.size X.env)) (compPostX (model X.prog X.w) X.A X.xe use Qf (.ref D) (compEnvC scope (cellsFrom (t3.heap.objs.size + 1) scope.names (cloFrom X.env.cells scope.names [])) t3.heap.objs.size X.env)) { t3 with heap := pushCells (t3.heap.push { cls := .type "dict", data := .dict #[] }) scope.names }
  have tkb := blk_takes (scope := scope) (ce := compEnvC scope (cellsFrom (t3.heap.objs.size + 1) scope.names (cloFrom X.env.cells scope.names [])) t3.heap.objs.size X.env) (D := .ref D) (use := use) (Qf := Qf) hst hfr tk hW Ic rfl rfl fun bb kb => (fa3 bb kb).1
  have pob : PassesOwn (model X.prog X.w) X.A (compEnvC scope (cellsFrom (t3.heap.objs.size + 1) scope.names (cloFrom X.env.cells scope.names [])) t3.heap.objs.size X.env) (notedBy (model X.prog X.w) X.A (compEnvC scope (cellsFrom (t3.heap.objs.size + 1) scope.names (cloFrom X.env.cells scope.names [])) t3.heap.objs.size X.env) fun eq s' => compPostX (model X.prog X.w) X.A X.xe use Qf (.ref D) (compEnvC scope (cellsFrom (t3.heap.objs.size + 1) scope.names (cloFrom X.env.cells scope.names [])) t3.heap.objs.size X.env) (.error eq) s') := PassesOwn.looking (K := fun eq s' => compPostX (model X.prog X.w) X.A X.xe use Qf (.ref D) (compEnvC scope (cellsFrom (t3.heap.objs.size + 1) scope.names (cloFrom X.env.cells scope.names [])) t3.heap.objs.size X.env) (.error eq) s') (E₁ := fun eq s' => compPostX (model X.prog X.w) X.A X.xe use Qf (.ref D) (compEnvC scope (cellsFrom (t3.heap.objs.size + 1) scope.names (cloFrom X.env.cells scope.names [])) t3.heap.objs.size X.env) (.error eq) s')
  have jg := hg t3 _ t3.heap.objs.size (cellsFrom (t3.heap.objs.size + 1) scope.names (cloFrom X.env.cells scope.names [])) ads _ tkb pob
  have jt := ht t3 _ t3.heap.objs.size (cellsFrom (t3.heap.objs.size + 1) scope.names (cloFrom X.env.cells scope.names [])) ads _ tkb pob
  have je := he t3 _ t3.heap.objs.size (cellsFrom (t3.heap.objs.size + 1) scope.names (cloFrom X.env.cells scope.names [])) ads _ tkb pob
  have Id := inv_xe (xe := notedBy (model X.prog X.w) X.A (compEnvC scope (cellsFrom (t3.heap.objs.size + 1) scope.names (cloFrom X.env.cells scope.names [])) t3.heap.objs.size X.env) fun eq s' => compPostX (model X.prog X.w) X.A X.xe use Qf (.ref D) (compEnvC scope (cellsFrom (t3.heap.objs.size + 1) scope.names (cloFrom X.env.cells scope.names [])) t3.heap.objs.size X.env) (.error eq) s') Id
  clear tkb pob
  generalize ece : compEnvC scope (cellsFrom (t3.heap.objs.size + 1) scope.names (cloFrom X.env.cells scope.names [])) t3.heap.objs.size X.env = cv at Id jg jt je ⊢
  have ecL : cv.locals = t3.heap.objs.size := by subst ece; rfl
  generalize exe : (notedBy (model X.prog X.w) X.A cv fun eq s' => compPostX (model X.prog X.w) X.A X.xe use Qf (.ref D) cv (.error eq) s') = xe at Id jg jt je
  generalize eH3 : upd Hb D (.lst []) = Hc at Ic Id jg jt je ww0 nads fa3
  generalize es4 : ({ t3 with heap := pushCells (t3.heap.push { cls := .type "dict", data := .dict #[] }) scope.names } : Shared) = t4 at Id ⊢
  have sa4 : tnr 0 t4.heap := Tr.keep _ _ _ sa3 fun bb _ oo eq => by rw [← es4]; exact pushCells_keeps _ _ _ _ (Heap.get?_push_of_some _ eq)
  have ads_ok : ∀ {σ' : St} {H' : Hp} {s' : Shared}, Inv (blkX X t3 Hc scope cv ads xe) [] σ' H' s' → (∀ bb ∈ ads, H' bb = none) → ∀ bb ∈ ads, FpOk (blkX X t3 Hc scope cv ads xe) [] H' bb := fun {σ' H' s'} I' kn bb kb =>
    ⟨kn bb kb, (I'.ok.exf bb kb).1, I'.ok.exfs bb kb, .inl kb, fun xx c eq => (I'.ok.exf bb kb).2 xx c eq, fun p hp => absurd (show p ∈ ([] : List (Addr × Obj)) ++ [] from hp) (by simp)⟩
  have lp : codeAny (model X.prog X.w) X.A (.compLoop (.ListComp elt [⟨tg, iter, ifs, 0⟩] scope pos) 0 (.ref itr) (.ref D) cv) (compPostX (model X.prog X.w) X.A X.xe use Qf (.ref D) cv) t4 := by
    have exe : ∀ {eq s'}, xe eq s' → notedBy (model X.prog X.w) X.A cv (fun eq s' => compPostX (model X.prog X.w) X.A X.xe use Qf (.ref D) cv (.error eq) s') eq s' := fun {eq s'} zz => by rw [exe]; exact zz
    refine compLoop_any (fun nn s' => ∃ ii H', Inv (blkX X t3 Hc scope cv ads xe) [] (wipe σ (own.map (·.2))) H' s' ∧ tnr ii s'.heap ∧ (∀ bb ∈ ads, H' bb = none) ∧ W ii nn H') ?_ mm0 ⟨0, Hc, Id, sa4, nads, ww0⟩
    rintro nn t5 ⟨ii, He, Ie, sa5, na5, ww5⟩
    rcases trn ii nn He ww5 with ⟨hstop, qd⟩ | ⟨hgo, Nxt, kNxt, stp⟩
    · have pd := Tr.done (blkX X t3 Hc scope cv ads xe) rfl rfl rfl hcm ii [] t5 _ He (fun _ _ => False) Ie (ads_ok Ie na5) sa5 hstop
      refine thnF pd fun res t6 ⟨kr, If⟩ => ?_
      subst kr
      -- back in the def's context
      have Ig : Inv X pins σ He t6 := Ic.call' (ch := ads) If.os If.base If.hok If.bare fun bb kb => ⟨(fa3 bb kb).1.2.2.2.1, (fa3 bb kb).1.2.1, (fa3 bb kb).1.2.2.2.2.1, (fa3 bb kb).1.2.2.2.2.2⟩
      have nCl : He t3.heap.objs.size = none := by
        have zz : He cv.locals = none := If.free
        rw [ecL] at zz
        exact zz
      obtain ⟨mm, kn, _⟩ := If.loc
      have kn : t6.heap.Ns cv.locals mm := kn
      exact hRR D cv t6 mm He Ig qd kn (Ic.fpOk (Nat.le_of_eq ecL.symm) (by rw [ecL]; exact nCl))
    · have pi := Tr.item (blkX X t3 Hc scope cv ads xe) rfl rfl rfl hcm ii [] t5 _ He (fun _ _ => False) Ie (ads_ok Ie na5) sa5 hgo
      refine thnF pi fun res t6 ⟨uu, kr, q6⟩ => ?_
      subst kr
      refine thnF q6 fun _ t7 ⟨xx, Hg, Ig, rg, yg, sa7, na7⟩ => ?_
      have Ig' := Ig.pinned (ads_ok Ig na7) (Tr.obj _ _ sa7)
      refine wpAny_mono (jg.run _ t7 _ Hg xx uu _ Ig' rg (stp xx Hg yg)) (fun _ t8 ⟨sl8, Hh, Ih, ew8, qh⟩ => ?_) fun _ _ zz => exe zz
      refine wpAny_mono (jt.run _ t8 sl8 Hh _ Ih qh) (fun bb t9 ⟨Hi, Ii, qi⟩ => ?_) fun _ _ zz => exe zz
      -- the turn's end
      have fend : ∀ {s' : Shared} {H' : Hp}, Inv (blkX X t3 Hc scope cv ads xe) ([] ++ pinsAt ads t7.heap) sl8 H' s' → Nxt H' → ∃ mm, mm < nn ∧ ∃ ii H', Inv (blkX X t3 Hc scope cv ads xe) [] (wipe σ (own.map (·.2))) H' s' ∧ tnr ii s'.heap ∧ (∀ bb ∈ ads, H' bb = none) ∧ W ii mm H' := fun {s' H'} I' nxj => by
        obtain ⟨mm', km, ww'⟩ := kNxt H' nxj
        have pinned' : ∀ bb ∈ ads, ∀ oo, t7.heap.get? bb = some oo → s'.heap.get? bb = some oo ∧ H' bb = none := fun bb kb oo eq =>
          let zz := I'.pin (bb, oo) (List.mem_append_right _ (List.mem_append_right _ (mem_pinsAt kb eq)))
          ⟨zz.1, zz.2.1⟩
        have kl : (wipe σ (own.map (·.2))).length = sl8.length := by rw [← ew8, wipe_length]
        refine ⟨mm', km, ii + 1, H', (I'.unpinned (pins := [])).weak kl (fun jj vv eq => ?_), Tr.keep _ _ _ sa7 fun bb kb oo eq => (pinned' bb kb oo eq).1, fun bb kb => ?_, ww'⟩
        · rw [← ew8] at eq
          exact (wipe_some eq).1
        · obtain ⟨oo, eq, _⟩ := Tr.obj _ _ sa7 bb kb
          exact (pinned' bb kb oo eq).2
      cases bb with
      | false =>
        simp only [Bool.false_eq_true, if_false] at qi ⊢
        exact fend Ii qi
      | true =>
        simp only [if_true] at qi ⊢
        refine wpAny_mono (je.run _ t9 sl8 Hi _ Ii qi) (fun zz ta ⟨yd, Hj, Ij, rj, ac, eDj, szj, nxj⟩ => ?_) fun _ _ zz => exe zz
        exact app_ok (X := blkX X t3 Hc scope cv ads xe) Ij eDj szj rj fun tb Ik => fend Ik nxj
  exact codeAny_compStart_list lp (Tr.self X.A 0 _ _ _ sa4 lp)
/-- the whole as a value -/
theorem pe_lcX {W : WX} (hsk : X.stack = X.env :: X.outer) (hfm : X.env.frame = some X.env.locals) (tk : Takes X W) (hW : ∀ cls d sl σ' Ha, W cls d sl Ha → W cls d σ' Ha) {elt tg iter : Expr} {ifs : List Expr} {scope : Scope} {own : List (Str × Nat)} {pos : Pos} {wi : TI} {g : TG} {tt : TT} {te : TE} (hcm : X.calm = true) (hnd : X.N.Nodup) (hit : PI X tg iter wi) (hok : BlkOk X.N X.env.scope scope own)
    (hgt : ∀ (s0 : Shared) (Ha : Hp) (Ca : Addr) (cl : List (Str × Addr)) (fp : List Addr) (xe : Value → Shared → Prop), Takes (blkX X s0 Ha scope (compEnvC scope cl Ca X.env) fp xe) W → PassesOwn (model X.prog X.w) X.A (compEnvC scope cl Ca X.env) xe → PG (blkX X s0 Ha scope (compEnvC scope cl Ca X.env) fp xe) tg g) (hte : ∀ (s0 : Shared) (Ha : Hp) (Ca : Addr) (cl : List (Str × Addr)) (fp : List Addr) (xe : Value → Shared → Prop), Takes (blkX X s0 Ha scope (compEnvC scope cl Ca X.env) fp xe) W → PassesOwn (model X.prog X.w) X.A (compEnvC scope cl Ca X.env) xe → PTs (blkX X s0 Ha scope (compEnvC scope cl Ca X.env) fp xe) ifs tt)
    (hel : ∀ (s0 : Shared) (Ha : Hp) (Ca : Addr) (cl : List (Str × Addr)) (fp : List Addr) (xe : Value → Shared → Prop), Takes (blkX X s0 Ha scope (compEnvC scope cl Ca X.env) fp xe) W → PassesOwn (model X.prog X.w) X.A (compEnvC scope cl Ca X.env) xe → PE (blkX X s0 Ha scope (compEnvC scope cl Ca X.env) fp xe) elt te) (hfs : ∀ xx, foldedSetIterable iter X.env xx = pure xx := by intro _; rfl) : PE X (.ListComp elt [⟨tg, iter, ifs, 0⟩] scope pos) (tLc wi g tt te (own.map (·.2))) := by
  refine ⟨fun pp s0 sl Ha Qv Iv hq => ?_⟩
  rw [eval_ListComp]
  refine lc_coreX hsk hfm tk hW hcm hnd Iv hit hok hgt hte hel hfs hq fun Da Ca t1 mm Hb Iw qq kn ff => ⟨mm, kn, fun hz sbt => ?_⟩
  obtain ⟨p0, p1, p2, p3, p4, p5⟩ := ff
  exact ⟨.ref Da, Hb, Iw.turned (t' := t1.toks) (fun bb oo kb ee => (sbt.2 bb kb).trans ee) p0 p1 p3 p4 p5, rfl, qq⟩
/-- name = [..] on one line, the name ad local -/
theorem ps_setLcX {W : WX} (hsk : X.stack = X.env :: X.outer) (hfm : X.env.frame = some X.env.locals) (tk : Takes X W) (hW : ∀ cls d sl σ' Ha, W cls d sl Ha → W cls d σ' Ha) {sli : Nat} {nm : Str} {pnm : Pos} {elt tg iter : Expr} {ifs : List Expr} {scope : Scope} {own : List (Str × Nat)} {pos ps2 : Pos} {wi : TI} {g : TG} {tt : TT} {te : TE} (hcm : X.calm = true) (hnd : X.N.Nodup) (hnm : X.N[sli]? = some nm) (hnl : X.env.scope.names.lookup nm = some .local)
    (hws : swapsWith (.ListComp elt [⟨tg, iter, ifs, 0⟩] scope pos) (some (.Name nm pnm)) ps2.line X.env = pure true) (hit : PI X tg iter wi) (hok : BlkOk X.N X.env.scope scope own)
    (hgt : ∀ (s0 : Shared) (Ha : Hp) (Ca : Addr) (cl : List (Str × Addr)) (fp : List Addr) (xe : Value → Shared → Prop), Takes (blkX X s0 Ha scope (compEnvC scope cl Ca X.env) fp xe) W → PassesOwn (model X.prog X.w) X.A (compEnvC scope cl Ca X.env) xe → PG (blkX X s0 Ha scope (compEnvC scope cl Ca X.env) fp xe) tg g) (hte : ∀ (s0 : Shared) (Ha : Hp) (Ca : Addr) (cl : List (Str × Addr)) (fp : List Addr) (xe : Value → Shared → Prop), Takes (blkX X s0 Ha scope (compEnvC scope cl Ca X.env) fp xe) W → PassesOwn (model X.prog X.w) X.A (compEnvC scope cl Ca X.env) xe → PTs (blkX X s0 Ha scope (compEnvC scope cl Ca X.env) fp xe) ifs tt)
    (hel : ∀ (s0 : Shared) (Ha : Hp) (Ca : Addr) (cl : List (Str × Addr)) (fp : List Addr) (xe : Value → Shared → Prop), Takes (blkX X s0 Ha scope (compEnvC scope cl Ca X.env) fp xe) W → PassesOwn (model X.prog X.w) X.A (compEnvC scope cl Ca X.env) xe → PE (blkX X s0 Ha scope (compEnvC scope cl Ca X.env) fp xe) elt te) (hfs : ∀ xx, foldedSetIterable iter X.env xx = pure xx := by intro _; rfl) :
    PS X (.Assign [.Name nm pnm] (.ListComp elt [⟨tg, iter, ifs, 0⟩] scope pos) ps2) (tAsg (tLc wi g tt te (own.map (·.2))) (gName sli)) := by
  refine ⟨fun pp s0 sl Ha Da Iv hq => ?_⟩
  rw [exec_Assign_Name_used _ _ _ _ hws]
  refine wpAny_bind (wpAny_standAt (wpAny_bind ?_))
  show wpAny _ X.A (do let _ ← comprehension (.ListComp elt [⟨tg, iter, ifs, 0⟩] scope pos) scope X.env (firstIterPos [⟨tg, iter, ifs, 0⟩] pos) (newList []) false (eval iter X.env) (some (assign (.Name nm pnm) X.env))) _ _ s0
  have hq : tLc wi g tt te (own.map (·.2)) sl Ha (fun xx H1x => gName sli xx sl H1x Da.nx) := hq
  refine wpAny_bind (thn (lc_coreX (Qf := fun _ t1 => SP X pp Da .next t1) hsk hfm tk hW hcm hnd Iv hit hok hgt hte hel hfs hq fun La Ca t1 mm Hb Iw qq kn ff => ?_) fun _ t1 hq => wpAny_pure (wpAny_pure hq))
  show wpAny _ _ (assign (.Name nm pnm) X.env (.ref La)) _ _ _
  refine wpAny_assign_Name (store_ok2 (v := V.ref La) Iw hnd hnm (.inl hnl) rfl (fun t2 Ix ⟨ad, sbt, had⟩ => ?_) (.inr hnl))
  obtain ⟨p0, p1, p2, p3, p4, p5⟩ := ff
  have adC : Ca.locals ≠ ad := by
    rcases had with zz | zz
    · rw [zz]; exact p1
    · exact fun ee => p4 nm ad zz ee.symm
  refine ⟨mm, kn.sameBut sbt adC, fun h3x sb3x => ?_⟩
  exact ⟨_, Hb, Ix.turned (t' := t2.toks) (fun bb oo kb ee => (sb3x.2 bb kb).trans ee) p0 p1 p3 p4 p5, qq⟩
/-- the readings of its parts, in whatever block -/
def gBX (X : Cx) (W : WX) (scope : Scope) (tg : Expr) : TG := fun v s H Q => ∀ s0 H0 C cl fp xe, Takes (blkX X s0 H0 scope (compEnvC scope cl C X.env) fp xe) W → PassesOwn (model X.prog X.w) X.A (compEnvC scope cl C X.env) xe → tGt (blkX X s0 H0 scope (compEnvC scope cl C X.env) fp xe) tg v s H Q
def pBX (X : Cx) (W : WX) (scope : Scope) (ifs : List Expr) : TT := fun s H Q => ∀ s0 H0 C cl fp xe, Takes (blkX X s0 H0 scope (compEnvC scope cl C X.env) fp xe) W → PassesOwn (model X.prog X.w) X.A (compEnvC scope cl C X.env) xe → tPs (blkX X s0 H0 scope (compEnvC scope cl C X.env) fp xe) ifs s H Q
def eBX (X : Cx) (W : WX) (scope : Scope) (e : Expr) : TE := fun s H Q => ∀ s0 H0 C cl fp xe, Takes (blkX X s0 H0 scope (compEnvC scope cl C X.env) fp xe) W → PassesOwn (model X.prog X.w) X.A (compEnvC scope cl C X.env) xe → tS (blkX X s0 H0 scope (compEnvC scope cl C X.env) fp xe) e s H Q
end
section
variable {P : Program} {w : World} {K : PySem.W.Frag} {mg : Str → Option Value} {base : Heap} {S : Sc} {k : Nat} {X : Cx} {B : Bs} {E : XW} {G : List Ent} {a b e o tg : Expr} {es : List Expr} {pos p apos : Pos} {x : Str}
theorem CJ.blkX (cj : CJ P w K mg base S k X B E) {S' : Sc} {scope : Scope} (hN : S'.N = S.N) (hsc : S'.sc = relS scope S.sc) (hok : S'.ok = true) (hfn : (S'.li.all fun i => match S'.N[i]? with
    | some x => (scope.names.lookup x == some .cell) || (S'.sc.names.lookup x == some .local)
    | none => true) = true) (s0 : Shared) (H0 : Hp) (C : Addr) (cl : List (Str × Addr)) (fp : List Addr) (xe : Value → Shared → Prop) (tk : Takes (blkX X s0 H0 scope (compEnvC scope cl C X.env) fp xe) E.W) (po : PassesOwn (model X.prog X.w) X.A (compEnvC scope cl C X.env) xe) :
    CJ P w K mg base S' k (J.blkX X s0 H0 scope (compEnvC scope cl C X.env) fp xe) B E where
  hprog := cj.hprog
  hw := cj.hw
  hK := cj.hK
  hmg := cj.hmg
  hbase := cj.hbase
  hN := cj.hN.trans hN.symm
  hsc := by
    show (compEnvC scope cl C X.env).scope = S'.sc
    rw [hsc, ← cj.hsc]; rfl
  ok := hok
  fn := fun i x hi hx => by
    have := List.all_eq_true.mp hfn i hi
    rw [hx] at this
    simp only [Bool.or_eq_true, beq_iff_eq] at this
    rcases this with h | h
    · exact .inl (by show (scope.names.lookup x == some .cell) = true; rw [h]; rfl)
    · exact .inr h
  calm := cj.calm
  hr := cj.hr
  po := po
  tk := tk
  ind := cj.ind
  lk := cj.lk
theorem lc_runX (cj : CJ P w K mg base S k X B E) {elt iter : Expr} {ifs : List Expr} {scope : Scope} (S' : Sc) (so : ScOk S S' scope) {Q : List D → List Ent → Prop}
    (h : JI X B tg iter G fun n item G1 => LcI n item (fun X' => CJ P w K mg base S' k X' B E) B S' tg elt ifs G1 Q) {t s : St} {z : List Ent} {F H : Hp} {VQ : VK} (hl : t.length = z.length) (c : Conf X.K B (t ++ s) F H (z ++ G))
    (q : ∀ p F' H' acc G', Conf X.K B (some (V.ref p) :: (t ++ s)) F' H' (Ent.ow (.lst acc) :: (z ++ G')) → Q acc G' → VQ (V.ref p) H') :
    tLc (tIt X tg iter) (gBX X E.W scope tg) (pBX X E.W scope ifs) (eBX X E.W scope elt) S'.li s H VQ :=
  h t s z F H _ hl c fun Jt n hv he item F1 H1 G1 hlv wd c1 ⟨hn, I, i0, step, fin⟩ => fun D hD => by
    obtain ⟨hN, hsc, hok, hfn⟩ := so
    have slen : s.length = G1.length := by
      have := c1.len
      simp only [List.length_append] at this
      omega
    have c2 : Conf X.K B ((hv ++ t) ++ s) F1 H1 ((he ++ z) ++ G1) := by simpa [List.append_assoc] using c1
    have c3 := (c2.wipe (by simp [hl, hlv]) S'.li).newL (vs := []) (ds := []) hD .nil
    have c4 : Conf X.K B (hv ++ ([some (V.ref D)] ++ (t ++ L2.wipe s S'.li))) F1 (upd H1 D (.lst [])) (he ++ ([Ent.ow (.lst [])] ++ (z ++ wipeE G1 S'.li))) := by
      have : Conf X.K B ([some (V.ref D)] ++ (hv ++ (t ++ L2.wipe s S'.li))) F1 (upd H1 D (.lst [])) ([Ent.ow (.lst [])] ++ (he ++ (z ++ wipeE G1 S'.li))) := by simpa [List.append_assoc] using c3
      exact this.rot rfl hlv
    refine ⟨fun i m H => m = n - i ∧ i ≤ n ∧ ∃ F G acc, acc.length ≤ i ∧ G.length = s.length ∧ (∀ j, j ∈ S'.li → j < G.length → G[j]? = some Ent.no) ∧ Conf X.K B (hv ++ ([some (V.ref D)] ++ (t ++ L2.wipe s S'.li))) F H (he ++ ([Ent.ow (.lst acc)] ++ (z ++ G))) ∧ I i acc G,
      ⟨n, by simp, Nat.zero_le _, F1, _, [], Nat.le_refl _, by rw [wipeE_len]; exact slen.symm, fun j hj hlt => wipeE_no hj (by rw [wipeE_len] at hlt; exact hlt), c4, i0⟩, ?_⟩
    rintro i m H2 ⟨rfl, hi, F2, G2, acc, hacc, gl, gno, c5, ii⟩
    by_cases hlt : i < n
    · refine .inr ⟨wd.goes i _ F2 H2 _ hlt c5, fun H => ∃ F G acc, acc.length ≤ i + 1 ∧ G.length = s.length ∧ (∀ j, j ∈ S'.li → j < G.length → G[j]? = some Ent.no) ∧ Conf X.K B (hv ++ ([some (V.ref D)] ++ (t ++ L2.wipe s S'.li))) F H (he ++ ([Ent.ow (.lst acc)] ++ (z ++ G))) ∧ I (i + 1) acc G, fun H' ⟨F, G, acc, a1, a2, a3, a4, a5⟩ => ⟨n - (i + 1), by omega, rfl, hlt, F, G, acc, a1, a2, a3, a4, a5⟩, fun x H3 y => ?_⟩
      obtain ⟨F3, d, hd, c6⟩ := wd.yields i x _ F2 H2 _ H3 hlt c5 y
      have tl : (hv ++ ([some (V.ref D)] ++ t)).length = (he ++ ([Ent.ow (.lst acc)] ++ z)).length := by simp [hlv, hl]
      intro s0 H0 C cl fp xe tkx pox
      refine step i d acc G2 hlt hd ii hacc _ (cj.blkX hN hsc hok hfn s0 H0 C cl fp xe tkx pox) (hv ++ ([some (V.ref D)] ++ t)) (L2.wipe s S'.li) (he ++ ([Ent.ow (.lst acc)] ++ z)) F3 H3 x _ tl (by simpa [List.append_assoc] using c6) trivial fun s4 F4 H4 G4 hs4 ho4 c7 q4 => ?_
      have hs4' : s4.length = s.length := by rw [hs4, wipe_length]
      have ws : L2.wipe s4 S'.li = L2.wipe s S'.li := wipe_same hs4' ho4
      refine ⟨ws, fun s0 H0 C cl fp xe tkx pox => ?_⟩
      -- the tests and the element
      refine q4 _ (cj.blkX hN hsc hok hfn s0 H0 C cl fp xe tkx pox) (hv ++ ([some (V.ref D)] ++ t)) s4 (he ++ ([Ent.ow (.lst acc)] ++ z)) F4 H4 _ tl c7 fun b F5 H5 G5 c8 q5 => ?_
      have fini : ∀ {acc' : List _root_.J.D} {F H : Hp} {G : List Ent}, acc'.length ≤ i + 1 → Conf X.K B ((hv ++ ([some (V.ref D)] ++ t)) ++ s4) F H ((he ++ ([Ent.ow (.lst acc')] ++ z)) ++ G) → I (i + 1) acc' (wipeE G S'.li) →
          ∃ F G acc, acc.length ≤ i + 1 ∧ G.length = s.length ∧ (∀ j, j ∈ S'.li → j < G.length → G[j]? = some Ent.no) ∧ Conf X.K B (hv ++ ([some (V.ref D)] ++ (t ++ L2.wipe s S'.li))) F H (he ++ ([Ent.ow (.lst acc)] ++ (z ++ G))) ∧ I (i + 1) acc G := fun {acc' F H G} ha cc hI => by
        have tl' : (hv ++ ([some (V.ref D)] ++ t)).length = (he ++ ([Ent.ow (.lst acc')] ++ z)).length := by simp [hlv, hl]
        have gl' : s4.length = G.length := by
          have := cc.len
          simp only [List.length_append, List.length_cons, List.length_nil] at this
          omega
        have cw := cc.wipe tl' S'.li
        rw [ws] at cw
        exact ⟨F, wipeE G S'.li, acc', ha, by rw [wipeE_len, ← gl', hs4'], fun j hj hlt => wipeE_no hj (by rw [wipeE_len] at hlt; exact hlt), by simpa [List.append_assoc] using cw, hI⟩
      cases b with
      | false =>
        rw [if_neg Bool.false_ne_true]
        exact fini (by omega) c8 (q5.2 rfl)
      | true =>
        rw [if_pos rfl]
        intro s0 H0 C cl fp xe tkx pox
        refine q5.1 rfl _ (cj.blkX hN hsc hok hfn s0 H0 C cl fp xe tkx pox) (hv ++ ([some (V.ref D)] ++ t)) s4 (he ++ ([Ent.ow (.lst acc)] ++ z)) F5 H5 _ tl c8 fun y F6 H6 d' G6 c9 q6 => ?_
        -- the list stands at D as it was left
        have ig : (he ++ ([Ent.ow (.lst acc)] ++ z) ++ G6)[he.length]? = some (Ent.ow (.lst acc)) := by simp
        have is : (hv ++ ([some (V.ref D)] ++ t) ++ s4)[he.length]? = some (some (V.ref D)) := by rw [← hlv]; simp
        obtain ⟨v, e1, a, e2, ⟨xs, o1, o2⟩, _⟩ := c9.pop.at ig
        have is' := is
        rw [e1] at is'
        cases is'
        cases e2
        refine ⟨xs, o1, by rw [o2.length]; omega, ?_⟩
        have cw := c9.pop.write (i := he.length) (ho := .lst (xs ++ [y])) (o' := .lst (acc ++ [d'])) ig is ⟨_, upd_same, papp o2 (.cons c9.top .nil)⟩
        refine fini (F := F6) (acc' := acc ++ [d']) (by simp; omega) ?_ q6
        have es : (he ++ ([Ent.ow (.lst acc)] ++ z) ++ G6).set he.length (Ent.ow (.lst (acc ++ [d']))) = he ++ ([Ent.ow (.lst (acc ++ [d']))] ++ z) ++ G6 := by simp
        rw [es] at cw
        exact cw
    · have e : i = n := by omega
      subst e
      refine .inl ⟨wd.stops _ F2 H2 _ c5, ?_⟩
      -- the def's own slots are back
      have c6 := c5.rot hlv rfl
      have c7 : Conf X.K B (some (V.ref D) :: (t ++ L2.wipe s S'.li)) F2 H2 (Ent.ow (.lst acc) :: (z ++ G2)) := by
        have dropM : ∀ {hv : St} {he : List Ent} {u : St} {g : List Ent}, hv.length = he.length → Conf X.K B (hv ++ u) F2 H2 (he ++ g) → Conf X.K B u F2 H2 g := by
          intro hv
          induction hv with
          | nil => intro he u g hl c; cases he with
            | nil => exact c
            | cons _ _ => simp at hl
          | cons v hv ih => intro he u g hl c; cases he with
            | nil => simp at hl
            | cons e he => exact ih (by simpa using hl) c.pop
        exact dropM hlv c5
      refine q D F2 H2 acc G2 (c7.slots (by simp [wipe_length]) fun j => ?_) (fin acc G2 ii)
      cases j with
      | zero => exact .inl rfl
      | succ j =>
        show (t ++ L2.wipe s S'.li)[j]? = (t ++ s)[j]? ∨ (z ++ G2)[j]? = some Ent.no
        by_cases hj : j < t.length
        · exact .inl (by rw [List.getElem?_append_left hj, List.getElem?_append_left hj])
        · rw [List.getElem?_append_right (by omega), List.getElem?_append_right (by omega), List.getElem?_append_right (by omega), hl]
          by_cases hm : j - z.length ∈ S'.li
          · by_cases hlt2 : j - z.length < G2.length
            · exact .inr (gno _ hm hlt2)
            · exact .inl (by rw [List.getElem?_eq_none (by rw [wipe_length]; omega), List.getElem?_eq_none (by omega)])
          · exact .inl (wipe_out' hm)
theorem gBX_ok {W : WX} {scope : Scope} (s0 : Shared) (H0 : Hp) (C : Addr) (cl : List (Str × Addr)) (fp : List Addr) (xe : Value → Shared → Prop) (tk : Takes (J.blkX X s0 H0 scope (compEnvC scope cl C X.env) fp xe) W) (po : PassesOwn (model X.prog X.w) X.A (compEnvC scope cl C X.env) xe) : PG (J.blkX X s0 H0 scope (compEnvC scope cl C X.env) fp xe) tg (gBX X W scope tg) := ⟨fun pins s _ _ _ u _ I r h => h s0 H0 C cl fp xe tk po pins s u I r⟩
theorem pBX_ok {W : WX} {scope : Scope} {ifs : List Expr} (s0 : Shared) (H0 : Hp) (C : Addr) (cl : List (Str × Addr)) (fp : List Addr) (xe : Value → Shared → Prop) (tk : Takes (J.blkX X s0 H0 scope (compEnvC scope cl C X.env) fp xe) W) (po : PassesOwn (model X.prog X.w) X.A (compEnvC scope cl C X.env) xe) : PTs (J.blkX X s0 H0 scope (compEnvC scope cl C X.env) fp xe) ifs (pBX X W scope ifs) := ⟨fun pins s _ _ _ I h => h s0 H0 C cl fp xe tk po pins s I⟩
theorem eBX_ok {W : WX} {scope : Scope} (s0 : Shared) (H0 : Hp) (C : Addr) (cl : List (Str × Addr)) (fp : List Addr) (xe : Value → Shared → Prop) (tk : Takes (J.blkX X s0 H0 scope (compEnvC scope cl C X.env) fp xe) W) (po : PassesOwn (model X.prog X.w) X.A (compEnvC scope cl C X.env) xe) : PE (J.blkX X s0 H0 scope (compEnvC scope cl C X.env) fp xe) e (eBX X W scope e) := ⟨fun pins s _ _ _ I h => h s0 H0 C cl fp xe tk po pins s I⟩
/-- a list comprehension as a value, its turns may raise -/
theorem je_lcX (hst : X.stack = X.env :: X.outer) (hfr : X.env.frame = some X.env.locals) (cj : CJ P w K mg base S k X B E) {elt iter : Expr} {ifs : List Expr} {scope : Scope} (vi li : List Nat) (gl : List Str) (own : List (Str × Nat)) {Q : Ent → List Ent → Prop}
    (h : JI X B tg iter G fun n item G1 => LcI n item (fun X' => CJ P w K mg base (blkSc S scope vi li gl) k X' B E) B (blkSc S scope vi li gl) tg elt ifs G1 fun acc G2 => Q (.ow (.lst acc)) G2)
    (so : (blkSc S scope vi li gl).ok = true := by decide +kernel) (fo : blkFn (blkSc S scope vi li gl) scope = true := by decide +kernel) (bo : blkC S.N S.sc scope own = true := by decide +kernel) (ho : own.map (·.2) = li := by rfl) (hs : ∀ x, foldedSetIterable iter X.env x = pure x := by intro _; rfl) :
    JE X B (.ListComp elt [⟨tg, iter, ifs, 0⟩] scope pos) G Q := fun t s z F H VQ hl c q => by
  have bo' : BlkOk X.N X.env.scope scope own := by rw [cj.hN, cj.hsc]; exact blkOk_by bo
  have ho' : own.map (·.2) = (blkSc S scope vi li gl).li := ho
  refine tS_of (pe_lcX hst hfr cj.tk (fun _ _ _ _ _ h => cj.ind _ _ _ _ _ h) cj.calm cj.nd pi_sem bo' gBX_ok pBX_ok eBX_ok hs) ?_
  rw [ho']
  exact lc_runX cj (blkSc S scope vi li gl) ⟨rfl, rfl, so, fo⟩ h hl c fun p' F' H' acc G' c' hq => q _ F' H' _ G' c' trivial hq
/-- a local name gets it, on one line -/
theorem js_setLcX (hst : X.stack = X.env :: X.outer) (hfr : X.env.frame = some X.env.locals) (cj : CJ P w K mg base S k X B E) (i : Nat) {elt iter : Expr} {ifs : List Expr} {scope : Scope} {py sp : Pos} (vi li : List Nat) (gl : List Str) (own : List (Str × Nat)) {Dd : Dn}
    (h : JI X B tg iter G fun n item G1 => LcI n item (fun X' => CJ P w K mg base (blkSc S scope vi li gl) k X' B E) B (blkSc S scope vi li gl) tg elt ifs G1 fun acc G2 => Dd.nx (G2.set i (.ow (.lst acc))))
    (so : (blkSc S scope vi li gl).ok = true := by decide +kernel) (fo : blkFn (blkSc S scope vi li gl) scope = true := by decide +kernel) (bo : blkC S.N S.sc scope own = true := by decide +kernel) (hyl : S.sc.names.lookup x = some .local := by decide +kernel) (hsw : swB S.sc scope x (py.line == pos.line) = true := by decide +kernel)
    (hN : S.N[i]? = some x := by rfl) (ho : own.map (·.2) = li := by rfl) (hs : ∀ x, foldedSetIterable iter X.env x = pure x := by intro _; rfl) :
    JS X B (.Assign [.Name x py] (.ListComp elt [⟨tg, iter, ifs, 0⟩] scope pos) sp) G Dd := fun t s z F H De hl c kk => by
  have bo' : BlkOk X.N X.env.scope scope own := by rw [cj.hN, cj.hsc]; exact blkOk_by bo
  have ho' : own.map (·.2) = (blkSc S scope vi li gl).li := ho
  refine tSt_of (ps_setLcX hst hfr cj.tk (fun _ _ _ _ _ h => cj.ind _ _ _ _ _ h) cj.calm cj.nd (cj.xN hN) (by rw [cj.hsc]; exact hyl) (by rw [swaps_eq cj.hsc, hsw]) pi_sem bo' gBX_ok pBX_ok eBX_ok hs) ?_
  rw [ho']
  exact lc_runX cj (blkSc S scope vi li gl) ⟨rfl, rfl, so, fo⟩ h hl c fun p' F' H' acc G' c' hq => kk.nx _ F' H' _ (by simp) (c'.store hl) hq
end
end J

namespace J
open PySem PySem.Spec L2
section
variable {P : Program} {w : World} {K : PySem.W.Frag} {mg : Str → Option Value} {base : Heap} {S : Sc} {k : Nat} {X : Cx} {B : Bs} {E : XW} {G : List Ent} {a b e o tg : Expr} {es : List Expr} {pos p apos cp : Pos} {x : Str}
/-- isinstance(x, T), x an own list at a slot -/
theorem jv_isiO (cj : CJ P w K mg base S k X B E) (j i : Nat) {ds : List D} {xp : Pos} {Q : D → List Ent → Prop} (hm : mg "isinstance" = none) (hg : entOw G[i]? = some (.lst ds))
    (h : JV X B b G fun d2 G2 => ∃ T' r, d2 = .raw (.ty T') ∧ kitB "list" T' = some r ∧ entOw G2[i]? = some (.lst ds) ∧ Q (.bl r) G2) (hj : S.gl[j]? = some "isinstance" := by rfl) (hN : S.N[i]? = some x := by rfl) (hv : i ∈ S.vi := by decide)
    (he : starEach [.Name x xp, b] X.env = (false, eval (.Name x xp) X.env) :: starEach [b] X.env := by rfl) (he2 : starEach [b] X.env = (false, eval b X.env) :: starEach [] X.env := by rfl) (hpl : (backTo pos (starEach [b] X.env)).any (·.1) = false := by rfl) :
    JV X B (.Call (.Name "isinstance" p) [.Name x xp, b] [] pos) G Q := fun t s z F H VQ hl c q => by
  have hn := okName_of (Sc.vis cj.ok hv hN).1
  obtain ⟨y, e1, _, _⟩ := c.slot hl hg
  refine tS_of (pe_callB call_isi (cj.gl hj) (cj.mgx hm) (by decide +kernel) (pa_cons (pe_var (cj.xN hN) (cj.vis hv hN) hn.1 hn.2.1) (pa_cons pe_sem pa_nil he2) he) (cj.nnm hj) (cj.dbg hj) he hpl) ?_
  refine ⟨.ref y, e1, tS_of pe_sem (h t s z F H _ hl c fun u F' H' d2 G' c' ⟨T', r, e2, e3, hg', hq⟩ => ?_)⟩
  subst e2
  obtain ⟨y', e1', ⟨xs, hx, _⟩, _⟩ := c'.pop.slot hl hg'
  rw [e1] at e1'
  cases e1'
  have tv : TyX X.K H' (.ref y) (.type "list") := .base (.lst hx)
  cases c'.top
  exact ⟨_, _, _, _, r, rfl, .ty T', tv, kit_ty e3, q _ F' H' _ G' (c'.pop.fz (.bl r)) hq⟩
end
end J

namespace J
open PySem PySem.Spec L2
/-! ## exceptions that bear a value -/
/-- such a class: its own __init__ at f, the value's name n -/
def oexB (K : PySem.W.Frag) (C : Addr) : Bool :=
  match K.lookup C with
  | some ⟨.type "type", _, .cls cd, sl⟩ => (match cd.mro, sl.toList with
    | .ref C' :: bm, [_, _, _, _, some (.builtin i), _] => C' == C && i == "ValueError.__new__" && (!cd.hasDel && (cd.hasDict && PySem.HandSPX.refsVE bm))
    | _, _ => false)
  | _ => false
theorem oexB_cls {K : PySem.W.Frag} {C : Addr} (q : oexB K C = true) : ∃ nm qn N bs bm sn sub ab col dd k0 k1 k2 k3 k5, K.lookup C = some (excClassObj nm qn C N bs bm true sn sub ab col dd k0 k1 k2 k3 k5 "ValueError.__new__") ∧ PySem.HandSPX.refsVE bm = true := by
  unfold oexB at q
  split at q
  case h_2 => cases q
  case h_1 dd cd sl lk =>
    split at q
    case h_2 => cases q
    case h_1 C' bm k0 k1 k2 k3 i k5 em es =>
      simp only [Bool.and_eq_true, beq_iff_eq, Bool.not_eq_true'] at q
      obtain ⟨⟨e1, e2⟩, e3, e4, e5⟩ := q
      subst e1 e2
      obtain ⟨nm, bs, mro, ns, qn, hd, sn, sub, ab, col, del⟩ := cd
      dsimp only at em e3 e4
      subst em e3 e4
      obtain ⟨l⟩ := sl
      dsimp only at es
      subst es
      exact ⟨nm, qn, ns, bs, bm, sn, sub, ab, col, dd, k0, k1, k2, k3, k5, lk, e5⟩
structure XI (K : PySem.W.Frag) (C f : Addr) (n : Str) : Prop where
  ob : oexB K C = true
  sa : PySem.W.findIn K (.ref C) "__setattr__" = some (some (.builtin "object.__setattr__"))
  su : PySem.W.subIn K (.ref C) (.type "BaseException") = some true
  ty : PySem.W.typeIn K (.ref C) = some (.type "type")
  kp : PySem.W.keepIn K (.ref C) = true
  iC : PySem.W.findIn K (.ref C) "__init__" = some (some (.ref f))
  tI : PySem.W.typeIn K (.ref f) = some (.type "function")
  no : PySem.W.findIn K (.ref C) n = some none
theorem XI.oex {K : PySem.W.Frag} {C f : Addr} {n : Str} (x : XI K C f n) : OexC K C := ⟨oexB_cls x.ob, x.sa, x.su, x.ty, x.kp⟩
/-- what the base class says, where its __init__ is called by name -/
structure XB (K : PySem.W.Frag) (L : Addr) : Prop where
  g : PySem.W.specialIn K (.ref L) "__getattribute__" = some (some (.builtin "type.__getattribute__"))
  r : PySem.W.readsIn K L (.type "type") = true
  i : PySem.W.findCls K (.ref L) (.type "type") "__init__" = some (.val (.builtin "ValueError.__init__"))
section
variable {X : Cx} {e : Expr} {es : List Expr} {ta : TA} {p1 p2 pos : Pos}
theorem pe_linit {pl : Sem Bool} {L : Addr} (b : XB X.K L) (hg : Gl X "LongError") (hm : X.mg "LongError" = some (.ref L)) (ha : PA X (e :: es) ta)
    (hc : eval (.Call (.Attribute (.Name "LongError" p1) "__init__" p2) (e :: es) [] pos) X.env = (do
      let ov ← eval (.Name "LongError" p1) X.env
      standAt p2.atName
      let (f, first) ← holding [ov] (getMethod ov "__init__" pl)
      callWith pos f first (backTo pos (starEach (e :: es) X.env)) (backToKw pos (keywordEach [] X.env))) := by rfl)
    (he : starEach (e :: es) X.env = (false, eval e X.env) :: starEach es X.env := by rfl) (hpl : (backTo pos (starEach es X.env)).any (·.1) = false := by rfl) :
    PE X (.Call (.Attribute (.Name "LongError" p1) "__init__" p2) (e :: es) [] pos) (tVeI X.K ta) := ⟨fun pins s σ H Q I h => by
  refine PySem.W.methodCall_KW (ld_glob I hg hm ?_) hc
  refine PySem.W.method_cls I.kIn b.g (PySem.W.cls_value I.kIn b.r b.i (by decide +kernel) ?_)
  show wpAny _ _ (callWith pos (Value.builtin "ValueError.__init__") [] (backTo pos (starEach (e :: es) X.env)) []) _ _ _
  refine PyProof.Rows.callWith_method1 (thn (ha.run pos pins _ σ H _ (I.tok _) h) fun us t ⟨vs, H1, I1, r1, a, C, ws, ev, hl, T, ea, q⟩ => ?_) he hpl
  subst ev
  cases r1 with
  | @cons _ u0 _ ur ra rr =>
    obtain rfl : u0 = Value.ref a := ra
    refine oinit_ok T I1 ea ?_ fun t2 I2 => ⟨.non, H1, I2, rfl, q⟩
    rw [← rr.length, sizeLine_eq]
    omega⟩
/-- what such an __init__ promises -/
def spEx (C : Addr) (n : Str) : Sp := fun vs H Q _ => ∃ (a : Addr) (v : V), vs = [.ref a, v] ∧ H a = some (exo a C none) ∧ ∀ dx, H dx = none → dx ≠ a → Q .non (upd (upd H dx (exd dx [(n, v)])) a (exo a C (some dx)))
end
section
variable {P : Program} {w : World} {K : PySem.W.Frag} {mg : Str → Option Value} {base : Heap}
/-- def __init__(self, y): Base.__init__(self, '..'); self.n = y -/
theorem xinit_ok {x qual : Str} {st : Stmt} {f L C : Addr} {fd : FuncData} {m n v : Str} {jj : Nat} {q1 q2 q3 q4 q5 q6 r1 r2 r3 r4 : Pos} (Fu : Fun K x qual st f fd) (S : FnScope ["self", v] ["self", v] (defScope st))
    (hb : defBody st = [.Expr (.Call (.Attribute (.Name "LongError" q1) "__init__" q2) [.Name "self" q3, .Constant (.str m) jj q4] [] q5) q6, .Assign [.Attribute (.Name "self" r1) n r2] (.Name v r3) r4])
    (b : XB K L) (hm : mg "LongError" = some (.ref L)) (i : XI K C f n) (hgl : (defScope st).names.lookup ("LongError" : Str) = some .globalImplicit) (hs : (defScope st).names.lookup ("self" : Str) = some .local) (hv : (defScope st).names.lookup v = some .local) (hv2 : okName v = true)
    (hc : ∀ env : Env, ∃ pl : Sem Bool, eval (.Call (.Attribute (.Name "LongError" q1) "__init__" q2) [.Name "self" q3, .Constant (.str m) jj q4] [] q5) env = (do
      let ov ← eval (.Name "LongError" q1) env
      standAt q2.atName
      let (f, first) ← holding [ov] (getMethod ov "__init__" pl)
      callWith q5 f first (backTo q5 (starEach [.Name "self" q3, .Constant (.str m) jj q4] env)) (backToKw q5 (keywordEach [] env)))) :
    FnOk P w K mg base (L2.CX P w) 1 f fd ["self", v] (spEx C n) := by
  refine Fu.okX S (fun vs H Q E ⟨a, y, e, _⟩ => by rw [e]; rfl) fun cdv A outer s H vs Q E hr h => ?_
  obtain ⟨a, y, rfl, ha, hq⟩ := h
  have ov := okName_of hv2
  rw [hb]
  obtain ⟨pl, hc⟩ := hc (cxOf (L2.CX P w) P w K mg base ["self", v] qual (defScope st) f cdv A outer s H E).env
  refine ⟨_, pss_cons (ps_expr (pe_linit (L := L) b hgl hm (pa_cons (pe_var (i := 0) rfl (.inl hs) (by decide) (by decide)) (pa_cons pe_str pa_nil)) hc)) (pss_one (ps_ost (pe_var (i := 0) rfl (.inl hs) (by decide) (by decide)) (pe_var (i := 1) rfl (.inl hv) ov.1 ov.2.1))), ?_⟩
  refine ⟨.ref a, rfl, a, C, [.str m], rfl, (by decide : 1 ≤ 1000), i.oex, ha, y, rfl, .ref a, rfl, a, C, rfl, i.oex, i.no, .inl ⟨ha, fun dx h1 h2 => ?_⟩⟩
  exact hq dx h1 h2
end
section
variable {P : Program} {w : World} {K : PySem.W.Frag} {mg : Str → Option Value} {base : Heap} {S : Sc} {k : Nat} {X : Cx} {B : Bs} {E : XW} {G : List Ent} {a b e o tg : Expr} {es : List Expr} {pos p apos cp : Pos} {x : Str}
/-- raise C(e), C with an __init__ of its own that stores e -/
theorem js_raiseF (cj : CJ P w K mg base S k X B E) (hk : 2 ≤ k) (j : Nat) {C f : Addr} {n : Str} {fd : FuncData} {v : Str} {pos2 : Pos} {Dd : Dn} (i : XI K C f n) (Fo : FnOk P w K mg base (L2.CX P w) 1 f fd ["self", v] (spEx C n)) (bi : Binds K fd ["self", v] []) (hm : mg x = some (.ref C))
    (h : JV X B e G fun d G' => E.R ⟨C, [(n, d)]⟩ G') (hj : S.gl[j]? = some x := by rfl) (he : starEach [e] X.env = (false, eval e X.env) :: starEach [] X.env := by rfl) (hpl : (backTo pos2 (starEach [] X.env)).any (·.1) = false := by rfl) :
    JS X B (.Raise (some (.Call (.Name x p) [e] [] pos2)) none pos) G Dd := fun t s z F H De hl c kk => by
  have bi' : Binds X.K fd ["self", v] [] := by rw [cj.hK]; exact bi
  have T : OexC X.K C := by rw [cj.hK]; exact i.oex
  have iC : PySem.W.findIn X.K (.ref C) "__init__" = some (some (.ref f)) := by rw [cj.hK]; exact i.iC
  have tI : PySem.W.typeIn X.K (.ref f) = some (.type "function") := by rw [cj.hK]; exact i.tI
  have hx : Passes (L2.CX P w) X (fun _ _ _ => False) := fun pins σ H s e s' I c => by
    obtain ⟨_, _, _, _, _, _, _, _, _, _, _, _, q⟩ := c
    exact q.elim
  refine tSt_of (ps_raise cj.calm cj.tk (pmk_oex (CX := L2.CX P w) T iC tI (fnAt cj Fo) (cj.hr.mono hk) bi' .nil hx (cj.gl hj) (cj.mgx hm) (pa_cons pe_sem pa_nil he) (cj.dbg hj) he hpl)) ?_
  refine h t s z F H _ hl c fun y F1 H1 d G1 c1 q => ⟨(by decide : 1 ≤ 1000), fun a na => ⟨a, y, rfl, upd_same, fun dx nd ne => ⟨rfl, dx, [(n, y)], upd_same, ?_, ?_, ?_⟩⟩⟩
  · rw [upd_ne ne, upd_same]
  · rw [upd_ne ne] at nd; exact nd
  have nd : H1 dx = none := by rw [upd_ne ne] at nd; exact nd
  have eH : upd (del (upd (upd (upd H1 a (exo a C none)) dx (exd dx [(n, y)])) a (exo a C (some dx))) a) dx (.xd [(n, y)]) = upd H1 dx (.xd [(n, y)]) := by
    funext b
    by_cases hb : b = dx
    · subst hb; rw [upd_same, upd_same]
    · rw [upd_ne hb, upd_ne hb]
      by_cases hb2 : b = a
      · subst hb2; rw [del_same, na]
      · rw [del_ne hb2, upd_ne hb2, upd_ne hb, upd_ne hb2]
  rw [eH]
  have c2 := c1.alloc (o := .xd [(n, y)]) nd
  have dp : DP X.K (upd F1 dx (.xd [(n, y)])) y d := DP.mono (same_upd (c1.fresh nd)) _ _ c1.top
  exact cj.lk t s z _ _ G1 ⟨C, [(n, d)]⟩ (some dx) hl c2.pop (.inr ⟨by simp, dx, [(n, y)], rfl, upd_same, .cons ⟨rfl, dp⟩ .nil⟩) q
end
/-! ## a try whose suite may read such values -/
/-- what the suite's name holds -/
@[reducible] def xent (xd : XD) (a : Addr) : Option Addr → D
  | none => .raw (.ref a)
  | some dd => .exc a dd (xd.fs.map (·.1)) (xd.fs.map (·.2))
theorem xent_dp {K : PySem.W.Frag} {F H : Hp} {xd : XD} {a : Addr} {od : Option Addr} (xo : XOk K F H xd od) : DP K F (.ref a) (xent xd a od) := by
  rcases xo with ⟨_, rfl⟩ | ⟨_, dx, fv, rfl, h1, h2⟩
  · exact .raw _
  · refine .exc h1 ?_ ?_
    · have go : ∀ {l : List (Str × V)} {m : List (Str × D)}, PK K F l m → m.map (·.1) = l.map (·.1) := by
        intro l m h
        induction h with
        | nil => rfl
        | cons r _ ih => rw [List.map_cons, List.map_cons, ih, r.1]
      exact go h2
    · have go : ∀ {l : List (Str × V)} {m : List (Str × D)}, PK K F l m → Paired (DP K F) (l.map (·.2)) (m.map (·.2)) := by
        intro l m h
        induction h with
        | nil => exact .nil
        | cons r _ ih => exact .cons r.2 ih
      exact go h2
def TryQ (K : PySem.W.Frag) (X : Cx) (B : Bs) (E : XW) (i : Nat) (c : Value) (suite : List Stmt) (DS : Dn) (xd : XD) (G : List Ent) : Prop :=
  ∃ b, PySem.W.exmOne K (.ref xd.C) c = some b ∧
    (b = true → ∀ a od oe pn, (od = none ↔ xd.fs = []) → Zc (.ref xd.C) od oe → (∃ vs, oe.data = .fields vs) → JSs (X.suite a ((a, oe) :: pn)) B suite (G.set i (.fz (xent xd a od))) DS) ∧ (b = false → E.R xd G)
section
variable {P : Program} {w : World} {K : PySem.W.Frag} {mg : Str → Option Value} {base : Heap} {S : Sc} {k : Nat} {X : Cx} {B : Bs} {E : XW} {G : List Ent} {a b e o tg : Expr} {es : List Expr} {pos p apos cp : Pos} {x : Str}
theorem JSs0.tryQ (cj : CJ P w K mg base S k X B E) (i j : Nat) {n : Str} {body suite rest : List Stmt} {b₀ : Stmt} {c : Value} {np pos' : Pos} {D : Dn} (hst : X.stack = X.env :: X.outer) (hfr : X.env.frame = some X.env.locals) (hc : mg x = some c)
    (h : ∀ X' E', CT P w K mg base S k X' B E' → CJ P w K mg base S k X' B XW.non → (∀ xd G', TryQ K X B E i c (b₀ :: suite) ⟨fun G2 => JSs0 X B rest (G2.set i .no) D, D.rt, fun _ => False, fun _ => False⟩ xd G' → E'.R xd G') →
      JSs X' B body G ⟨fun G' => JSs0 X B rest G' D, D.rt, D.bk, D.ct⟩)
    (hj : S.gl[j]? = some x := by rfl) (hN : S.N[i]? = some n := by rfl) (hln : S.sc.names.lookup n = some .local := by decide +kernel) :
    JSs0 X B (.Try body [.ExceptHandler (some (.Name x np)) (some n) (b₀ :: suite) pos'] [] [] pos :: rest) G D := fun s F H De cf kk => by
  have nm : Names X x c := ⟨cj.gl hj, cj.dbg hj, .inl (cj.mgx hc)⟩
  have hln' : X.env.kindOf n = some .local := by show X.env.scope.names.lookup n = _; rw [cj.hsc]; exact hln
  refine tSs_of (pss_cons (ps_try_as (i := i) (Wout := E.W) (tb := fun W D σ H => ∀ (pn : List (Addr × Obj)) (xe : Value → Shared → Prop), Takes (X.tr pn xe) W → PassesOwn (model X.prog X.w) X.A X.env xe → tSs (X.tr pn xe) body D σ H)
    (ts := fun a cls d D σ H => ∀ oe pn, Zc cls d oe → (∃ vs, oe.data = .fields vs) → tSs (X.suite a ((a, oe) :: pn)) (b₀ :: suite) D σ H) hst hfr cj.nd (cj.xN hN) hln' nm cj.tk
    (fun W pn xe tk po => ⟨fun pins s _ _ _ I h => h pn xe tk po pins s I⟩) (fun a oe cls d pn hz hf => ⟨fun pins s _ _ _ I h => h oe pn hz hf pins s I⟩)) pss_sem) ?_
  intro pn xe tk po pins0 sh0 I0
  have slen : s.length = X.N.length := I0.len
  have tk2 : Takes (X.tr pn xe) (fun cls d σ H => σ.length = s.length → wAs X.K c i (fun a cls d D σ H => ∀ oe pn, Zc cls d oe → (∃ vs, oe.data = .fields vs) → tSs (X.suite a ((a, oe) :: pn)) (b₀ :: suite) D σ H) E.W
      { De with nx := fun σ H => tSs X rest De σ H } cls d σ H) := fun u s' ⟨a, B0, sI, pins, σ, H, cls, d, e1, I, q1, q2, q3, q4, q5, q6, W⟩ =>
    tk u s' ⟨a, B0, sI, pins, σ, H, cls, d, e1, I, q1, q2, q3, q4, q5, q6, W (by rw [slen]; exact I.len)⟩
  have c0 : CJ P w K mg base S k (X.tr pn xe) B XW.non := ⟨cj.hprog, cj.hw, cj.hK, cj.hmg, cj.hbase, cj.hN, cj.hsc, cj.ok, cj.fn, cj.calm, cj.hr, po, takes0, fun _ _ _ _ _ h => h, fun _ _ _ _ _ _ _ _ _ _ _ h => h.elim⟩
  revert pins0 sh0 I0
  refine h (X.tr pn xe) ⟨_, TryQ K X B E i c (b₀ :: suite) ⟨fun G2 => JSs0 X B rest (G2.set i .no) D, D.rt, fun _ => False, fun _ => False⟩⟩ ⟨cj.hprog, cj.hw, cj.hK, cj.hmg, cj.hbase, cj.hN, cj.hsc, cj.ok, cj.hr, tk2, ?_⟩ c0 (fun _ _ h => h) [] s [] F H _ rfl cf ?_
  · intro t s2 z F2 H2 G2 xd od hl cc xo ⟨b, hx, hb1, hb2⟩ hlen2
    refine ⟨b, by rw [cj.hK]; exact hx, fun eb a na => ?_, fun eb => cj.lk t s2 z F2 H2 G2 xd od hl cc xo (hb2 eb)⟩
    intro oe pn2 hz hf
    have xo' : XOk X.K F2 H2 xd od := xo
    have iff : od = none ↔ xd.fs = [] := by
      rcases xo' with ⟨h1, h2⟩ | ⟨h1, dx, fv, h2, _⟩
      · exact ⟨fun _ => h1, fun _ => h2⟩
      · exact ⟨fun z => (by rw [h2] at z; cases z), fun z => absurd z h1⟩
    have hs := hb1 eb a od oe pn2 iff hz hf
    have c1 : Conf X.K B s2 F2 H2 G2 := by
      have dropM : ∀ {hv : St} {he : List Ent} {u : St} {g : List Ent}, hv.length = he.length → Conf X.K B (hv ++ u) F2 H2 (he ++ g) → Conf X.K B u F2 H2 g := by
        intro hv
        induction hv with
        | nil => intro he u g hl c; cases he with
          | nil => exact c
          | cons _ _ => simp at hl
        | cons v hv ih => intro he u g hl c; cases he with
          | nil => simp at hl
          | cons e he => exact ih (by simpa using hl) c.pop
      exact dropM hl cc
    have c2 : Conf X.K B ([] ++ s2.set i (some (.ref a))) F2 H2 ([] ++ G2.set i (.fz (xent xd a od))) := Conf.store (t := []) (z := []) rfl (c1.fz (xent_dp xo'))
    refine hs [] _ [] F2 H2 _ rfl c2 ⟨fun s' F' H' G' e c' q => ?_, kk.rt, fun _ _ _ _ _ _ q => q.elim, fun _ _ _ _ _ _ q => q.elim⟩
    have c3 : Conf X.K B ([] ++ s'.set i none) F' H' ([] ++ G'.set i .no) := Conf.store (t := []) (z := []) rfl (Conf.push (v := none) (e := .no) c' trivial (oad_no _))
    have len2 : (s'.set i none).length = s.length := by
      have h1 := c1.len
      have h2 := c'.len
      have h3 := cf.len
      rw [List.length_set, e, List.length_set]
      exact hlen2
    exact q _ F' H' De c3 ⟨by rw [len2]; exact kk.nx, kk.rt, by rw [len2]; exact kk.bk, by rw [len2]; exact kk.ct⟩
  · exact ⟨fun s' F' H' G' e c' q => q s' F' H' De c' (by rw [e]; exact kk), kk.rt, kk.bk, kk.ct⟩
/-- e.n, e caught -/
theorem cs_fld {a0 C : Addr} {oe : Obj} {pn : List (Addr × Obj)} {dd : Addr} {n : Str} (cs : CS K mg S (X.suite a0 ((a0, oe) :: pn))) (xf : XfC K C) (no : PySem.W.findIn K (.ref C) n = some none) (hz : Zc (.ref C) (some dd) oe) (hf : ∃ vs, oe.data = .fields vs) {Q : D → List Ent → Prop}
    (h : JV (X.suite a0 ((a0, oe) :: pn)) B a G fun d1 G1 => ∃ ns ds d, d1 = .exc a0 dd ns ds ∧ (ns.zip ds).lookup n = some d ∧ Q d G1) (hb : attributeBase a n X.env (eval a X.env) = eval a X.env := by rfl) : JV (X.suite a0 ((a0, oe) :: pn)) B (.Attribute a n pos) G Q := fun t s z F H VQ hl c q => by
  have hK : X.K = K := cs.hK
  have xf' : XfC X.K C := by rw [hK]; exact xf
  have no' : PySem.W.findIn X.K (.ref C) n = some none := by rw [hK]; exact no
  refine tS_of (pe_xf xf' no' hz hf pe_sem hb) (h t s z F H _ hl c fun v F' H' d1 G' c' ⟨ns, ds, d, e1, hl2, hq⟩ => ?_)
  subst e1
  have sm := c'.fh
  cases c'.top with
  | @exc _ _ fs _ _ h1 h2 h3 =>
    obtain ⟨y, hy, dp⟩ := lookup_paired h2 h3 hl2
    exact ⟨rfl, rfl, dd, fs, y, rfl, sm _ _ h1, hy, q y F' H' d G' (c'.pop.fz dp) hq⟩
/-- the instance that a suite holds -/
theorem cs_inst {a0 D : Addr} {oe : Obj} {pn pins : List (Addr × Obj)} {σ : St} {H : Hp} {s : Shared} {od : Option Addr} (I : Inv (X.suite a0 ((a0, oe) :: pn)) pins σ H s) (hz : Zc (.ref D) od oe) (hf : ∃ vs, oe.data = .fields vs) (hd : ∀ dd, od = some dd → ∃ fs, H dd = some (.xd fs)) :
    ∃ oD, PySem.W.InstAt s.heap a0 oe D oD := by
  obtain ⟨hget, _⟩ := I.pin (a0, oe) (List.mem_append.mpr (.inl List.mem_cons_self))
  obtain ⟨vs, hv⟩ := hf
  cases od with
  | none => exact ⟨none, hget, hz.1, by unfold PySem.W.notCls; rw [hv] <;> rfl, by rw [hz.2]; trivial⟩
  | some dd =>
    obtain ⟨fs, hdd⟩ := hd dd rfl
    have q : ObjOk X.prog X.w H s.heap dd (.xd fs) := I.hok dd _ hdd
    obtain ⟨mA, hns, _⟩ := q
    obtain ⟨oD, ho, _⟩ := lookIn_ns hns
    exact ⟨some oD, hget, hz.1, by unfold PySem.W.notCls; rw [hv] <;> rfl, by rw [hz.2]; exact ho⟩
theorem excC_kit {K : PySem.W.Frag} {D x : Addr} {ox : Obj} {od : Option Obj} (C : ExcC K D) : PySem.W.KitX K (.ref x) (.ref D) (fun h => PySem.W.InstAt h x ox D od) :=
  PySem.W.kitx_exc (by obtain ⟨cd, hc, _⟩ := PySem.W.any_some C.hd; rw [hc]; rfl) C.hg C.hk C.hs C.ha C.hn C.ht C.hm
def rIsQ (K : PySem.W.Frag) (D a : Addr) (od : Option Addr) : List V → Hp → VK → Prop := fun xs H Q => (∀ dd, od = some dd → ∃ fs, H dd = some (.xd fs)) ∧ ∃ (c : V) (cv : Value) (b : Bool), xs = [.ref a, c] ∧ (∀ u, RelV c u → u = cv) ∧ PySem.W.kitOne K (.ref D) cv = some b ∧ Q (.bl b) H
def rIsQT (K : PySem.W.Frag) (D a : Addr) (od : Option Addr) : List V → Hp → VK → Prop := fun xs H Q => (∀ dd, od = some dd → ∃ fs, H dd = some (.xd fs)) ∧ ∃ (tp : Addr) (cs : List V) (us : List Value) (b : Bool), xs = [.ref a, .ref tp] ∧ SqT K H tp cs ∧ Paired ClsV cs us ∧ PySem.W.kitAny K (.ref D) us = some b ∧ Q (.bl b) H
theorem call_isQ {X : Cx} {a D : Addr} {oe : Obj} {pn : List (Addr × Obj)} {od : Option Addr} (C : ExcC X.K D) (hz : Zc (.ref D) od oe) (hf : ∃ vs, oe.data = .fields vs) : CallR (X.suite a ((a, oe) :: pn)) (.builtin "isinstance") (rIsQ X.K D a od) := fun pins s σ H xs us Q I r ⟨hd, c, cv, b, ex, hcv, e, q⟩ => by
  subst ex
  cases r with
  | cons rx rr => cases rr with
    | cons rt rr =>
      cases rr; cases rx
      obtain rfl := hcv _ rt
      obtain ⟨oD, J⟩ := cs_inst I hz hf hd
      exact PySem.W.kia_one (excC_kit C) I.kIn J e (fun z => nomatch z) fun tk => ⟨.bl b, H, I.kept (t' := tk) fun _ _ z => z, rfl, q⟩
theorem call_isQT {X : Cx} {a D : Addr} {oe : Obj} {pn : List (Addr × Obj)} {od : Option Addr} (C : ExcC X.K D) (hz : Zc (.ref D) od oe) (hf : ∃ vs, oe.data = .fields vs) : CallR (X.suite a ((a, oe) :: pn)) (.builtin "isinstance") (rIsQT X.K D a od) := fun pins s σ H xs us Q I r ⟨hd, tp, cs, ws, b, ex, hT, hcl, e, q⟩ => by
  subst ex
  cases r with
  | cons rx rr => cases rr with
    | cons rt rr =>
      cases rr; cases rx; cases rt
      obtain ⟨oD, J⟩ := cs_inst I hz hf hd
      obtain ⟨its, rv, ⟨⟨oc, odd, dt, sl⟩, ho, hc, n, hdt⟩, _⟩ := I.tuple hT
      simp only at hc hdt
      subst hc hdt
      obtain rfl := ClsV.all hcl rv
      exact PySem.W.kia_tup (excC_kit C) I.kIn J ho e (fun z => nomatch z) fun tk => ⟨.bl b, H, I.kept (t' := tk) fun _ _ z => z, rfl, q⟩
/-- the caught one's dict, by what its name holds -/
theorem xent_dd {K : PySem.W.Frag} {F H : Hp} {a0 : Addr} {xd : XD} {od : Option Addr} {v : V} (sm : Same F H) (h : DP K F v (xent xd a0 od)) : v = .ref a0 ∧ ∀ dd, od = some dd → ∃ fs, H dd = some (.xd fs) := by
  cases od with
  | none => cases h; exact ⟨rfl, fun dd z => nomatch z⟩
  | some dd =>
    cases h with
    | exc h1 _ _ => exact ⟨rfl, fun d2 z => by cases z; exact ⟨_, sm _ _ h1⟩⟩
/-- isinstance(e, C), e caught -/
theorem cs_isQ {a0 : Addr} {oe : Obj} {pn : List (Addr × Obj)} {D : Addr} {od : Option Addr} {xd : XD} (cs : CS K mg S (X.suite a0 ((a0, oe) :: pn))) (C : ExcC K D) (hz : Zc (.ref D) od oe) (hf : ∃ vs, oe.data = .fields vs) (j : Nat) {Q : J.D → List Ent → Prop} (hm : mg "isinstance" = none)
    (h : JV (X.suite a0 ((a0, oe) :: pn)) B a G fun d1 G1 => JV (X.suite a0 ((a0, oe) :: pn)) B b G1 fun d2 G2 => ∃ c cv r, d1 = xent xd a0 od ∧ d2 = .raw c ∧ ClsV c cv ∧ PySem.W.kitOne K (.ref D) cv = some r ∧ Q (.bl r) G2) (hj : S.gl[j]? = some ("isinstance" : Str) := by rfl)
    (he : starEach [a, b] X.env = (false, eval a X.env) :: starEach [b] X.env := by rfl) (he2 : starEach [b] X.env = (false, eval b X.env) :: starEach [] X.env := by rfl) (hpl : (backTo pos (starEach [b] X.env)).any (·.1) = false := by rfl) :
    JV (X.suite a0 ((a0, oe) :: pn)) B (.Call (.Name "isinstance" p) [a, b] [] pos) G Q := fun t s z F H VQ hl c q => by
  have hK : X.K = K := cs.hK
  have C' : ExcC X.K D := by rw [hK]; exact C
  have hn := okName_of (Sc.glb cs.ok hj).1
  refine tS_of (pe_callB (call_isQ C' hz hf) (cs.gl hj) (by rw [cs.hmg]; exact hm) (by decide +kernel) (pa_cons pe_sem (pa_cons pe_sem pa_nil he2) he) hn.2.2 hn.1 he hpl) (run2 h hl c fun v u F' H' d1 d2 G' c' ⟨cc, cv, r, e1, e2, hcv, hk, hq⟩ => ?_)
  subst e1 e2
  cases c'.top
  obtain ⟨rfl, hd⟩ := xent_dd c'.pop.fh c'.pop.top
  have hu : ∀ u', RelV u u' → u' = cv := fun u' hu => by
    cases hcv with
    | ty T => exact hu
    | own D => exact hu
  exact ⟨hd, u, cv, r, rfl, hu, by rw [hK]; exact hk, q _ F' H' _ G' (c'.pop.pop.fz (.bl r)) hq⟩
/-- isinstance(e, (C, ..)) -/
theorem cs_isQT {a0 : Addr} {oe : Obj} {pn : List (Addr × Obj)} {D : Addr} {od : Option Addr} {xd : XD} (cs : CS K mg S (X.suite a0 ((a0, oe) :: pn))) (C : ExcC K D) (hz : Zc (.ref D) od oe) (hf : ∃ vs, oe.data = .fields vs) (j : Nat) {Q : J.D → List Ent → Prop} (hm : mg "isinstance" = none)
    (h : JV (X.suite a0 ((a0, oe) :: pn)) B a G fun d1 G1 => JV (X.suite a0 ((a0, oe) :: pn)) B b G1 fun d2 G2 => ∃ (vs : List V) (us : List Value) (r : Bool), d1 = xent xd a0 od ∧ d2 = .tup (vs.map .raw) ∧ Paired ClsV vs us ∧ PySem.W.kitAny K (.ref D) us = some r ∧ Q (.bl r) G2) (hj : S.gl[j]? = some ("isinstance" : Str) := by rfl)
    (he : starEach [a, b] X.env = (false, eval a X.env) :: starEach [b] X.env := by rfl) (he2 : starEach [b] X.env = (false, eval b X.env) :: starEach [] X.env := by rfl) (hpl : (backTo pos (starEach [b] X.env)).any (·.1) = false := by rfl) :
    JV (X.suite a0 ((a0, oe) :: pn)) B (.Call (.Name "isinstance" p) [a, b] [] pos) G Q := fun t s z F H VQ hl c q => by
  have hK : X.K = K := cs.hK
  have C' : ExcC X.K D := by rw [hK]; exact C
  have hn := okName_of (Sc.glb cs.ok hj).1
  refine tS_of (pe_callB (call_isQT C' hz hf) (cs.gl hj) (by rw [cs.hmg]; exact hm) (by decide +kernel) (pa_cons pe_sem (pa_cons pe_sem pa_nil he2) he) hn.2.2 hn.1 he hpl) (run2 h hl c fun v u F' H' d1 d2 G' c' ⟨vs, us, r, e1, e2, hcv, hk, hq⟩ => ?_)
  subst e1 e2
  have sm := c'.fh
  have raws : ∀ {xs vs : List V}, Paired (DP X.K F') xs (vs.map J.D.raw) → xs = vs := by
    intro xs
    induction xs with
    | nil => intro vs h; cases vs with
      | nil => rfl
      | cons _ _ => cases h
    | cons x xs ih => intro vs h; cases vs with
      | nil => cases h
      | cons v vs => cases h with
        | cons r t => cases r; rw [ih t]
  obtain ⟨rfl, hd⟩ := xent_dd c'.pop.fh c'.pop.top
  cases c'.top with
  | @tup tp xs _ h1 h2 =>
    obtain rfl := raws h2
    exact ⟨hd, tp, _, us, r, rfl, sameT sm h1, hcv, by rw [hK]; exact hk, q _ F' H' _ G' (c'.pop.pop.fz (.bl r)) hq⟩
end
end J

namespace J
open PySem PySem.Spec L2
section
variable {P : Program} {w : World} {K : PySem.W.Frag} {mg : Str → Option Value} {base : Heap} {S : Sc} {k : Nat} {X : Cx} {B : Bs} {E : XW} {G : List Ent} {a b e o tg : Expr} {es : List Expr} {pos p apos cp : Pos} {x : Str}
/-- isinstance of a plain value, wherever one stands -/
theorem cs_isi (cs : CS K mg S X) (j : Nat) {Q : D → List Ent → Prop} (hm : mg "isinstance" = none) (h : JV X B a G fun d1 G1 => JV X B b G1 fun d2 G2 => ∃ T T' r, d1.tyn = some T ∧ d2 = .raw (.ty T') ∧ kitB T T' = some r ∧ Q (.bl r) G2) (hj : S.gl[j]? = some "isinstance" := by rfl)
    (he : starEach [a, b] X.env = (false, eval a X.env) :: starEach [b] X.env := by rfl) (he2 : starEach [b] X.env = (false, eval b X.env) :: starEach [] X.env := by rfl) (hpl : (backTo pos (starEach [b] X.env)).any (·.1) = false := by rfl) : JV X B (.Call (.Name "isinstance" p) [a, b] [] pos) G Q := fun t s z F H VQ hl c q => by
  have hn := okName_of (Sc.glb cs.ok hj).1
  refine tS_of (pe_callB call_isi (cs.gl hj) (by rw [cs.hmg]; exact hm) (by decide +kernel) (pa_cons pe_sem (pa_cons pe_sem pa_nil he2) he) hn.2.2 hn.1 he hpl) (run2 h hl c fun v u F' H' d1 d2 G' c' ⟨T, T', r, e1, e2, e3, hq⟩ => ?_)
  subst e2
  have tv : TyX X.K H' v (.type T) := D.ty c'.pop.topH e1
  cases c'.top
  exact ⟨v, _, _, _, r, rfl, .ty T', tv, kit_ty e3, q _ F' H' _ G' (c'.pop.pop.fz (.bl r)) hq⟩
/-- == wherever there is room -/
theorem cu_eqT (hu : X.A.units + 64 < cLine) {Q : Bool → List Ent → Prop} (h : JV X B a G fun d1 G1 => JV X B b G1 fun d2 G2 => (∃ n, Flat n d1 ∧ n ≤ 64) ∧ (∃ m, Flat m d2 ∧ m ≤ 64) ∧ Q (deq d1 d2) G2) : JT X B (.Compare a [.Eq] [b] pos) G Q :=
  jt_cmp (op_eqD hu) (nomark _) (JV.imp h fun _ _ h => JV.imp h fun _ _ ⟨⟨n, f, hn⟩, ⟨m, f', hm⟩, q⟩ => ⟨_, relB_eq f f' hn hm, q⟩)
theorem cu_eqV (hu : X.A.units + 64 < cLine) {Q : D → List Ent → Prop} (h : JV X B a G fun d1 G1 => JV X B b G1 fun d2 G2 => (∃ n, Flat n d1 ∧ n ≤ 64) ∧ (∃ m, Flat m d2 ∧ m ≤ 64) ∧ Q (.bl (deq d1 d2)) G2) : JV X B (.Compare a [.Eq] [b] pos) G Q :=
  jv_cmp (op_eqD hu) (nomark _) (JV.imp h fun _ _ h => JV.imp h fun _ _ ⟨⟨n, f, hn⟩, ⟨m, f', hm⟩, q⟩ => ⟨_, relB_eq f f' hn hm, q⟩)
/-- the room of a suite -/
theorem suite_u (cj : CJ P w K mg base S k X B E) {a : Addr} {pn : List (Addr × Obj)} : (X.suite a pn).A.units + 64 < cLine := cj.hr.units
/-- tests in a row, the last one -/
theorem jt_and {rest : List Expr} {Q : Bool → List Ent → Prop} (h : JT X B a G fun kk G' => (kk = true → JW X B (.BoolOp .And (b :: rest) pos) G' Q) ∧ (kk = false → Q false G')) : JT X B (.BoolOp .And (a :: b :: rest) pos) G Q := (jw_and h).jt
theorem jt_or {rest : List Expr} {Q : Bool → List Ent → Prop} (h : JT X B a G fun kk G' => (kk = false → JW X B (.BoolOp .Or (b :: rest) pos) G' Q) ∧ (kk = true → Q true G')) : JT X B (.BoolOp .Or (a :: b :: rest) pos) G Q := (jw_or h).jt
theorem flat_str {n : Nat} {x : Str} (h : (PyData.str x).canLay0 = true := by decide +kernel) : Flat n (.str x) := .str x h
end
end J

namespace J
open PySem PySem.Spec L2
/-- d in a list of plain data -/
theorem any_D {n m : Nat} {d : D} (f : Flat n d) : ∀ {ds : List D}, (∀ e ∈ ds, Flat m e) → (((D.pys ds).any fun z => PyData.eqv z (D.py d)) = true ↔ d ∈ ds)
  | [], _ => by simp [D.pys]
  | e :: ds, h => by
    show ((PyData.eqv (D.py e) (D.py d) || (D.pys ds).any fun z => PyData.eqv z (D.py d)) = true) ↔ _
    rw [Bool.or_eq_true, any_D f fun e he => h e (by simp [he])]
    have : PyData.eqv (D.py e) (D.py d) = true ↔ e = d := deq_iff (h e (by simp)) f
    rw [this, List.mem_cons]
    exact or_congr ⟨fun z => z.symm, fun z => z.symm⟩ Iff.rfl
theorem any_Db {n m : Nat} {d : D} (f : Flat n d) {ds : List D} (h : ∀ e ∈ ds, Flat m e) [Decidable (d ∈ ds)] : ((D.pys ds).any fun z => PyData.eqv z (D.py d)) = decide (d ∈ ds) := by
  rw [Bool.eq_iff_iff, any_D f h, decide_eq_true_iff]
section
variable {P : Program} {w : World} {K : PySem.W.Frag} {mg : Str → Option Value} {base : Heap} {S : Sc} {k : Nat} {X : Cx} {B : Bs} {E : XW} {G : List Ent} {a b e o tg : Expr} {es : List Expr} {pos p apos cp : Pos} {x : Str}
/-- the same as a proposition's Bool -/
theorem relB_inD {n m : Nat} {d : D} {ds : List D} (f : Flat n d) (h : ∀ e ∈ ds, Flat m e) [Decidable (d ∈ ds)] (hn : n ≤ 64 := by decide) (hm : m + 1 ≤ 64 := by decide) : RelB X (rInD X.K) d (.lst ds) (decide (d ∈ ds)) := fun v u H VQ h1 h2 q => by
  have fl : Flat (m + 1) (.lst ds) := .lst h
  exact ⟨_, _, DP.dp _ v h1 f, DP.dp _ u h2 fl, f.shaped hn, fl.shaped hm, by rw [any_Db f h]; exact q⟩
theorem relB_notinD {n m : Nat} {d : D} {ds : List D} (f : Flat n d) (h : ∀ e ∈ ds, Flat m e) [Decidable (d ∈ ds)] (hn : n ≤ 64 := by decide) (hm : m + 1 ≤ 64 := by decide) : RelB X (rNotInD X.K) d (.lst ds) (!decide (d ∈ ds)) := fun v u H VQ h1 h2 q => by
  have fl : Flat (m + 1) (.lst ds) := .lst h
  exact ⟨_, _, DP.dp _ v h1 f, DP.dp _ u h2 fl, f.shaped hn, fl.shaped hm, by rw [any_Db f h]; exact q⟩
theorem jt_notinD (cj : CJ P w K mg base S k X B E) {Q : Bool → List Ent → Prop} (h : JV X B a G fun d1 G1 => JV X B b G1 fun d2 G2 => ∃ (n m : Nat) (ds : List D) (_ : Decidable (d1 ∈ ds)), d2 = .lst ds ∧ Flat n d1 ∧ (∀ e ∈ ds, Flat m e) ∧ n ≤ 64 ∧ m + 1 ≤ 64 ∧ Q (!decide (d1 ∈ ds)) G2) (hm : behindInMarks .NotIn b = false := by with_unfolding_all rfl) : JT X B (.Compare a [.NotIn] [b] pos) G Q :=
  jt_cmp (op_notInD cj.u65) hm (JV.imp h fun _ _ h => JV.imp h fun _ _ ⟨n, m, ds, _, e2, f, fs, l1, l2, q⟩ => by subst e2; exact ⟨_, relB_notinD f fs l1 l2, q⟩)
theorem jt_inD (cj : CJ P w K mg base S k X B E) {Q : Bool → List Ent → Prop} (h : JV X B a G fun d1 G1 => JV X B b G1 fun d2 G2 => ∃ (n m : Nat) (ds : List D) (_ : Decidable (d1 ∈ ds)), d2 = .lst ds ∧ Flat n d1 ∧ (∀ e ∈ ds, Flat m e) ∧ n ≤ 64 ∧ m + 1 ≤ 64 ∧ Q (decide (d1 ∈ ds)) G2) (hm : behindInMarks .In b = false := by with_unfolding_all rfl) : JT X B (.Compare a [.In] [b] pos) G Q :=
  jt_cmp (op_inD cj.u65) hm (JV.imp h fun _ _ h => JV.imp h fun _ _ ⟨n, m, ds, _, e2, f, fs, l1, l2, q⟩ => by subst e2; exact ⟨_, relB_inD f fs l1 l2, q⟩)
/-- a op x, x an own list at a slot -/
theorem jt_cmpOR {xp : Pos} (cj : CJ P w K mg base S k X B E) (i : Nat) {op : CmpOp} {r : R2} {Q : Bool → List Ent → Prop} (ho : OpR X (compareOp op) r) (hm : behindInMarks op (.Name x xp) = false)
    (h : JV X B a G fun d1 G1 => ∃ ds kk, entOw G1[i]? = some (.lst ds) ∧ RelB X r d1 (.lst ds) kk ∧ Q kk G1) (hN : S.N[i]? = some x := by rfl) (hv : i ∈ S.vi := by decide) : JT X B (.Compare a [op] [.Name x xp] pos) G Q := fun t s z F H TQ hl c q => by
  have hn := okName_of (Sc.vis cj.ok hv hN).1
  refine tT_of (pt_cmpR ho pe_sem (pe_var (cj.xN hN) (cj.vis hv hN) hn.1 hn.2.1) hm) (h t s z F H _ hl c fun v F1 H1 d1 G1 c1 ⟨ds, kk, hg, hr, hq⟩ => ?_)
  obtain ⟨y, e1, dp⟩ := own_dp (X := X) hl c1.pop hg
  exact ⟨.ref y, e1, hr v (.ref y) H1 _ c1.topH dp ⟨_, rfl, q _ F1 H1 G1 c1.pop hq⟩⟩
theorem jt_notinOR {xp : Pos} (cj : CJ P w K mg base S k X B E) (i : Nat) {Q : Bool → List Ent → Prop} (h : JV X B a G fun d1 G1 => ∃ (n m : Nat) (ds : List D) (_ : Decidable (d1 ∈ ds)), entOw G1[i]? = some (.lst ds) ∧ Flat n d1 ∧ (∀ e ∈ ds, Flat m e) ∧ n ≤ 64 ∧ m + 1 ≤ 64 ∧ Q (!decide (d1 ∈ ds)) G1) (hN : S.N[i]? = some x := by rfl) (hv : i ∈ S.vi := by decide) (hm : behindInMarks .NotIn (.Name x xp) = false := by with_unfolding_all rfl) : JT X B (.Compare a [.NotIn] [.Name x xp] pos) G Q :=
  jt_cmpOR cj i (op_notInD cj.u65) hm (JV.imp h fun _ _ ⟨n, m, ds, _, e2, f, fs, l1, l2, q⟩ => ⟨ds, _, e2, relB_notinD f fs l1 l2, q⟩) hN hv
end
end J

namespace J
open PySem PySem.Spec L2
section
variable {P : Program} {w : World} {K : PySem.W.Frag} {mg : Str → Option Value} {base : Heap} {S : Sc} {k : Nat} {X : Cx} {B : Bs} {E : XW} {G : List Ent} {a b e o tg : Expr} {es : List Expr} {pos p apos cp : Pos} {x : Str}
/-- a sign of a text -/
theorem jv_ixS {Q : D → List Ent → Prop} (h : JV X B a G fun d1 G1 => JV X B b G1 fun d2 G2 => ∃ (z : List Nat) (i : Int) (c : Nat), d1 = .str (SX.S z) ∧ d2 = .int i ∧ z.length ≤ sizeLine ∧ atI z i = some c ∧ Q (.str (SX.S [c])) G2) (hs : PlainIx b := by exact fun _ _ => rfl) : JV X B (.Subscript a b pos) G Q := fun t s z F H VQ hl c q =>
  tS_of (pe_ix ix_str pe_sem pe_sem hs) (run2 h hl c fun v u F' H' d1 d2 G' c' ⟨ds, i, d, sd, e, hz, ha, hq⟩ => by
    subst e sd
    cases c'.top
    cases c'.pop.top
    exact ⟨_, i, d, rfl, rfl, by rw [SX.S_len]; exact hz, ha, q _ F' H' _ G' (c'.pop.pop.fz (.str _)) hq⟩)
/-- a part of a text -/
theorem jv_sliceS {lo hi : Option Expr} {p2 : Pos} {Q : D → List Ent → Prop} (h : JV X B e G fun d G1 => JO X B lo G1 fun i G2 => JO X B hi G2 fun j G3 => ∃ z : Str, d = .str z ∧ z.length ≤ sizeLine ∧ Q (.str (Txt.slice z i j)) G3) : JV X B (.Subscript e (.Slice lo hi none p2) pos) G Q := fun t s z F H VQ hl c q =>
  tS_of (pe_slice C8.sl_txt pe_sem (po_sem lo) (po_sem hi)) (h t s z F H _ hl c fun v F1 H1 d G1 c1 h1 => runO h1 (t := some v :: t) (z := .fz d :: z) (by simp [hl]) c1 fun i F2 H2 G2 c2 h2 => runO h2 (t := some v :: t) (z := .fz d :: z) (by simp [hl]) c2 fun j F3 H3 G3 c3 ⟨ds, e, hz, hq⟩ => by
    subst e
    cases c3.top
    exact ⟨_, rfl, hz, q _ F3 H3 _ G3 (c3.pop.fz (.str _)) hq⟩)
/-- == and != of texts -/
theorem relB_eqS {a b : List Nat} : RelB X rEq (.str (SX.S a)) (.str (SX.S b)) (decide (a = b)) := fun v u H VQ h1 h2 q => by
  cases h1; cases h2
  refine ⟨rfl, ?_⟩
  have : decide (V.str (SX.S a) = V.str (SX.S b)) = decide (a = b) := by
    rw [Bool.eq_iff_iff, decide_eq_true_iff, decide_eq_true_iff]
    exact ⟨fun h => SX.S_inj (V.str.inj h), fun h => by rw [h]⟩
  rw [this]; exact q
theorem relB_neS {a b : List Nat} : RelB X rNe (.str (SX.S a)) (.str (SX.S b)) (!decide (a = b)) := fun v u H VQ h1 h2 q => by
  cases h1; cases h2
  refine ⟨rfl, ?_⟩
  have : decide (V.str (SX.S a) = V.str (SX.S b)) = decide (a = b) := by
    rw [Bool.eq_iff_iff, decide_eq_true_iff, decide_eq_true_iff]
    exact ⟨fun h => SX.S_inj (V.str.inj h), fun h => by rw [h]⟩
  rw [this]; exact q
theorem jt_eqS {Q : Bool → List Ent → Prop} (h : JV X B a G fun d1 G1 => JV X B b G1 fun d2 G2 => ∃ y z : List Nat, d1 = .str (SX.S y) ∧ d2 = .str (SX.S z) ∧ Q (decide (y = z)) G2) : JT X B (.Compare a [.Eq] [b] pos) G Q :=
  jt_cmp op_eq (nomark _) (JV.imp h fun _ _ h => JV.imp h fun _ _ ⟨y, z, e1, e2, q⟩ => by subst e1 e2; exact ⟨_, relB_eqS, q⟩)
theorem jt_neS {Q : Bool → List Ent → Prop} (h : JV X B a G fun d1 G1 => JV X B b G1 fun d2 G2 => ∃ y z : List Nat, d1 = .str (SX.S y) ∧ d2 = .str (SX.S z) ∧ Q (!decide (y = z)) G2) : JT X B (.Compare a [.NotEq] [b] pos) G Q :=
  jt_cmp op_ne (nomark _) (JV.imp h fun _ _ h => JV.imp h fun _ _ ⟨y, z, e1, e2, q⟩ => by subst e1 e2; exact ⟨_, relB_neS, q⟩)
theorem jv_eqS {Q : D → List Ent → Prop} (h : JV X B a G fun d1 G1 => JV X B b G1 fun d2 G2 => ∃ y z : List Nat, d1 = .str (SX.S y) ∧ d2 = .str (SX.S z) ∧ Q (.bl (decide (y = z))) G2) : JV X B (.Compare a [.Eq] [b] pos) G Q :=
  jv_cmp op_eq (nomark _) (JV.imp h fun _ _ h => JV.imp h fun _ _ ⟨y, z, e1, e2, q⟩ => by subst e1 e2; exact ⟨_, relB_eqS, q⟩)
theorem jv_neS {Q : D → List Ent → Prop} (h : JV X B a G fun d1 G1 => JV X B b G1 fun d2 G2 => ∃ y z : List Nat, d1 = .str (SX.S y) ∧ d2 = .str (SX.S z) ∧ Q (.bl (!decide (y = z))) G2) : JV X B (.Compare a [.NotEq] [b] pos) G Q :=
  jv_cmp op_ne (nomark _) (JV.imp h fun _ _ h => JV.imp h fun _ _ ⟨y, z, e1, e2, q⟩ => by subst e1 e2; exact ⟨_, relB_neS, q⟩)
/-- a sign in a text -/
theorem jt_inS {Q : Bool → List Ent → Prop} (h : JV X B a G fun d1 G1 => JV X B b G1 fun d2 G2 => ∃ (c : Nat) (z : List Nat), d1 = .str (SX.S [c]) ∧ d2 = .str (SX.S z) ∧ Q (decide (c ∈ z)) G2) (hm : behindInMarks .In b = false := by with_unfolding_all rfl) : JT X B (.Compare a [.In] [b] pos) G Q :=
  jt_cmp op_in_sign hm (JV.imp h fun _ _ h => JV.imp h fun _ _ ⟨y, z, e1, e2, q⟩ => by subst e1 e2; exact ⟨_, fun v u H VQ h1 h2 q => by cases h1; cases h2; exact ⟨_, _, rfl, rfl, q⟩, q⟩)
theorem jt_notInS {Q : Bool → List Ent → Prop} (h : JV X B a G fun d1 G1 => JV X B b G1 fun d2 G2 => ∃ (c : Nat) (z : List Nat), d1 = .str (SX.S [c]) ∧ d2 = .str (SX.S z) ∧ Q (!decide (c ∈ z)) G2) (hm : behindInMarks .NotIn b = false := by with_unfolding_all rfl) : JT X B (.Compare a [.NotIn] [b] pos) G Q :=
  jt_cmp op_notIn_sign hm (JV.imp h fun _ _ h => JV.imp h fun _ _ ⟨y, z, e1, e2, q⟩ => by subst e1 e2; exact ⟨_, fun v u H VQ h1 h2 q => by cases h1; cases h2; exact ⟨_, _, rfl, rfl, q⟩, q⟩)
/-- int of a text of figures -/
theorem jv_intS (cj : CJ P w K mg base S k X B E) (j : Nat) {Q : D → List Ent → Prop} (hm : mg "int" = none) (h : JV X B e G fun d G' => ∃ z : List Nat, d = .str (SX.S z) ∧ (z.all (fun c => decide (48 ≤ c) && decide (c ≤ 57))) = true ∧ z ≠ [] ∧ z.length ≤ 640 ∧ Q (.int ((NumText.digitsVal z : Nat) : Int)) G') (hj : S.gl[j]? = some "int" := by rfl)
    (he : starEach [e] X.env = (false, eval e X.env) :: starEach [] X.env := by rfl) (hpl : (backTo pos (starEach [] X.env)).any (·.1) = false := by rfl) : JV X B (.Call (.Name "int" p) [e] [] pos) G Q :=
  jv_callTy cj j call_int_str hm (by decide +kernel) (JD.cons (JV.imp h fun d G' ⟨i, ed, h1, h2, h3, q⟩ => JD.nil ⟨_, _, .int _, fun vs H VQ dp hq => by
    subst ed
    cases dp with
    | cons r t => cases t; cases r; exact ⟨_, _, rfl, SX.int_S h1 h2 (by omega), by rw [SX.S_len]; exact h3, hq⟩, q⟩) he) hj he hpl
/-- a text, sign by sign -/
theorem ji_strS {Q : Nat → (Nat → D → Prop) → List Ent → Prop} (h : JV X B e G fun d G' => ∃ y : List Nat, d = .str (SX.S y) ∧ Q y.length (fun i d => ∃ c, y[i]? = some c ∧ d = .str (SX.S [c])) G') : JI X B tg e G Q :=
  ji_str (JV.imp h fun _ _ ⟨y, e1, q⟩ => by
    subst e1
    refine ⟨_, rfl, ?_⟩
    have e1 : (SX.S y).cps.size = y.length := by simp [SX.S]
    have e2 : (fun (i : Nat) (d : D) => ∃ c, (SX.S y).cps[i]? = some c ∧ d = .str ⟨#[c]⟩) = fun i d => ∃ c, y[i]? = some c ∧ d = .str (SX.S [c]) := by
      funext i d
      simp [SX.S]
    rw [e1, e2]; exact q)
theorem jv_lenSS (cj : CJ P w K mg base S k X B E) (j : Nat) {Q : D → List Ent → Prop} (hm : mg "len" = none) (h : JV X B e G fun d G' => ∃ y : List Nat, d = .str (SX.S y) ∧ y.length ≤ sizeLine ∧ Q (.int (y.length : Nat)) G') (hj : S.gl[j]? = some "len" := by rfl)
    (he : starEach [e] X.env = (false, eval e X.env) :: starEach [] X.env := by rfl) (hpl : (backTo pos (starEach [] X.env)).any (·.1) = false := by rfl) : JV X B (.Call (.Name "len" p) [e] [] pos) G Q :=
  jv_lenS cj j hm (JV.imp h fun _ _ ⟨y, e1, h1, q⟩ => ⟨_, e1, by rw [SX.S_len]; exact h1, by rw [SX.S_len]; exact q⟩) hj he hpl
theorem jv_strN (cj : CJ P w K mg base S k X B E) (j : Nat) {Q : D → List Ent → Prop} (hm : mg "str" = none) (h : JV X B e G fun d G' => ∃ n : Nat, d = .int (n : Int) ∧ n ≤ 1000000 ∧ Q (.str (SX.S (TL.numL n))) G') (hj : S.gl[j]? = some "str" := by rfl)
    (he : starEach [e] X.env = (false, eval e X.env) :: starEach [] X.env := by rfl) (hpl : (backTo pos (starEach [] X.env)).any (·.1) = false := by rfl) : JV X B (.Call (.Name "str" p) [e] [] pos) G Q :=
  jv_strI cj j hm (JV.imp h fun _ _ ⟨n, e1, h1, q⟩ => ⟨_, e1, by
    rcases Nat.eq_zero_or_pos n with z | z
    · subst z; decide
    · have : n.log2 < 20 := (Nat.log2_lt (by omega)).mpr (Nat.lt_of_le_of_lt h1 (by decide))
      show (Int.natAbs (n : Int)).log2 < 1920
      rw [Int.natAbs_natCast]; omega, by
    have : (((toString ((n : Nat) : Int)) : String) : Str) = SX.S (TL.numL n) := SX.num_S n
    rw [this]; exact q⟩) hj he hpl
/-- texts put together -/
theorem jv_addsS {Q : D → List Ent → Prop} (h : JV X B a G fun d1 G1 => JV X B b G1 fun d2 G2 => ∃ i j : List Nat, d1 = .str (SX.S i) ∧ d2 = .str (SX.S j) ∧ i.length + j.length ≤ sizeLine ∧ Q (.str (SX.S (i ++ j))) G2) : JV X B (.BinOp a .Add b pos) G Q :=
  jv_adds (JV.imp h fun _ _ h => JV.imp h fun _ _ ⟨i, j, e1, e2, hz, q⟩ => ⟨_, _, e1, e2, by rw [SX.S_len, SX.S_len]; exact hz, by rw [SX.S_cat]; exact q⟩)
theorem jv_joinS {Q : D → List Ent → Prop} (h : JV X B o G fun d1 G1 => ∃ s : List Nat, d1 = .str (SX.S s) ∧ JV X B e G1 fun d2 G2 => ∃ ys : List (List Nat), d2 = .lst (ys.map fun y => .str (SX.S y)) ∧ (ys.map (·.length)).sum + ys.length * s.length ≤ 16777216 ∧ Q (.str (SX.S (TL.joinL s ys))) G2)
    (hs : starEach [e] X.env = [(false, eval e X.env)] := by rfl) (hbase : attributeBase o "join" X.env (eval o X.env) = eval o X.env := by rfl) (hline : (apos.endLine == pos.line) = true := by rfl) : JV X B (.Call (.Attribute o "join" apos) [e] [] pos) G Q :=
  jv_join (JV.imp h fun _ _ ⟨s, e1, h⟩ => ⟨_, e1, JV.imp h fun _ _ ⟨ys, e2, hz, q⟩ => ⟨ys.map SX.S, by rw [e2, List.map_map]; rfl, by rw [SX.lens, List.length_map, SX.S_len]; exact hz, by rw [SX.join_S]; exact q⟩⟩) hs hbase hline
theorem je_splitS {Q : Ent → List Ent → Prop} (h : JV X B o G fun d1 G1 => ∃ s : List Nat, d1 = .str (SX.S s) ∧ JV X B e G1 fun d2 G2 => ∃ b : List Nat, d2 = .str (SX.S b) ∧ b ≠ [] ∧ b.all (· < 256) = true ∧ s.length + 2 ≤ sizeLine ∧ Q (.ow (.lst ((TL.spl b 0 [] s).map fun y => .str (SX.S y)))) G2)
    (hs : starEach [e] X.env = [(false, eval e X.env)] := by rfl) (hbase : attributeBase o "split" X.env (eval o X.env) = eval o X.env := by rfl) (hline : (apos.endLine == pos.line) = true := by rfl) : JE X B (.Call (.Attribute o "split" apos) [e] [] pos) G Q :=
  je_split (JV.imp h fun _ _ ⟨s, e1, h⟩ => ⟨_, e1, JV.imp h fun _ _ ⟨b, e2, hb, hk, hz, q⟩ => ⟨_, e2, by
    rw [SX.S_len]
    cases b with
    | nil => exact absurd rfl hb
    | cons _ _ => rfl, by rw [SX.S_len]; exact hz, by rw [SX.split_S hb hk, List.map_map]; exact q⟩⟩) hs hbase hline
/-- what partition gives, as codes -/
def parP (b s : List Nat) : List Nat × List Nat × List Nat :=
  match TL.par b [] s with
  | some (p, q) => (p, b, q)
  | none => (s, [], [])
theorem jv_partitionS {Q : D → List Ent → Prop} (h : JV X B o G fun d1 G1 => ∃ s : List Nat, d1 = .str (SX.S s) ∧ JV X B e G1 fun d2 G2 => ∃ b : List Nat, d2 = .str (SX.S b) ∧ b ≠ [] ∧ s.length ≤ sizeLine ∧ Q (.tup [.str (SX.S (parP b s).1), .str (SX.S (parP b s).2.1), .str (SX.S (parP b s).2.2)]) G2)
    (hs : starEach [e] X.env = [(false, eval e X.env)] := by rfl) (hbase : attributeBase o "partition" X.env (eval o X.env) = eval o X.env := by rfl) (hline : (apos.endLine == pos.line) = true := by rfl) : JV X B (.Call (.Attribute o "partition" apos) [e] [] pos) G Q :=
  jv_partition (JV.imp h fun _ _ ⟨s, e1, h⟩ => ⟨_, e1, JV.imp h fun _ _ ⟨b, e2, hb, hz, q⟩ => ⟨_, e2, by
    rw [SX.S_len]
    cases b with
    | nil => exact absurd rfl hb
    | cons _ _ => rfl, by rw [SX.S_len]; exact hz, by
      have : Txt.partition (SX.S s) (SX.S b) = (SX.S (parP b s).1, SX.S (parP b s).2.1, SX.S (parP b s).2.2) := by
        unfold parP
        cases hp : TL.par b [] s with
        | some pq => obtain ⟨p, q⟩ := pq; exact SX.partition_some hb hp
        | none => exact SX.partition_none hb hp
      rw [this]; exact q⟩⟩) hs hbase hline
/-- a text's data -/
theorem jv_strS {i j} (z : List Nat) {Q : D → List Ent → Prop} (h : Q (.str (SX.S z)) G) (hz : i = SX.S z := by rfl) : JV X B (.Constant (.str i) j pos) G Q := jv_str (by rw [hz]; exact h)
/-- a text kept globally -/
theorem jv_globS (cj : CJ P w K mg base S k X B E) (j : Nat) {y : Str} (z : List Nat) {Q : D → List Ent → Prop} (hm : ∃ t, mg x = some (.str y t)) (h : Q (.str (SX.S z)) G) (hz : y = SX.S z := by rfl) (hj : S.gl[j]? = some x := by rfl) : JV X B (.Name x pos) G Q := by
  obtain ⟨t, ht⟩ := hm
  subst hz
  exact jv_glob (v := .str (SX.S z)) cj j ht ⟨t, rfl⟩ (fun _ => .str _) h hj
/-- e[:n] and e[n:] of a text -/
theorem jv_takeS (n : Nat) {i : Int} {jj : Nat} {p2 p3 : Pos} {Q : D → List Ent → Prop} (h : JV X B e G fun d G1 => ∃ z : List Nat, d = .str (SX.S z) ∧ z.length ≤ sizeLine ∧ Q (.str (SX.S (z.take n))) G1) (hi : i = (n : Int) := by rfl) : JV X B (.Subscript e (.Slice none (some (.Constant (.int i) jj p3)) none p2) pos) G Q :=
  jv_sliceS (JV.imp h fun _ G1 ⟨z, e1, hz, q⟩ => JO.non (JO.som (jv_int ⟨_, rfl, SX.S z, e1, by rw [SX.S_len]; exact hz, by
    subst hi
    rw [SX.slice_to (by omega)]; exact q⟩)))
theorem jv_dropS (n : Nat) {i : Int} {jj : Nat} {p2 p3 : Pos} {Q : D → List Ent → Prop} (h : JV X B e G fun d G1 => ∃ z : List Nat, d = .str (SX.S z) ∧ z.length ≤ sizeLine ∧ Q (.str (SX.S (z.drop n))) G1) (hi : i = (n : Int) := by rfl) : JV X B (.Subscript e (.Slice (some (.Constant (.int i) jj p3)) none none p2) pos) G Q :=
  jv_sliceS (JV.imp h fun _ G1 ⟨z, e1, hz, q⟩ => JO.som (jv_int ⟨_, rfl, JO.non ⟨SX.S z, e1, by rw [SX.S_len]; exact hz, by
    subst hi
    rw [SX.slice_from (by omega)]; exact q⟩⟩))
/-- the parts of a text are no longer than it -/
theorem spl_len (S : List Nat) : ∀ (l : List Nat) (k : Nat) (acc : List Nat), (∀ x ∈ TL.spl S k acc l, x.length ≤ acc.length + l.length) ∧ (TL.spl S k acc l).length ≤ l.length + 1
  | [], k, acc => by rw [TL.spl_nil]; simp
  | c :: r, 0, acc => by
    show (∀ x ∈ (if TL.pre S (c :: r) = true then acc :: TL.spl S (S.length - 1) [] r else TL.spl S 0 (acc ++ [c]) r), _) ∧ (if TL.pre S (c :: r) = true then acc :: TL.spl S (S.length - 1) [] r else TL.spl S 0 (acc ++ [c]) r).length ≤ _
    by_cases h : TL.pre S (c :: r) = true
    · rw [if_pos h]
      obtain ⟨h1, h2⟩ := spl_len S r (S.length - 1) []
      refine ⟨fun x hx => ?_, by simp only [List.length_cons]; omega⟩
      rcases List.mem_cons.mp hx with rfl | hx
      · omega
      · have := h1 x hx
        simp only [List.length_nil, List.length_cons] at this ⊢; omega
    · rw [if_neg h]
      obtain ⟨h1, h2⟩ := spl_len S r 0 (acc ++ [c])
      refine ⟨fun x hx => ?_, by simp only [List.length_cons]; omega⟩
      have := h1 x hx
      simp only [List.length_append, List.length_cons, List.length_nil] at this ⊢; omega
  | c :: r, k + 1, acc => by
    obtain ⟨h1, h2⟩ := spl_len S r k acc
    refine ⟨fun x hx => ?_, by show (TL.spl S k acc r).length ≤ _; simp only [List.length_cons]; omega⟩
    have := h1 x hx
    simp only [List.length_cons]; omega
theorem spl_ne (S : List Nat) : ∀ (l : List Nat) (k : Nat) (acc : List Nat), 1 ≤ (TL.spl S k acc l).length
  | [], k, acc => by rw [TL.spl_nil]; simp
  | c :: r, 0, acc => by
    show 1 ≤ (if TL.pre S (c :: r) = true then acc :: TL.spl S (S.length - 1) [] r else TL.spl S 0 (acc ++ [c]) r).length
    by_cases h : TL.pre S (c :: r) = true
    · rw [if_pos h]; simp
    · rw [if_neg h]; exact spl_ne S r 0 (acc ++ [c])
  | c :: r, k + 1, acc => spl_ne S r k acc
theorem par_len (S : List Nat) : ∀ (l acc : List Nat) {p q : List Nat}, TL.par S acc l = some (p, q) → p.length ≤ acc.length + l.length ∧ q.length ≤ l.length
  | [], acc, p, q, h => by cases h
  | c :: r, acc, p, q, h => by
    have h : (if TL.pre S (c :: r) = true then some (acc, (c :: r).drop S.length) else TL.par S (acc ++ [c]) r) = some (p, q) := h
    by_cases z : TL.pre S (c :: r) = true
    · rw [if_pos z] at h
      cases h
      rw [List.length_drop]
      exact ⟨Nat.le_add_right _ _, Nat.sub_le _ _⟩
    · rw [if_neg z] at h
      obtain ⟨h1, h2⟩ := par_len S r (acc ++ [c]) h
      simp only [List.length_append, List.length_cons, List.length_nil] at h1 ⊢
      omega
end
end J

namespace J
open PySem PySem.Spec L2
/-- the texts that expressions write -/
def strEs : List Expr → Option (List Str)
  | [] => some []
  | .Constant (.str i) _ _ :: es => (strEs es).map (i :: ·)
  | _ => none
section
variable {P : Program} {w : World} {K : PySem.W.Frag} {mg : Str → Option Value} {base : Heap} {S : Sc} {k : Nat} {X : Cx} {B : Bs} {E : XW} {G : List Ent} {a b e o tg : Expr} {es : List Expr} {pos p apos cp : Pos} {x : Str}
theorem jd_strs0 : ∀ {es : List Expr} {ys : List Str} {Q : List D → List Ent → Prop}, strEs es = some ys → Q (ys.map .str) G → JD X B es G Q
  | [], ys, Q, h, q => by cases h; exact JD.nil q
  | .Constant (.str i) j pp :: es, ys, Q, h, q => by
    cases hs : strEs es with
    | none =>
      have h : (strEs es).map (i :: ·) = some ys := h
      rw [hs] at h; cases h
    | some zs =>
      have h : (strEs es).map (i :: ·) = some ys := h
      rw [hs] at h; cases h
      exact JD.cons (jv_str (jd_strs0 hs q))
/-- a display of texts -/
theorem jd_strs (zs : List (List Nat)) {Q : List D → List Ent → Prop} (q : Q (zs.map fun y => .str (SX.S y)) G) (h : strEs es = some (zs.map SX.S) := by rfl) : JD X B es G Q :=
  jd_strs0 h (by rw [List.map_map]; exact q)
end
end J

namespace J
open PySem PySem.Spec L2
section
variable {P : Program} {w : World} {K : PySem.W.Frag} {mg : Str → Option Value} {base : Heap} {S : Sc} {k : Nat} {X : Cx} {B : Bs} {E : XW} {G : List Ent} {a b cc e o tg : Expr} {es : List Expr} {pos p apos cp : Pos} {x : Str}
/-- xs[::-1] -/
theorem je_revL {kk : Nat} {p1 p2 p3 : Pos} {Q : Ent → List Ent → Prop} (h : JV X B e G fun d G1 => ∃ ds, (d = .lst ds ∨ d = .kls ds) ∧ Q (.ow (.lst ds.reverse)) G1) : JE X B (.Subscript e (.Slice none none (some (.UnaryOp .USub (.Constant (.int 1) kk p1) p2)) p3) pos) G Q := fun t s z F H VQ hl c q =>
  tS_of (pe_revL pe_sem) (h t s z F H _ hl c fun v F1 H1 d G1 c1 ⟨ds, e, hq⟩ => by
    have sm := c1.fh
    rcases e with e | e
    · subst e
      cases c1.top with
      | lst h3 h4 => exact ⟨_, _, rfl, .of (sm _ _ h3), fun p np => q (.ref p) F1 _ _ G1 (c1.pop.newL np (prev h4)) trivial hq⟩
    · subst e
      cases c1.top with
      | kls h3 h4 => exact ⟨_, _, rfl, sm.seq h3, fun p np => q (.ref p) F1 _ _ G1 (c1.pop.newL np (prev h4)) trivial hq⟩)
/-- a < b < c of ints -/
theorem jt_ltlt {Q : Bool → List Ent → Prop} (h : JV X B a G fun d1 G1 => JV X B b G1 fun d2 G2 => ∃ i j, d1 = .int i ∧ d2 = .int j ∧ (i < j → JV X B cc G2 fun d3 G3 => ∃ m, d3 = .int m ∧ Q (decide (j < m)) G3) ∧ (¬ i < j → Q false G2)) (h2 : behindInMarks .Lt cc = false := by exact nomark _) : JT X B (.Compare a [.Lt, .Lt] [b, cc] pos) G Q :=
  jt_chain op_lt op_lt (h.imp fun d1 G1 h1 => h1.imp fun d2 G2 ⟨i, j, e1, e2, ht, hf⟩ => by
    subst e1 e2
    exact ⟨_, relB_lt, fun hk => (ht (of_decide_eq_true hk)).imp fun d3 G3 ⟨m, e3, q⟩ => by subst e3; exact ⟨_, relB_lt, q⟩, fun hk => hf (of_decide_eq_false hk)⟩) h2
end
end J

namespace J
open PySem PySem.Spec L2
/-! ## dicts whose keys are tuples of ints -/
abbrev KTD := List (List Int × D)
def ik (ns : List Int) : List Key := ns.map Sum.inl
theorem ik_inj : ∀ {a b : List Int}, ik a = ik b → a = b
  | [], [], _ => rfl
  | [], _ :: _, h => by simp [ik] at h
  | _ :: _, [], h => by simp [ik] at h
  | x :: a, y :: b, h => by
    have h : (Sum.inl x : Key) :: ik a = Sum.inl y :: ik b := h
    obtain ⟨h1, h2⟩ := List.cons.inj h
    rw [Sum.inl.inj h1, ik_inj h2]
theorem ik_kV (ns : List Int) : (ik ns).map kV = ns.map V.int := by
  unfold ik
  rw [List.map_map]; rfl
def kt (m : KTD) : List (List Key × D) := m.map fun p => (ik p.1, p.2)
def tget (m : KTD) (k : List Int) : Option D := (m.find? fun p => decide (p.1 = k)).map (·.2)
def tput (m : KTD) (k : List Int) (d : D) : KTD := if (m.any fun p => decide (p.1 = k)) = true then m.map (fun p => if p.1 = k then (p.1, d) else p) else m ++ [(k, d)]
theorem pt_get {K : PySem.W.Frag} {F : Hp} (k : List Int) : ∀ {kvs : List (List Key × V)} {m : KTD}, PK K F kvs (kt m) → (tget m k = none → valV kvs (ik k) = none) ∧ (∀ d, tget m k = some d → ∃ v, valV kvs (ik k) = some v ∧ DP K F v d)
  | _, [], h => by cases h; exact ⟨fun _ => rfl, fun d h => by simp [tget] at h⟩
  | _, (n, d0) :: m, h => by
    cases h with
    | @cons p _ kvs _ r t =>
      obtain ⟨kk, v⟩ := p
      obtain ⟨e, dp⟩ := r
      simp only at e dp
      subst e
      by_cases z : n = k
      · subst z
        refine ⟨fun h => by simp [tget] at h, fun d hd => ⟨v, by rw [valV_pos rfl], ?_⟩⟩
        simp [tget] at hd; subst hd; exact dp
      · have ih := pt_get (K := K) (F := F) k t
        have hz : ¬ ik n = ik k := fun e => z (ik_inj e)
        have e1 : tget ((n, d0) :: m) k = tget m k := by simp [tget, List.find?_cons, z]
        rw [valV_neg hz, e1]
        exact ih
theorem pt_put {K : PySem.W.Frag} {F : Hp} (k : List Int) {v : V} {d : D} (dp : DP K F v d) {kvs : List (List Key × V)} {m : KTD} (h : PK K F kvs (kt m)) : PK K F (putK kvs (ik k) v) (kt (tput m k d)) := by
  have any_eq : ∀ {kvs : List (List Key × V)} {m : KTD}, PK K F kvs (kt m) → (kvs.any fun kv => decide (kv.1 = ik k)) = (m.any fun p => decide (p.1 = k)) := by
    intro kvs m
    induction m generalizing kvs with
    | nil => intro h; cases h; rfl
    | cons p m ih =>
      intro h
      cases h with
      | cons r t =>
        rw [List.any_cons, List.any_cons, ih t]
        congr 1
        rw [r.1]
        by_cases z : p.1 = k
        · rw [decide_eq_true z, decide_eq_true (show ik p.1 = ik k by rw [z])]
        · rw [decide_eq_false z, decide_eq_false fun e => z (ik_inj e)]
  have map_eq : ∀ {kvs : List (List Key × V)} {m : KTD}, PK K F kvs (kt m) → PK K F (kvs.map fun kv => if kv.1 = ik k then (kv.1, v) else kv) (kt (m.map fun p => if p.1 = k then (p.1, d) else p)) := by
    intro kvs m
    induction m generalizing kvs with
    | nil => intro h; cases h; exact .nil
    | cons p m ih =>
      intro h
      cases h with
      | @cons q _ _ _ r t =>
        refine .cons ?_ (ih t)
        obtain ⟨r1, r2⟩ := r
        have r1 : q.1 = ik p.1 := r1
        show (if q.1 = ik k then (q.1, v) else q).1 = ik (if p.1 = k then (p.1, d) else p).1 ∧ DP K F (if q.1 = ik k then (q.1, v) else q).2 (if p.1 = k then (p.1, d) else p).2
        by_cases z : p.1 = k
        · rw [if_pos (by rw [r1, z]), if_pos z]; exact ⟨r1, dp⟩
        · rw [if_neg (by rw [r1]; exact fun e => z (ik_inj e)), if_neg z]; exact ⟨r1, r2⟩
  unfold putK tput
  rw [any_eq h]
  split
  · exact map_eq h
  · unfold kt
    rw [List.map_append]
    exact papp h (.cons ⟨rfl, dp⟩ .nil)
theorem pt_vals {K : PySem.W.Frag} {F : Hp} : ∀ {kvs : List (List Key × V)} {m : KTD}, PK K F kvs (kt m) → DPs K F (kvs.map (·.2)) (m.map (·.2))
  | _, [], h => by cases h; exact .nil
  | _, _ :: _, h => by
    cases h with
    | cons r t => exact .cons r.2 (pt_vals t)
theorem pt_len {K : PySem.W.Frag} {F : Hp} {kvs : List (List Key × V)} {m : KTD} (h : PK K F kvs (kt m)) : kvs.length = m.length := by
  have := Paired.length h
  unfold kt at this
  rwa [List.length_map] at this
/-- such a dict, free or locked -/
inductive IsT (m : KTD) : Ow → Prop
  | free : IsT m (.dT (kt m))
  | lock {d : Addr} {o : Obj} {ks : List (List Key × V)} : IsT m (.lkT d o ks (kt m))
  | pin {d : Addr} : IsT m (.dTA d (kt m))
theorem IsT.rd {K : PySem.W.Frag} {F H : Hp} {a : Addr} {o : Ow} {m : KTD} (h : IsT m o) (q : OwAt K F H a o) : ∃ ks, Rd H a (.dT ks) ∧ PK K F ks (kt m) := by
  cases h with
  | free => obtain ⟨ks, h1, h2⟩ := q; exact ⟨ks, .inl h1, h2⟩
  | lock => obtain ⟨_, h1, h2⟩ := q; exact ⟨_, .inr ⟨_, h1⟩, h2⟩
  | pin => obtain ⟨_, ks, h1, h2⟩ := q; exact ⟨ks, .inl h1, h2⟩
theorem tp_key {K : PySem.W.Frag} {F H : Hp} {v : V} {ns : List Int} (sm : Same F H) (h : DP K F v (.tp (ns.map .int))) : ∃ b, v = .ref b ∧ H b = some (.tup ((ik ns).map kV)) := by
  cases h with
  | @tp a xs _ h1 h2 =>
    have := ints_of_dps h2
    subst this
    exact ⟨a, rfl, by rw [ik_kV]; exact sm _ _ h1⟩
/-- the display of one pair, the key a tuple -/
def tDisp1T (tk tv : TE) : TE := fun σ H Q => ∀ p, H p = none → tPairs [(tk, tv)] σ (upd H p (.dT [])) fun ps H2 => H2 p = some (.dT []) ∧ ∃ k b v, ps = [(.ref b, v)] ∧ H2 b = some (.tup (k.map kV)) ∧ Q (.ref p) (upd H2 p (.dT [(k, v)]))
theorem pe_disp1T {X : Cx} {pos : Pos} {k v : Expr} {tk tv : TE} (hu : X.A.units + 1 < cLine) (hk : PE X k tk) (hv : PE X v tv) : PE X (.Dict [some k] [v] pos) (tDisp1T tk tv) := by
  refine ⟨fun pins s σ H Q I q => ?_⟩
  have hn := I.hok.fresh (Nat.le_refl s.heap.objs.size)
  have I1 := I.laid (a := s.heap.objs.size) (o := .dT []) (h' := s.heap.push { cls := .type "dict", data := .dict #[] }) (t' := s.toks) (fun _ _ q => Heap.get?_push_of_some _ q) (Nat.le_refl _) (dt_empty s.heap I.big)
  have hp : PPs X pos [some k] [v] [(tk, tv)] := pps_cons hk hv pps_nil
  have h0 : pairTrees [some k] [v] X.env pos ≠ [] := fun z => by cases z
  rw [arm_eval_Dict, zip_pairTrees [some k] [v] X.env pos rfl rfl, dictDisplay_pairs (pairTrees [some k] [v] X.env pos) h0 (by show 1 < 17; decide)]
  refine wpAny_bind (wpAny_standAt (wpAny_bind (wpAny_subDictH (knd := tupleKind (mixKind X.prog X.w)) (Q := fun d s' => wpAny (model X.prog X.w) X.A (pure (Value.ref d)) (EP X pins σ Q) X.xe s') (by show X.A.units < cLine; omega) (by decide : 1 ≤ 15)
    (thn (hp.run pins _ σ _ _ I1 (q _ hn)) fun ws s2 ⟨ps, H2, I2, rel, e, k0, b, v0, ep, eb, q2⟩ => ?_))))
  subst ep
  cases rel with
  | @cons _ uu _ _ r t =>
    cases t
    obtain ⟨u1, u2⟩ := uu
    obtain ⟨r1, r2⟩ := r
    have r1 : u1 = Value.ref b := r1
    have r2 : RelV v0 u2 := r2
    subst r1
    obtain ⟨z, hd, xs, r0, dd⟩ := dt_of I2.hok e
    cases r0
    refine ⟨[(k0, b, u2)], ⟨rfl, rfl, key_of I2.hok eb, trivial⟩, dd, fun h' tk dd' hs => wpAny_pure ⟨.ref s.heap.objs.size, _, ?_, rfl, q2⟩⟩
    obtain ⟨q0, es0, ep0, hq, h2, h3, h4, _, h5⟩ := dd'
    refine d_write I2 (by rw [e]; exact True.intro) hs ⟨q0, hq⟩ ⟨by show 1 ≤ sizeLine; decide, hd, _, KT.keeps (H := H2) (kvs := [(k0, v0)]) (xs := [(k0, b, u2)]) (Paired.cons ⟨rfl, eb, r2⟩ .nil) fun c ys ec => ?_, q0, es0, ep0, hq, h2, h3, h4, h5⟩
    rw [upd_ne (ne_of ec e (fun z => nomatch z))]
    exact ec
/-- the view x.values() -/
def valuesO (p d : Addr) : HO := .ext fun h => h.IsValuesView p d
theorem valuesO_ok {P : Program} {w : World} {H : Hp} {h : Heap} {p d : Addr} (e : h.get? p = some { cls := .type "dict_values", data := .fields #[.ref d] }) : ObjOk P w H h p (valuesO p d) :=
  ⟨⟨_, e, rfl, rfl⟩, ⟨_, e⟩, fun h1 h2 x k => let ⟨o, ho, r⟩ := x; ⟨o, k o ho, r⟩⟩
def rValuesT : V → List V → Hp → VK → Prop := fun x xs H Q => ∃ (a : Addr) (kvs : List (List L2.Key × V)), x = .ref a ∧ xs = [] ∧ Rd H a (.dT kvs) ∧ ∀ p, H p = none → Q (.ref p) (upd H p (valuesO p a))
theorem mt_valuesT {X : Cx} : MtR X "dict.values" rValuesT := by
  intro pins s σ H x xs v us Q I rx rxs h
  obtain ⟨a, kvs, rfl, rfl, ha, q⟩ := h
  cases rx
  cases rxs
  obtain ⟨z, hd, xs', rel, o, es, ep, ho, hx, hdat, _⟩ := dt_rd I.hok ha
  refine call_meetsIn F.slot_dict_values ⟨o, ho, hx.1⟩ F.entry_dict_values (F.args_dict_values_1 _) (PySem.meets_dict_values_raw a hd) ⟨⟨es, ep, o, ho, hx, hdat⟩, ?_⟩
  have hf : H s.heap.objs.size = none := I.hok.fresh (Nat.le_refl _)
  exact ⟨.ref s.heap.objs.size, upd H s.heap.objs.size (valuesO s.heap.objs.size a), I.laid (t' := s.toks) (fun b u e => Heap.get?_push_of_some _ e) (Nat.le_refl _) (valuesO_ok (Heap.get?_push_size _ rfl)), rfl, q _ hf⟩
def rListVals : List V → Hp → VK → Prop := fun xs H Q => ∃ (p a : Addr) (kvs : List (List L2.Key × V)), xs = [.ref p] ∧ H p = some (valuesO p a) ∧ Rd H a (.dT kvs) ∧ ∀ l, H l = none → Q (.ref l) (upd H l (.lst (kvs.map (·.2))))
theorem kt_vals {H : Hp} : ∀ {kvs : List (List L2.Key × V)} {xs : List (List L2.Key × Addr × Value)}, KT H kvs xs → Vals (kvs.map (·.2)) (xs.map (·.2.2))
  | _, _, .nil => .nil
  | _, _, .cons r t => .cons r.2.2 (kt_vals t)
theorem items_eq {α : Type} {es : Array α} {f : α → Value} {acc : Array Value} (h : ItemsOf (fun i v => ∃ hi : i < es.size, v = f es[i]) acc es.size) : acc.toList = es.toList.map f := by
  apply List.ext_getElem?
  intro i
  by_cases hi : i < es.size
  · have hl : i < acc.size := by rw [h.1]; exact hi
    obtain ⟨hi', e⟩ := h.2 i acc[i] (Array.getElem?_eq_getElem hl)
    rw [Array.getElem?_toList, Array.getElem?_eq_getElem hl, List.getElem?_map, Array.getElem?_toList, Array.getElem?_eq_getElem hi, e]; rfl
  · rw [Array.getElem?_toList, List.getElem?_map, Array.getElem?_toList, Array.getElem?_eq_none (by rw [h.1]; omega), Array.getElem?_eq_none (by omega)]; rfl
theorem call_listVals {X : Cx} (hcalm : X.calm = true) : CallR X (.type "list") rListVals := by
  intro pins s σ H xs us Q I r h
  obtain ⟨p, a, kvs, rfl, hp, ha, q⟩ := h
  rw [Vals.ref1 r]
  obtain ⟨z, hd, xs', rel, o, es, ep, ho, hx, hdat, he, _⟩ := dt_rd I.hok ha
  have vw : s.heap.IsValuesView p a := (I.hok p _ hp).1
  have hsz : es.size ≤ sizeLine := by
    have := congrArg List.length he
    rw [Array.length_toList, List.length_map, ← Paired.length rel] at this
    omega
  refine PySem.W.kdl_call (PySem.KdlSrc.rawValues (es := es) (ep := ep)) (I.ok.hd hcalm) ⟨vw, o, ho, hx, hdat⟩ hsz fun h' tk acc' c' hk hS hacc => ?_
  have hf : H s.heap.objs.size = none := I.hok.fresh (Nat.le_refl _)
  have ea : acc'.toList = xs'.map (·.2.2) := by
    rw [items_eq (f := fun e : DictEntry => e.val) hacc, he, List.map_map]; rfl
  refine ⟨.ref s.heap.objs.size, upd H s.heap.objs.size (.lst (kvs.map (·.2))), I.laid (t' := tk) hk (Nat.le_refl _) (show ObjOk X.prog X.w _ _ _ (.lst (kvs.map (·.2))) from ⟨by rw [List.length_map]; exact z, acc'.toList, c', by rw [ea]; exact kt_vals rel, by rw [Array.toArray_toList]; exact hS⟩), rfl, q _ hf⟩
/-- list(d): the keys' own tuples -/
def rListKeys : List V → Hp → VK → Prop := fun xs H Q => ∃ (a : Addr) (kvs : List (List L2.Key × V)), xs = [.ref a] ∧ Rd H a (.dT kvs) ∧ ∀ l qs, H l = none → Paired (fun (q : Addr) (p : List L2.Key × V) => H q = some (.tup (p.1.map kV))) qs kvs → Q (.ref l) (upd H l (.lst (qs.map V.ref)))
theorem kt_keys {H : Hp} : ∀ {kvs : List (List L2.Key × V)} {xs : List (List L2.Key × Addr × Value)}, KT H kvs xs → Paired (fun (q : Addr) (p : List L2.Key × V) => H q = some (.tup (p.1.map kV))) (xs.map (·.2.1)) kvs
  | _, _, .nil => .nil
  | _, _, .cons r t => .cons r.2.1 (kt_keys t)
theorem vals_refs : ∀ (qs : List Addr), Vals (qs.map V.ref) (qs.map Value.ref)
  | [] => .nil
  | q :: qs => .cons rfl (vals_refs qs)
theorem call_listKeys {X : Cx} (hcalm : X.calm = true) : CallR X (.type "list") rListKeys := by
  intro pins s σ H xs us Q I r h
  obtain ⟨a, kvs, rfl, ha, q⟩ := h
  rw [Vals.ref1 r]
  obtain ⟨z, hd, xs', rel, o, es, ep, ho, hx, hdat, he, _⟩ := dt_rd I.hok ha
  have hsz : es.size ≤ sizeLine := by
    have := congrArg List.length he
    rw [Array.length_toList, List.length_map, ← Paired.length rel] at this
    omega
  refine PySem.W.kdl_call (PySem.KdlSrc.rawDict (es := es) (ep := ep) hd) (I.ok.hd hcalm) ⟨o, ho, hx, hdat⟩ hsz fun h' tk acc' c' hk hS hacc => ?_
  have hf : H s.heap.objs.size = none := I.hok.fresh (Nat.le_refl _)
  have ea : acc'.toList = (xs'.map (·.2.1)).map Value.ref := by
    rw [items_eq (f := fun e : DictEntry => e.key) hacc, he, List.map_map, List.map_map]; rfl
  refine ⟨.ref s.heap.objs.size, upd H s.heap.objs.size (.lst ((xs'.map (·.2.1)).map V.ref)), I.laid (t' := tk) hk (Nat.le_refl _) (show ObjOk X.prog X.w _ _ _ (.lst ((xs'.map (·.2.1)).map V.ref)) from ⟨by rw [List.length_map, List.length_map, ← Paired.length rel]; exact z, acc'.toList, c', by rw [ea]; exact vals_refs _, by rw [Array.toArray_toList]; exact hS⟩), rfl, q _ _ hf (kt_keys rel)⟩
end J

namespace J
open PySem PySem.Spec L2
theorem DP.tp_tup {K : PySem.W.Frag} {F : Hp} {v : V} {ds : List D} (h : DP K F v (.tp ds)) : DP K F v (.tup ds) := by
  cases h with
  | tp h1 h2 => exact .tup (.inl (.inl h1)) h2
/-- what may be told more loosely -/
def Lo (d d' : D) : Prop := ∀ (K : PySem.W.Frag) (F : Hp) (v : V), DP K F v d → DP K F v d'
theorem Lo.tp (ds : List D) : Lo (.tp ds) (.tup ds) := fun _ _ _ h => h.tp_tup
theorem Lo.refl (d : D) : Lo d d := fun _ _ _ h => h
theorem Lo.all {α : Type} {f g : α → D} (h : ∀ x, Lo (f x) (g x)) {K : PySem.W.Frag} {F : Hp} : ∀ {l : List α} {xs : List V}, DPs K F xs (l.map f) → DPs K F xs (l.map g)
  | [], _, q => by cases q; exact .nil
  | x :: l, _, q => by cases q with | cons r t => exact .cons (h x _ _ _ r) (Lo.all h t)
theorem Lo.lst {α : Type} {f g : α → D} (l : List α) (h : ∀ x, Lo (f x) (g x)) : Lo (.lst (l.map f)) (.lst (l.map g)) := fun _ _ _ q => by
  cases q with
  | lst h1 h2 => exact .lst h1 (Lo.all h h2)
section
variable {P : Program} {w : World} {K : PySem.W.Frag} {mg : Str → Option Value} {base : Heap} {S : Sc} {k : Nat} {X : Cx} {B : Bs} {E : XW} {G : List Ent} {a b e f o tg : Expr} {es : List Expr} {sts : List Stmt} {D : Dn} {pos p apos cp : Pos} {x : Str}
theorem Conf.loose {F H : Hp} {s : St} {g : List Ent} {v : Option V} {d d' : J.D} (lo : Lo d d') (c : Conf K B (v :: s) F H (.fz d :: g)) : Conf K B (v :: s) F H (.fz d' :: g) := by
  cases c.env with
  | cons q _ =>
    obtain ⟨x, e, dp⟩ := q
    subst e
    exact c.pop.fz (lo _ _ _ dp)
theorem JV.loose {Q : J.D → List Ent → Prop} (h : JV X B e G fun d G' => ∃ d', Lo d d' ∧ Q d' G') : JV X B e G Q := fun t s z F H VQ hl c q =>
  h t s z F H VQ hl c fun v F' H' d G' c' ⟨d', lo, hq⟩ => q v F' H' d' G' (c'.loose lo) hq
/-- a slot's entry is told more loosely -/
theorem Conf.relE {F H : Hp} {s : St} {g : List Ent} {i : Nat} {e1 e2 : Ent} (c : Conf K B s F H g) (hi : g[i]? = some e1) (h : ∀ v, EntOk K B F H v e1 → EntOk K B F H v e2) (ho : ∀ v, oad v e2 = oad v e1) : Conf K B s F H (g.set i e2) := by
  have hl : i < g.length := (List.getElem?_eq_some_iff.mp hi).1
  have hs : s[i]? = some (s[i]'(by rw [c.len]; exact hl)) := List.getElem?_eq_getElem _
  obtain ⟨v, hv, ok⟩ := c.at hi
  rw [hs] at hv
  obtain ⟨nd', sub⟩ := oads_same (e' := e2) hs hi (fun b hb => by rwa [ho] at hb) (by
    rw [ho]
    cases e1 with
    | no => rw [oad_no]; exact List.nodup_nil
    | fz d => rw [oad_fz]; exact List.nodup_nil
    | ow o => cases hh : s[i]'(by rw [c.len]; exact hl) with
      | none => exact List.nodup_nil
      | some y => cases y <;> simp [oad]
    | bw k o => cases hh : s[i]'(by rw [c.len]; exact hl) with
      | none => exact List.nodup_nil
      | some y => cases y <;> simp [oad]) c.nd
  have e3 : Paired (EntOk K B F H) (s.set i (s[i]'(by rw [c.len]; exact hl))) (g.set i e2) := pset (h _ (by rw [Option.some.inj hv]; exact ok)) i c.env
  rw [List.set_getElem_self] at e3
  exact ⟨c.fh, c.ff, c.keep, c.there, c.old, e3, nd', fun b hb => c.own b (sub b hb)⟩
theorem JSs.looseF (i : Nat) {d d' : J.D} (lo : Lo d d') (h : JSs X B sts (G.set i (.fz d')) D) (hi : G[i]? = some (.fz d) := by rfl) : JSs X B sts G D := fun t s z F H De hl c kk => by
  have hi' : (z ++ G)[z.length + i]? = some (.fz d) := by rw [get_app]; exact hi
  have c2 := c.relE (e2 := .fz d') hi' (fun v ⟨x, e, dp⟩ => ⟨x, e, lo _ _ _ dp⟩) (fun v => by rw [oad_fz, oad_fz])
  rw [set_app] at c2
  exact h t s z F H De hl c2 kk
/-- (e, ..), a new tuple -/
theorem Conf.newP {F H : Hp} {s : St} {g : List Ent} {p : Addr} {vs : List V} {ds : List J.D} (c : Conf K B s F H g) (np : H p = none) (dp : DPs K F vs ds) : Conf K B (some (.ref p) :: s) (upd F p (.tup vs)) (upd H p (.tup vs)) (.fz (.tp ds) :: g) :=
  (c.alloc np).fz (.tp upd_same (DP.monoL (same_upd (c.fresh np)) _ _ dp))
theorem jv_tupP {x1} {Q : J.D → List Ent → Prop} (h : JD X B es G fun ds G' => ds.length ≤ sizeLine ∧ Q (.tp ds) G') : JV X B (.Tuple es x1 pos) G Q := fun t s z F H VQ hl c q =>
  tS_of (pe_tup pa_sem) (runD h hl c fun vs ds F' H' G' dp c' ⟨hz, hq⟩ => ⟨by rw [dp.length]; exact hz, fun p np => by
    exact q (.ref p) _ _ _ G' (c'.newP np dp) hq⟩)
theorem jv_tupleP (cj : CJ P w K mg base S k X B E) (j : Nat) {Q : J.D → List Ent → Prop} (hm : mg "tuple" = none) (h : JV X B e G fun d G' => ∃ ds, (d = .lst ds ∨ d = .kls ds ∨ d = .tp ds) ∧ Q (.tp ds) G') (hj : S.gl[j]? = some "tuple" := by rfl)
    (he : starEach [e] X.env = (false, eval e X.env) :: starEach [] X.env := by rfl) (hpl : (backTo pos (starEach [] X.env)).any (·.1) = false := by rfl) : JV X B (.Call (.Name "tuple" p) [e] [] pos) G Q := fun t s z F H VQ hl c q =>
  tS_of (pe_callTy call_tuple_of (cj.gl hj) (cj.mgx hm) (by decide +kernel) (pa_cons pe_sem pa_nil he) (cj.nnm hj) (cj.dbg hj) he hpl) (h t s z F H _ hl c fun v F' H' d G' c' ⟨ds, sd, hq⟩ => by
    have sm := c'.fh
    rcases sd with sd | sd | sd
    · subst sd; cases c'.top with
      | lst h1 h2 => exact ⟨_, _, rfl, .inl ⟨.of (sm _ _ h1), fun p' np => q _ _ _ _ G' (c'.pop.newP np h2) hq⟩⟩
    · subst sd; cases c'.top with
      | kls h1 h2 => exact ⟨_, _, rfl, .inl ⟨sm.seq h1, fun p' np => q _ _ _ _ G' (c'.pop.newP np h2) hq⟩⟩
    · subst sd; cases c'.top with
      | tp h1 h2 => exact ⟨_, _, rfl, .inr ⟨.inl (.inl (sm _ _ h1)), q _ F' H' _ G' (c'.pop.fz (.tp h1 h2)) hq⟩⟩)
theorem jv_tupRgP (cj : CJ P w K mg base S k X B E) (j j2 : Nat) {p2 q2 : Pos} {Q : J.D → List Ent → Prop} (hm : mg "tuple" = none) (hm2 : mg "range" = none) (h : JV X B e G fun d G' => ∃ n : Int, d = .int n ∧ RgOk 0 n ∧ Q (.tp ((rgI 0 n).map .int)) G') (hj : S.gl[j]? = some "tuple" := by rfl) (hj2 : S.gl[j2]? = some "range" := by rfl)
    (na : starEach [e] X.env = (false, eval e X.env) :: starEach [] X.env := by rfl) : JV X B (.Call (.Name "tuple" p) [.Call (.Name "range" p2) [e] [] q2] [] pos) G Q := fun t s z F H VQ hl c q =>
  tS_of (pe_tupRg cj.calm (cj.gl hj) (cj.mgx hm) (prg_1 (cj.gl hj2) (cj.mgx hm2) pe_sem na)) (h t s z F H _ hl c fun v F' H' d G' c' ⟨n, ed, hr, hq⟩ => by
    subst ed
    cases c'.top
    refine ⟨n, rfl, hr, fun p' np => ?_⟩
    rw [rgV_eq]
    exact q _ _ _ _ G' (c'.pop.newP np (dps_ints _)) hq)
theorem ji_tp {Q : Nat → (Nat → J.D → Prop) → List Ent → Prop} (h : JV X B e G fun d G' => ∃ ds, d = .tp ds ∧ Q ds.length (fun i d => ds[i]? = some d) G') : JI X B tg e G Q :=
  ji_tup (JV.loose (h.imp fun d G' ⟨ds, e1, hq⟩ => ⟨.tup ds, by rw [e1]; exact Lo.tp ds, ds, rfl, hq⟩))
/-! ### the dicts -/
theorem je_tnew {Q : Ent → List Ent → Prop} (h : Q (.ow (.dT (kt []))) G) : JE X B (.Dict [] [] pos) G Q := fun t s z F H VQ hl c q =>
  tS_of pe_dnewT fun p np => q (.ref p) F _ _ G (c.new (o := .dT (kt [])) np ⟨[], upd_same, .nil⟩) trivial h
theorem je_tdisp1 (cj : CJ P w K mg base S k X B E) {Q : Ent → List Ent → Prop} (h : JV X B a G fun d1 G1 => JV X B b G1 fun d2 G2 => ∃ n : List Int, d1 = .tp (n.map .int) ∧ Q (.ow (.dT (kt [(n, d2)]))) G2) : JE X B (.Dict [some a] [b] pos) G Q := fun t s z F H VQ hl c q => by
  refine tS_of (pe_disp1T (by have := cj.hr.units; omega) pe_sem pe_sem) ?_
  intro p np
  have c1 : Conf X.K B ((some (.ref p) :: t) ++ s) F (upd H p (.dT [])) ((.ow (.dT (kt [])) :: z) ++ G) := c.new (o := .dT (kt [])) np ⟨[], upd_same, .nil⟩
  refine h (some (.ref p) :: t) s (.ow (.dT (kt [])) :: z) F _ _ (by simp [hl]) c1 fun v F1 H1 d1 G1 c2 h2 => ?_
  refine h2 (some v :: some (.ref p) :: t) s (.fz d1 :: .ow (.dT (kt [])) :: z) F1 H1 _ (by simp [hl]) c2 fun u F2 H2 d2 G2 c3 ⟨n, e1, hq⟩ => ?_
  subst e1
  have dp : DP X.K F2 u d2 := c3.top
  have c4 := c3.pop
  obtain ⟨kb, rfl, hkb⟩ := tp_key c4.fh c4.top
  have c5 : Conf X.K B (some (.ref p) :: (t ++ s)) F2 H2 (.ow (.dT (kt [])) :: (z ++ G2)) := c4.pop
  obtain ⟨v0, e2, a0, e3, ⟨ks, o1, o2⟩, _⟩ := c5.at (i := 0) rfl
  cases e2
  cases e3
  have : ks = [] := by cases o2; rfl
  subst this
  refine ⟨o1, ik n, kb, u, rfl, hkb, ?_⟩
  have c6 := c5.write (i := 0) (o' := .dT (kt [(n, d2)])) (ho := .dT [(ik n, u)]) rfl rfl ⟨_, upd_same, .cons ⟨rfl, dp⟩ .nil⟩
  exact q _ F2 _ _ G2 c6 trivial hq
/-- x[e], x such a dict -/
theorem jv_tget (cj : CJ P w K mg base S k X B E) (i : Nat) {xp : Pos} {Q : J.D → List Ent → Prop} (h : JV X B e G fun d2 G2 => ∃ (m : KTD) (n : List Int) (d : J.D) (ow : Ow), entOw G2[i]? = some ow ∧ IsT m ow ∧ d2 = .tp (n.map .int) ∧ tget m n = some d ∧ Q d G2) (hN : S.N[i]? = some x := by rfl) (hv : i ∈ S.vi := by decide) (hg : (entOw G[i]?).isSome = true := by rfl) (hs : NoSl e := by exact fun _ _ => rfl) :
    JV X B (.Subscript (.Name x xp) e pos) G Q := fun t s z F H VQ hl c q => by
  have hn := okName_of (Sc.vis cj.ok hv hN).1
  refine tS_of (pe_dget (by have := cj.hr.units; omega) (pe_var (cj.xN hN) (cj.vis hv hN) hn.1 hn.2.1) pe_sem hs) ?_
  obtain ⟨o, ho⟩ := Option.isSome_iff_exists.mp hg
  obtain ⟨y, e1, _⟩ := c.slot hl ho
  refine ⟨.ref y, e1, h t s z F H _ hl c fun u F' H' d2 G2 c2 ⟨m, n, d, ow, h1, it, h2, h3, h4⟩ => ?_⟩
  subst h2
  obtain ⟨kb, rfl, hkb⟩ := tp_key c2.fh c2.top
  obtain ⟨y', e1', oa, _⟩ := c2.pop.slot hl h1
  obtain ⟨ks, o1, o2⟩ := it.rd oa
  rw [e1] at e1'
  cases e1'
  obtain ⟨v, h5, h6⟩ := (pt_get n o2).2 d h3
  refine ⟨y, v, rfl, .inr ⟨ks, ik n, kb, o1, rfl, hkb, h5.symm⟩, q v F' H' d G2 (c2.pop.fz h6) h4⟩
/-- x[e] = v -/
theorem js_tput (cj : CJ P w K mg base S k X B E) (i : Nat) {xp tp sp : Pos} {Dd : Dn} (h : JV X B e G fun d G1 => JV X B b G1 fun d2 G2 => ∃ (m : KTD) (n : List Int), entOw G2[i]? = some (.dT (kt m)) ∧ d2 = .tp (n.map .int) ∧ m.length < sizeLine ∧ Dd.nx (setOw G2 i (.dT (kt (tput m n d))))) (hN : S.N[i]? = some x := by rfl) (hv : i ∈ S.vi := by decide)
    (hls : (entOw G[i]?).isSome = true := by rfl) (hs : swapsWith e (some (.Subscript (.Name x xp) b tp)) sp.line X.env = pure false := by rfl) : JS X B (.Assign [.Subscript (.Name x xp) b tp] e sp) G Dd := fun t s z F H De hl c kk => by
  have hn := okName_of (Sc.vis cj.ok hv hN).1
  refine tSt_of (ps_dput (by have := cj.hr.units; omega) (pe_var (cj.xN hN) (cj.vis hv hN) hn.1 hn.2.1) pe_sem pe_sem hs) ?_
  obtain ⟨o, ho⟩ := Option.isSome_iff_exists.mp hls
  obtain ⟨y, e1, _⟩ := c.slot hl ho
  refine h t s z F H _ hl c fun v F1 H1 d G1 c1 h2 => ?_
  refine ⟨.ref y, e1, h2 (some v :: t) s (.fz d :: z) F1 H1 _ (by simp [hl]) c1 fun u F2 H2 d2 G2 c2 ⟨m, n, h3, h4, h5, h6⟩ => ?_⟩
  subst h4
  obtain ⟨kb, rfl, hkb⟩ := tp_key c2.fh c2.top
  have dp : DP X.K F2 v d := c2.pop.top
  obtain ⟨y', e1', ⟨ks, o1, o2⟩, _, wr⟩ := c2.pop.pop.slot hl h3
  rw [e1] at e1'
  cases e1'
  have hlen : ks.length < sizeLine := by rw [pt_len o2]; exact h5
  exact ⟨y, _, rfl, DPut.t o1 hkb hlen, kk.nx s F2 _ _ rfl (wr _ (.dT (kt (tput m n d))) ⟨_, upd_same, pt_put n dp o2⟩) h6⟩
theorem tget_none {K : PySem.W.Frag} {F : Hp} {ks : List (List Key × V)} {m : KTD} (o2 : PK K F ks (kt m)) (n : List Int) : (valV ks (ik n)).isSome = (tget m n).isSome := by
  cases hd : tget m n with
  | none => rw [(pt_get n o2).1 hd]; rfl
  | some d => obtain ⟨v, h, _⟩ := (pt_get n o2).2 d hd; rw [h]; rfl
/-- e in x, e not in x -/
theorem jt_tnotin (cj : CJ P w K mg base S k X B E) (i : Nat) {xp : Pos} {Q : Bool → List Ent → Prop} (h : JV X B e G fun d2 G2 => ∃ (m : KTD) (n : List Int) (ow : Ow), entOw G2[i]? = some ow ∧ IsT m ow ∧ d2 = .tp (n.map .int) ∧ Q (!(tget m n).isSome) G2) (hN : S.N[i]? = some x := by rfl) (hv : i ∈ S.vi := by decide) :
    JT X B (.Compare e [.NotIn] [.Name x xp] pos) G Q := fun t s z F H TQ hl c q => by
  have hn := okName_of (Sc.vis cj.ok hv hN).1
  refine tT_of (pt_cmp (pc_dnotin (by have := cj.hr.units; omega) pe_sem (pe_var (cj.xN hN) (cj.vis hv hN) hn.1 hn.2.1))) ?_
  refine h t s z F H _ hl c fun u F2 H2 d2 G2 c2 ⟨m, n, ow, h3, it, h4, h5⟩ => ?_
  subst h4
  obtain ⟨kb, rfl, hkb⟩ := tp_key c2.fh c2.top
  obtain ⟨y, e1, oa, _⟩ := c2.pop.slot hl h3
  obtain ⟨ks, o1, o2⟩ := it.rd oa
  refine ⟨.ref y, e1, y, _, rfl, .inr ⟨ks, ik n, kb, o1, rfl, hkb, rfl⟩, ?_⟩
  rw [tget_none o2]
  exact ⟨_, rfl, q _ F2 H2 G2 c2.pop h5⟩
theorem jt_tin (cj : CJ P w K mg base S k X B E) (i : Nat) {xp : Pos} {Q : Bool → List Ent → Prop} (h : JV X B e G fun d2 G2 => ∃ (m : KTD) (n : List Int) (ow : Ow), entOw G2[i]? = some ow ∧ IsT m ow ∧ d2 = .tp (n.map .int) ∧ Q (tget m n).isSome G2) (hN : S.N[i]? = some x := by rfl) (hv : i ∈ S.vi := by decide) :
    JT X B (.Compare e [.In] [.Name x xp] pos) G Q := fun t s z F H TQ hl c q => by
  have hn := okName_of (Sc.vis cj.ok hv hN).1
  refine tT_of (pt_cmp (pc_din (by have := cj.hr.units; omega) pe_sem (pe_var (cj.xN hN) (cj.vis hv hN) hn.1 hn.2.1))) ?_
  refine h t s z F H _ hl c fun u F2 H2 d2 G2 c2 ⟨m, n, ow, h3, it, h4, h5⟩ => ?_
  subst h4
  obtain ⟨kb, rfl, hkb⟩ := tp_key c2.fh c2.top
  obtain ⟨y, e1, oa, _⟩ := c2.pop.slot hl h3
  obtain ⟨ks, o1, o2⟩ := it.rd oa
  refine ⟨.ref y, e1, y, _, rfl, .inr ⟨ks, ik n, kb, o1, rfl, hkb, rfl⟩, ?_⟩
  rw [tget_none o2]
  exact ⟨_, rfl, q _ F2 H2 G2 c2.pop h5⟩
/-- x.get(e, f) -/
theorem jv_tget2 (cj : CJ P w K mg base S k X B E) (i : Nat) {xp : Pos} {Q : J.D → List Ent → Prop} (h : JV X B e G fun d2 G2 => JV X B f G2 fun d3 G3 => ∃ (m : KTD) (n : List Int) (ow : Ow), entOw G3[i]? = some ow ∧ IsT m ow ∧ d2 = .tp (n.map .int) ∧ Q ((tget m n).getD d3) G3) (hN : S.N[i]? = some x := by rfl) (hv : i ∈ S.vi := by decide)
    (hg : ∃ (m : KTD) (ow : Ow), entOw G[i]? = some ow ∧ IsT m ow)
    (m2 : M2 X (.Name x xp) "get" apos e f cp := by exact ⟨rfl, rfl, rfl, rfl⟩) :
    JV X B (.Call (.Attribute (.Name x xp) "get" apos) [e, f] [] cp) G Q := fun t s z F H VQ hl c q => by
  have hn := okName_of (Sc.vis cj.ok hv hN).1
  refine tS_of (pe_dget2 (by have := cj.hr.units; omega) (pe_var (cj.xN hN) (cj.vis hv hN) hn.1 hn.2.1) pe_sem pe_sem m2) ?_
  obtain ⟨m0, o0, ho, it0⟩ := hg
  obtain ⟨y, e1, oa0, _⟩ := c.slot hl ho
  obtain ⟨ks0, o10, _⟩ := it0.rd oa0
  refine ⟨.ref y, e1, y, rfl, .inr ⟨ks0, o10⟩, h t s z F H _ hl c fun u F1 H1 d2 G2 c2 h2 => ?_⟩
  refine h2 (some u :: t) s (.fz d2 :: z) F1 H1 _ (by simp [hl]) c2 fun v F2 H2 d3 G3 c3 ⟨m, n, ow, h3, it, h4, h5⟩ => ?_
  subst h4
  obtain ⟨kb, rfl, hkb⟩ := tp_key c3.fh c3.pop.top
  have dp : DP X.K F2 v d3 := c3.top
  obtain ⟨y', e1', oa, _⟩ := c3.pop.pop.slot hl h3
  obtain ⟨ks, o1, o2⟩ := it.rd oa
  rw [e1] at e1'
  cases e1'
  refine ⟨_, .inr ⟨ks, ik n, kb, o1, rfl, hkb, rfl⟩, q _ F2 H2 _ G3 (c3.pop.pop.fz ?_) h5⟩
  cases hd : tget m n with
  | none => rw [(pt_get n o2).1 hd]; exact dp
  | some d => obtain ⟨v', h, hdp⟩ := (pt_get n o2).2 d hd; rw [h]; exact hdp
/-- list(x.values()) -/
theorem je_listVals (cj : CJ P w K mg base S k X B E) (j i : Nat) {m : KTD} {xp mp : Pos} {Q : Ent → List Ent → Prop} (hm : mg "list" = none) (h : Q (.ow (.lst (m.map (·.2)))) G) (hg : entOw G[i]? = some (.dT (kt m)) := by rfl) (hj : S.gl[j]? = some "list" := by rfl) (hN : S.N[i]? = some x := by rfl) (hv : i ∈ S.vi := by decide)
    (hbase : attributeBase (.Name x xp) "values" X.env (eval (.Name x xp) X.env) = eval (.Name x xp) X.env := by rfl) (hline : (apos.endLine == mp.line) = true := by rfl)
    (he : starEach [.Call (.Attribute (.Name x xp) "values" apos) [] [] mp] X.env = (false, eval (.Call (.Attribute (.Name x xp) "values" apos) [] [] mp) X.env) :: starEach [] X.env := by rfl) (hpl : (backTo pos (starEach [] X.env)).any (·.1) = false := by rfl) :
    JE X B (.Call (.Name "list" p) [.Call (.Attribute (.Name x xp) "values" apos) [] [] mp] [] pos) G Q := fun t s z F H VQ hl c q => by
  have hn := okName_of (Sc.vis cj.ok hv hN).1
  refine tS_of (pe_callTy (call_listVals cj.calm) (cj.gl hj) (cj.mgx hm) (by decide +kernel) (pa_cons (pe_bm0 PySem.F.plainAttrs_dict PySem.F.slot_dict_values PySem.F.type_dict_values mt_valuesT (pe_var (cj.xN hN) (cj.vis hv hN) hn.1 hn.2.1) hbase hline) pa_nil he) (cj.nnm hj) (cj.dbg hj) he hpl) ?_
  obtain ⟨y, e1, ⟨ks, o1, o2⟩, _⟩ := c.slot hl hg
  refine ⟨.ref y, e1, .inr (.inr (.inl ⟨rfl, .inr ⟨ks, o1⟩⟩)), y, ks, rfl, rfl, .inl o1, fun p1 np1 => ?_⟩
  refine ⟨p1, y, ks, rfl, upd_same, ?_, fun l nl => ?_⟩
  · have ne : y ≠ p1 := fun z => by
      subst z
      rw [np1] at o1; cases o1
    exact .inl (by rw [upd_ne ne]; exact o1)
  · exact q _ _ _ _ G ((c.alloc np1).newL nl (DP.monoL (same_upd (c.fresh np1)) _ _ (pt_vals o2))) trivial h
end
end J

namespace J
open PySem PySem.Spec L2
section
variable {P : Program} {w : World} {K : PySem.W.Frag} {mg : Str → Option Value} {base : Heap} {S : Sc} {k : Nat} {X : Cx} {B : Bs} {E : XW} {G : List Ent} {a b e f o tg : Expr} {es : List Expr} {sts : List Stmt} {D : Dn} {pos p apos cp : Pos} {x : Str}
/-- a tuple that stands is frozen -/
theorem Conf.tupF {F H : Hp} {s : St} {g : List Ent} {q : Addr} {ys : List V} (c : Conf K B s F H g) (hq : H q = some (.tup ys)) : ∃ F', Same F F' ∧ F' q = some (.tup ys) ∧ Conf K B s F' H g := by
  cases hf : F q with
  | some o =>
    have := c.fh q o hf
    rw [hq] at this
    cases this
    exact ⟨F, Same.refl F, hf, c⟩
  | none =>
    have sm : Same F (upd F q (.tup ys)) := same_upd hf
    have ne : ∀ b, (∃ o, H b = some o ∧ NT o) → b ≠ q := fun b ⟨o, h1, h2⟩ z => by
      subst z; rw [hq] at h1; exact h2 ys (Option.some.inj h1).symm
    refine ⟨_, sm, upd_same, ?_, c.ff.trans sm, c.keep, c.there, fun b n m => ?_, env_mono sm (fun b _ => rfl) c.env, c.nd, fun b hb => ?_⟩
    · intro b y e
      by_cases hb : b = q
      · subst hb; rw [upd_same] at e; cases e; exact hq
      · rw [upd_ne hb] at e; exact c.fh b y e
    · obtain ⟨q1, q2⟩ := c.old b n m
      exact ⟨by rw [upd_ne (ne b q2)]; exact q1, q2⟩
    · rw [upd_ne (ne b (env_nt c.env b hb))]; exact c.own b hb
theorem pt_at {F : Hp} : ∀ {kvs : List (List Key × V)} {m : KTD} {i : Nat} {k : List Key} {v : V}, PK K F kvs (kt m) → kvs[i]? = some (k, v) → ∃ p, m[i]? = some p ∧ k = ik p.1 ∧ DP K F v p.2
  | _, [], i, _, _, h, e => by cases h; simp at e
  | _, p :: m, 0, k, v, h, e => by
    cases h with
    | cons r t => cases e; exact ⟨p, rfl, r.1, r.2⟩
  | _, p :: m, i + 1, k, v, h, e => by
    cases h with
    | cons r t =>
      obtain ⟨p', h1, h2⟩ := pt_at (i := i) t (by simpa using e)
      exact ⟨p', by simpa using h1, h2⟩
/-- for .. in x, x an own dict with tuple keys that the body leaves as it is -/
theorem js_forT (cj : CJ P w K mg base S k X B E) (i : Nat) {m : KTD} {xp : Pos} {body : List Stmt} {Dd : Dn}
    (h : ∀ (dd : Addr) (o : Obj) (ks : List (List Key × V)), ∃ I : Nat → List Ent → Prop, I 0 (G.set i (.ow (.lkT dd o ks (kt m)))) ∧ (∀ j G2, I j G2 → G2[i]? = some (.ow (.lkT dd o ks (kt m)))) ∧
      (∀ j p G2, m[j]? = some p → I j G2 → JG X B S.li tg (.fz (.tp (p.1.map .int))) G2 fun G3 => JSs X B body G3 { nx := I (j + 1), rt := fun _ _ => False, bk := fun _ => False, ct := I (j + 1) }) ∧ (∀ G2, I m.length G2 → Dd.nx (G2.set i (.ow (.dT (kt m))))))
    (hg : G[i]? = some (.ow (.dT (kt m))) := by rfl) (hN : S.N[i]? = some x := by rfl) (hv : i ∈ S.vi := by decide) (hs : ∀ v, foldedSetIterable (.Name x xp) X.env v = pure v := by intro _; rfl) : JS X B (.For tg (.Name x xp) body [] pos) G Dd := fun t s z F H De hl c kk => by
  have hn := okName_of (Sc.vis cj.ok hv hN).1
  refine tSt_of (ps_lock (ps_for cj.po cj.calm (pi_keys (pe_var (cj.xN hN) (cj.vis hv hN) hn.1 hn.2.1)) pg_sem pss_sem hs)) ?_
  have hg' : entOw G[i]? = some (.dT (kt m)) := by rw [hg]; rfl
  obtain ⟨y, e1, ⟨ks, o1, o2⟩, _, wr⟩ := c.slot hl hg'
  refine ⟨y, .dT ks, o1, True.intro, fun od => ?_⟩
  have c1 := wr (.frz od (.dT ks)) (.lkT y od ks (kt m)) ⟨rfl, upd_same, o2⟩
  rw [setOw_ow hg] at c1
  obtain ⟨I, i0, iG, step, fin⟩ := h y od ks
  refine ⟨.ref y, e1, y, od, rfl, .inr ⟨ks, upd_same, ?_⟩⟩
  have hlen : ks.length = m.length := pt_len o2
  refine ⟨fun j n s' H' => n = m.length - j ∧ j ≤ m.length ∧ s'.length = s.length ∧ ∃ F G, Conf X.K B (t ++ s') F H' (z ++ G) ∧ I j G, ⟨m.length, by simp, Nat.zero_le _, rfl, F, _, c1, i0⟩, ?_⟩
  rintro j n s1 H1 ⟨rfl, hj, hs1, F1, G1, c2, ii⟩
  have ig := iG j G1 ii
  obtain ⟨v, q1, a', q2, ⟨q3, q4, q5⟩, _⟩ := c2.at (i := z.length + i) (by rw [get_app]; exact ig)
  subst q2
  subst q3
  by_cases hlt : j < m.length
  · refine .inr ⟨⟨q4, by omega⟩, fun s' H' => s'.length = s.length ∧ ∃ F G, Conf X.K B (t ++ s') F H' (z ++ G) ∧ I (j + 1) G, fun s' H' ⟨h1, F, G, h3, h4⟩ => ⟨m.length - (j + 1), by omega, rfl, hlt, h1, F, G, h3, h4⟩, fun x H2 yl => ?_⟩
    obtain ⟨eH, k0, v0, q0, hk, ex, hq⟩ := yl
    subst eH ex
    obtain ⟨p0, hp, ek, _⟩ := pt_at q5 hk
    subst ek
    rw [ik_kV] at hq
    obtain ⟨F2, sm, hF2, c3⟩ := c2.tupF hq
    refine step j p0 G1 hp ii t s1 z F2 _ _ _ hl (c3.fz (.tp hF2 (dps_ints _))) trivial fun s3 F3 H3 G3 hs3 _ c4 q6 => ?_
    exact q6 t s3 z F3 H3 _ hl c4 ⟨fun s' F' H' G' e c' q => ⟨by rw [e, hs3, hs1], F', G', c', q⟩, fun v s' F' H' r G' c' ir q => q.elim, fun s' F' H' G' e c' q => q.elim, fun s' F' H' G' e c' q => ⟨by rw [e, hs3, hs1], F', G', c', q⟩⟩
  · have e : j = m.length := by omega
    subst e
    refine .inl ⟨⟨q4, by rw [hlen]; exact Nat.le_refl _⟩, q4, ?_⟩
    obtain ⟨y', e1', _, _, wr2⟩ := c2.slot (o := .lkT a' od ks (kt m)) hl (by rw [ig]; rfl)
    have ey : y' = a' := by
      rw [← hl, get_app] at q1
      rw [q1] at e1'; cases e1'; rfl
    subst ey
    have c5 := wr2 (.dT ks) (.dT (kt m)) ⟨ks, upd_same, q5⟩
    rw [setOw_ow ig] at c5
    exact kk.nx s1 F1 _ _ hs1 c5 (fin G1 ii)
end
end J

namespace J
open PySem PySem.Spec L2 PyProof.Rows
theorem tuple_mul1 (l : Addr) (items : Array Value) (n : Nat) (dd : Option Addr) (sl : Array (Option Value)) (u : Tok) :
    Meets (Builtin.«tuple.__mul__» ⟨[.ref l, .int 1 u], []⟩) (fun _ R s => s.heap.get? l = some { cls := .type "tuple", dict := dd, data := .seq items n, slots := sl } ∧ R (.ok (.ret (Value.ref l))) s) :=
  .of_wp fun prog w A R s h => by
    obtain ⟨hp, g, d, tk, os⟩ := s
    obtain ⟨hl, h⟩ := h
    have f1 := AutoSeq1.idx_int
    wp_walk using wpAny_loadPart' hl
    exact ⟨_, rfl, h⟩
def rRep1 (K : PySem.W.Frag) : R2 := fun x y H Q => ∃ l xs, x = .ref l ∧ y = .int 1 ∧ SqT K H l xs ∧ Q (.ref l) H
theorem op_rep1 {X : Cx} : OpR X (binaryOp .Mult) (rRep1 X.K) := by
  intro pins s σ H x y v u Q I rx ry h
  obtain ⟨l, xs, rfl, rfl, hT, q⟩ := h
  cases rx
  obtain ⟨t, rfl⟩ := ry
  obtain ⟨its, r, ⟨⟨cls, dd, data, sl⟩, ho, hc, n, hd⟩, hs⟩ := I.tuple hT
  simp only at hc hd
  subst hc hd
  refine wpAny_binaryOp_repeat_ref (T := "tuple") (U := "int") (by decide) ⟨_, ho, rfl⟩ (fun s' => typeIs_int s' 1 t) noFill_tuple_mul F.fills_int_mul F.slot_int_rmul repeat_tuple F.slot_int_index.lookup
    (call_meets F.slot_int_rmul (typeIs_int s 1 t) F.entry_int_rmul (F.args_int_rmul_2 _ _) (int_rmul_tuple 1 t l its.toArray n dd sl)
      ⟨ho, rfl, ⟨_, ho, rfl⟩, call_meets F.slot_tuple_mul ⟨_, ho, rfl⟩ F.entry_tuple_mul (F.args_tuple_mul_2 _ _) (tuple_mul1 l its.toArray n dd sl t) ⟨ho, ?_⟩⟩)
  exact ⟨.ref l, H, I, rfl, q⟩
section
variable {P : Program} {w : World} {K : PySem.W.Frag} {mg : Str → Option Value} {base : Heap} {S : Sc} {k : Nat} {X : Cx} {B : Bs} {E : XW} {G : List Ent} {a b e : Expr} {pos : Pos}
theorem OpR.or {op : Value → Value → Sem Value} {r r' : R2} (h : OpR X op r) (h' : OpR X op r') : OpR X op (fun x y H Q => r x y H Q ∨ r' x y H Q) := by
  intro pins s σ H x y v u Q I rx ry q
  rcases q with q | q
  · exact h pins s σ H x y v u Q I rx ry q
  · exact h' pins s σ H x y v u Q I rx ry q
/-- (e, ..) * n, one time at least: a new tuple, or the one handed in -/
theorem jv_repP {Q : D → List Ent → Prop} (h : JV X B a G fun d1 G1 => JV X B b G1 fun d2 G2 => ∃ ds n, d1 = .tp ds ∧ d2 = .int n ∧ ds ≠ [] ∧ 1 ≤ n ∧ n ≤ 1000 ∧ ds.length ≤ 1000 ∧ Q (.tp (List.replicate n.toNat ds).flatten) G2) : JV X B (.BinOp a .Mult b pos) G Q := fun t s z F H VQ hl c q =>
  tS_of (pe_op (OpR.or op_repT op_rep1) pe_sem pe_sem) (run2 h hl c fun v u F' H' d1 d2 G' c' ⟨ds, n, e1, e2, h0, h1, h2, hz, hq⟩ => by
    subst e1 e2
    have sm := c'.fh
    cases c'.top
    cases c'.pop.top with
    | @tp l xs _ h3 h4 =>
      by_cases z : n = 1
      · subst z
        refine .inr ⟨l, xs, rfl, rfl, .inl (.inl (sm _ _ h3)), q (.ref l) _ _ _ G' c'.pop ?_⟩
        have e : (List.replicate (1 : Int).toNat ds).flatten = ds := by
          show (List.replicate 1 ds).flatten = ds
          simp
        rw [e] at hq
        exact hq
      · refine .inl ⟨_, n, _, rfl, rfl, .inl (.inl (sm _ _ h3)), fun z => ?_, by omega, h2, by rw [h4.length]; exact hz, fun p np => ?_⟩
        · subst z; cases h4; exact h0 rfl
        · exact q (.ref p) _ _ _ G' (c'.pop.pop.newP np (pflat (prep h4 _))) hq)
end
end J

namespace J
open PySem PySem.Spec L2
/-! ## things within an own list: each stands in a slot whose name no text has -/
theorem Inv.ghostE {X : Cx} {pins : List (Addr × Obj)} {s s' : St} {H : Hp} {sh : Shared} (I : L2.Inv X pins s H sh) (hl : s'.length = s.length) (h : ∀ (i : Nat) (x : Str), X.N[i]? = some x → Vis X.env.scope x → s'[i]? = s[i]?) : L2.Inv X pins s' H sh :=
  { I with
    loc := by
      obtain ⟨m, h1, h2⟩ := I.loc
      exact ⟨m, h1, fun i x v hN hs hv => h2 i x v hN (by rw [← h i x hN hv]; exact hs) hv⟩
    len := by rw [hl]; exact I.len }
/-- slots that no name of the text stands for -/
def Ghost (X : Cx) (gs : List Nat) : Prop := ∀ g ∈ gs, ∀ x, X.N[g]? = some x → ¬ Vis X.env.scope x
def SameBut (gs : List Nat) (s s' : St) : Prop := s'.length = s.length ∧ ∀ i : Nat, i ∉ gs → s'[i]? = s[i]?
theorem Ghost.inv {X : Cx} {gs : List Nat} (hg : Ghost X gs) {pins : List (Addr × Obj)} {s s' : St} {H : Hp} {sh : Shared} (sb : SameBut gs s s') (I : L2.Inv X pins s H sh) : L2.Inv X pins s' H sh :=
  Inv.ghostE I sb.1 fun i x hN hv => sb.2 i fun hi => hg i hi x hN hv
theorem tSt_ghost {X : Cx} {gs : List Nat} (hg : Ghost X gs) {st : Stmt} {De : Ends} {s : St} {H : Hp} (h : tSt X st { De with nx := fun s1 H1 => ∃ s2, SameBut gs s1 s2 ∧ De.nx s2 H1 } s H) : tSt X st De s H := fun pins sh I => by
  refine thn (h pins sh I) fun f s1 q => ?_
  cases f with
  | next => obtain ⟨s', H', I2, s2, sb, q⟩ := q; exact ⟨s2, H', hg.inv sb I2, q⟩
  | brk => exact q
  | cont => exact q
  | ret v => exact q
/-- the names that are no names of the text -/
def Sc.noName (S : Sc) (gs : List Nat) : Bool := gs.all fun g => match S.N[g]? with
  | some x => match S.sc.names.lookup x with
    | some .local => false
    | some .cell => false
    | some .free => false
    | _ => true
  | none => true
section
variable {P : Program} {w : World} {K : PySem.W.Frag} {mg : Str → Option Value} {base : Heap} {S : Sc} {k : Nat} {X : Cx} {B : Bs} {E : XW} {G : List Ent} {a b e f o tg : Expr} {es : List Expr} {sts : List Stmt} {D : Dn} {pos p apos cp : Pos} {x : Str}
theorem CJ.ghost (cj : CJ P w K mg base S k X B E) {gs : List Nat} (h : S.noName gs = true) : Ghost X gs := fun g hg x hN hv => by
  have := List.all_eq_true.mp h g hg
  rw [cj.hN] at hN
  rw [hN] at this
  rw [cj.hsc] at hv
  rcases hv with hv | hv | hv <;> (simp only [hv] at this; cases this)
/-- an own list of lists, by their addresses -/
abbrev RL := List (Addr × List J.D)
def refD (p : Addr × List J.D) : J.D := .raw (.ref p.1)
def rowE (p : Addr × List J.D) : Ent := .ow (.lsA p.1 p.2)
theorem dps_refs {F : Hp} : ∀ (acc : RL), DPs K F (acc.map fun p => V.ref p.1) (acc.map refD)
  | [] => .nil
  | p :: acc => .cons (.raw _) (dps_refs acc)
theorem refs_of {F : Hp} : ∀ {acc : RL} {xs : List V}, DPs K F xs (acc.map refD) → xs = acc.map fun p => V.ref p.1
  | [], _, h => by cases h; rfl
  | p :: acc, _, h => by
    cases h with
    | cons r t =>
      cases r
      rw [refs_of t]; rfl
/-- an own list is told with its address -/
theorem Conf.pinL {F H : Hp} {s : St} {g : List Ent} {a : Addr} {ds : List J.D} (c : Conf K B (some (.ref a) :: s) F H (.ow (.lst ds) :: g)) : Conf K B (some (.ref a) :: s) F H (.ow (.lsA a ds) :: g) := by
  cases c.env with
  | cons q t =>
    obtain ⟨a', e, ⟨xs, h1, h2⟩, n⟩ := q
    cases e
    exact ⟨c.fh, c.ff, c.keep, c.there, c.old, .cons ⟨a, rfl, ⟨rfl, xs, h1, h2⟩, n⟩ t, c.nd, c.own⟩
/-- the rows in the ghost slots, the last one of the list first -/
def gS (gb : Nat) : RL → St → St
  | [], s => s
  | p :: l, s => gS gb l (s.set (gb + l.length) (some (.ref p.1)))
def gG (gb : Nat) : RL → List Ent → List Ent
  | [], G => G
  | p :: l, G => gG gb l (G.set (gb + l.length) (rowE p))
theorem Conf.ghosts {F H : Hp} {gb : Nat} : ∀ {l : RL} {t s : St} {z G : List Ent}, t.length = z.length → Conf K B ((l.map fun p => some (V.ref p.1)) ++ (t ++ s)) F H (l.map rowE ++ (z ++ G)) → Conf K B (t ++ gS gb l s) F H (z ++ gG gb l G)
  | [], _, _, _, _, _, c => c
  | p :: l, t, s, z, G, hl, c => by
    have hl2 : ((l.map fun p => some (V.ref p.1)) ++ t).length = (l.map rowE ++ z).length := by simp [hl]
    have c1 : Conf K B (some (V.ref p.1) :: (((l.map fun p => some (V.ref p.1)) ++ t) ++ s)) F H (rowE p :: ((l.map rowE ++ z) ++ G)) := by simpa [List.append_assoc] using c
    have c2 := c1.store (i := gb + l.length) hl2
    refine Conf.ghosts (l := l) hl ?_
    simpa [List.append_assoc] using c2
theorem gS_same {gb : Nat} : ∀ (l : RL) (s : St), (gS gb l s).length = s.length ∧ ∀ i : Nat, (i < gb ∨ gb + l.length ≤ i) → (gS gb l s)[i]? = s[i]?
  | [], s => ⟨rfl, fun _ _ => rfl⟩
  | p :: l, s => by
    obtain ⟨h1, h2⟩ := gS_same l (s.set (gb + l.length) (some (.ref p.1)))
    refine ⟨by show (gS gb l _).length = _; rw [h1, List.length_set], fun i hi => ?_⟩
    show (gS gb l _)[i]? = _
    rw [List.length_cons] at hi
    rw [h2 i (by omega), List.getElem?_set_ne (by omega)]
/-- a comprehension whose every turn makes an own list -/
def LcN (n : Nat) (item : Nat → J.D → Prop) (CJX : Cx → Prop) (B : Bs) (S' : Sc) (tg elt : Expr) (G : List Ent) (Q : RL → List Ent → Prop) : Prop :=
  n ≤ sizeLine ∧ ∃ (V : Nat → List J.D → Prop) (I : List Ent → Prop), I (wipeE G S'.li) ∧
    (∀ i d G2, i < n → item i d → I G2 → ∀ X1, CJX X1 → JG X1 B S'.li tg (.fz d) G2 fun G3 => ∀ X3, CJX X3 → JE X3 B elt G3 fun r G5 => ∃ ds, r = .ow (.lst ds) ∧ V i ds ∧ I (wipeE G5 S'.li)) ∧
    (∀ acc G2, acc.length = n → (∀ (i : Nat) p, acc[i]? = some p → V i p.2) → I G2 → Q acc G2)
theorem lc_runN (cj : CJ P w K mg base S k X B E) {elt iter : Expr} {scope : Scope} (S' : Sc) (so : ScOk S S' scope) {Q : RL → List Ent → Prop}
    (h : JI X B tg iter G fun n item G1 => LcN n item (fun X' => CJ P w K mg base S' k X' B XW.non) B S' tg elt G1 Q) {t s : St} {z : List Ent} {F H : Hp} {VQ : VK} (hl : t.length = z.length) (c : Conf X.K B (t ++ s) F H (z ++ G))
    (q : ∀ p F' H' acc G', Conf X.K B (some (V.ref p) :: ((acc.reverse.map fun r => some (V.ref r.1)) ++ (t ++ s))) F' H' (Ent.ow (.lst (acc.map refD)) :: (acc.reverse.map rowE ++ (z ++ G'))) → Q acc G' → VQ (V.ref p) H') :
    tLc (tIt X tg iter) (gB X scope tg) (pB X scope []) (eB X scope elt) S'.li s H VQ :=
  h t s z F H _ hl c fun Jt n hv he item F1 H1 G1 hlv wd c1 ⟨hn, VV0, I, i0, step, fin⟩ => fun D hD => by
    obtain ⟨hN, hsc, hok, hfn⟩ := so
    have slen : s.length = G1.length := by
      have := c1.len
      simp only [List.length_append] at this
      omega
    have c2 : Conf X.K B ((hv ++ t) ++ s) F1 H1 ((he ++ z) ++ G1) := by simpa [List.append_assoc] using c1
    have c3 := (c2.wipe (by simp [hl, hlv]) S'.li).newL (vs := []) (ds := []) hD .nil
    have c4 : Conf X.K B (hv ++ ([some (V.ref D)] ++ (t ++ L2.wipe s S'.li))) F1 (upd H1 D (.lst [])) (he ++ ([Ent.ow (.lst [])] ++ (z ++ wipeE G1 S'.li))) := by
      have : Conf X.K B ([some (V.ref D)] ++ (hv ++ (t ++ L2.wipe s S'.li))) F1 (upd H1 D (.lst [])) ([Ent.ow (.lst [])] ++ (he ++ (z ++ wipeE G1 S'.li))) := by simpa [List.append_assoc] using c3
      exact this.rot rfl hlv
    refine ⟨fun i m H => m = n - i ∧ i ≤ n ∧ ∃ F G acc, acc.length = i ∧ (∀ (j : Nat) p, acc[j]? = some p → VV0 j p.2) ∧ G.length = s.length ∧ (∀ j, j ∈ S'.li → j < G.length → G[j]? = some Ent.no) ∧ Conf X.K B (hv ++ ([some (V.ref D)] ++ ((acc.reverse.map fun r => some (V.ref r.1)) ++ (t ++ L2.wipe s S'.li)))) F H (he ++ ([Ent.ow (.lst (acc.map refD))] ++ (acc.reverse.map rowE ++ (z ++ G)))) ∧ I G,
      ⟨n, by simp, Nat.zero_le _, F1, _, [], rfl, fun j p hp => by simp at hp, by rw [wipeE_len]; exact slen.symm, fun j hj hlt => wipeE_no hj (by rw [wipeE_len] at hlt; exact hlt), c4, i0⟩, ?_⟩
    rintro i m H2 ⟨rfl, hi, F2, G2, acc, hacc, hV, gl, gno, c5, ii⟩
    have tl : (hv ++ ([some (V.ref D)] ++ ((acc.reverse.map fun r => some (V.ref r.1)) ++ t))).length = (he ++ ([Ent.ow (.lst (acc.map refD))] ++ (acc.reverse.map rowE ++ z))).length := by simp [hlv, hl]
    by_cases hlt : i < n
    · refine .inr ⟨wd.goes i _ F2 H2 _ hlt c5, fun H => ∃ F G acc, acc.length = i + 1 ∧ (∀ (j : Nat) p, acc[j]? = some p → VV0 j p.2) ∧ G.length = s.length ∧ (∀ j, j ∈ S'.li → j < G.length → G[j]? = some Ent.no) ∧ Conf X.K B (hv ++ ([some (V.ref D)] ++ ((acc.reverse.map fun r => some (V.ref r.1)) ++ (t ++ L2.wipe s S'.li)))) F H (he ++ ([Ent.ow (.lst (acc.map refD))] ++ (acc.reverse.map rowE ++ (z ++ G)))) ∧ I G, fun H' ⟨F, G, acc, a1, a2, a3, a4, a5, a6⟩ => ⟨n - (i + 1), by omega, rfl, hlt, F, G, acc, a1, a2, a3, a4, a5, a6⟩, fun x H3 y => ?_⟩
      obtain ⟨F3, d, hd, c6⟩ := wd.yields i x _ F2 H2 _ H3 hlt c5 y
      intro s0 H0 C cl fp
      refine step i d G2 hlt hd ii _ (cj.blk hN hsc hok hfn s0 H0 C cl fp) (hv ++ ([some (V.ref D)] ++ ((acc.reverse.map fun r => some (V.ref r.1)) ++ t))) (L2.wipe s S'.li) (he ++ ([Ent.ow (.lst (acc.map refD))] ++ (acc.reverse.map rowE ++ z))) F3 H3 x _ tl (by simpa [List.append_assoc] using c6) trivial fun s4 F4 H4 G4 hs4 ho4 c7 q4 => ?_
      have hs4' : s4.length = s.length := by rw [hs4, wipe_length]
      have ws : L2.wipe s4 S'.li = L2.wipe s S'.li := wipe_same hs4' ho4
      refine ⟨ws, fun s0 H0 C cl fp => ?_⟩
      refine JTs.nil (B := B) (G := G4) (X := X.blk s0 H0 scope (compEnvC scope cl C X.env) fp) (Q := fun bb G' => bb = true ∧ G' = G4) ⟨rfl, rfl⟩ (hv ++ ([some (V.ref D)] ++ ((acc.reverse.map fun r => some (V.ref r.1)) ++ t))) s4 (he ++ ([Ent.ow (.lst (acc.map refD))] ++ (acc.reverse.map rowE ++ z))) F4 H4 _ tl c7 fun bb F5 H5 G5 c8 ⟨eb, eG⟩ => ?_
      subst eb eG
      rw [if_pos rfl]
      intro s0 H0 C cl fp
      refine q4 _ (cj.blk hN hsc hok hfn s0 H0 C cl fp) (hv ++ ([some (V.ref D)] ++ ((acc.reverse.map fun r => some (V.ref r.1)) ++ t))) s4 (he ++ ([Ent.ow (.lst (acc.map refD))] ++ (acc.reverse.map rowE ++ z))) F5 H5 _ tl c8 fun y F6 H6 r G6 c9 ir q6 => ?_
      obtain ⟨ds, er, hds, q6⟩ := q6
      subst er
      obtain ⟨v0, ev, y0, ey, _, _⟩ := c9.at (i := 0) rfl
      cases ev
      cases ey
      have c9 := c9.pinL
      -- the list stands at D as it was left
      have ig : (Ent.ow (.lsA y0 ds) :: ((he ++ ([Ent.ow (.lst (acc.map refD))] ++ (acc.reverse.map rowE ++ z))) ++ G6))[he.length + 1]? = some (Ent.ow (.lst (acc.map refD))) := by simp
      have is : (some (V.ref y0) :: ((hv ++ ([some (V.ref D)] ++ ((acc.reverse.map fun r => some (V.ref r.1)) ++ t))) ++ s4))[he.length + 1]? = some (some (V.ref D)) := by rw [← hlv]; simp
      obtain ⟨v, e1, a, e2, ⟨xs, o1, o2⟩, _⟩ := c9.at ig
      have is' := is
      rw [e1] at is'
      cases is'
      cases e2
      have ex := refs_of o2
      subst ex
      refine ⟨_, o1, by rw [List.length_map]; omega, ?_⟩
      have cw := c9.write (i := he.length + 1) (ho := .lst ((acc.map fun p => V.ref p.1) ++ [V.ref y0])) (o' := .lst ((acc ++ [(y0, ds)]).map refD)) ig is ⟨_, upd_same, by rw [List.map_append]; exact papp o2 (.cons (.raw _) .nil)⟩
      have es : (Ent.ow (.lsA y0 ds) :: ((he ++ ([Ent.ow (.lst (acc.map refD))] ++ (acc.reverse.map rowE ++ z))) ++ G6)).set (he.length + 1) (Ent.ow (.lst ((acc ++ [(y0, ds)]).map refD))) = Ent.ow (.lsA y0 ds) :: ((he ++ ([Ent.ow (.lst ((acc ++ [(y0, ds)]).map refD))] ++ (acc.reverse.map rowE ++ z))) ++ G6) := by simp
      rw [es] at cw
      -- the new list goes to the others
      have cr : Conf X.K B ((hv ++ [some (V.ref D)]) ++ ([some (V.ref y0)] ++ ((acc.reverse.map fun r => some (V.ref r.1)) ++ (t ++ s4)))) F6 (upd H6 D (.lst ((acc.map fun p => V.ref p.1) ++ [V.ref y0]))) ((he ++ [Ent.ow (.lst ((acc ++ [(y0, ds)]).map refD))]) ++ ([Ent.ow (.lsA y0 ds)] ++ (acc.reverse.map rowE ++ (z ++ G6)))) := by
        refine Conf.rot (a := [some (V.ref y0)]) (a' := [Ent.ow (.lsA y0 ds)]) rfl (by simp [hlv]) ?_
        simpa [List.append_assoc] using cw
      have gl' : s4.length = G6.length := by
        have := cr.len
        simp only [List.length_append, List.length_cons, List.length_nil, List.length_map] at this
        omega
      have tl' : (hv ++ ([some (V.ref D)] ++ (([some (V.ref y0)] ++ (acc.reverse.map fun r => some (V.ref r.1))) ++ t))).length = (he ++ ([Ent.ow (.lst ((acc ++ [(y0, ds)]).map refD))] ++ (([Ent.ow (.lsA y0 ds)] ++ acc.reverse.map rowE) ++ z))).length := by simp [hlv, hl]
      have cr2 : Conf X.K B ((hv ++ ([some (V.ref D)] ++ (([some (V.ref y0)] ++ (acc.reverse.map fun r => some (V.ref r.1))) ++ t))) ++ s4) F6 (upd H6 D (.lst ((acc.map fun p => V.ref p.1) ++ [V.ref y0]))) ((he ++ ([Ent.ow (.lst ((acc ++ [(y0, ds)]).map refD))] ++ (([Ent.ow (.lsA y0 ds)] ++ acc.reverse.map rowE) ++ z))) ++ G6) := by simpa [List.append_assoc] using cr
      have cw2 := cr2.wipe tl' S'.li
      rw [ws] at cw2
      refine ⟨F6, wipeE G6 S'.li, acc ++ [(y0, ds)], by simp [hacc], fun j p hp => ?_, by rw [wipeE_len, ← gl', hs4'], fun j hj hlt => wipeE_no hj (by rw [wipeE_len] at hlt; exact hlt), ?_, q6⟩
      · by_cases hj : j < acc.length
        · rw [List.getElem?_append_left hj] at hp
          exact hV j p hp
        · rw [List.getElem?_append_right (by omega)] at hp
          have : j - acc.length = 0 := by
            cases hh : j - acc.length with
            | zero => rfl
            | succ m => rw [hh] at hp; simp at hp
          rw [this] at hp
          cases hp
          have : j = i := by omega
          subst this; exact hds
      · have er : (acc ++ [(y0, ds)]).reverse = (y0, ds) :: acc.reverse := by simp
        rw [er]
        simpa [List.append_assoc, rowE] using cw2
    · have e : i = n := by omega
      subst e
      refine .inl ⟨wd.stops _ F2 H2 _ c5, ?_⟩
      have c7 : Conf X.K B (some (V.ref D) :: ((acc.reverse.map fun r => some (V.ref r.1)) ++ (t ++ L2.wipe s S'.li))) F2 H2 (Ent.ow (.lst (acc.map refD)) :: (acc.reverse.map rowE ++ (z ++ G2))) := by
        have dropM : ∀ {hv : St} {he : List Ent} {u : St} {g : List Ent}, hv.length = he.length → Conf X.K B (hv ++ u) F2 H2 (he ++ g) → Conf X.K B u F2 H2 g := by
          intro hv
          induction hv with
          | nil => intro he u g hl c; cases he with
            | nil => exact c
            | cons _ _ => simp at hl
          | cons v hv ih => intro he u g hl c; cases he with
            | nil => simp at hl
            | cons e he => exact ih (by simpa using hl) c.pop
        exact dropM hlv c5
      refine q D F2 H2 acc G2 ?_ (fin acc G2 hacc hV ii)
      have c8 : Conf X.K B ((some (V.ref D) :: ((acc.reverse.map fun r => some (V.ref r.1)) ++ t)) ++ L2.wipe s S'.li) F2 H2 ((Ent.ow (.lst (acc.map refD)) :: (acc.reverse.map rowE ++ z)) ++ G2) := by simpa [List.append_assoc] using c7
      have c9 : Conf X.K B ((some (V.ref D) :: ((acc.reverse.map fun r => some (V.ref r.1)) ++ t)) ++ s) F2 H2 ((Ent.ow (.lst (acc.map refD)) :: (acc.reverse.map rowE ++ z)) ++ G2) := by
        refine c8.slots (by simp [wipe_length]) fun j => ?_
        have hl3 : (some (V.ref D) :: ((acc.reverse.map fun r => some (V.ref r.1)) ++ t)).length = (Ent.ow (.lst (acc.map refD)) :: (acc.reverse.map rowE ++ z)).length := by simp [hl]
        by_cases hj : j < (some (V.ref D) :: ((acc.reverse.map fun r => some (V.ref r.1)) ++ t)).length
        · exact .inl (by rw [List.getElem?_append_left hj, List.getElem?_append_left hj])
        · rw [List.getElem?_append_right (by omega), List.getElem?_append_right (by omega), List.getElem?_append_right (by omega), hl3]
          by_cases hm : j - (Ent.ow (.lst (acc.map refD)) :: (acc.reverse.map rowE ++ z)).length ∈ S'.li
          · by_cases hlt2 : j - (Ent.ow (.lst (acc.map refD)) :: (acc.reverse.map rowE ++ z)).length < G2.length
            · exact .inr (gno _ hm hlt2)
            · exact .inl (by rw [List.getElem?_eq_none (by rw [wipe_length]; omega), List.getElem?_eq_none (by omega)])
          · exact .inl (wipe_out' hm)
      simpa [List.append_assoc] using c9
def ghs (S : Sc) (gb : Nat) : List Nat := (List.range (S.N.length - gb)).map fun j => gb + j
/-- name = [.. for ..] on one line, the turns' lists in the ghost slots from gb on -/
theorem js_setLcN (cj : CJ P w K mg base S k X B E) (i gb : Nat) {elt iter : Expr} {scope : Scope} {py sp : Pos} (vi li : List Nat) (gl : List Str) (own : List (Str × Nat)) {Dd : Dn}
    (h : JI X B tg iter G fun n item G1 => n + gb ≤ S.N.length ∧ LcN n item (InB P w K mg base (blkSc S scope vi li gl) k B) B (blkSc S scope vi li gl) tg elt G1 fun acc G2 => Dd.nx (gG gb acc.reverse (G2.set i (.ow (.lst (acc.map refD))))))
    (hgs : S.noName (ghs S gb) = true := by decide +kernel)
    (so : (blkSc S scope vi li gl).ok = true := by decide +kernel) (fo : blkFn (blkSc S scope vi li gl) scope = true := by decide +kernel)
    (bo : blkC S.N S.sc scope own = true := by decide +kernel) (hyl : S.sc.names.lookup x = some .local := by decide +kernel) (hsw : swB S.sc scope x (py.line == pos.line) = true := by decide +kernel)
    (hN : S.N[i]? = some x := by rfl) (ho : own.map (·.2) = li := by rfl) (hs : ∀ x, foldedSetIterable iter X.env x = pure x := by intro _; rfl) :
    JS X B (.Assign [.Name x py] (.ListComp elt [⟨tg, iter, [], 0⟩] scope pos) sp) G Dd := fun t s z F H De hl c kk => by
  have bo' : BlkOk X.N X.env.scope scope own := by rw [cj.hN, cj.hsc]; exact blkOk_by bo
  refine tSt_ghost (cj.ghost hgs) ?_
  refine tSt_of (ps_setLc cj.calm cj.nd (cj.xN hN) (by rw [cj.hsc]; exact hyl) (by rw [swaps_eq cj.hsc, hsw]) pi_sem bo' gB_ok pB_ok eB_ok hs) ?_
  rw [ho]
  have h2 : JI X B tg iter G fun n item G1 => LcN n item (fun X' => CJ P w K mg base (blkSc S scope vi li gl) k X' B XW.non) B (blkSc S scope vi li gl) tg elt G1 fun acc G2 => acc.length + gb ≤ S.N.length ∧ Dd.nx (gG gb acc.reverse (G2.set i (.ow (.lst (acc.map refD))))) := fun t s z F H R hl c q =>
    h t s z F H R hl c fun J n hv he item F' H' G' e wd c' ⟨hn, a1, V, I, a2, a3, a4⟩ => q J n hv he item F' H' G' e wd c' ⟨a1, V, I, a2, a3, fun acc G2 b1 b2 b3 => ⟨by omega, a4 acc G2 b1 b2 b3⟩⟩
  exact lc_runN cj (blkSc S scope vi li gl) ⟨rfl, rfl, so, fo⟩ h2 hl c fun p' F' H' acc G' c' ⟨hn, hq⟩ => by
    obtain ⟨g1, g2⟩ := gS_same (gb := gb) acc.reverse (s.set i (some (.ref p')))
    refine ⟨gS gb acc.reverse (s.set i (some (.ref p'))), ⟨g1, fun j hj => g2 j ?_⟩, ?_⟩
    · rw [List.length_reverse]
      by_cases z1 : j < gb
      · exact .inl z1
      · refine .inr ?_
        apply Classical.byContradiction
        intro z2
        exact hj (List.mem_map.mpr ⟨j - gb, List.mem_range.mpr (by omega), by omega⟩)
    · refine kk.nx _ F' H' _ (by rw [g1, List.length_set]) ?_ hq
      have hl2 : ((acc.reverse.map fun r => some (V.ref r.1)) ++ t).length = (acc.reverse.map rowE ++ z).length := by simp [hl]
      have c1 : Conf X.K B (some (V.ref p') :: (((acc.reverse.map fun r => some (V.ref r.1)) ++ t) ++ s)) F' H' (Ent.ow (.lst (acc.map refD)) :: ((acc.reverse.map rowE ++ z) ++ G')) := by simpa [List.append_assoc] using c'
      have c2 := c1.store (i := i) hl2
      exact Conf.ghosts hl (by simpa [List.append_assoc] using c2)
/-- o[e], o an own list in a ghost slot -/
theorem jv_ixG {Q : J.D → List Ent → Prop} (h : JV X B o G fun d1 G1 => JV X B b G1 fun d2 G2 => ∃ (a : Addr) (g : Nat) (ds : List J.D) (j : Int) (d : J.D), d1 = .raw (.ref a) ∧ G2[g]? = some (.ow (.lsA a ds)) ∧ d2 = .int j ∧ atI ds j = some d ∧ Q d G2) (hs : PlainIx b := by exact fun _ _ => rfl) : JV X B (.Subscript o b pos) G Q := fun t s z F H VQ hl c q =>
  tS_of (pe_ix ix_list pe_sem pe_sem hs) (run2 h hl c fun v u F' H' d1 d2 G' c' ⟨a, g, ds, j, d, e1, hg, e2, ha, hq⟩ => by
    subst e1 e2
    cases c'.top
    cases c'.pop.top
    obtain ⟨y, _, ⟨ey, xs, o1, o2⟩, _⟩ := c'.pop.pop.slot (i := g) (o := .lsA a ds) hl (by rw [hg]; rfl)
    subst ey
    obtain ⟨v, h5, h6⟩ := atI_paired o2 ha
    exact ⟨y, xs, j, v, rfl, rfl, .of o1, h5, q v F' H' d G' (c'.pop.pop.fz h6) hq⟩)
/-- o[e] = v, o an own list in a ghost slot -/
theorem js_setixG {tp sp : Pos} {Dd : Dn} (h : JV X B e G fun d G1 => JV X B o G1 fun d1 G2 => JV X B b G2 fun d2 G3 => ∃ (a : Addr) (g : Nat) (ds : List J.D) (j : Int) (m : Nat), d1 = .raw (.ref a) ∧ G3[g]? = some (.ow (.lsA a ds)) ∧ d2 = .int j ∧ ixN ds.length j = some m ∧ Dd.nx (G3.set g (.ow (.lsA a (ds.set m d)))))
    (ha : ∀ v, assign (.Subscript o b tp) X.env v = (do
      let ov ← holding [v] (eval o X.env)
      let iv ← holding [v, ov] (eval b X.env)
      standAt tp
      holding [v, ov, iv] (setItem ov iv v)
      release [v, ov, iv] []) := by intro _; rfl)
    (hs : swapsWithSole [.Subscript o b tp] e sp.line X.env = pure false := by rfl) (hw : swappedStores [.Subscript o b tp] e X.env = pure none := by rfl)
    (h1 : (assignEach [.Subscript o b tp] X.env).map (·.2) = [assign (.Subscript o b tp) X.env] := by rfl) : JS X B (.Assign [.Subscript o b tp] e sp) G Dd := fun t s z F H De hl c kk => by
  refine tSt_of (ps_asg pe_sem (pg_sub pe_sem pe_sem set_list ha) hs hw h1) ?_
  refine h t s z F H _ hl c fun v F' H' d G1 c1 h2 => ?_
  refine h2 (some v :: t) s (.fz d :: z) F' H' _ (by simp [hl]) c1 fun u F2 H2 d1 G2 c2 h3 => ?_
  refine h3 (some u :: some v :: t) s (.fz d1 :: .fz d :: z) F2 H2 _ (by simp [hl]) c2 fun y F3 H3 d2 G3 c3 ⟨a, g, ds, j, m, e1, hg, e2, hm, hq⟩ => ?_
  subst e1 e2
  cases c3.top
  cases c3.pop.top
  have dp := c3.pop.pop.top
  obtain ⟨y2, _, ⟨ey, xs, o1, o2⟩, _, wr⟩ := c3.pop.pop.pop.slot (i := g) (o := .lsA a ds) hl (by rw [hg]; rfl)
  subst ey
  refine ⟨y2, xs, j, m, rfl, rfl, o1, by rw [o2.length]; exact hm, ?_⟩
  have c4 := wr (.lst (xs.set m v)) (.lsA y2 (ds.set m d)) ⟨rfl, _, upd_same, pset dp m o2⟩
  rw [setOw_ow hg] at c4
  exact kk.nx s F3 _ _ rfl c4 hq
/-- a row goes back into its list, frozen -/
theorem Conf.unghost {F H : Hp} {s : St} {g : List Ent} {i gi j : Nat} {ds row : List J.D} {a : Addr} (c : Conf K B s F H g) (hi : g[i]? = some (.ow (.lst ds))) (hg : g[gi]? = some (.ow (.lsA a row))) (hj : ds[j]? = some (.raw (.ref a))) :
    ∃ F', Same F F' ∧ Conf K B s F' H ((g.set gi .no).set i (.ow (.lst (ds.set j (.lst row))))) := by
  have ne : gi ≠ i := fun z => by subst z; rw [hi] at hg; cases hg
  obtain ⟨v, hv, b, ev, ⟨eb, _⟩, _⟩ := c.at hg
  subst ev eb
  obtain ⟨F2, sm, c2⟩ := c.freeze hg (d := .lst row) rfl
  have hgl : gi < g.length := (List.getElem?_eq_some_iff.mp hg).1
  obtain ⟨v2, hv2, x2, e2, dp⟩ := c2.at (i := gi) (List.getElem?_set_self hgl)
  rw [hv] at hv2
  cases hv2
  cases e2
  have c3 : Conf K B s F2 H ((g.set gi (.fz (.lst row))).set gi .no) := c2.forget
  rw [List.set_set] at c3
  have hi3 : (g.set gi Ent.no)[i]? = some (.ow (.lst ds)) := by rw [List.getElem?_set_ne ne]; exact hi
  refine ⟨F2, sm, c3.relE (e2 := .ow (.lst (ds.set j (.lst row)))) hi3 (fun v ⟨y, ey, ⟨xs, h1, h2⟩, n⟩ => ⟨y, ey, ⟨xs, h1, ?_⟩, n⟩) fun v => by
    cases v with
    | none => rfl
    | some y => cases y <;> rfl⟩
  obtain ⟨u, hu, du⟩ := pget h2 hj
  cases du
  have h5 := pset (F := DP K F2) (a := V.ref b) (b := D.lst row) dp j h2
  have e5 : xs.set j (V.ref b) = xs := by
    obtain ⟨hl, he⟩ := List.getElem?_eq_some_iff.mp hu
    rw [← he]; exact List.set_getElem_self hl
  rwa [e5] at h5
theorem JSs.unghost (i gi j : Nat) {ds row : List J.D} {a : Addr} (hi : G[i]? = some (.ow (.lst ds))) (hg : G[gi]? = some (.ow (.lsA a row))) (hj : ds[j]? = some (.raw (.ref a))) (h : JSs X B sts ((G.set gi .no).set i (.ow (.lst (ds.set j (.lst row))))) D) : JSs X B sts G D := fun t s z F H De hl c kk => by
  have hi' : (z ++ G)[z.length + i]? = some (.ow (.lst ds)) := by rw [get_app]; exact hi
  have hg' : (z ++ G)[z.length + gi]? = some (.ow (.lsA a row)) := by rw [get_app]; exact hg
  obtain ⟨F2, _, c2⟩ := c.unghost hi' hg' hj
  rw [set_app, set_app] at c2
  exact h t s z F2 H De hl c2 kk
end
end J

namespace J
open PySem PySem.Spec L2
theorem gG_eq {gb : Nat} : ∀ (l : RL) (pre rest : List Ent), pre.length = gb → l.length ≤ rest.length → gG gb l (pre ++ rest) = pre ++ (l.reverse.map rowE ++ rest.drop l.length)
  | [], pre, rest, _, _ => rfl
  | p :: l, pre, rest, hp, hl => by
    rw [List.length_cons] at hl
    show gG gb l ((pre ++ rest).set (gb + l.length) (rowE p)) = _
    rw [← hp, List.set_append_right _ _ (by omega), Nat.add_sub_cancel_left, hp, gG_eq l pre _ hp (by rw [List.length_set]; omega)]
    congr 1
    rw [List.reverse_cons, List.map_append, List.append_assoc, List.length_cons]
    congr 1
    rw [List.drop_set, if_neg (by omega), Nat.sub_self, List.drop_eq_getElem_cons (by omega : l.length < rest.length)]
    rfl
theorem gh_get {pre R : List Ent} {acc : RL} {k : Nat} {p : Addr × List D} (h : acc[k]? = some p) : (pre ++ (acc.map rowE ++ R))[pre.length + k]? = some (rowE p) := by
  rw [List.getElem?_append_right (by omega), Nat.add_sub_cancel_left, List.getElem?_append_left (by rw [List.length_map]; exact (List.getElem?_eq_some_iff.mp h).1), List.getElem?_map, h]; rfl
theorem gh_set {pre R : List Ent} {acc : RL} {k : Nat} {p q : Addr × List D} (h : acc[k]? = some p) : (pre ++ (acc.map rowE ++ R)).set (pre.length + k) (rowE q) = pre ++ ((acc.set k q).map rowE ++ R) := by
  have hk := (List.getElem?_eq_some_iff.mp h).1
  rw [List.set_append_right _ _ (by omega), Nat.add_sub_cancel_left, List.set_append_left _ _ (by rw [List.length_map]; exact hk), List.map_set]
theorem refs_set {acc : RL} {k : Nat} {p q : Addr × List D} (h : acc[k]? = some p) (e : q.1 = p.1) : (acc.set k q).map refD = acc.map refD := by
  rw [List.map_set]
  have h2 : (acc.map refD)[k]? = some (refD p) := by rw [List.getElem?_map, h]; rfl
  have : refD q = refD p := by unfold refD; rw [e]
  rw [this]
  obtain ⟨hl, he⟩ := List.getElem?_eq_some_iff.mp h2
  rw [← he]; exact List.set_getElem_self hl
section
variable {X : Cx} {B : Bs} {sts : List Stmt} {Dn' : Dn}
theorem JSs.unghosts (i : Nat) {pre R : List Ent} (hi : i < pre.length) : ∀ (todo done : RL), JSs X B sts (pre.set i (.ow (.lst ((done ++ todo).map fun p => .lst p.2))) ++ (List.replicate (done ++ todo).length .no ++ R)) Dn' →
    JSs X B sts (pre.set i (.ow (.lst (done.map (fun p => .lst p.2) ++ todo.map refD))) ++ (List.replicate done.length .no ++ (todo.map rowE ++ R))) Dn'
  | [], done, h => by simpa using h
  | p :: todo, done, h => by
    have hpl : (pre.set i (.ow (.lst (done.map (fun p => D.lst p.2) ++ (p :: todo).map refD)))).length = pre.length := List.length_set
    have h1 : (pre.set i (.ow (.lst (done.map (fun p => D.lst p.2) ++ (p :: todo).map refD))) ++ (List.replicate done.length Ent.no ++ ((p :: todo).map rowE ++ R)))[i]? = some (.ow (.lst (done.map (fun p => D.lst p.2) ++ (p :: todo).map refD))) := by
      rw [List.getElem?_append_left (by rw [hpl]; exact hi), List.getElem?_set_self hi]
    have h2 : (pre.set i (.ow (.lst (done.map (fun p => D.lst p.2) ++ (p :: todo).map refD))) ++ (List.replicate done.length Ent.no ++ ((p :: todo).map rowE ++ R)))[pre.length + done.length]? = some (.ow (.lsA p.1 p.2)) := by
      rw [List.getElem?_append_right (by rw [hpl]; omega), hpl, Nat.add_sub_cancel_left, List.getElem?_append_right (by simp)]
      simp [rowE]
    have h3 : (done.map (fun p => D.lst p.2) ++ (p :: todo).map refD)[done.length]? = some (.raw (.ref p.1)) := by
      rw [List.getElem?_append_right (by simp)]
      simp [refD]
    refine JSs.unghost i (pre.length + done.length) done.length h1 h2 h3 ?_
    have e : (((pre.set i (.ow (.lst (done.map (fun p => D.lst p.2) ++ (p :: todo).map refD))) ++ (List.replicate done.length Ent.no ++ ((p :: todo).map rowE ++ R))).set (pre.length + done.length) .no).set i (.ow (.lst ((done.map (fun p => D.lst p.2) ++ (p :: todo).map refD).set done.length (.lst p.2))))) = pre.set i (.ow (.lst ((done ++ [p]).map (fun p => D.lst p.2) ++ todo.map refD))) ++ (List.replicate (done ++ [p]).length Ent.no ++ (todo.map rowE ++ R)) := by
      rw [List.set_append_right _ _ (by rw [hpl]; omega), hpl, Nat.add_sub_cancel_left, List.set_append_left _ _ (by rw [hpl]; exact hi), List.set_set]
      congr 1
      · congr 3
        rw [List.set_append_right _ _ (by simp), List.length_map, Nat.sub_self]
        simp
      · rw [List.set_append_right _ _ (by simp), List.length_replicate, Nat.sub_self, List.length_append, List.length_singleton, List.replicate_succ', List.append_assoc]
        rfl
    rw [e]
    refine JSs.unghosts i hi todo (done ++ [p]) ?_
    simpa [List.append_assoc] using h
theorem bws_app : ∀ (a b : List Ent), bws (a ++ b) = bws a ++ bws b
  | [], _ => rfl
  | .no :: a, b => bws_app a b
  | .fz _ :: a, b => bws_app a b
  | .ow _ :: a, b => bws_app a b
  | .bw k o :: a, b => by show (k, o) :: bws (a ++ b) = (k, o) :: (bws a ++ bws b); rw [bws_app a b]
theorem bws_nos : ∀ n : Nat, bws (List.replicate n Ent.no) = []
  | 0 => rfl
  | n + 1 => bws_nos n
end
end J

namespace J
open PySem PySem.Spec L2 PyProof.Rows
/-- // by any divisor below 2 ^ 9000, not 0 -/
def CDivG (_ j : Int) : Prop := j ≠ 0 ∧ j.natAbs.log2 < 9000
theorem op_fdivG {X : Cx} : OpR X (binaryOp .FloorDiv) (rI CDivG fun i j => .int (i.fdiv j)) := opI fun i j _ _ _ _ _ hc q => floordiv_int hc.1 q (.inl (PyProof.noPylong_of_log2 hc.2))
section
variable {X : Cx} {B : Bs} {G : List Ent} {a b : Expr} {pos : Pos}
theorem jv_fdivG {Q : D → List Ent → Prop} (h : JV X B a G fun d1 G1 => JV X B b G1 fun d2 G2 => ∃ i j, d1 = .int i ∧ d2 = .int j ∧ CDivG i j ∧ Q (.int (i.fdiv j)) G2) : JV X B (.BinOp a .FloorDiv b pos) G Q :=
  jv_op2 op_fdivG (JV.imp h fun _ _ h => JV.imp h fun _ _ hh => by
    obtain ⟨i, j, e1, e2, c, q⟩ := hh
    subst e1 e2
    exact ⟨.int i, .int j, _, _, .int i, .int j, .int _, fun H VQ hq => ⟨i, j, rfl, rfl, c, hq⟩, q⟩)
end
end J

namespace J
open PySem PySem.Spec L2
section
variable {P : Program} {w : World} {K : PySem.W.Frag} {mg : Str → Option Value} {base : Heap} {S : Sc} {k : Nat} {X : Cx} {B : Bs} {E : XW} {G : List Ent} {a b e : Expr} {pos p : Pos} {x : Str}
/-- x[e] as a target, x an own list -/
theorem JG.setix (cj : CJ P w K mg base S k X B E) (i : Nat) {L : List Nat} {xp tp : Pos} {d : D} {Q : List Ent → Prop} (h : JV X B b G fun d2 G2 => ∃ ds j m, entOw G2[i]? = some (.lst ds) ∧ d2 = .int j ∧ ixN ds.length j = some m ∧ Q (setOw G2 i (.lst (ds.set m d)))) (hN : S.N[i]? = some x := by rfl) (hv : i ∈ S.vi := by decide) (hls : (entOw G[i]?).isSome = true := by rfl)
    (ha : ∀ v, assign (.Subscript (.Name x xp) b tp) X.env v = (do
      let ov ← holding [v] (eval (.Name x xp) X.env)
      let iv ← holding [v, ov] (eval b X.env)
      standAt tp
      holding [v, ov, iv] (setItem ov iv v)
      release [v, ov, iv] []) := by intro _; rfl) : JG X B L (.Subscript (.Name x xp) b tp) (.fz d) G Q := fun t s z F H v GQ hl c ir q => by
  have hn := okName_of (Sc.vis cj.ok hv hN).1
  refine tGt_of (pg_sub (pe_var (cj.xN hN) (cj.vis hv hN) hn.1 hn.2.1) pe_sem set_list ha) ?_
  obtain ⟨o0, h0⟩ := Option.isSome_iff_exists.mp hls
  obtain ⟨y, e1, _⟩ := c.pop.slot hl h0
  refine ⟨.ref y, e1, h (some v :: t) s (.fz d :: z) F H _ (by simp [hl]) c fun u F2 H2 d2 G2 c2 ⟨ds, j, m, g2, ed, hm, hq⟩ => ?_⟩
  subst ed
  cases c2.top
  obtain ⟨y2, e2, ⟨xs, h3, h4⟩, hF, wr⟩ := c2.pop.pop.slot hl g2
  rw [e1] at e2
  cases e2
  refine ⟨y, xs, j, m, rfl, rfl, h3, by rw [h4.length]; exact hm, ?_⟩
  exact q s F2 _ _ rfl (fun _ _ => rfl) (wr (.lst (xs.set m v)) (.lst (ds.set m d)) ⟨_, upd_same, pset c2.pop.top m h4⟩) hq
end
end J

namespace J
open PySem PySem.Spec L2
section
variable {P : Program} {w : World} {K : PySem.W.Frag} {mg : Str → Option Value} {base : Heap} {S : Sc} {k : Nat} {X : Cx} {B : Bs} {E : XW} {G : List Ent} {a b e : Expr} {pos p : Pos} {x : Str}
/-- a in x, x an own list at a slot -/
theorem jt_inOR {xp : Pos} (cj : CJ P w K mg base S k X B E) (i : Nat) {Q : Bool → List Ent → Prop} (h : JV X B a G fun d1 G1 => ∃ (n m : Nat) (ds : List D) (_ : Decidable (d1 ∈ ds)), entOw G1[i]? = some (.lst ds) ∧ Flat n d1 ∧ (∀ e ∈ ds, Flat m e) ∧ n ≤ 64 ∧ m + 1 ≤ 64 ∧ Q (decide (d1 ∈ ds)) G1) (hN : S.N[i]? = some x := by rfl) (hv : i ∈ S.vi := by decide) (hm : behindInMarks .In (.Name x xp) = false := by with_unfolding_all rfl) : JT X B (.Compare a [.In] [.Name x xp] pos) G Q :=
  jt_cmpOR cj i (op_inD cj.u65) hm (JV.imp h fun _ _ ⟨n, m, ds, _, e2, f, fs, l1, l2, q⟩ => ⟨ds, _, e2, relB_inD f fs l1 l2, q⟩) hN hv
end
end J

namespace J
open PySem PySem.Spec L2 PyProof.Rows
theorem perm_lift {α β : Type} {f : α → β} {out m : List β} (h : out.Perm m) : ∀ {l : List α}, m = l.map f → ∃ l' : List α, l'.Perm l ∧ out = l'.map f := by
  induction h with
  | nil => intro l e; exact ⟨l, List.Perm.refl _, e⟩
  | @cons x a b _ ih =>
    intro l e
    cases l with
    | nil => simp at e
    | cons y l =>
      rw [List.map_cons] at e
      injection e with e1 e2
      obtain ⟨l', p, q⟩ := ih e2
      exact ⟨y :: l', p.cons y, by rw [List.map_cons, e1, q]⟩
  | swap x y a =>
    intro l e
    match l, e with
    | u :: v :: l, e =>
      rw [List.map_cons, List.map_cons] at e
      injection e with e1 e2
      injection e2 with e2 e3
      exact ⟨v :: u :: l, List.Perm.swap _ _ _, by rw [List.map_cons, List.map_cons, e1, e2, e3]⟩
  | trans _ _ ih1 ih2 =>
    intro l e
    obtain ⟨l1, p1, q1⟩ := ih2 e
    obtain ⟨l2, p2, q2⟩ := ih1 q1
    exact ⟨l2, p2.trans p1, q2⟩
/-- sorted(d), d a dict with tuples of ints as keys -/
def rSortedDT (d : Nat) (B : Int) : List V → Hp → VK → Prop := fun xs H Q => ∃ (a : Addr) (kvs : List (List L2.Key × V)) (ks : List (List Int)), xs = [.ref a] ∧ Rd H a (.dT kvs) ∧ kvs.map (·.1) = ks.map ik ∧ ks.length < 64 ∧ (∀ k ∈ ks, k.length = d ∧ TS.Bd B k) ∧
  ∀ (L : List (Addr × List Int)) (p : Addr), (L.map (·.2)).Perm ks → (∀ q ∈ L, H q.1 = some (.tup (q.2.map V.int))) → L.Pairwise (fun q r => TS.code B q.2 ≤ TS.code B r.2) → H p = none → Q (.ref p) (upd H p (.lst (L.map fun q => V.ref q.1)))
theorem kt_addrs {H : Hp} : ∀ {kvs : List (List L2.Key × V)} {xs : List (List L2.Key × Addr × Value)} {ks : List (List Int)}, KT H kvs xs → kvs.map (·.1) = ks.map ik → ∃ L0 : List (Addr × List Int), xs.map (·.2.1) = L0.map (·.1) ∧ L0.map (·.2) = ks ∧ ∀ q ∈ L0, H q.1 = some (.tup (q.2.map V.int))
  | _, _, ks, .nil, e => by
    cases ks with
    | nil => exact ⟨[], rfl, rfl, fun _ h => by cases h⟩
    | cons _ _ => simp at e
  | p :: kvs, x :: xs, ks, .cons r t, e => by
    cases ks with
    | nil => simp at e
    | cons k ks =>
      rw [List.map_cons, List.map_cons] at e
      injection e with e1 e2
      obtain ⟨L0, a, b, c⟩ := kt_addrs t e2
      refine ⟨(x.2.1, k) :: L0, by rw [List.map_cons, List.map_cons, a], by rw [List.map_cons, b], fun q hq => ?_⟩
      rcases List.mem_cons.mp hq with rfl | hq
      · have := r.2.1
        rw [e1, ik_kV] at this
        exact this
      · exact c q hq
theorem call_sortedDT {X : Cx} (hcalm : X.calm = true) {d : Nat} {B : Int} (hd1 : 1 ≤ d) : CallR X (.builtin "sorted") (rSortedDT d B) := by
  intro pins s σ H xs us Q I r h
  obtain ⟨a, kvs, ks, rfl, ha, hks, h64, hk, q⟩ := h
  rw [Vals.ref1 r]
  obtain ⟨z, hd, xs', rel, o, es, ep, ho, hx, hdat, he, _⟩ := dt_rd I.hok ha
  obtain ⟨L0, l1, l2, l3⟩ := kt_addrs rel hks
  have hsz : es.size ≤ sizeLine := by
    have := congrArg List.length he
    rw [Array.length_toList, List.length_map, ← Paired.length rel] at this
    omega
  have n0 : L0.length = ks.length := by rw [← l2, List.length_map]
  refine Calls.call_function_entry PyProof.Rows.kind_sorted PyProof.Rows.plain_sorted PyProof.Rows.entry_sorted (PyProof.Rows.args_sorted1 _) ?_
  unfold Builtin.«sorted»
  refine wpAny_bind (m := checkCount "sorted" 1 1 _) (wpAny_pure ?_)
  refine wpAny_bind (PySem.W.kdu_collect (A := X.A.in1) (PySem.KdlSrc.rawDict (es := es) (ep := ep) hd) (I.ok.hd hcalm) ⟨o, ho, hx, hdat⟩ hsz fun h' tk acc hkeep hacc => ?_)
  have ea : acc.toList = (L0.map (·.1)).map Value.ref := by
    rw [items_eq (f := fun e : DictEntry => e.key) hacc, he, List.map_map, ← l1, List.map_map]; rfl
  have hal : acc.toList.length = ks.length := by rw [ea, List.length_map, List.length_map, n0]
  have I1 : Inv X pins σ H { s with heap := h', toks := tk } := I.kept hkeep
  refine wpAny_bind (wpAny_newList ?_ (by rw [hal, sizeLine_eq]; omega))
  have hoL : (h'.push (seqObj "list" acc.toList.toArray 0)).get? h'.objs.size = some (seqObj "list" acc.toList.toArray 0) := Heap.get?_push_size _ rfl
  show wpAny _ _ _ _ _ { s with heap := h'.push (seqObj "list" acc.toList.toArray 0), toks := tk }
  have raw : ∀ q ∈ L0, TS.TupInts h' (.ref q.1) q.2 := fun q hq => tupI_raw I1 (.inl (.inl (l3 q hq)))
  have keep : ∀ b o, h'.get? b = some o → o.cls = .type "tuple" → (h'.push (seqObj "list" acc.toList.toArray 0)).get? b = some o := fun b o e _ => Heap.get?_push_of_some _ e
  have x : TS.TupsOk (h'.push (seqObj "list" acc.toList.toArray 0)) d B acc.toList := fun v hv => by
    rw [ea, List.map_map] at hv
    obtain ⟨q, hq, rfl⟩ := List.mem_map.mp hv
    have := hk q.2 (by rw [← l2]; exact List.mem_map.mpr ⟨q, hq, rfl⟩)
    exact ⟨q.2, (raw q hq).keeps keep, this.1, this.2⟩
  refine wpAny_bind (wpAny_holding (wpAny_call_entry PyProof.Rows.slot_list_sort ⟨_, hoL, rfl⟩ PyProof.Rows.entry_list_sort (TS.sort_tups hoL (by rw [hal]; exact h64) hd1 x (fun v => TS.code B (TS.intsOf h' v)) (fun v hv ns t => ?_) fun out g1 g2 => ⟨_, rfl, ?_⟩) (PyProof.Rows.args_list_sort _)))
  · rw [ea, List.map_map] at hv
    obtain ⟨q, hq, rfl⟩ := List.mem_map.mp hv
    have e : ns = q.2 := t.ints.symm.trans ((raw q hq).keeps keep).ints
    rw [e]
    show TS.code B (TS.intsOf h' (.ref q.1)) = _
    rw [(raw q hq).ints]
  obtain ⟨e', he'⟩ := PyProof.Rows.sortedHeap_at (vs := acc.toList) (out := out) hoL
  rw [ea, List.map_map] at g1
  obtain ⟨L, pm, eL⟩ := perm_lift g1 rfl
  have hLm : ∀ q ∈ L, q ∈ L0 := fun q hq => pm.mem_iff.mp hq
  have hlen : (L.map fun q => V.ref q.1).length ≤ sizeLine := by
    rw [List.length_map, pm.length_eq, n0]
    exact Nat.le_trans (Nat.le_of_lt h64) (by decide)
  have pw : L.Pairwise (fun q r => TS.code B q.2 ≤ TS.code B r.2) := by
    rw [eL, List.pairwise_map] at g2
    refine List.Pairwise.imp_of_mem (fun {u v} hu hv h => ?_) g2
    have h : TS.code B (TS.intsOf h' (.ref u.1)) ≤ TS.code B (TS.intsOf h' (.ref v.1)) := h
    rw [(raw u (hLm u hu)).ints, (raw v (hLm v hv)).ints] at h
    exact h
  refine wpAny_pure ⟨_, rfl, .ref h'.objs.size, upd H h'.objs.size (.lst (L.map fun q => V.ref q.1)), I1.laid (t' := tk) (fun b u e => ?_) (Nat.le_refl _)
    (show ObjOk X.prog X.w _ _ _ (.lst (L.map fun q => V.ref q.1)) from ⟨hlen, out.toList, e', by rw [eL]; exact vals_of_refs L, by rw [Array.toArray_toList]; exact he'⟩), rfl, q L _ (by rw [← l2]; exact pm.map _) (fun u hu => l3 u (hLm u hu)) pw (I1.hok.fresh (Nat.le_refl _))⟩
  have hb : b < h'.objs.size := Heap.lt_size e
  rw [PyProof.Rows.sortedHeap_old (Nat.ne_of_lt hb) (by rw [size_push']; exact Nat.lt_succ_of_lt hb)]
  exact Heap.get?_push_of_some _ e
section
variable {P : Program} {w : World} {K : PySem.W.Frag} {mg : Str → Option Value} {base : Heap} {S : Sc} {k : Nat} {X : Cx} {B : Bs} {E : XW} {G : List Ent} {a b e : Expr} {pos p : Pos} {x : Str}
theorem Conf.tupsF {F H : Hp} {s : L2.St} {g : List Ent} (c : Conf K B s F H g) : ∀ (L : List (Addr × List Int)), (∀ q ∈ L, H q.1 = some (.tup (q.2.map V.int))) → ∃ F', Same F F' ∧ (∀ q ∈ L, F' q.1 = some (.tup (q.2.map V.int))) ∧ Conf K B s F' H g
  | [], _ => ⟨F, Same.refl F, fun _ h => (by cases h), c⟩
  | q :: L, h => by
    obtain ⟨F1, s1, f1, c1⟩ := Conf.tupsF c L fun r hr => h r (by simp [hr])
    obtain ⟨F2, s2, f2, c2⟩ := c1.tupF (h q (by simp))
    refine ⟨F2, s1.trans s2, fun r hr => ?_, c2⟩
    rcases List.mem_cons.mp hr with rfl | hr
    · exact f2
    · exact s2 _ _ (f1 r hr)
theorem dps_tups {F : Hp} : ∀ {L : List (Addr × List Int)}, (∀ q ∈ L, F q.1 = some (.tup (q.2.map V.int))) → DPs K F (L.map fun q => V.ref q.1) ((L.map (·.2)).map fun k => .tup (k.map .int))
  | [], _ => .nil
  | q :: L, h => .cons (DP.tp_tup (.tp (h q (by simp)) (dps_ints _))) (dps_tups fun r hr => h r (by simp [hr]))
/-- sorted(x), x an own dict with pairs as keys -/
theorem je_sortedT (cj : CJ P w K mg base S k X B E) (j i : Nat) {m : KTD} {xp : Pos} {Q : Ent → List Ent → Prop} (hm : mg "sorted" = none) (hl64 : m.length < 64) (hk : ∀ q ∈ m, q.1.length = 2 ∧ TS.Bd 64 q.1)
    (h : ∀ ks : List (List Int), ks.Perm (m.map (·.1)) → ks.Pairwise (fun a b => TS.code 64 a ≤ TS.code 64 b) → Q (.ow (.lst (ks.map fun k => .tup (k.map .int)))) G) (hg : entOw G[i]? = some (.dT (kt m)) := by rfl) (hj : S.gl[j]? = some "sorted" := by rfl) (hN : S.N[i]? = some x := by rfl) (hv : i ∈ S.vi := by decide)
    (he : starEach [.Name x xp] X.env = (false, eval (.Name x xp) X.env) :: starEach [] X.env := by rfl) (hpl : (backTo pos (starEach [] X.env)).any (·.1) = false := by rfl) : JE X B (.Call (.Name "sorted" p) [.Name x xp] [] pos) G Q := fun t s z F H VQ hl c q => by
  have hn := okName_of (Sc.vis cj.ok hv hN).1
  refine tS_of (pe_callB (call_sortedDT cj.calm (d := 2) (B := 64) (by decide)) (cj.gl hj) (cj.mgx hm) (by decide +kernel) (pa_cons (pe_var (cj.xN hN) (cj.vis hv hN) hn.1 hn.2.1) pa_nil he) (cj.nnm hj) (cj.dbg hj) he hpl) ?_
  obtain ⟨y, e1, ⟨ks, o1, o2⟩, _⟩ := c.slot hl hg
  have keys : ∀ {kvs : List (List Key × V)} {m : KTD}, PK X.K F kvs (kt m) → kvs.map (·.1) = (m.map (·.1)).map ik := by
    intro kvs m
    induction m generalizing kvs with
    | nil => intro h; cases h; rfl
    | cons p m ih => intro h; cases h with
      | cons r t => rw [List.map_cons, ih t, r.1]; rfl
  refine ⟨.ref y, e1, y, ks, m.map (·.1), rfl, .inl o1, keys o2, by rw [List.length_map]; exact hl64, fun k hk2 => ?_, fun L r pm hL pw nr => ?_⟩
  · obtain ⟨q, hq, rfl⟩ := List.mem_map.mp hk2
    exact hk q hq
  obtain ⟨F2, sm, hF2, c2⟩ := Conf.tupsF c L hL
  have pw2 : (L.map (·.2)).Pairwise (fun a b => TS.code 64 a ≤ TS.code 64 b) := List.pairwise_map.mpr pw
  exact q _ F2 _ _ G (c2.newL nr (dps_tups hF2)) trivial (h _ pm pw2)
end
end J

namespace J
open PySem PySem.Spec L2
section
variable {P : Program} {w : World} {K : PySem.W.Frag} {mg : Str → Option Value} {base : Heap} {S : Sc} {k : Nat} {X : Cx} {B : Bs} {E : XW} {G : List Ent} {a b e : Expr} {pos p : Pos} {x : Str}
theorem relB_loose {r : R2} {d d' e : D} {kk : Bool} (lo : Lo d d') (h : RelB X r d' e kk) : RelB X r d e kk := fun v u H VQ h1 h2 q => h v u H VQ (lo _ _ _ h1) h2 q
/-- x != b, x an own list of keys -/
theorem jt_neOL {b : Expr} {x : Str} {xp : Pos} (cj : CJ P w K mg base S k X B E) (i : Nat) {Q : Bool → List Ent → Prop}
    (h : JV X B b G fun d2 G2 => ∃ ds ds', entOw G2[i]? = some (.lst ds) ∧ Lo (.lst ds) (.lst ds') ∧ (∃ n, Flat n (.lst ds') ∧ n ≤ 64) ∧ (∃ m, Flat m d2 ∧ m ≤ 64) ∧ Q (!deq (.lst ds') d2) G2) (hN : S.N[i]? = some x := by rfl) (hv : i ∈ S.vi := by decide) (hg : (entOw G[i]?).isSome = true := by rfl) : JT X B (.Compare (.Name x xp) [.NotEq] [b] pos) G Q :=
  jt_cmpO cj i (op_neD cj.hr.units) (nomark _) (h.imp fun d2 G2 ⟨ds, ds', h1, lo, ⟨n, f, hn⟩, ⟨m, f', hm⟩, q⟩ => ⟨ds, _, h1, relB_loose lo (relB_ne f f' hn hm), q⟩) hN hv hg
end
end J

namespace Kz
open PySem PySem.Spec L2 J
/-! the text by places -/
def topS (i : Nat) : Stmt := PySem.Challenge.pw_longago_k15_whole_begun_by_own_shares.main.body.getD i (.Pass ⟨0, 0, 0, 0⟩)
abbrev s__law_cell : Stmt := topS 43
def z__law_cell : Sc := ⟨["_law_script", "_law_k"], defScope s__law_cell, [0, 1], [0, 1], ["len"]⟩
theorem zo__law_cell : z__law_cell.ok = true := by decide +kernel
theorem zf__law_cell : FnScope z__law_cell.N ["_law_script", "_law_k"] z__law_cell.sc := ⟨rfl, rfl, rfl, by decide +kernel, rfl, by decide +kernel, by decide +kernel⟩
abbrev s__law_off : Stmt := topS 45
def z__law_off : Sc := ⟨["_law_d", "_law_most", "_law_found", "_law_more"], defScope s__law_off, [0, 1, 2, 3], [0, 1, 2, 3], ["abs", "_law_cell", "max", "len"]⟩
theorem zo__law_off : z__law_off.ok = true := by decide +kernel
theorem zf__law_off : FnScope z__law_off.N ["_law_d", "_law_most"] z__law_off.sc := ⟨rfl, rfl, rfl, by decide +kernel, rfl, by decide +kernel, by decide +kernel⟩
abbrev s__law_chain : Stmt := topS 46
def z__law_chain : Sc := ⟨["_law_d", "_law_most", "_law_many", "_law_way", "_law_moves", "_law_k", "_law_row", "_law_weight", "_law_place"], defScope s__law_chain, [0, 1, 2, 3, 4, 5, 6, 7], [0, 1, 2, 3, 4, 5, 6, 7], ["_law_off", "range", "sorted", "tuple"]⟩
theorem zo__law_chain : z__law_chain.ok = true := by decide +kernel
theorem zf__law_chain : FnScope z__law_chain.N ["_law_d", "_law_most"] z__law_chain.sc := ⟨rfl, rfl, rfl, by decide +kernel, rfl, by decide +kernel, by decide +kernel⟩
abbrev s__law_dice : Stmt := topS 44
def z__law_dice : Sc := ⟨["_law_script", "_law_k", "_law_cell_here"], defScope s__law_dice, [0, 1, 2], [0, 1, 2], ["abs", "_law_cell", "int"]⟩
theorem zo__law_dice : z__law_dice.ok = true := by decide +kernel
theorem zf__law_dice : FnScope z__law_dice.N ["_law_script", "_law_k"] z__law_dice.sc := ⟨rfl, rfl, rfl, by decide +kernel, rfl, by decide +kernel, by decide +kernel⟩
abbrev s_must : Stmt := topS 23
def z_must : Sc := ⟨["good"], defScope s_must, [0], [0], ["BadChain"]⟩
theorem zo_must : z_must.ok = true := by decide +kernel
theorem zf_must : FnScope z_must.N ["good"] z_must.sc := ⟨rfl, rfl, rfl, by decide +kernel, rfl, by decide +kernel, by decide +kernel⟩
abbrev s_Chain___init__ : Stmt := inClass (topS 24) 0
def z_Chain___init__ : Sc := ⟨["self", "many", "moves", "weight", "row", "place"], defScope s_Chain___init__, [0, 1, 2, 3, 4, 5], [0, 1, 2, 3, 4, 5], ["must", "MOST_PLACES", "len", "MOST_MOVES", "MOST_WEIGHT", "list"]⟩
theorem zo_Chain___init__ : z_Chain___init__.ok = true := by decide +kernel
theorem zf_Chain___init__ : FnScope z_Chain___init__.N ["self", "many", "moves"] z_Chain___init__.sc := ⟨rfl, rfl, rfl, by decide +kernel, rfl, by decide +kernel, by decide +kernel⟩
abbrev s__law_made : Stmt := topS 47
def z__law_made : Sc := ⟨["_law_told"], defScope s__law_made, [0], [0], ["Chain", "list"]⟩
theorem zo__law_made : z__law_made.ok = true := by decide +kernel
theorem zf__law_made : FnScope z__law_made.N ["_law_told"] z__law_made.sc := ⟨rfl, rfl, rfl, by decide +kernel, rfl, by decide +kernel, by decide +kernel⟩
abbrev s_reached : Stmt := topS 26
def z_reached : Sc := ⟨["chain", "place", "found", "waiting", "here", "weight", "row"], defScope s_reached, [0, 1, 2, 3, 4, 5, 6], [0, 1, 2, 3, 4, 5, 6], ["sorted"]⟩
theorem zo_reached : z_reached.ok = true := by decide +kernel
theorem zf_reached : FnScope z_reached.N ["chain", "place"] z_reached.sc := ⟨rfl, rfl, rfl, by decide +kernel, rfl, by decide +kernel, by decide +kernel⟩
abbrev s_closed : Stmt := topS 27
def z_closed : Sc := ⟨["chain", "found", "place", "mine", "other"], defScope s_closed, [0, 1, 2, 3], [0, 1, 2, 3], ["range", "reached", "min"]⟩
theorem zo_closed : z_closed.ok = true := by decide +kernel
theorem zf_closed : FnScope z_closed.N ["chain"] z_closed.sc := ⟨rfl, rfl, rfl, by decide +kernel, rfl, by decide +kernel, by decide +kernel⟩
abbrev s_NotOne___init__ : Stmt := inClass (topS 5) 0
def z_NotOne___init__ : Sc := ⟨["self", "groups"], defScope s_NotOne___init__, [0, 1], [0, 1], ["LongError"]⟩
theorem zo_NotOne___init__ : z_NotOne___init__.ok = true := by decide +kernel
theorem zf_NotOne___init__ : FnScope z_NotOne___init__.N ["self", "groups"] z_NotOne___init__.sc := ⟨rfl, rfl, rfl, by decide +kernel, rfl, by decide +kernel, by decide +kernel⟩
abbrev s_Chain_weight : Stmt := inClass (topS 24) 3
def z_Chain_weight : Sc := ⟨["self", "weight", "row"], defScope s_Chain_weight, [0], [0], ["sum"]⟩
theorem zo_Chain_weight : z_Chain_weight.ok = true := by decide +kernel
theorem zf_Chain_weight : FnScope z_Chain_weight.N ["self"] z_Chain_weight.sc := ⟨rfl, rfl, rfl, by decide +kernel, rfl, by decide +kernel, by decide +kernel⟩
abbrev s_made : Stmt := topS 9
def z_made : Sc := ⟨["top", "bottom", "one", "other"], defScope s_made, [0, 1, 2, 3], [0, 1, 2, 3], ["abs"]⟩
theorem zo_made : z_made.ok = true := by decide +kernel
theorem zf_made : FnScope z_made.N ["top", "bottom"] z_made.sc := ⟨rfl, rfl, rfl, by decide +kernel, rfl, by decide +kernel, by decide +kernel⟩
abbrev s_added : Stmt := topS 10
def z_added : Sc := ⟨["one", "other"], defScope s_added, [0, 1], [0, 1], ["made"]⟩
theorem zo_added : z_added.ok = true := by decide +kernel
theorem zf_added : FnScope z_added.N ["one", "other"] z_added.sc := ⟨rfl, rfl, rfl, by decide +kernel, rfl, by decide +kernel, by decide +kernel⟩
abbrev s_chances : Stmt := topS 25
def z_chances : Sc := ⟨["chain", "found", "weight", "row", "place", "other", "#0", "#1", "#2", "#3", "#4", "#5"], defScope s_chances, [0, 1, 2, 3, 4, 5], [0, 1, 2, 3, 4, 5], ["range", "added", "made"]⟩
theorem zo_chances : z_chances.ok = true := by decide +kernel
theorem zf_chances : FnScope z_chances.N ["chain"] z_chances.sc := ⟨rfl, rfl, rfl, by decide +kernel, rfl, by decide +kernel, by decide +kernel⟩
abbrev s_less : Stmt := topS 11
def z_less : Sc := ⟨["one", "other"], defScope s_less, [0, 1], [0, 1], ["made"]⟩
theorem zo_less : z_less.ok = true := by decide +kernel
theorem zf_less : FnScope z_less.N ["one", "other"] z_less.sc := ⟨rfl, rfl, rfl, by decide +kernel, rfl, by decide +kernel, by decide +kernel⟩
abbrev s_over : Stmt := topS 13
def z_over : Sc := ⟨["one", "other"], defScope s_over, [0, 1], [0, 1], ["made"]⟩
theorem zo_over : z_over.ok = true := by decide +kernel
theorem zf_over : FnScope z_over.N ["one", "other"] z_over.sc := ⟨rfl, rfl, rfl, by decide +kernel, rfl, by decide +kernel, by decide +kernel⟩
abbrev s_lead_with : Stmt := topS 17
def z_lead_with : Sc := ⟨["rows", "at", "place", "share", "one"], defScope s_lead_with, [0, 1, 2, 3], [0, 1, 2, 3], []⟩
theorem zo_lead_with : z_lead_with.ok = true := by decide +kernel
theorem zf_lead_with : FnScope z_lead_with.N ["rows", "at"] z_lead_with.sc := ⟨rfl, rfl, rfl, by decide +kernel, rfl, by decide +kernel, by decide +kernel⟩
abbrev s_timed : Stmt := topS 12
def z_timed : Sc := ⟨["one", "other"], defScope s_timed, [0, 1], [0, 1], ["made"]⟩
theorem zo_timed : z_timed.ok = true := by decide +kernel
theorem zf_timed : FnScope z_timed.N ["one", "other"] z_timed.sc := ⟨rfl, rfl, rfl, by decide +kernel, rfl, by decide +kernel, by decide +kernel⟩
abbrev s_row_less : Stmt := topS 18
def z_row_less : Sc := ⟨["row", "lead", "share", "at", "found", "k"], defScope s_row_less, [0, 1, 2, 3, 4, 5], [0, 1, 2, 3, 4, 5], ["list", "range", "len", "less", "timed"]⟩
theorem zo_row_less : z_row_less.ok = true := by decide +kernel
theorem zf_row_less : FnScope z_row_less.N ["row", "lead", "share", "at"] z_row_less.sc := ⟨rfl, rfl, rfl, by decide +kernel, rfl, by decide +kernel, by decide +kernel⟩
abbrev s_solved : Stmt := topS 16
def z_solved : Sc := ⟨["rows", "many", "at", "lead", "k", "row"], defScope s_solved, [0, 1, 2, 3, 4], [0, 1, 2, 3, 4], ["len", "range", "lead_with", "row_less"]⟩
theorem zo_solved : z_solved.ok = true := by decide +kernel
theorem zf_solved : FnScope z_solved.N ["rows"] z_solved.sc := ⟨rfl, rfl, rfl, by decide +kernel, rfl, by decide +kernel, by decide +kernel⟩
abbrev s_own : Stmt := topS 28
def z_own : Sc := ⟨["chain", "groups", "told", "rows", "place", "row", "other"], defScope s_own, [0, 1, 2, 3, 4, 5], [0, 1, 2, 3, 4, 5], ["closed", "len", "NotOne", "chances", "range", "less", "WHOLE", "NOUGHT", "solved"]⟩
theorem zo_own : z_own.ok = true := by decide +kernel
theorem zf_own : FnScope z_own.N ["chain"] z_own.sc := ⟨rfl, rfl, rfl, by decide +kernel, rfl, by decide +kernel, by decide +kernel⟩
abbrev s__law_low : Stmt := topS 49
def z__law_low : Sc := ⟨["_law_top", "_law_bottom", "_law_one", "_law_other"], defScope s__law_low, [0, 1, 2, 3], [0, 1, 2, 3], ["abs"]⟩
theorem zo__law_low : z__law_low.ok = true := by decide +kernel
theorem zf__law_low : FnScope z__law_low.N ["_law_top", "_law_bottom"] z__law_low.sc := ⟨rfl, rfl, rfl, by decide +kernel, rfl, by decide +kernel, by decide +kernel⟩
abbrev s__law_add : Stmt := topS 50
def z__law_add : Sc := ⟨["_law_one", "_law_other"], defScope s__law_add, [0, 1], [0, 1], ["_law_low"]⟩
theorem zo__law_add : z__law_add.ok = true := by decide +kernel
theorem zf__law_add : FnScope z__law_add.N ["_law_one", "_law_other"] z__law_add.sc := ⟨rfl, rfl, rfl, by decide +kernel, rfl, by decide +kernel, by decide +kernel⟩
abbrev s__law_sum : Stmt := topS 52
def z__law_sum : Sc := ⟨["_law_some", "_law_found", "_law_one"], defScope s__law_sum, [0, 1, 2], [0, 1, 2], ["_law_add"]⟩
theorem zo__law_sum : z__law_sum.ok = true := by decide +kernel
theorem zf__law_sum : FnScope z__law_sum.N ["_law_some"] z__law_sum.sc := ⟨rfl, rfl, rfl, by decide +kernel, rfl, by decide +kernel, by decide +kernel⟩
abbrev s__law_is_share : Stmt := topS 53
def z__law_is_share : Sc := ⟨["_law_found", "_law_number"], defScope s__law_is_share, [0, 1], [0, 1], ["isinstance", "tuple", "len", "bool", "int", "_law_low"]⟩
theorem zo__law_is_share : z__law_is_share.ok = true := by decide +kernel
theorem zf__law_is_share : FnScope z__law_is_share.N ["_law_found"] z__law_is_share.sc := ⟨rfl, rfl, rfl, by decide +kernel, rfl, by decide +kernel, by decide +kernel⟩
abbrev s__law_are_shares : Stmt := topS 54
def z__law_are_shares : Sc := ⟨["_law_found", "_law_many", "_law_one"], defScope s__law_are_shares, [0, 1], [0, 1], ["isinstance", "list", "len", "_law_sum"]⟩
theorem zo__law_are_shares : z__law_are_shares.ok = true := by decide +kernel
theorem zf__law_are_shares : FnScope z__law_are_shares.N ["_law_found", "_law_many"] z__law_are_shares.sc := ⟨rfl, rfl, rfl, by decide +kernel, rfl, by decide +kernel, by decide +kernel⟩
abbrev s__law_ends : Stmt := topS 55
def z__law_ends : Sc := ⟨["_law_told", "_law_numbers_here", "_law_found", "_law_number", "_law_place"], defScope s__law_ends, [0, 1, 2, 3], [0, 1, 2, 3], ["list", "range"]⟩
theorem zo__law_ends : z__law_ends.ok = true := by decide +kernel
theorem zf__law_ends : FnScope z__law_ends.N ["_law_told", "_law_numbers_here"] z__law_ends.sc := ⟨rfl, rfl, rfl, by decide +kernel, rfl, by decide +kernel, by decide +kernel⟩
abbrev s__law_times : Stmt := topS 51
def z__law_times : Sc := ⟨["_law_one", "_law_other"], defScope s__law_times, [0, 1], [0, 1], ["_law_low"]⟩
theorem zo__law_times : z__law_times.ok = true := by decide +kernel
theorem zf__law_times : FnScope z__law_times.N ["_law_one", "_law_other"] z__law_times.sc := ⟨rfl, rfl, rfl, by decide +kernel, rfl, by decide +kernel, by decide +kernel⟩
abbrev s_pairs_of : Stmt := topS 30
def z_pairs_of : Sc := ⟨["chain", "found", "one", "other"], defScope s_pairs_of, [0, 1, 2], [0, 1, 2], ["range"]⟩
theorem zo_pairs_of : z_pairs_of.ok = true := by decide +kernel
theorem zf_pairs_of : FnScope z_pairs_of.N ["chain"] z_pairs_of.sc := ⟨rfl, rfl, rfl, by decide +kernel, rfl, by decide +kernel, by decide +kernel⟩
abbrev s_moved_pair : Stmt := topS 31
def z_moved_pair : Sc := ⟨["row", "pair", "one", "other"], defScope s_moved_pair, [0, 1, 2, 3], [0, 1, 2, 3], ["min", "max"]⟩
theorem zo_moved_pair : z_moved_pair.ok = true := by decide +kernel
theorem zf_moved_pair : FnScope z_moved_pair.N ["row", "pair"] z_moved_pair.sc := ⟨rfl, rfl, rfl, by decide +kernel, rfl, by decide +kernel, by decide +kernel⟩
abbrev s_goes : Stmt := topS 33
def z_goes : Sc := ⟨["chain", "pair", "known", "weight", "row", "behind"], defScope s_goes, [0, 1, 2, 3, 4, 5], [0, 1, 2, 3, 4, 5], ["moved_pair"]⟩
theorem zo_goes : z_goes.ok = true := by decide +kernel
theorem zf_goes : FnScope z_goes.N ["chain", "pair", "known"] z_goes.sc := ⟨rfl, rfl, rfl, by decide +kernel, rfl, by decide +kernel, by decide +kernel⟩
abbrev s_meeting_pairs : Stmt := topS 32
def z_meeting_pairs : Sc := ⟨["chain", "found", "changed", "pair"], defScope s_meeting_pairs, [0, 1, 2, 3], [0, 1, 2, 3], ["pairs_of", "goes"]⟩
theorem zo_meeting_pairs : z_meeting_pairs.ok = true := by decide +kernel
theorem zf_meeting_pairs : FnScope z_meeting_pairs.N ["chain"] z_meeting_pairs.sc := ⟨rfl, rfl, rfl, by decide +kernel, rfl, by decide +kernel, by decide +kernel⟩
abbrev s_never : Stmt := topS 34
def z_never : Sc := ⟨["chain", "known", "pair"], defScope s_never, [0, 1], [0, 1], ["meeting_pairs", "pairs_of"]⟩
theorem zo_never : z_never.ok = true := by decide +kernel
theorem zf_never : FnScope z_never.N ["chain"] z_never.sc := ⟨rfl, rfl, rfl, by decide +kernel, rfl, by decide +kernel, by decide +kernel⟩
abbrev s_pairs_behind : Stmt := topS 35
def z_pairs_behind : Sc := ⟨["chain", "pair", "found", "waiting", "here", "weight", "row", "behind"], defScope s_pairs_behind, [0, 1, 2, 3, 4, 5, 6, 7], [0, 1, 2, 3, 4, 5, 6, 7], ["moved_pair", "sorted"]⟩
theorem zo_pairs_behind : z_pairs_behind.ok = true := by decide +kernel
theorem zf_pairs_behind : FnScope z_pairs_behind.N ["chain", "pair"] z_pairs_behind.sc := ⟨rfl, rfl, rfl, by decide +kernel, rfl, by decide +kernel, by decide +kernel⟩
abbrev s_walking : Stmt := topS 37
def z_walking : Sc := ⟨["chain", "rows", "waiting", "at", "here", "number", "behind", "place"], defScope s_walking, [0, 1, 2, 3, 4, 5, 6], [0, 1, 2, 3, 4, 5, 6], ["len", "range", "tuple", "sorted", "set", "list"]⟩
theorem zo_walking : z_walking.ok = true := by decide +kernel
theorem zf_walking : FnScope z_walking.N ["chain", "rows", "waiting"] z_walking.sc := ⟨rfl, rfl, rfl, by decide +kernel, rfl, by decide +kernel, by decide +kernel⟩
abbrev s_meeting : Stmt := topS 36
def z_meeting : Sc := ⟨["chain", "pairs", "begin", "rows", "waiting", "here"], defScope s_meeting, [0, 1, 2, 3, 4, 5], [0, 1, 2, 3, 4, 5], ["never", "pairs_behind", "tuple", "range", "walking", "len", "list"]⟩
theorem zo_meeting : z_meeting.ok = true := by decide +kernel
theorem zf_meeting : FnScope z_meeting.N ["chain"] z_meeting.sc := ⟨rfl, rfl, rfl, by decide +kernel, rfl, by decide +kernel, by decide +kernel⟩
abbrev s_farther : Stmt := topS 40
def z_farther : Sc := ⟨["ends", "row", "place"], defScope s_farther, [0, 1], [0, 1], ["tuple"]⟩
theorem zo_farther : z_farther.ok = true := by decide +kernel
theorem zf_farther : FnScope z_farther.N ["ends", "row"] z_farther.sc := ⟨rfl, rfl, rfl, by decide +kernel, rfl, by decide +kernel, by decide +kernel⟩
abbrev s_summed : Stmt := topS 14
def z_summed : Sc := ⟨["some", "found", "one"], defScope s_summed, [0, 1, 2], [0, 1, 2], ["NOUGHT", "added"]⟩
theorem zo_summed : z_summed.ok = true := by decide +kernel
theorem zf_summed : FnScope z_summed.N ["some"] z_summed.sc := ⟨rfl, rfl, rfl, by decide +kernel, rfl, by decide +kernel, by decide +kernel⟩
abbrev s_shares : Stmt := topS 41
def z_shares : Sc := ⟨["chain", "far", "counts", "turn", "more", "ends", "weight", "row", "key", "whole", "found", "place", "one"], defScope s_shares, [0, 1, 2, 3, 4, 5, 6, 7, 8, 9, 10, 11], [0, 1, 2, 3, 4, 5, 6, 7, 8, 9, 10, 11], ["MOST_FAR", "NoSuch", "tuple", "range", "farther", "sum", "list", "made", "less", "WHOLE", "summed"]⟩
theorem zo_shares : z_shares.ok = true := by decide +kernel
theorem zf_shares : FnScope z_shares.N ["chain", "far"] z_shares.sc := ⟨rfl, rfl, rfl, by decide +kernel, rfl, by decide +kernel, by decide +kernel⟩
abbrev s_law : Stmt := topS 57
def z_law : Sc := ⟨["_law_script", "_law_told", "_law_chain_here", "_law_mine", "_law_rows", "_law_turn", "_law_more", "_law_numbers_here", "_law_weight", "_law_number", "_law_whole", "_law_counts", "_law_ends_here", "_law_place", "_law_share", "_law_found", "_law_parts", "_law_rest"], defScope s_law, [0, 1, 2, 3, 4, 5, 6, 7, 8, 9, 10, 11, 12, 13, 14, 15, 16, 17], [0, 1, 2, 3, 4, 5, 6, 7, 8, 9, 10, 11, 12, 13, 14, 15, 16, 17], ["_law_chain", "_law_dice", "_law_made", "len", "closed", "own", "_law_are_shares", "range", "abs", "_law_cell", "sum", "_law_ends", "_law_times", "_law_low", "_law_add", "meeting", "shares", "_law_sum"]⟩
theorem zo_law : z_law.ok = true := by decide +kernel
theorem zf_law : FnScope z_law.N ["_law_script"] z_law.sc := ⟨rfl, rfl, rfl, by decide +kernel, rfl, by decide +kernel, by decide +kernel⟩
/-! what the top has written -/
structure Tx (K : PySem.W.Frag) (mg : Str → Option Value) where
  C_Chain : Addr
  cl_Chain : Cls K C_Chain
  g_Chain : mg "Chain" = some (.ref C_Chain)
  na_Chain_many : NoAttr K C_Chain "many"
  na_Chain_moves : NoAttr K C_Chain "moves"
  C_BadChain : Addr
  g_BadChain : mg "BadChain" = some (.ref C_BadChain)
  kp_BadChain : PySem.W.keepIn K (.ref C_BadChain) = true
  su_BadChain : PySem.W.subIn K (.ref C_BadChain) (.type "BaseException") = some true
  ty_BadChain : PySem.W.typeIn K (.ref C_BadChain) = some (.type "type")
  xi_BadChain : PySem.W.excIn K C_BadChain [.type "ValueError", .type "Exception", .type "BaseException", .type "object"] "ValueError.__new__" = true
  C_NotOne : Addr
  g_NotOne : mg "NotOne" = some (.ref C_NotOne)
  kp_NotOne : PySem.W.keepIn K (.ref C_NotOne) = true
  su_NotOne : PySem.W.subIn K (.ref C_NotOne) (.type "BaseException") = some true
  ty_NotOne : PySem.W.typeIn K (.ref C_NotOne) = some (.type "type")
  C_LongError : Addr
  g_LongError : mg "LongError" = some (.ref C_LongError)
  kp_LongError : PySem.W.keepIn K (.ref C_LongError) = true
  su_LongError : PySem.W.subIn K (.ref C_LongError) (.type "BaseException") = some true
  ty_LongError : PySem.W.typeIn K (.ref C_LongError) = some (.type "type")
  xi_LongError : PySem.W.excIn K C_LongError [.type "ValueError", .type "Exception", .type "BaseException", .type "object"] "ValueError.__new__" = true
  C_NoSuch : Addr
  g_NoSuch : mg "NoSuch" = some (.ref C_NoSuch)
  kp_NoSuch : PySem.W.keepIn K (.ref C_NoSuch) = true
  su_NoSuch : PySem.W.subIn K (.ref C_NoSuch) (.type "BaseException") = some true
  ty_NoSuch : PySem.W.typeIn K (.ref C_NoSuch) = some (.type "type")
  xi_NoSuch : PySem.W.excIn K C_NoSuch [.type "ValueError", .type "Exception", .type "BaseException", .type "object"] "ValueError.__new__" = true
  a__law_cell : Addr
  d__law_cell : FuncData
  F__law_cell : Fun K "_law_cell" "_law_cell" s__law_cell a__law_cell d__law_cell
  b__law_cell : Binds K d__law_cell ["_law_script", "_law_k"] []
  g__law_cell : mg "_law_cell" = some (.ref a__law_cell)
  a__law_off : Addr
  d__law_off : FuncData
  F__law_off : Fun K "_law_off" "_law_off" s__law_off a__law_off d__law_off
  b__law_off : Binds K d__law_off ["_law_d", "_law_most"] []
  g__law_off : mg "_law_off" = some (.ref a__law_off)
  a__law_chain : Addr
  d__law_chain : FuncData
  F__law_chain : Fun K "_law_chain" "_law_chain" s__law_chain a__law_chain d__law_chain
  b__law_chain : Binds K d__law_chain ["_law_d", "_law_most"] []
  g__law_chain : mg "_law_chain" = some (.ref a__law_chain)
  a__law_dice : Addr
  d__law_dice : FuncData
  F__law_dice : Fun K "_law_dice" "_law_dice" s__law_dice a__law_dice d__law_dice
  b__law_dice : Binds K d__law_dice ["_law_script", "_law_k"] []
  g__law_dice : mg "_law_dice" = some (.ref a__law_dice)
  a_must : Addr
  d_must : FuncData
  F_must : Fun K "must" "must" s_must a_must d_must
  b_must : Binds K d_must ["good"] []
  g_must : mg "must" = some (.ref a_must)
  a_Chain___init__ : Addr
  d_Chain___init__ : FuncData
  F_Chain___init__ : Fun K "__init__" "Chain.__init__" s_Chain___init__ a_Chain___init__ d_Chain___init__
  b_Chain___init__ : Binds K d_Chain___init__ ["self", "many", "moves"] []
  mk_Chain : Mk K C_Chain a_Chain___init__
  a__law_made : Addr
  d__law_made : FuncData
  F__law_made : Fun K "_law_made" "_law_made" s__law_made a__law_made d__law_made
  b__law_made : Binds K d__law_made ["_law_told"] []
  g__law_made : mg "_law_made" = some (.ref a__law_made)
  a_reached : Addr
  d_reached : FuncData
  F_reached : Fun K "reached" "reached" s_reached a_reached d_reached
  b_reached : Binds K d_reached ["chain", "place"] []
  g_reached : mg "reached" = some (.ref a_reached)
  a_closed : Addr
  d_closed : FuncData
  F_closed : Fun K "closed" "closed" s_closed a_closed d_closed
  b_closed : Binds K d_closed ["chain"] []
  g_closed : mg "closed" = some (.ref a_closed)
  a_NotOne___init__ : Addr
  d_NotOne___init__ : FuncData
  F_NotOne___init__ : Fun K "__init__" "NotOne.__init__" s_NotOne___init__ a_NotOne___init__ d_NotOne___init__
  b_NotOne___init__ : Binds K d_NotOne___init__ ["self", "groups"] []
  a_Chain_weight : Addr
  d_Chain_weight : FuncData
  F_Chain_weight : Fun K "weight" "Chain.weight" s_Chain_weight a_Chain_weight d_Chain_weight
  b_Chain_weight : Binds K d_Chain_weight ["self"] []
  M_Chain_weight : Meth K C_Chain "weight" a_Chain_weight
  a_made : Addr
  d_made : FuncData
  F_made : Fun K "made" "made" s_made a_made d_made
  b_made : Binds K d_made ["top", "bottom"] []
  g_made : mg "made" = some (.ref a_made)
  a_added : Addr
  d_added : FuncData
  F_added : Fun K "added" "added" s_added a_added d_added
  b_added : Binds K d_added ["one", "other"] []
  g_added : mg "added" = some (.ref a_added)
  a_chances : Addr
  d_chances : FuncData
  F_chances : Fun K "chances" "chances" s_chances a_chances d_chances
  b_chances : Binds K d_chances ["chain"] []
  g_chances : mg "chances" = some (.ref a_chances)
  a_less : Addr
  d_less : FuncData
  F_less : Fun K "less" "less" s_less a_less d_less
  b_less : Binds K d_less ["one", "other"] []
  g_less : mg "less" = some (.ref a_less)
  a_over : Addr
  d_over : FuncData
  F_over : Fun K "over" "over" s_over a_over d_over
  b_over : Binds K d_over ["one", "other"] []
  g_over : mg "over" = some (.ref a_over)
  a_lead_with : Addr
  d_lead_with : FuncData
  F_lead_with : Fun K "lead_with" "lead_with" s_lead_with a_lead_with d_lead_with
  b_lead_with : Binds K d_lead_with ["rows", "at"] []
  g_lead_with : mg "lead_with" = some (.ref a_lead_with)
  a_timed : Addr
  d_timed : FuncData
  F_timed : Fun K "timed" "timed" s_timed a_timed d_timed
  b_timed : Binds K d_timed ["one", "other"] []
  g_timed : mg "timed" = some (.ref a_timed)
  a_row_less : Addr
  d_row_less : FuncData
  F_row_less : Fun K "row_less" "row_less" s_row_less a_row_less d_row_less
  b_row_less : Binds K d_row_less ["row", "lead", "share", "at"] []
  g_row_less : mg "row_less" = some (.ref a_row_less)
  a_solved : Addr
  d_solved : FuncData
  F_solved : Fun K "solved" "solved" s_solved a_solved d_solved
  b_solved : Binds K d_solved ["rows"] []
  g_solved : mg "solved" = some (.ref a_solved)
  a_own : Addr
  d_own : FuncData
  F_own : Fun K "own" "own" s_own a_own d_own
  b_own : Binds K d_own ["chain"] []
  g_own : mg "own" = some (.ref a_own)
  a__law_low : Addr
  d__law_low : FuncData
  F__law_low : Fun K "_law_low" "_law_low" s__law_low a__law_low d__law_low
  b__law_low : Binds K d__law_low ["_law_top", "_law_bottom"] []
  g__law_low : mg "_law_low" = some (.ref a__law_low)
  a__law_add : Addr
  d__law_add : FuncData
  F__law_add : Fun K "_law_add" "_law_add" s__law_add a__law_add d__law_add
  b__law_add : Binds K d__law_add ["_law_one", "_law_other"] []
  g__law_add : mg "_law_add" = some (.ref a__law_add)
  a__law_sum : Addr
  d__law_sum : FuncData
  F__law_sum : Fun K "_law_sum" "_law_sum" s__law_sum a__law_sum d__law_sum
  b__law_sum : Binds K d__law_sum ["_law_some"] []
  g__law_sum : mg "_law_sum" = some (.ref a__law_sum)
  a__law_is_share : Addr
  d__law_is_share : FuncData
  F__law_is_share : Fun K "_law_is_share" "_law_is_share" s__law_is_share a__law_is_share d__law_is_share
  b__law_is_share : Binds K d__law_is_share ["_law_found"] []
  g__law_is_share : mg "_law_is_share" = some (.ref a__law_is_share)
  a__law_are_shares : Addr
  d__law_are_shares : FuncData
  F__law_are_shares : Fun K "_law_are_shares" "_law_are_shares" s__law_are_shares a__law_are_shares d__law_are_shares
  b__law_are_shares : Binds K d__law_are_shares ["_law_found", "_law_many"] []
  g__law_are_shares : mg "_law_are_shares" = some (.ref a__law_are_shares)
  a__law_ends : Addr
  d__law_ends : FuncData
  F__law_ends : Fun K "_law_ends" "_law_ends" s__law_ends a__law_ends d__law_ends
  b__law_ends : Binds K d__law_ends ["_law_told", "_law_numbers_here"] []
  g__law_ends : mg "_law_ends" = some (.ref a__law_ends)
  a__law_times : Addr
  d__law_times : FuncData
  F__law_times : Fun K "_law_times" "_law_times" s__law_times a__law_times d__law_times
  b__law_times : Binds K d__law_times ["_law_one", "_law_other"] []
  g__law_times : mg "_law_times" = some (.ref a__law_times)
  a_pairs_of : Addr
  d_pairs_of : FuncData
  F_pairs_of : Fun K "pairs_of" "pairs_of" s_pairs_of a_pairs_of d_pairs_of
  b_pairs_of : Binds K d_pairs_of ["chain"] []
  g_pairs_of : mg "pairs_of" = some (.ref a_pairs_of)
  a_moved_pair : Addr
  d_moved_pair : FuncData
  F_moved_pair : Fun K "moved_pair" "moved_pair" s_moved_pair a_moved_pair d_moved_pair
  b_moved_pair : Binds K d_moved_pair ["row", "pair"] []
  g_moved_pair : mg "moved_pair" = some (.ref a_moved_pair)
  a_goes : Addr
  d_goes : FuncData
  F_goes : Fun K "goes" "goes" s_goes a_goes d_goes
  b_goes : Binds K d_goes ["chain", "pair", "known"] []
  g_goes : mg "goes" = some (.ref a_goes)
  a_meeting_pairs : Addr
  d_meeting_pairs : FuncData
  F_meeting_pairs : Fun K "meeting_pairs" "meeting_pairs" s_meeting_pairs a_meeting_pairs d_meeting_pairs
  b_meeting_pairs : Binds K d_meeting_pairs ["chain"] []
  g_meeting_pairs : mg "meeting_pairs" = some (.ref a_meeting_pairs)
  a_never : Addr
  d_never : FuncData
  F_never : Fun K "never" "never" s_never a_never d_never
  b_never : Binds K d_never ["chain"] []
  g_never : mg "never" = some (.ref a_never)
  a_pairs_behind : Addr
  d_pairs_behind : FuncData
  F_pairs_behind : Fun K "pairs_behind" "pairs_behind" s_pairs_behind a_pairs_behind d_pairs_behind
  b_pairs_behind : Binds K d_pairs_behind ["chain", "pair"] []
  g_pairs_behind : mg "pairs_behind" = some (.ref a_pairs_behind)
  a_walking : Addr
  d_walking : FuncData
  F_walking : Fun K "walking" "walking" s_walking a_walking d_walking
  b_walking : Binds K d_walking ["chain", "rows", "waiting"] []
  g_walking : mg "walking" = some (.ref a_walking)
  a_meeting : Addr
  d_meeting : FuncData
  F_meeting : Fun K "meeting" "meeting" s_meeting a_meeting d_meeting
  b_meeting : Binds K d_meeting ["chain"] []
  g_meeting : mg "meeting" = some (.ref a_meeting)
  a_farther : Addr
  d_farther : FuncData
  F_farther : Fun K "farther" "farther" s_farther a_farther d_farther
  b_farther : Binds K d_farther ["ends", "row"] []
  g_farther : mg "farther" = some (.ref a_farther)
  a_summed : Addr
  d_summed : FuncData
  F_summed : Fun K "summed" "summed" s_summed a_summed d_summed
  b_summed : Binds K d_summed ["some"] []
  g_summed : mg "summed" = some (.ref a_summed)
  a_shares : Addr
  d_shares : FuncData
  F_shares : Fun K "shares" "shares" s_shares a_shares d_shares
  b_shares : Binds K d_shares ["chain", "far"] []
  g_shares : mg "shares" = some (.ref a_shares)
  a_law : Addr
  d_law : FuncData
  F_law : Fun K "law" "law" s_law a_law d_law
  b_law : Binds K d_law ["_law_script"] []
  g_law : mg "law" = some (.ref a_law)
  X_NotOne : XI K C_NotOne a_NotOne___init__ "groups"
  xb_LongError : XB K C_LongError
  g_MOST_PLACES : ∃ t, mg "MOST_PLACES" = some (.int 6 t)
  g_MOST_MOVES : ∃ t, mg "MOST_MOVES" = some (.int 8 t)
  g_MOST_WEIGHT : ∃ t, mg "MOST_WEIGHT" = some (.int 99 t)
  u_NOUGHT : Addr
  g_NOUGHT : mg "NOUGHT" = some (.ref u_NOUGHT)
  p_NOUGHT : ∀ F, DP K F (.ref u_NOUGHT) (.tup [.int 0, .int 1])
  u_WHOLE : Addr
  g_WHOLE : mg "WHOLE" = some (.ref u_WHOLE)
  p_WHOLE : ∀ F, DP K F (.ref u_WHOLE) (.tup [.int 1, .int 1])
  g_MOST_FAR : ∃ t, mg "MOST_FAR" = some (.int 20 t)
  z_abs : mg "abs" = none
  z_len : mg "len" = none
  z_max : mg "max" = none
  z_range : mg "range" = none
  z_sorted : mg "sorted" = none
  z_tuple : mg "tuple" = none
  z_min : mg "min" = none
  z_int : mg "int" = none
  z_list : mg "list" = none
  z_sum : mg "sum" = none
  z_isinstance : mg "isinstance" = none
  z_bool : mg "bool" = none
  z_set : mg "set" = none
section
variable {P : Program} {w : World} {K : PySem.W.Frag} {mg : Str → Option Value} {base : Heap}
/-! the dice of the laws -/
def Dice (s : List Int) (o : Ow) : Prop := ∃ a c e, o = .lst [.int a, .kls (s.map .int), .int c, .int e] ∧ 0 ≤ a ∧ 0 ≤ e
@[reducible] def sp__law_cell : J.Spec := fun ps R _ => ∃ (ns : List Int) (k : Int), ps = [.v (.kls (ns.map .int)), .v (.int k)] ∧ 0 ≤ k ∧ ns.length ≤ 63 ∧ ∀ r, R (.fz (.int r)) []
theorem ok__law_cell (T : Tx K mg) : FnOk P w K mg base (L2.CX P w) 1 T.a__law_cell T.d__law_cell ["_law_script", "_law_k"] (SpJ K sp__law_cell) := by
  refine jfn T.F__law_cell z__law_cell zo__law_cell zf__law_cell sp__law_cell (fun as R RX h => ?_) (fun X B E as R RX cj hE h => ?_)
  · obtain ⟨_, _, rfl, _⟩ := h; rfl
  obtain ⟨ns, k, rfl, hk, hl, hR⟩ := h
  show JSs X B _ [.fz (.kls (ns.map .int)), .fz (.int k)] _
  refine JSs.cons (JS.ite (jt_lt ?_))
  refine jv_name cj 1 (jv_len cj 0 T.z_len (jv_name cj 0 ⟨_, .kls, ?_⟩))
  refine ⟨_, _, rfl, rfl, fun hc => ?_, fun hc => ?_⟩
  · have hc := of_decide_eq_true hc
    rw [List.length_map] at hc
    exact JSs.one (JS.ret (JV.je (jv_ix (jv_name cj 0 (jv_name cj 1 ⟨_, _, _, .kls, rfl, at_int hk hc, hR _⟩)))))
  · exact JSs.nil (JSs.one (JS.ret (JV.je (jv_int (hR 0)))))
@[reducible] def sp__law_dice : J.Spec := fun ps R _ => ∃ (ns : List Int) (k : Int), ps = [.v (.kls (ns.map .int)), .v (.int k)] ∧ 0 ≤ k ∧ ns.length ≤ 63 ∧ ∀ o, Dice ns o → R (.ow o) []
theorem ok__law_dice (T : Tx K mg) : FnOk P w K mg base (L2.CX P w) 2 T.a__law_dice T.d__law_dice ["_law_script", "_law_k"] (SpJ K sp__law_dice) := by
  refine jfn T.F__law_dice z__law_dice zo__law_dice zf__law_dice sp__law_dice (fun as R RX h => ?_) (fun X B E as R RX cj hE h => ?_)
  · obtain ⟨_, _, rfl, _⟩ := h; rfl
  obtain ⟨ns, k, rfl, hk, hl, hR⟩ := h
  show JSs X B _ [.fz (.kls (ns.map .int)), .fz (.int k), .no] _
  refine JSs.cons (js_set cj 2 (JV.je (jv_abs cj 0 T.z_abs (JE.jv (je_call0 cj (ok__law_cell T) (by decide) 1 T.g__law_cell T.F__law_cell.kp T.b__law_cell ?_)))))
  refine JD.cons (jv_name cj 0 (JD.cons (jv_name cj 1 (JD.nil ⟨ns, k, rfl, hk, hl, fun r => ?_⟩))))
  refine ⟨_, rfl, ?_⟩
  refine JSs.one (JS.ret (je_lst ?_))
  refine JD.cons (jv_mod (jv_name cj 2 (jv_int ⟨_, _, rfl, rfl, by decide, ?_⟩)))
  refine JD.cons (jv_name cj 0 (JD.cons (jv_add (jv_name cj 1 (jv_int ⟨_, _, rfl, rfl, ?_⟩))) ))
  refine JD.cons (jv_mul (jv_intB cj 2 T.z_int (jv_ge (jv_name cj 2 (jv_pow (jv_int (jv_int ⟨_, _, rfl, rfl, ⟨by decide, by decide, by decide⟩, ⟨_, _, rfl, rfl, ⟨_, rfl, ?_⟩⟩⟩)))))))
  refine jv_name cj 2 ⟨_, _, rfl, rfl, ?_, JD.nil ⟨?_, ?_⟩⟩
  · left; split <;> omega
  · show 4 ≤ sizeLine
    decide
  · refine hR _ ⟨_, _, _, rfl, Int.emod_nonneg _ (by decide), ?_⟩
    refine Int.mul_nonneg (by split <;> omega) (by split <;> omega)
@[reducible] def sp__law_off : J.Spec := fun ps R _ => ∃ (s : List Int) (o : Ow) (m : Int), ps = [.b o, .v (.int m)] ∧ Dice s o ∧ s.length ≤ 63 ∧ 1 ≤ m ∧ m < 1073741824 ∧ ∀ r o', 0 ≤ r → r < m → Dice s o' → R (.fz (.int r)) [(0, o')]
theorem ok__law_off (T : Tx K mg) : FnOk P w K mg base (L2.CX P w) 2 T.a__law_off T.d__law_off ["_law_d", "_law_most"] (SpJ K sp__law_off) := by
  refine jfn T.F__law_off z__law_off zo__law_off zf__law_off sp__law_off (fun as R RX h => ?_) (fun X B E as R RX cj hE h => ?_)
  · obtain ⟨_, _, _, rfl, _⟩ := h; rfl
  obtain ⟨ns, _, m, rfl, ⟨a, c, e, rfl, ha, he⟩, hl, hm, hm2, hR⟩ := h
  show JSs X B _ [.bw 0 (.lst [.int a, .kls (ns.map .int), .int c, .int e]), .fz (.int m), .no, .no] _
  refine JSs.cons (JS.ite (jt_gt ?_))
  refine jv_ixO cj 0 (jv_int ⟨_, _, _, rfl, rfl, rfl, ?_⟩)
  refine jv_int ⟨_, _, rfl, rfl, fun hc => ?_, fun hc => ?_⟩
  · refine JSs.cons (js_set cj 2 (JV.je (jv_mod (jv_ixO cj 0 (jv_int ⟨_, _, _, rfl, rfl, rfl, ?_⟩)))))
    refine jv_name cj 1 ⟨_, _, rfl, rfl, ?_, ?_⟩
    · omega
    refine JSs.cons (js_setix cj 0 (jv_fdiv (jv_ixO cj 0 (jv_int ⟨_, _, _, rfl, rfl, rfl, ?_⟩))))
    refine jv_name cj 1 ⟨_, _, rfl, rfl, ⟨by omega, hm2⟩, ?_⟩
    refine jv_int ⟨_, _, _, rfl, rfl, rfl, ?_⟩
    refine JSs.one (JS.ret (JV.je (jv_name cj 2 ?_)))
    refine hR _ _ (Int.emod_nonneg _ ?_) (Int.emod_lt_of_pos _ ?_) ⟨_, _, _, rfl, ha, Int.ediv_nonneg he ?_⟩ <;> omega
  · refine JSs.nil ?_
    refine JSs.cons (js_set cj 3 (JV.je (jv_abs cj 0 T.z_abs (JE.jv (je_call0 cj (ok__law_cell T) (by decide) 1 T.g__law_cell T.F__law_cell.kp T.b__law_cell ?_)))))
    refine JD.cons (jv_ixO cj 0 (jv_int ⟨_, _, _, rfl, rfl, rfl, ?_⟩))
    refine JD.cons (jv_mod (jv_ixO cj 0 (jv_int ⟨_, _, _, rfl, rfl, rfl, ?_⟩)))
    refine jv_max2 cj 2 T.z_max (jv_int (jv_len cj 3 T.z_len (jv_ixO cj 0 (jv_int ⟨_, _, _, rfl, rfl, rfl, ⟨_, .kls, ?_⟩⟩))))
    refine ⟨_, _, rfl, rfl, ⟨_, _, rfl, rfl, by split <;> omega, JD.nil ⟨ns, _, rfl, Int.emod_nonneg _ (by split <;> omega), hl, fun r => ?_⟩⟩⟩
    refine ⟨_, rfl, ?_⟩
    refine JSs.cons (js_setix cj 0 (jv_add (jv_ixO cj 0 (jv_int ⟨_, _, _, rfl, rfl, rfl, ?_⟩))))
    refine jv_int ⟨_, _, rfl, rfl, jv_int ⟨_, _, _, rfl, rfl, rfl, ?_⟩⟩
    refine JSs.cons (js_setix cj 0 (jv_mod (jv_add (jv_add (jv_mul (jv_ixO cj 0 (jv_int ⟨_, _, _, rfl, rfl, rfl, ?_⟩)))))))
    refine jv_int ⟨_, _, rfl, rfl, by right; omega, jv_int ⟨_, _, rfl, rfl, jv_name cj 3 ⟨_, _, rfl, rfl, jv_int ⟨_, _, rfl, rfl, by decide, jv_int ⟨_, _, _, rfl, rfl, rfl, ?_⟩⟩⟩⟩⟩
    refine JSs.one (JS.ret (JV.je (jv_mod (jv_fdiv (jv_ixO cj 0 (jv_int ⟨_, _, _, rfl, rfl, rfl, ?_⟩))))))
    refine jv_int ⟨_, _, rfl, rfl, ⟨by decide, by decide⟩, jv_name cj 1 ⟨_, _, rfl, rfl, ?_, ?_⟩⟩
    · omega
    refine hR _ _ (Int.emod_nonneg _ ?_) (Int.emod_lt_of_pos _ ?_) ⟨_, _, _, rfl, Int.emod_nonneg _ ?_, he⟩ <;> omega
theorem updB_setOw {G : List Ent} {i : Nat} {o o' : Ow} {d : D} (h : entOw G[i]? = some o) : updB [.b i, .v d] [(0, o')] 0 G = setOw G i o' := by
  apply List.ext_getElem?
  intro n
  have hlen := setOw_len G i o'
  cases hn : G[n]? with
  | none => rw [List.getElem?_eq_none (by rw [updB_len]; exact List.getElem?_eq_none_iff.mp hn), List.getElem?_eq_none (by rw [hlen]; exact List.getElem?_eq_none_iff.mp hn)]
  | some e =>
    rw [updB_at _ _ 0 G n e hn, Nat.zero_add]
    have hlt := (List.getElem?_eq_some_iff.mp hn).1
    by_cases z : i = n
    · subst z
      rcases entOw_cases h with q | ⟨m, q⟩
      · rw [q] at hn; cases hn
        rw [setOw_ow q, List.getElem?_set_self hlt]
        simp [newE, findB]
      · rw [q] at hn; cases hn
        rw [setOw_bw q, List.getElem?_set_self hlt]
        simp [newE, findB]
    · have ne : newE [.b i, .v d] [(0, o')] n e = e := by simp [newE, findB, z]
      rw [ne]
      rcases entOw_cases h with q | ⟨m, q⟩
      · rw [setOw_ow q, List.getElem?_set_ne z, hn]
      · rw [setOw_bw q, List.getElem?_set_ne z, hn]
/-- _law_off(d, e) -/
theorem jv_off {S : Sc} {k : Nat} {X : Cx} {B : Bs} {E : XW} {G : List Ent} {e : Expr} {x : Str} {pos p px : Pos} {Q : D → List Ent → Prop} (T : Tx K mg) (cj : CJ P w K mg base S k X B E) (hk : 2 ≤ k) (j i : Nat) (s : List Int) (hs : s.length ≤ 63)
    (h : JV X B e G fun d G1 => ∃ o m, d = .int m ∧ entOw G1[i]? = some o ∧ Dice s o ∧ (1 ≤ m ∧ m < 1073741824) ∧ ∀ r o', 0 ≤ r → r < m → Dice s o' → Q (.int r) (setOw G1 i o'))
    (hj : S.gl[j]? = some ("_law_off" : Str) := by rfl) (hN : S.N[i]? = some x := by rfl) (hv : i ∈ S.vi := by decide) (hg : (entOw G[i]?).isSome = true := by rfl)
    (he : starEach [.Name x px, e] X.env = (false, eval (.Name x px) X.env) :: starEach [e] X.env := by rfl) (he2 : starEach [e] X.env = (false, eval e X.env) :: starEach [] X.env := by rfl) (hpl : (backTo pos (starEach [e] X.env)).any (·.1) = false := by rfl) :
    JV X B (.Call (.Name "_law_off" p) [.Name x px, e] [] pos) G Q :=
  JE.jv (je_call cj (ok__law_off T) hk j T.g__law_off T.F__law_off.kp T.b__law_off (JA.lend cj i (JA.cons (h.imp fun d G1 ⟨o, m, ed, ho, hd, hm, hq⟩ => JA.nil (by
    subst ed
    refine ⟨?_, s, o, m, ?_, hd, hs, hm.1, hm.2, fun r o' h0 h1 h2 => ?_⟩
    · show ((entOw G1[i]?).isSome && (findB i 0 [.v (.int m)]).isNone && okB G1 [.v (.int m)]) = true
      rw [ho]; rfl
    · show (match entOw G1[i]? with | some o => Par.b o | none => Par.v .non) :: _ = _
      rw [ho]; rfl
    · show Q (.int r) (updB [.b i, .v (.int m)] [(0, o')] 0 G1)
      rw [updB_setOw ho]; exact hq r o' h0 h1 h2)) he2) hN hv hg he) hj he hpl)
/-! chains -/
def mvD (p : Int × List Int) : D := .tup [.int p.1, .tup (p.2.map .int)]
def MvOk (many : Int) (p : Int × List Int) : Prop := (1 ≤ p.1 ∧ p.1 ≤ 99) ∧ (p.2.length : Int) = many ∧ ∀ x ∈ p.2, 0 ≤ x ∧ x < many
structure Ch (many : Int) (mv : List (Int × List Int)) : Prop where
  m1 : 1 ≤ many
  m2 : many ≤ 6
  l1 : 1 ≤ mv.length
  l2 : mv.length ≤ 8
  mv : ∀ p ∈ mv, MvOk many p
@[reducible] def chD (C : Addr) (many : Int) (mv : List (Int × List Int)) : D := .ins C ["many", "moves"] [.int many, .lst (mv.map mvD)]
@[reducible] def sp_must (T : Tx K mg) : J.Spec := fun ps R RX => ∃ b : Bool, ps = [.v (.bl b)] ∧ (b = true → R (.fz .non) []) ∧ (b = false → RX ⟨T.C_BadChain, []⟩)
theorem ok_must (T : Tx K mg) : FnOk P w K mg base (L2.CX P w) 1 T.a_must T.d_must ["good"] (SpJ K (sp_must T)) := by
  refine jfn T.F_must z_must zo_must zf_must (sp_must T) (fun as R RX h => ?_) (fun X B E as R RX cj hE h => ?_)
  · obtain ⟨_, rfl, _⟩ := h; rfl
  obtain ⟨b, rfl, h1, h2⟩ := h
  show JSs X B _ [.fz (.bl b)] _
  refine JSs.one (JS.ite (jt_not (jt_val (jv_name cj 0 ⟨_, rfl, fun hc => ?_, fun hc => ?_⟩))))
  · refine JSs.one (js_raise cj 0 PySem.F.excBase_ValueError T.xi_BadChain T.g_BadChain T.kp_BadChain T.su_BadChain T.ty_BadChain (hE _ _ (h2 ?_)))
    simpa using hc
  · refine JSs.nil (h1 ?_)
    simpa using hc
/-- must(e) as a statement -/
theorem js_must {S : Sc} {k : Nat} {X : Cx} {B : Bs} {E : XW} {G : List Ent} {e : Expr} {pos p pos2 : Pos} {Dd : Dn} (T : Tx K mg) (cj : CJ P w K mg base S k X B E) (hk : 1 ≤ k) (j : Nat) (h : JV X B e G fun d G' => ∃ b : Bool, d = .bl b ∧ (b = true → Dd.nx G') ∧ (b = false → E.R ⟨T.C_BadChain, []⟩ G'))
    (hj : S.gl[j]? = some ("must" : Str) := by rfl) (he : starEach [e] X.env = (false, eval e X.env) :: starEach [] X.env := by rfl) (hpl : (backTo pos (starEach [] X.env)).any (·.1) = false := by rfl) (hs : swapsWith (.Call (.Name "must" p) [e] [] pos) none pos2.line X.env = pure false := by rfl) :
    JS X B (.Expr (.Call (.Name "must" p) [e] [] pos) pos2) G Dd :=
  JS.drop (je_call0 cj (ok_must T) hk j T.g_must T.F_must.kp T.b_must (JD.cons (h.imp fun d G' ⟨b, e1, h1, h2⟩ => by subst e1; exact JD.nil ⟨b, rfl, h1, h2⟩) he) hj he hpl) hs
@[reducible] def sp_Chain_init (T : Tx K mg) : J.Spec := fun ps R RX => ∃ (many : Int) (mv : List (Int × List Int)), ps = [.b (.ins T.C_Chain [] []), .v (.int many), .v (.lst (mv.map mvD))] ∧
  (Ch many mv → R (.fz .non) [(0, .ins T.C_Chain ["many", "moves"] [.int many, .lst (mv.map mvD)])]) ∧ (¬ Ch many mv → RX ⟨T.C_BadChain, []⟩)
theorem ok_Chain_init (T : Tx K mg) : FnOk P w K mg base (L2.CX P w) 2 T.a_Chain___init__ T.d_Chain___init__ ["self", "many", "moves"] (SpJ K (sp_Chain_init T)) := by
  refine jfn T.F_Chain___init__ z_Chain___init__ zo_Chain___init__ zf_Chain___init__ (sp_Chain_init T) (fun as R RX h => ?_) (fun X B E as R RX cj hE h => ?_)
  · obtain ⟨_, _, rfl, _⟩ := h; rfl
  obtain ⟨many, mv, rfl, h1, h2⟩ := h
  show JSs X B _ [.bw 0 (.ins T.C_Chain [] []), .fz (.int many), .fz (.lst (mv.map mvD)), .no, .no, .no] _
  have bad : ∀ G, ¬ Ch many mv → E.R ⟨T.C_BadChain, []⟩ G := fun G h => hE _ _ (h2 h)
  refine JSs.cons (js_must T cj (by decide) 0 (jv_and (jv_lele (jv_int (jv_name cj 1 ⟨_, _, rfl, rfl, fun k1 => jv_globI cj 1 T.g_MOST_PLACES ⟨_, rfl, _, rfl, fun k2 => ?_, fun k2 => ⟨_, rfl, fun z => absurd z Bool.false_ne_true, fun _ => bad _ fun c => ?_⟩⟩, fun k1 => ⟨_, rfl, fun z => absurd z Bool.false_ne_true, fun _ => ⟨_, rfl, fun z => absurd z Bool.false_ne_true, fun _ => bad _ fun c => ?_⟩⟩⟩)))))
  rotate_left
  · have := c.m2; simp at k2; omega
  · have := c.m1; omega
  have k2 := of_decide_eq_true k2
  refine jv_one (jv_lele (jv_int (jv_len cj 2 T.z_len (jv_name cj 2 ⟨_, .lst, _, _, rfl, rfl, fun k3 => jv_globI cj 3 T.g_MOST_MOVES ⟨_, rfl, _, rfl, fun k4 => ?_, fun k4 => bad _ fun c => ?_⟩, fun k3 => ⟨_, rfl, fun z => absurd z Bool.false_ne_true, fun _ => bad _ fun c => ?_⟩⟩))))
  rotate_left
  · have := c.l2; simp at k4; omega
  · have := c.l1; simp at k3; omega
  have k4 := of_decide_eq_true k4
  simp at k3 k4
  -- the moves
  refine JSs.cons (js_for cj (ji_seq (jv_name cj 2 ⟨_, .inl rfl, fun i G => (∀ j p, j < i → mv[j]? = some p → MvOk many p) ∧ ∃ a b c, G = [.bw 0 (.ins T.C_Chain [] []), .fz (.int many), .fz (.lst (mv.map mvD)), a, b, c], ⟨fun j p hj => absurd hj (Nat.not_lt_zero j), _, _, _, rfl⟩, fun i d G hi hd hI => ?_, fun G hI => ?_⟩)))
  · obtain ⟨hI, a, b, c, rfl⟩ := hI
    obtain ⟨⟨wt, row⟩, hp, rfl⟩ := map_get hd
    refine JG.tup cj (JGs.cons (JG.name cj 3 (JGs.cons (JG.name cj 4 (JGs.nil ?_)))))
    show JSs X B _ [.bw 0 (.ins T.C_Chain [] []), .fz (.int many), .fz (.lst (mv.map mvD)), .fz (.int wt), .fz (.tup (row.map .int)), c] _
    have nb : ∀ G, ¬ MvOk many (wt, row) → E.R ⟨T.C_BadChain, []⟩ G := fun G h => bad G fun c => h (c.mv _ (List.mem_of_getElem? hp))
    refine JSs.cons (js_must T cj (by decide) 0 (jv_and (jv_lele (jv_int (jv_name cj 3 ⟨_, _, rfl, rfl, fun k5 => jv_globI cj 4 T.g_MOST_WEIGHT ⟨_, rfl, _, rfl, fun k6 => ?_, fun k6 => ⟨_, rfl, fun z => absurd z Bool.false_ne_true, fun _ => nb _ fun c => ?_⟩⟩, fun k5 => ⟨_, rfl, fun z => absurd z Bool.false_ne_true, fun _ => ⟨_, rfl, fun z => absurd z Bool.false_ne_true, fun _ => nb _ fun c => ?_⟩⟩⟩)))))
    rotate_left
    · have := c.1.2; simp at k6 this; omega
    · have := c.1.1; simp at this; omega
    have k6 := of_decide_eq_true k6
    refine jv_one (jv_eqi cj (jv_len cj 2 T.z_len (jv_name cj 4 ⟨_, .tup, jv_name cj 1 ⟨_, _, rfl, rfl, ⟨_, rfl, fun k7 => ?_, fun k7 => nb _ fun c => ?_⟩⟩⟩)))
    rotate_left
    · have := c.2.1; simp at k7 this; omega
    simp at k7
    refine JSs.one (js_for cj (ji_tup (jv_name cj 4 ⟨_, rfl, fun k G => (∀ j x, j < k → row[j]? = some x → 0 ≤ x ∧ x < many) ∧ ∃ c, G = [.bw 0 (.ins T.C_Chain [] []), .fz (.int many), .fz (.lst (mv.map mvD)), .fz (.int wt), .fz (.tup (row.map .int)), c], ⟨fun j p hj => absurd hj (Nat.not_lt_zero j), _, rfl⟩, fun k d G hk hd hI => ?_, fun G hI => ?_⟩)))
    · obtain ⟨hI, c, rfl⟩ := hI
      obtain ⟨x, hx, rfl⟩ := map_int_get hd
      refine JG.name cj 5 (JSs.one (js_must T cj (by decide) 0 ?_))
      have nb2 : ∀ G, ¬ (0 ≤ x ∧ x < many) → E.R ⟨T.C_BadChain, []⟩ G := fun G h => nb G fun c => h (c.2.2 x (List.mem_of_getElem? hx))
      refine jv_lelt (jv_int (jv_name cj 5 ⟨_, _, rfl, rfl, fun k8 => jv_name cj 1 ⟨_, rfl, ⟨_, rfl, fun k9 => ⟨fun j y hj hy => ?_, _, rfl⟩, fun k9 => nb2 _ fun c => ?_⟩⟩, fun k8 => ⟨_, rfl, fun z => absurd z Bool.false_ne_true, fun _ => nb2 _ fun c => ?_⟩⟩))
      · have k9 := of_decide_eq_true k9
        rcases Nat.lt_succ_iff_lt_or_eq.mp hj with hj | rfl
        · exact hI j y hj hy
        · rw [hx] at hy; cases hy; omega
      · simp at k9; omega
      · omega
    · obtain ⟨hI2, c, rfl⟩ := hI
      refine ⟨fun j p hj hp2 => ?_, _, _, _, rfl⟩
      rcases Nat.lt_succ_iff_lt_or_eq.mp hj with hj | rfl
      · exact hI j p hj hp2
      · rw [hp] at hp2; cases hp2
        refine ⟨⟨k5, k6⟩, k7, fun x hx => ?_⟩
        obtain ⟨j, hj⟩ := List.getElem?_of_mem hx
        refine hI2 j x ?_ hj
        have := (List.getElem?_eq_some_iff.mp hj).1
        simpa using this
  · obtain ⟨hI, a, b, c, rfl⟩ := hI
    have ok : Ch many mv := ⟨k1, k2, by omega, by omega, fun p hp => by
      obtain ⟨j, hj⟩ := List.getElem?_of_mem hp
      refine hI j p ?_ hj
      have := (List.getElem?_eq_some_iff.mp hj).1
      simpa using this⟩
    refine JSs.forget 3 (JSs.forget 4 (JSs.forget 5 ?_))
    show JSs X B _ [.bw 0 (.ins T.C_Chain [] []), .fz (.int many), .fz (.lst (mv.map mvD)), .no, .no, .no] _
    refine JSs.cons (js_fld cj 0 (jv_name cj 1 ⟨_, _, _, rfl, T.cl_Chain, T.na_Chain_many, by decide, by simp, ?_⟩))
    refine JSs.one (js_fld cj 0 (JE.jv (je_listOf cj 5 T.z_list (jv_name cj 2 ⟨_, .lst, ⟨_, _, _, rfl, T.cl_Chain, T.na_Chain_moves, by decide, ?_, ?_⟩⟩))))
    · decide +kernel
    exact h1 ok
/-! the laws' chains -/
def toldD (many : Int) (mv : List (Int × List Int)) : D := .tup [.int many, .lst (mv.map mvD)]
@[reducible] def sp__law_chain : J.Spec := fun ps R _ => ∃ (s : List Int) (o : Ow) (m : Int), ps = [.b o, .v (.int m)] ∧ Dice s o ∧ s.length ≤ 63 ∧ 1 ≤ m ∧ m ≤ 6 ∧ ∀ many mv o', Ch many mv → Dice s o' → many ≤ m → R (.fz (toldD many mv)) [(0, o')]
theorem ok__law_chain (T : Tx K mg) : FnOk P w K mg base (L2.CX P w) 3 T.a__law_chain T.d__law_chain ["_law_d", "_law_most"] (SpJ K sp__law_chain) := by
  refine jfn T.F__law_chain z__law_chain zo__law_chain zf__law_chain sp__law_chain (fun as R RX h => ?_) (fun X B E as R RX cj hE h => ?_)
  · obtain ⟨_, _, _, rfl, _⟩ := h; rfl
  obtain ⟨s, o, m, rfl, ho, hl, hm, hm2, hR⟩ := h
  show JSs X B _ [.bw 0 o, .fz (.int m), .no, .no, .no, .no, .no, .no, .no] _
  refine JSs.cons (js_set cj 2 (JV.je (jv_add (jv_int (jv_off T cj (by decide) 0 0 s hl (jv_name cj 1 ⟨_, _, rfl, rfl, ho, ?_, fun r o1 r0 r1 ho1 => ⟨_, _, rfl, rfl, ?_⟩⟩))))))
  · omega
  obtain ⟨many, hmany⟩ : ∃ many : Int, 1 + r = many := ⟨_, rfl⟩
  rw [hmany]
  refine JSs.cons (js_set cj 3 (JV.je (jv_off T cj (by decide) 0 0 s hl (jv_int ⟨_, _, rfl, rfl, ho1, by decide, fun way o2 w0 w1 ho2 => ?_⟩))))
  refine JSs.cons (js_set cj 4 (je_lst (JD.nil ⟨lz rfl, ?_⟩)))
  refine JSs.cons (js_for cj (ji_range1 cj 1 T.z_range (jv_add (jv_int ?_))))
  refine jv_off T cj (by decide) 0 0 s hl (jv_ix (JE.jv (je_lst ?_)))
  refine JD.cons (jv_int (JD.cons (jv_int (JD.cons (jv_int (JD.nil ⟨lz rfl, ?_⟩))))))
  refine jv_off T cj (by decide) 0 0 s hl (jv_int ⟨_, _, rfl, rfl, ho2, by decide, fun r3 o3 a3 b3 ho3 => ?_⟩)
  obtain ⟨q, hq, hq2⟩ : ∃ q : Int, atI [D.int 4, .int 4, .int 8] r3 = some (.int q) ∧ 4 ≤ q ∧ q ≤ 8 := by
    have : r3 = 0 ∨ r3 = 1 ∨ r3 = 2 := by omega
    rcases this with rfl | rfl | rfl
    · exact ⟨4, rfl, by decide⟩
    · exact ⟨4, rfl, by decide⟩
    · exact ⟨8, rfl, by decide⟩
  refine ⟨_, _, _, .lst, rfl, hq, _, _, rfl, rfl, ho3, ?_, fun r4 o4 a4 b4 ho4 => ⟨_, _, rfl, rfl, _, rfl, ?_, ?_, fun i G => ∃ (mv : List (Int × List Int)) (o : Ow) (a b c d : Ent), G = [.bw 0 o, .fz (.int m), .fz (.int many), .fz (.int way), .ow (.lst (mv.map mvD)), a, b, c, d] ∧ Dice s o ∧ mv.length = i ∧ ∀ p ∈ mv, MvOk many p, ⟨[], o4, _, _, _, _, rfl, ho4, rfl, fun p hp => by cases hp⟩, fun i d G hi hd hI => ?_, fun G hI => ?_⟩⟩
  · omega
  · omega
  · omega
  · obtain ⟨mv, o, a, b, c, e, rfl, ho, hml, hmv⟩ := hI
    subst hd
    refine JG.name cj 5 ?_
    -- the row
    refine JSs.mid (fun G => ∃ (o : Ow) (row : List Int), G = [.bw 0 o, .fz (.int m), .fz (.int many), .fz (.int way), .ow (.lst (mv.map mvD)), .fz (.int (0 + (i : Nat))), .ow (.lst (row.map .int)), c, .no] ∧ Dice s o ∧ (row.length : Int) = many ∧ ∀ x ∈ row, 0 ≤ x ∧ x < many) ?_ ?_
    · refine js_setLcB cj 6 [0, 2, 8] [8] ["_law_off"] [("_law_place", 8)] (ji_range1 cj 1 T.z_range (jv_name cj 2 ⟨_, rfl, ?_, ?_, LcI.map (fun _ d => ∃ x, d = .int x ∧ 0 ≤ x ∧ x < many) ?_ (fun G => ∃ o, G = [.bw 0 o, .fz (.int m), .fz (.int many), .fz (.int way), .ow (.lst (mv.map mvD)), .fz (.int (0 + (i : Nat))), b, c, .no] ∧ Dice s o) ⟨o, rfl, ho⟩ (fun j d G2 hj hd hI X1 c1 => ?_) fun acc G2 hacc hv hI => ?_⟩))
      · omega
      · omega
      · unfold sizeLine; omega
      · obtain ⟨o, rfl, ho⟩ := hI
        refine JG.name c1 8 fun X3 c3 => ?_
        refine jv_off T c3 (by decide) 0 0 s hl (jv_name c3 2 ⟨_, _, rfl, rfl, ho, ?_, fun r o' h0 h1 ho' => ⟨⟨_, rfl, h0, h1⟩, _, rfl, ho'⟩⟩)
        omega
      · obtain ⟨o, rfl, ho⟩ := hI
        obtain ⟨row, rfl, hrow⟩ := ints_ex (p := fun x => 0 ≤ x ∧ x < many) hv
        refine ⟨o, row, rfl, ho, ?_, hrow⟩
        simp at hacc; omega
    rintro G ⟨o, row, rfl, ho, hlen, hrow⟩
    -- sorted
    refine JSs.mid (fun G => ∃ (o : Ow) (row : List Int), G = [.bw 0 o, .fz (.int m), .fz (.int many), .fz (.int way), .ow (.lst (mv.map mvD)), .fz (.int (0 + (i : Nat))), .ow (.lst (row.map .int)), c, .no] ∧ Dice s o ∧ (row.length : Int) = many ∧ ∀ x ∈ row, 0 ≤ x ∧ x < many) ?_ ?_
    · refine JS.ite (jt_eqi cj (jv_name cj 3 (jv_int ⟨_, _, rfl, rfl, fun hc => ?_, fun hc => ?_⟩)))
      · refine JSs.one (js_set cj 6 (je_sorted cj 2 T.z_sorted (jv_nameF cj 6 ⟨row, rfl, ?_, ?_⟩)))
        · omega
        · refine ⟨o, isort row, rfl, ho, ?_, fun x hx => hrow x ((isort_perm row).mem_iff.mp hx)⟩
          rw [(isort_perm row).length_eq]; exact hlen
      · exact JSs.nil ⟨o, row, rfl, ho, hlen, hrow⟩
    rintro G ⟨o, row, rfl, ho, hlen, hrow⟩
    -- near ones
    refine JSs.mid (fun G => ∃ (o : Ow) (row : List Int), G = [.bw 0 o, .fz (.int m), .fz (.int many), .fz (.int way), .ow (.lst (mv.map mvD)), .fz (.int (0 + (i : Nat))), .ow (.lst (row.map .int)), c, .no] ∧ Dice s o ∧ (row.length : Int) = many ∧ ∀ x ∈ row, 0 ≤ x ∧ x < many) ?_ ?_
    · refine JS.ite (jt_eqi cj (jv_name cj 3 (jv_int ⟨_, _, rfl, rfl, fun hc => ?_, fun hc => ?_⟩)))
      · refine JSs.one (js_setLcB cj 6 [0, 2, 8] [8] ["max", "min", "_law_off"] [("_law_place", 8)] (ji_range1 cj 1 T.z_range (jv_name cj 2 ⟨_, rfl, ?_, ?_, LcI.map (fun _ d => ∃ x, d = .int x ∧ 0 ≤ x ∧ x < many) ?_ (fun G => ∃ o, G = [.bw 0 o, .fz (.int m), .fz (.int many), .fz (.int way), .ow (.lst (mv.map mvD)), .fz (.int (0 + (i : Nat))), .ow (.lst (row.map .int)), c, .no] ∧ Dice s o) ⟨o, rfl, ho⟩ (fun j d G2 hj hd hI X1 c1 => ?_) fun acc G2 hacc hv hI => ?_⟩)))
        · omega
        · omega
        · unfold sizeLine; omega
        · obtain ⟨o, rfl, ho⟩ := hI
          subst hd
          refine JG.name c1 8 fun X3 c3 => ?_
          refine jv_max2 c3 0 T.z_max (jv_int (jv_min2 c3 1 T.z_min (jv_sub (jv_name c3 2 (jv_int ⟨_, _, rfl, rfl, ?_⟩)))))
          refine jv_sub (jv_add (jv_name c3 8 (jv_off T c3 (by decide) 2 0 s hl (jv_int ⟨_, _, rfl, rfl, ho, by decide, fun r o' h0 h1 ho' => ?_⟩))))
          refine ⟨_, _, rfl, rfl, jv_int ⟨_, _, rfl, rfl, ⟨_, _, rfl, rfl, ⟨_, _, rfl, rfl, ⟨⟨_, rfl, ?_⟩, _, rfl, ho'⟩⟩⟩⟩⟩
          repeat' split
          all_goals omega
        · obtain ⟨o, rfl, ho⟩ := hI
          obtain ⟨row, rfl, hrow⟩ := ints_ex (p := fun x => 0 ≤ x ∧ x < many) hv
          refine ⟨o, row, rfl, ho, ?_, hrow⟩
          simp at hacc; omega
      · exact JSs.nil ⟨o, row, rfl, ho, hlen, hrow⟩
    rintro G ⟨o, row, rfl, ho, hlen, hrow⟩
    -- the weight
    refine JSs.cons (js_set cj 7 (JV.je (jv_ix (JE.jv (je_lst ?_)))))
    refine JD.cons (jv_int (JD.cons (jv_add (jv_int ?_))))
    refine jv_off T cj (by decide) 0 0 s hl (jv_int ⟨_, _, rfl, rfl, ho, by decide, fun r5 o5 a5 b5 ho5 => ⟨_, _, rfl, rfl, ?_⟩⟩)
    refine JD.cons (jv_add (jv_int ?_))
    refine jv_off T cj (by decide) 0 0 s hl (jv_int ⟨_, _, rfl, rfl, ho5, by decide, fun r6 o6 a6 b6 ho6 => ⟨_, _, rfl, rfl, ?_⟩⟩)
    refine JD.nil ⟨lz rfl, ?_⟩
    refine jv_off T cj (by decide) 0 0 s hl (jv_int ⟨_, _, rfl, rfl, ho6, by decide, fun r7 o7 a7 b7 ho7 => ?_⟩)
    obtain ⟨wt, hwt, hwt2⟩ : ∃ q : Int, atI [D.int 1, .int (1 + r5), .int (1 + r6)] r7 = some (.int q) ∧ 1 ≤ q ∧ q ≤ 99 := by
      have : r7 = 0 ∨ r7 = 1 ∨ r7 = 2 := by omega
      rcases this with rfl | rfl | rfl
      · exact ⟨1, rfl, by decide⟩
      · exact ⟨_, rfl, by omega⟩
      · exact ⟨_, rfl, by omega⟩
    refine ⟨_, _, _, .lst, rfl, hwt, ?_⟩
    refine JSs.one (js_append cj 4 (jv_tup ?_))
    refine JD.cons (jv_name cj 7 (JD.cons (jv_tupleOf cj 3 T.z_tuple (jv_nameF cj 6 ⟨_, .lst, ?_⟩))))
    refine JD.nil ⟨lz rfl, _, rfl, ?_, ?_⟩
    · rw [List.length_map]; unfold sizeLine; omega
    · refine ⟨mv ++ [(wt, row)], o7, .fz (.int (0 + (i : Nat))), .fz (.lst (row.map .int)), .fz (.int wt), .no, ?_, ho7, by simp [hml], fun p hp => ?_⟩
      · rw [List.map_append]; rfl
      · rcases List.mem_append.mp hp with hp | hp
        · exact hmv p hp
        · rcases List.mem_singleton.mp hp with rfl
          exact ⟨hwt2, hlen, hrow⟩
  · obtain ⟨mv, o, a, b, c, e, rfl, ho, hml, hmv⟩ := hI
    refine JSs.forget 5 (JSs.forget 6 (JSs.forget 7 (JSs.forget 8 ?_)))
    refine JSs.one (JS.ret (JV.je (jv_tup (JD.cons (jv_name cj 2 (JD.cons (jv_nameF cj 4 (JD.nil ⟨lz rfl, ?_⟩))))))))
    exact hR many mv o ⟨by omega, by omega, by omega, by omega, hmv⟩ ho (by omega)
/-- _law_made -/
@[reducible] def sp__law_made (T : Tx K mg) : J.Spec := fun ps R RX => ∃ (many : Int) (mv : List (Int × List Int)), ps = [.v (toldD many mv)] ∧ (Ch many mv → R (.ow (.ins T.C_Chain ["many", "moves"] [.int many, .lst (mv.map mvD)])) []) ∧ (¬ Ch many mv → RX ⟨T.C_BadChain, []⟩)
theorem ok__law_made (T : Tx K mg) : FnOk P w K mg base (L2.CX P w) 4 T.a__law_made T.d__law_made ["_law_told"] (SpJ K (sp__law_made T)) := by
  refine jfn T.F__law_made z__law_made zo__law_made zf__law_made (sp__law_made T) (fun as R RX h => ?_) (fun X B E as R RX cj hE h => ?_)
  · obtain ⟨_, _, rfl, _⟩ := h; rfl
  obtain ⟨many, mv, rfl, h1, h2⟩ := h
  show JSs X B _ [.fz (toldD many mv)] _
  refine JSs.one (JS.ret (je_make cj (ok_Chain_init T) (by decide) 0 T.mk_Chain T.g_Chain T.b_Chain___init__ ?_))
  refine JD.cons (jv_ix (jv_name cj 0 (jv_int ⟨_, _, _, .tup, rfl, rfl, ?_⟩)))
  refine JD.cons (JE.jv (je_listOf cj 1 T.z_list (jv_ix (jv_name cj 0 (jv_int ⟨_, _, _, .tup, rfl, rfl, ⟨_, .lst, JD.nil ⟨many, mv, rfl, fun c => ⟨rfl, _, rfl, h1 c⟩, fun c => hE _ _ (h2 c)⟩⟩⟩)))))
/-! the weight of all moves -/
def wsum (mv : List (Int × List Int)) : Int := (mv.map (·.1)).sum
theorem wsum_pos {many : Int} {mv : List (Int × List Int)} (c : Ch many mv) : 1 ≤ wsum mv ∧ wsum mv ≤ 792 := by
  have go : ∀ l : List (Int × List Int), (∀ p ∈ l, MvOk many p) → (l.length : Int) ≤ wsum l ∧ wsum l ≤ 99 * l.length := by
    intro l
    induction l with
    | nil => intro _; exact ⟨by decide, by decide⟩
    | cons p l ih =>
      intro h
      have h1 := (h p (by simp)).1
      have h2 := ih fun q hq => h q (by simp [hq])
      simp only [wsum, List.map_cons, List.sum_cons, List.length_cons] at h2 ⊢
      omega
  have := go mv c.mv
  have := c.l1
  have := c.l2
  omega
/-- fractions -/
theorem log2_lt {n k : Nat} (h : n < 2 ^ k) (hk : 0 < k) : n.log2 < k := by
  by_cases z : n = 0
  · subst z; simpa using hk
  · exact (Nat.log2_lt z).mpr h
@[reducible] def sp_made : J.Spec := fun ps R _ => ∃ (t b : Int), ps = [.v (.int t), .v (.int b)] ∧ 0 < b ∧ b.natAbs < 2 ^ 8000 ∧ R (.fz (frD (mkRat t b.toNat))) []
theorem gcd_le {t b : Int} (h : 0 < b) : t.natAbs.gcd b.natAbs ≤ b.natAbs ∧ 0 < t.natAbs.gcd b.natAbs := ⟨Nat.gcd_le_right _ (by omega), Nat.gcd_pos_of_pos_right _ (by omega)⟩
theorem ok_made (T : Tx K mg) : FnOk P w K mg base (L2.CX P w) 1 T.a_made T.d_made ["top", "bottom"] (SpJ K sp_made) := by
  refine jfn T.F_made z_made zo_made zf_made sp_made (fun as R RX h => ?_) (fun X B E as R RX cj hE h => ?_)
  · obtain ⟨_, _, rfl, _⟩ := h; rfl
  obtain ⟨t, b, rfl, hb, hz, hR⟩ := h
  show JSs X B _ [.fz (.int t), .fz (.int b), .no, .no] _
  refine JSs.cons (js_set cj 2 (JV.je (jv_abs cj 0 T.z_abs (jv_name cj 0 ⟨_, rfl, ?_⟩))))
  refine JSs.cons (js_set cj 3 (JV.je (jv_abs cj 0 T.z_abs (jv_name cj 1 ⟨_, rfl, ?_⟩))))
  rw [show (if t < 0 then -t else t) = ((t.natAbs : Nat) : Int) by split <;> omega, show (if b < 0 then -b else b) = ((b.natAbs : Nat) : Int) by split <;> omega]
  refine JSs.cons (JS.whileN cj (fun m G => ∃ x : Nat, x.gcd m = t.natAbs.gcd b.natAbs ∧ G = [.fz (.int t), .fz (.int b), .fz (.int (x : Nat)), .fz (.int (m : Nat))]) b.natAbs ⟨t.natAbs, rfl, rfl⟩ fun m G hI => ?_)
  obtain ⟨x, hx, rfl⟩ := hI
  refine jt_gt (jv_name cj 3 (jv_int ⟨_, _, rfl, rfl, fun hc => ?_, fun hc => ?_⟩))
  · have hc := of_decide_eq_true hc
    refine JSs.one (js_parB cj 2 3 (jv_name cj 3 (jv_mod (jv_name cj 2 (jv_name cj 3 ⟨_, _, rfl, rfl, hc, ?_⟩)))))
    refine ⟨x % m, Nat.mod_lt _ (by omega), m, ?_, ?_⟩
    · rw [← hx, Nat.gcd_comm m, ← Nat.gcd_rec, Nat.gcd_comm]
    · rw [Int.natCast_emod]; rfl
  · have hc := of_decide_eq_false hc
    have hm : m = 0 := by omega
    subst hm
    rw [Nat.gcd_zero_right] at hx
    subst hx
    obtain ⟨g1, g2⟩ := gcd_le (t := t) hb
    refine JSs.cons (JS.ite (jt_lt (jv_name cj 1 (jv_int ⟨_, _, rfl, rfl, fun h1 => ?_, fun _ => JSs.nil ?_⟩))))
    · exact absurd (of_decide_eq_true h1) (by omega)
    have cd : ∀ i, CDivW i ((t.natAbs.gcd b.natAbs : Nat) : Int) := fun i => ⟨by omega, by
      rw [Int.natAbs_natCast]
      exact Nat.lt_of_lt_of_le (log2_lt (Nat.lt_of_le_of_lt g1 hz) (by decide)) (by decide)⟩
    refine JSs.one (JS.ret (JV.je (jv_tup (JD.cons (jv_fdivW (jv_name cj 0 (jv_name cj 2 ⟨_, _, rfl, rfl, cd _, ?_⟩)))))))
    refine JD.cons (jv_fdivW (jv_name cj 1 (jv_name cj 2 ⟨_, _, rfl, rfl, cd _, JD.nil ⟨lz rfl, ?_⟩⟩)))
    rw [frD_mk hb] at hR
    exact hR
/-- small ones -/
def Sm (q : Rat) : Prop := q.num.natAbs < 2 ^ 4000 ∧ q.den < 2 ^ 4000
theorem cmulW {i j : Int} (hi : i.natAbs < 2 ^ 4000) (hj : j.natAbs < 2 ^ 4000) : CMulW i j := by
  have h1 := log2_lt hi (by decide)
  have h2 := log2_lt hj (by decide)
  show _ < 1000000
  omega
theorem Sm.den {q : Rat} (h : Sm q) : ((q.den : Nat) : Int).natAbs < 2 ^ 4000 := by rw [Int.natAbs_natCast]; exact h.2
theorem dd_pos (p q : Rat) : (0 : Int) < (p.den : Int) * (q.den : Int) := by
  have := p.den_pos
  have := q.den_pos
  exact Int.mul_pos (by omega) (by omega)
theorem dd_small {p q : Rat} (hp : Sm p) (hq : Sm q) : ((p.den : Int) * (q.den : Int)).natAbs < 2 ^ 8000 := by
  rw [Int.natAbs_mul, Int.natAbs_natCast, Int.natAbs_natCast, show (8000 : Nat) = 4000 + 4000 from rfl, Nat.pow_add]
  exact Nat.mul_lt_mul'' hp.2 hq.2
theorem dd_nat (p q : Rat) : ((p.den : Int) * (q.den : Int)).toNat = p.den * q.den := by
  rw [← Int.natCast_mul, Int.toNat_natCast]
@[reducible] def sp_added : J.Spec := fun ps R _ => ∃ p q : Rat, ps = [.v (frD p), .v (frD q)] ∧ Sm p ∧ Sm q ∧ R (.fz (frD (p + q))) []
theorem ok_added (T : Tx K mg) : FnOk P w K mg base (L2.CX P w) 2 T.a_added T.d_added ["one", "other"] (SpJ K sp_added) := by
  refine jfn T.F_added z_added zo_added zf_added sp_added (fun as R RX h => ?_) (fun X B E as R RX cj hE h => ?_)
  · obtain ⟨_, _, rfl, _⟩ := h; rfl
  obtain ⟨p, q, rfl, hp, hq, hR⟩ := h
  show JSs X B _ [.fz (frD p), .fz (frD q)] _
  refine JSs.one (JS.ret (je_call0 cj (ok_made T) (by decide) 0 T.g_made T.F_made.kp T.b_made ?_))
  refine JD.cons (jv_add (jv_mulW (jv_ix (jv_name cj 0 (jv_int ⟨_, _, D.int p.num, .tup, rfl, rfl, ?_⟩)))))
  refine jv_ix (jv_name cj 1 (jv_int ⟨_, _, D.int q.den, .tup, rfl, rfl, _, _, rfl, rfl, cmulW hp.1 hq.den, ?_⟩))
  refine jv_mulW (jv_ix (jv_name cj 1 (jv_int ⟨_, _, D.int q.num, .tup, rfl, rfl, ?_⟩)))
  refine jv_ix (jv_name cj 0 (jv_int ⟨_, _, D.int p.den, .tup, rfl, rfl, _, _, rfl, rfl, cmulW hq.1 hp.den, _, _, rfl, rfl, ?_⟩))
  refine JD.cons (jv_mulW (jv_ix (jv_name cj 0 (jv_int ⟨_, _, D.int p.den, .tup, rfl, rfl, ?_⟩))))
  refine jv_ix (jv_name cj 1 (jv_int ⟨_, _, D.int q.den, .tup, rfl, rfl, _, _, rfl, rfl, cmulW hp.den hq.den, JD.nil ⟨_, _, rfl, dd_pos p q, dd_small hp hq, ?_⟩⟩))
  have e : mkRat (p.num * (q.den : Int) + q.num * (p.den : Int)) ((p.den : Int) * (q.den : Int)).toNat = p + q := by
    rw [dd_nat, ← Rat.mkRat_add_mkRat _ _ (by have := p.den_pos; omega) (by have := q.den_pos; omega), Rat.mkRat_self, Rat.mkRat_self]
  rw [e]
  exact hR
/-! sums of fractions -/
theorem rat_add_mk (p q : Rat) : mkRat (p.num * (q.den : Int) + q.num * (p.den : Int)) ((p.den : Int) * (q.den : Int)).toNat = p + q := by
  rw [dd_nat, ← Rat.mkRat_add_mkRat _ _ (by have := p.den_pos; omega) (by have := q.den_pos; omega), Rat.mkRat_self, Rat.mkRat_self]
theorem rat_sub_mk (p q : Rat) : mkRat (p.num * (q.den : Int) - q.num * (p.den : Int)) ((p.den : Int) * (q.den : Int)).toNat = p - q := by
  have h := rat_add_mk p (-q)
  rw [Rat.neg_num, Rat.neg_den] at h
  rw [Rat.sub_eq_add_neg, ← h, Int.sub_eq_add_neg, Int.neg_mul]
def rsum (qs : List Rat) : Rat := qs.foldl (· + ·) 0
theorem rsum_snoc (qs : List Rat) (q : Rat) : rsum (qs ++ [q]) = rsum qs + q := by simp [rsum, List.foldl_append]
theorem rsum_take {qs : List Rat} {k : Nat} {q : Rat} (h : qs[k]? = some q) : rsum (qs.take (k + 1)) = rsum (qs.take k) + q := by
  rw [List.take_add_one, h]; exact rsum_snoc _ _
/-- less, summed -/
@[reducible] def sp_less : J.Spec := fun ps R _ => ∃ p q : Rat, ps = [.v (frD p), .v (frD q)] ∧ Sm p ∧ Sm q ∧ R (.fz (frD (p - q))) []
theorem ok_less (T : Tx K mg) : FnOk P w K mg base (L2.CX P w) 2 T.a_less T.d_less ["one", "other"] (SpJ K sp_less) := by
  refine jfn T.F_less z_less zo_less zf_less sp_less (fun as R RX h => ?_) (fun X B E as R RX cj hE h => ?_)
  · obtain ⟨_, _, rfl, _⟩ := h; rfl
  obtain ⟨p, q, rfl, hp, hq, hR⟩ := h
  show JSs X B _ [.fz (frD p), .fz (frD q)] _
  refine JSs.one (JS.ret (je_call0 cj (ok_made T) (by decide) 0 T.g_made T.F_made.kp T.b_made ?_))
  refine JD.cons (jv_sub (jv_mulW (jv_ix (jv_name cj 0 (jv_int ⟨_, _, D.int p.num, .tup, rfl, rfl, ?_⟩)))))
  refine jv_ix (jv_name cj 1 (jv_int ⟨_, _, D.int q.den, .tup, rfl, rfl, _, _, rfl, rfl, cmulW hp.1 hq.den, ?_⟩))
  refine jv_mulW (jv_ix (jv_name cj 1 (jv_int ⟨_, _, D.int q.num, .tup, rfl, rfl, ?_⟩)))
  refine jv_ix (jv_name cj 0 (jv_int ⟨_, _, D.int p.den, .tup, rfl, rfl, _, _, rfl, rfl, cmulW hq.1 hp.den, _, _, rfl, rfl, ?_⟩))
  refine JD.cons (jv_mulW (jv_ix (jv_name cj 0 (jv_int ⟨_, _, D.int p.den, .tup, rfl, rfl, ?_⟩))))
  refine jv_ix (jv_name cj 1 (jv_int ⟨_, _, D.int q.den, .tup, rfl, rfl, _, _, rfl, rfl, cmulW hp.den hq.den, JD.nil ⟨_, _, rfl, dd_pos p q, dd_small hp hq, ?_⟩⟩))
  rw [rat_sub_mk]
  exact hR
@[reducible] def sp_summed : J.Spec := fun ps R _ => ∃ qs : List Rat, ps = [.v (.lst (qs.map frD))] ∧ (∀ k ≤ qs.length, Sm (rsum (qs.take k))) ∧ (∀ q ∈ qs, Sm q) ∧ R (.fz (frD (rsum qs))) []
theorem ok_summed (T : Tx K mg) : FnOk P w K mg base (L2.CX P w) 3 T.a_summed T.d_summed ["some"] (SpJ K sp_summed) := by
  refine jfn T.F_summed z_summed zo_summed zf_summed sp_summed (fun as R RX h => ?_) (fun X B E as R RX cj hE h => ?_)
  · obtain ⟨_, rfl, _⟩ := h; rfl
  obtain ⟨qs, rfl, hp, hq, hR⟩ := h
  show JSs X B _ [.fz (.lst (qs.map frD)), .no, .no] _
  refine JSs.cons (js_set cj 1 (JV.je (jv_globT cj 0 T.g_NOUGHT T.p_NOUGHT ?_)))
  refine JSs.cons (js_for cj (ji_seq (jv_name cj 0 ⟨_, .inl rfl, fun i G => ∃ a, G = [.fz (.lst (qs.map frD)), .fz (frD (rsum (qs.take i))), a], ⟨.no, rfl⟩, fun i d G hi hd hI => ?_, fun G hI => ?_⟩)))
  · obtain ⟨a, rfl⟩ := hI
    obtain ⟨q, hq2, rfl⟩ := map_get hd
    rw [List.length_map] at hi
    refine JG.name cj 2 ?_
    refine JSs.one (js_set cj 1 (je_call0 cj (ok_added T) (by decide) 1 T.g_added T.F_added.kp T.b_added ?_))
    refine JD.cons (jv_name cj 1 (JD.cons (jv_name cj 2 (JD.nil ⟨_, q, rfl, hp i (by omega), hq q (List.mem_of_getElem? hq2), ?_⟩))))
    exact ⟨.fz (frD q), by rw [rsum_take hq2]; rfl⟩
  · obtain ⟨a, rfl⟩ := hI
    rw [List.length_map, List.take_length]
    refine JSs.forget 2 ?_
    exact JSs.one (JS.ret (JV.je (jv_name cj 1 hR)))
/-- made with a bottom below 0, over, timed -/
theorem fdiv_neg_dvd {t g : Int} (h : g ∣ t) : t.fdiv (-g) = -t / g := by
  rw [Int.fdiv_eq_ediv_of_dvd (by rwa [Int.neg_dvd]), Int.ediv_neg, Int.neg_ediv_of_dvd h]
@[reducible] def sp_madeN : J.Spec := fun ps R _ => ∃ (t b : Int), ps = [.v (.int t), .v (.int b)] ∧ b < 0 ∧ b.natAbs < 2 ^ 8000 ∧ R (.fz (frD (mkRat (-t) (-b).toNat))) []
theorem ok_madeN (T : Tx K mg) : FnOk P w K mg base (L2.CX P w) 1 T.a_made T.d_made ["top", "bottom"] (SpJ K sp_madeN) := by
  refine jfn T.F_made z_made zo_made zf_made sp_madeN (fun as R RX h => ?_) (fun X B E as R RX cj hE h => ?_)
  · obtain ⟨_, _, rfl, _⟩ := h; rfl
  obtain ⟨t, b, rfl, hb, hz, hR⟩ := h
  show JSs X B _ [.fz (.int t), .fz (.int b), .no, .no] _
  refine JSs.cons (js_set cj 2 (JV.je (jv_abs cj 0 T.z_abs (jv_name cj 0 ⟨_, rfl, ?_⟩))))
  refine JSs.cons (js_set cj 3 (JV.je (jv_abs cj 0 T.z_abs (jv_name cj 1 ⟨_, rfl, ?_⟩))))
  rw [show (if t < 0 then -t else t) = ((t.natAbs : Nat) : Int) by split <;> omega, show (if b < 0 then -b else b) = ((b.natAbs : Nat) : Int) by split <;> omega]
  refine JSs.cons (JS.whileN cj (fun m G => ∃ x : Nat, x.gcd m = t.natAbs.gcd b.natAbs ∧ G = [.fz (.int t), .fz (.int b), .fz (.int (x : Nat)), .fz (.int (m : Nat))]) b.natAbs ⟨t.natAbs, rfl, rfl⟩ fun m G hI => ?_)
  obtain ⟨x, hx, rfl⟩ := hI
  refine jt_gt (jv_name cj 3 (jv_int ⟨_, _, rfl, rfl, fun hc => ?_, fun hc => ?_⟩))
  · have hc := of_decide_eq_true hc
    refine JSs.one (js_parB cj 2 3 (jv_name cj 3 (jv_mod (jv_name cj 2 (jv_name cj 3 ⟨_, _, rfl, rfl, hc, ?_⟩)))))
    refine ⟨x % m, Nat.mod_lt _ (by omega), m, ?_, ?_⟩
    · rw [← hx, Nat.gcd_comm m, ← Nat.gcd_rec, Nat.gcd_comm]
    · rw [Int.natCast_emod]; rfl
  · have hc := of_decide_eq_false hc
    have hm : m = 0 := by omega
    subst hm
    rw [Nat.gcd_zero_right] at hx
    subst hx
    have g1 : t.natAbs.gcd b.natAbs ≤ b.natAbs := Nat.gcd_le_right _ (by omega)
    have g2 : 0 < t.natAbs.gcd b.natAbs := Nat.gcd_pos_of_pos_right _ (by omega)
    refine JSs.cons (JS.ite (jt_lt (jv_name cj 1 (jv_int ⟨_, _, rfl, rfl, fun _ => ?_, fun h1 => ?_⟩))))
    rotate_left
    · exact absurd (of_decide_eq_false h1) (by omega)
    refine JSs.one (js_set cj 2 (JV.je (jv_sub (jv_int (jv_name cj 2 ⟨_, _, rfl, rfl, ?_⟩)))))
    rw [Int.zero_sub]
    have cd : ∀ i, CDivG i (-((t.natAbs.gcd b.natAbs : Nat) : Int)) := fun i => ⟨by omega, by
      rw [Int.natAbs_neg, Int.natAbs_natCast]
      exact Nat.lt_of_lt_of_le (log2_lt (Nat.lt_of_le_of_lt g1 hz) (by decide)) (by decide)⟩
    refine JSs.one (JS.ret (JV.je (jv_tup (JD.cons (jv_fdivG (jv_name cj 0 (jv_name cj 2 ⟨_, _, rfl, rfl, cd _, ?_⟩)))))))
    refine JD.cons (jv_fdivG (jv_name cj 1 (jv_name cj 2 ⟨_, _, rfl, rfl, cd _, JD.nil ⟨lz rfl, ?_⟩⟩)))
    have d1 : ((t.natAbs.gcd b.natAbs : Nat) : Int) ∣ t := Int.ofNat_dvd_left.mpr (Nat.gcd_dvd_left _ _)
    have d2 : ((t.natAbs.gcd b.natAbs : Nat) : Int) ∣ b := Int.ofNat_dvd_left.mpr (Nat.gcd_dvd_right _ _)
    rw [frD_mk (by omega), Int.natAbs_neg, Int.natAbs_neg] at hR
    rw [fdiv_neg_dvd d1, fdiv_neg_dvd d2]
    exact hR
theorem mk_divInt {n d : Int} (h : 0 < d) : mkRat n d.toNat = Rat.divInt n d := by
  obtain ⟨k, rfl⟩ : ∃ k : Nat, d = k := ⟨d.toNat, by omega⟩
  rw [Int.toNat_natCast, Rat.divInt_ofNat]
theorem div_eq (p q : Rat) : p / q = Rat.divInt (p.num * q.den) (p.den * q.num) := by
  rw [Rat.div_def, Rat.inv_def]
  conv => lhs; lhs; rw [← Rat.num_divInt_den p]
  rw [Rat.divInt_mul_divInt]
@[reducible] def sp_over : J.Spec := fun ps R _ => ∃ p q : Rat, ps = [.v (frD p), .v (frD q)] ∧ Sm p ∧ Sm q ∧ q ≠ 0 ∧ R (.fz (frD (p / q))) []
theorem dn_small {p q : Rat} (hp : Sm p) (hq : Sm q) : ((p.den : Int) * q.num).natAbs < 2 ^ 8000 := by
  rw [Int.natAbs_mul, Int.natAbs_natCast, show (8000 : Nat) = 4000 + 4000 from rfl, Nat.pow_add]
  exact Nat.mul_lt_mul'' hp.2 hq.1
theorem ok_over (T : Tx K mg) : FnOk P w K mg base (L2.CX P w) 2 T.a_over T.d_over ["one", "other"] (SpJ K sp_over) := by
  refine jfn T.F_over z_over zo_over zf_over sp_over (fun as R RX h => ?_) (fun X B E as R RX cj hE h => ?_)
  · obtain ⟨_, _, rfl, _⟩ := h; rfl
  obtain ⟨p, q, rfl, hp, hq, hne, hR⟩ := h
  have hn : q.num ≠ 0 := fun z => hne (Rat.num_eq_zero.mp z)
  have hd := p.den_pos
  show JSs X B _ [.fz (frD p), .fz (frD q)] _
  rw [div_eq] at hR
  by_cases z : 0 < q.num
  · have hpos : 0 < (p.den : Int) * q.num := Int.mul_pos (by omega) z
    refine JSs.one (JS.ret (je_call0 cj (ok_made T) (by decide) 0 T.g_made T.F_made.kp T.b_made ?_))
    refine JD.cons (jv_mulW (jv_ix (jv_name cj 0 (jv_int ⟨_, _, D.int p.num, .tup, rfl, rfl, ?_⟩))))
    refine jv_ix (jv_name cj 1 (jv_int ⟨_, _, D.int q.den, .tup, rfl, rfl, _, _, rfl, rfl, cmulW hp.1 hq.den, ?_⟩))
    refine JD.cons (jv_mulW (jv_ix (jv_name cj 0 (jv_int ⟨_, _, D.int p.den, .tup, rfl, rfl, ?_⟩))))
    refine jv_ix (jv_name cj 1 (jv_int ⟨_, _, D.int q.num, .tup, rfl, rfl, _, _, rfl, rfl, cmulW hp.den hq.1, JD.nil ⟨_, _, rfl, hpos, dn_small hp hq, ?_⟩⟩))
    rw [mk_divInt hpos]
    exact hR
  · have hneg : (p.den : Int) * q.num < 0 := Int.mul_neg_of_pos_of_neg (by omega) (by omega)
    refine JSs.one (JS.ret (je_call0 cj (ok_madeN T) (by decide) 0 T.g_made T.F_made.kp T.b_made ?_))
    refine JD.cons (jv_mulW (jv_ix (jv_name cj 0 (jv_int ⟨_, _, D.int p.num, .tup, rfl, rfl, ?_⟩))))
    refine jv_ix (jv_name cj 1 (jv_int ⟨_, _, D.int q.den, .tup, rfl, rfl, _, _, rfl, rfl, cmulW hp.1 hq.den, ?_⟩))
    refine JD.cons (jv_mulW (jv_ix (jv_name cj 0 (jv_int ⟨_, _, D.int p.den, .tup, rfl, rfl, ?_⟩))))
    refine jv_ix (jv_name cj 1 (jv_int ⟨_, _, D.int q.num, .tup, rfl, rfl, _, _, rfl, rfl, cmulW hp.den hq.1, JD.nil ⟨_, _, rfl, hneg, dn_small hp hq, ?_⟩⟩))
    rw [mk_divInt (by omega), Rat.divInt_neg', ← Rat.divInt_neg', Rat.neg_divInt_neg]
    exact hR
@[reducible] def sp_timed : J.Spec := fun ps R _ => ∃ p q : Rat, ps = [.v (frD p), .v (frD q)] ∧ Sm p ∧ Sm q ∧ R (.fz (frD (p * q))) []
theorem ok_timed (T : Tx K mg) : FnOk P w K mg base (L2.CX P w) 2 T.a_timed T.d_timed ["one", "other"] (SpJ K sp_timed) := by
  refine jfn T.F_timed z_timed zo_timed zf_timed sp_timed (fun as R RX h => ?_) (fun X B E as R RX cj hE h => ?_)
  · obtain ⟨_, _, rfl, _⟩ := h; rfl
  obtain ⟨p, q, rfl, hp, hq, hR⟩ := h
  show JSs X B _ [.fz (frD p), .fz (frD q)] _
  refine JSs.one (JS.ret (je_call0 cj (ok_made T) (by decide) 0 T.g_made T.F_made.kp T.b_made ?_))
  refine JD.cons (jv_mulW (jv_ix (jv_name cj 0 (jv_int ⟨_, _, D.int p.num, .tup, rfl, rfl, ?_⟩))))
  refine jv_ix (jv_name cj 1 (jv_int ⟨_, _, D.int q.num, .tup, rfl, rfl, _, _, rfl, rfl, cmulW hp.1 hq.1, ?_⟩))
  refine JD.cons (jv_mulW (jv_ix (jv_name cj 0 (jv_int ⟨_, _, D.int p.den, .tup, rfl, rfl, ?_⟩))))
  refine jv_ix (jv_name cj 1 (jv_int ⟨_, _, D.int q.den, .tup, rfl, rfl, _, _, rfl, rfl, cmulW hp.den hq.den, JD.nil ⟨_, _, rfl, dd_pos p q, dd_small hp hq, ?_⟩⟩))
  rw [dd_nat, ← Rat.mul_def']
  exact hR
/-- row_less, lead_with, solved -/
def rwL (L : Nat) (f : Nat → Rat) : D := .lst ((List.range L).map fun j => frD (f j))
def mtL (n L : Nat) (M : Nat → Nat → Rat) : List D := (List.range n).map fun i => rwL L (M i)
theorem mtL_len (n L : Nat) (M : Nat → Nat → Rat) : (mtL n L M).length = n := by unfold mtL; rw [List.length_map, List.length_range]
theorem rng_get {n i : Nat} (h : i < n) : (List.range n)[i]? = some i := List.getElem?_range h
theorem mtL_get {n L i : Nat} {M : Nat → Nat → Rat} (h : i < n) : (mtL n L M)[i]? = some (rwL L (M i)) := by unfold mtL; rw [List.getElem?_map, rng_get h]; rfl
theorem rwl_get {L j : Nat} {f : Nat → Rat} (h : j < L) : ((List.range L).map fun j => frD (f j))[j]? = some (frD (f j)) := by rw [List.getElem?_map, rng_get h]; rfl
theorem rng_set {α : Type} {n i : Nat} {f g : Nat → α} (h : i < n) (hf : ∀ j, j ≠ i → j < n → g j = f j) : ((List.range n).map f).set i (g i) = (List.range n).map g := by
  apply List.ext_getElem?
  intro j
  by_cases hj : j < n
  · by_cases z : i = j
    · subst z
      rw [List.getElem?_set_self (by rw [List.length_map, List.length_range]; exact h), List.getElem?_map, rng_get h]; rfl
    · rw [List.getElem?_set_ne z, List.getElem?_map, List.getElem?_map, rng_get hj]
      show some (f j) = some (g j)
      rw [hf j (fun q => z q.symm) hj]
  · rw [List.getElem?_eq_none (by rw [List.length_set, List.length_map, List.length_range]; omega), List.getElem?_eq_none (by rw [List.length_map, List.length_range]; omega)]
theorem mtL_set {n L i : Nat} {M M' : Nat → Nat → Rat} {f : Nat → Rat} (h : i < n) (hi : M' i = f) (hf : ∀ j, j ≠ i → j < n → M' j = M j) : (mtL n L M).set i (rwL L f) = mtL n L M' := by
  subst hi
  exact rng_set (f := fun i => rwL L (M i)) (g := fun i => rwL L (M' i)) h fun j a b => by show rwL L (M' j) = rwL L (M j); rw [hf j a b]
theorem rwL_congr {L : Nat} {f g : Nat → Rat} (h : ∀ j, j < L → f j = g j) : rwL L f = rwL L g := by
  unfold rwL
  congr 1
  exact List.map_congr_left fun j hj => by rw [h j (List.mem_range.mp hj)]
/-- a row less so many times another, from a place on -/
def rlF (f l : Nat → Rat) (s : Rat) (at' : Nat) : Nat → Rat := fun j => if j < at' then f j else f j - s * l j
@[reducible] def sp_row_less : J.Spec := fun ps R _ => ∃ (L : Nat) (f l : Nat → Rat) (s : Rat) (at' : Nat), ps = [.v (rwL L f), .v (rwL L l), .v (frD s), .v (.int (at' : Nat))] ∧ L ≤ 1000 ∧ at' ≤ L ∧ Sm s ∧ (∀ j < L, Sm (f j) ∧ Sm (l j) ∧ Sm (s * l j)) ∧ R (.fz (rwL L (rlF f l s at'))) []
theorem num_zero {q : Rat} : decide (q.num = 0) = decide (q = 0) := by
  by_cases h : q = 0
  · subst h; rfl
  · rw [decide_eq_false h, decide_eq_false fun z => h (Rat.num_eq_zero.mp z)]
theorem ok_row_less (T : Tx K mg) : FnOk P w K mg base (L2.CX P w) 3 T.a_row_less T.d_row_less ["row", "lead", "share", "at"] (SpJ K sp_row_less) := by
  refine jfn T.F_row_less z_row_less zo_row_less zf_row_less sp_row_less (fun as R RX h => ?_) (fun X B E as R RX cj hE h => ?_)
  · obtain ⟨_, _, _, _, _, rfl, _⟩ := h; rfl
  obtain ⟨L, f, l, s, at', rfl, hL, ha, hs, hsm, hR⟩ := h
  show JSs X B _ [.fz (rwL L f), .fz (rwL L l), .fz (frD s), .fz (.int (at' : Nat)), .no, .no] _
  refine JSs.cons ?_
  refine js_set cj 4 (je_listOf cj 0 T.z_list (jv_name cj 0 ⟨_, .lst, ?_⟩))
  refine JSs.cons ?_
  refine js_for cj (ji_range2 cj 1 T.z_range (jv_name cj 3 (jv_len cj 2 T.z_len (jv_name cj 0 ⟨_, .lst, _, _, rfl, rfl, ?_, fun i G => ∃ a, G = [.fz (rwL L f), .fz (rwL L l), .fz (frD s), .fz (.int (at' : Nat)), .ow (.lst ((List.range L).map fun j => frD (if j < at' + i then rlF f l s at' j else f j))), a], ⟨.no, ?_⟩, fun i d G hi hd hI => ?_, fun G hI => ?_⟩))))
  · rw [List.length_map, List.length_range]; omega
  · have e : ((List.range L).map fun j => frD (if j < at' + 0 then rlF f l s at' j else f j)) = (List.range L).map fun j => frD (f j) := List.map_congr_left fun j _ => by
      unfold rlF
      by_cases h : j < at'
      · rw [if_pos (by omega), if_pos h]
      · rw [if_neg (by omega)]
    rw [e]; rfl
  · obtain ⟨a, rfl⟩ := hI
    rw [List.length_map, List.length_range] at hi
    have hj : at' + i < L := by omega
    have hd : d = .int ((at' + i : Nat) : Int) := hd.trans (by congr 1)
    subst hd
    obtain ⟨q1, q2, q3⟩ := hsm (at' + i) hj
    have hl : atI ((List.range L).map fun j => frD (l j)) ((at' + i : Nat) : Int) = some (frD (l (at' + i))) := at_nat (rwl_get hj)
    have hf : atI ((List.range L).map fun j => frD (f j)) ((at' + i : Nat) : Int) = some (frD (f (at' + i))) := at_nat (rwl_get hj)
    have e2 : ∀ x, x = rlF f l s at' (at' + i) → ((List.range L).map fun j => frD (if j < at' + i then rlF f l s at' j else f j)).set (at' + i) (frD x) = (List.range L).map fun j => frD (if j < at' + (i + 1) then rlF f l s at' j else f j) := fun x hx => by
      subst hx
      have := rng_set (n := L) (i := at' + i) (f := fun j => frD (if j < at' + i then rlF f l s at' j else f j)) (g := fun j => frD (if j < at' + (i + 1) then rlF f l s at' j else f j)) hj fun j hn _ => by
        show frD _ = frD _
        by_cases h : j < at' + i
        · rw [if_pos h, if_pos (by omega)]
        · rw [if_neg h, if_neg (by omega)]
      rw [← this]
      show _ = List.set _ _ (frD (if at' + i < at' + (i + 1) then rlF f l s at' (at' + i) else f (at' + i)))
      rw [if_pos (by omega)]
    have e3 : rlF f l s at' (at' + i) = f (at' + i) - s * l (at' + i) := by unfold rlF; rw [if_neg (by omega)]
    refine JG.name cj 5 ?_
    refine JSs.one ?_
    refine JS.ite (jt_nei cj (jv_ix (jv_ix (jv_name cj 1 (jv_name cj 5 ⟨_, _, _, .lst, rfl, hl, jv_int ⟨_, _, D.int (l (at' + i)).num, .tup, rfl, rfl, jv_int ⟨_, _, rfl, rfl, fun hb => ?_, fun hb => JSs.nil ?_⟩⟩⟩)))))
    · refine JSs.one ?_
      refine js_setix cj 4 (JE.jv (je_call0 cj (ok_less T) (by decide) 3 T.g_less T.F_less.kp T.b_less ?_))
      refine JD.cons (jv_ix (jv_name cj 0 (jv_name cj 5 ⟨_, _, _, .lst, rfl, hf, ?_⟩)))
      refine JD.cons (JE.jv (je_call0 cj (ok_timed T) (by decide) 4 T.g_timed T.F_timed.kp T.b_timed ?_))
      refine JD.cons (jv_name cj 2 (JD.cons (jv_ix (jv_name cj 1 (jv_name cj 5 ⟨_, _, _, .lst, rfl, hl, JD.nil ⟨s, l (at' + i), rfl, hs, q2, ?_⟩⟩)))))
      refine JD.nil ⟨f (at' + i), s * l (at' + i), rfl, q1, q3, ?_⟩
      refine jv_name cj 5 ⟨_, _, at' + i, rfl, rfl, ?_, ?_⟩
      · rw [List.length_map, List.length_range]
        exact (ixN_pos (by omega) (by omega)).trans (by rw [Int.toNat_natCast])
      refine ⟨.fz (.int ((at' + i : Nat) : Int)), ?_⟩
      rw [← e2 _ e3.symm]; rfl
    · have hz : l (at' + i) = 0 := by
        have : (l (at' + i)).num = 0 := by simpa using hb
        exact Rat.num_eq_zero.mp this
      refine ⟨.fz (.int ((at' + i : Nat) : Int)), ?_⟩
      have e4 : f (at' + i) = rlF f l s at' (at' + i) := by rw [e3, hz]; grind
      have e5 : (List.range L).map (fun j => frD (if j < at' + (i + 1) then rlF f l s at' j else f j)) = (List.range L).map fun j => frD (if j < at' + i then rlF f l s at' j else f j) := List.map_congr_left fun j _ => by
        by_cases h : j < at' + i
        · rw [if_pos h, if_pos (by omega)]
        · by_cases h2 : j = at' + i
          · rw [if_neg h, if_pos (by omega), h2, e4]
          · rw [if_neg h, if_neg (by omega)]
      rw [e5]; rfl
  · obtain ⟨a, rfl⟩ := hI
    refine JSs.forget 5 ?_
    refine JSs.one (JS.ret (JV.je (jv_nameF cj 4 ?_)))
    have e : (D.lst ((List.range L).map fun j => frD (if j < at' + ((((List.range L).map fun j => frD (f j)).length : Int) - (at' : Int)).toNat then rlF f l s at' j else f j))) = rwL L (rlF f l s at') := by
      unfold rwL
      congr 1
      refine List.map_congr_left fun j hj => ?_
      have := List.mem_range.mp hj
      rw [List.length_map, List.length_range, if_pos (by omega)]
    rw [e]
    exact hR
/-- a row with an unknown brought to its place, its share made 1 -/
def swM (M : Nat → Nat → Rat) (a p : Nat) : Nat → Nat → Rat := fun i => if i = a then M p else if i = p then M a else M i
def ldM (M : Nat → Nat → Rat) (a p : Nat) : Nat → Nat → Rat := fun i => if i = a then (fun j => M p j / M p a) else if i = p then M a else M i
@[reducible] def sp_lead_with : J.Spec := fun ps R _ => ∃ (n L : Nat) (M : Nat → Nat → Rat) (a p : Nat), ps = [.b (.lst (mtL n L M)), .v (.int (a : Nat))] ∧ L ≤ 1000 ∧ n ≤ L ∧ a ≤ p ∧ p < n ∧ M p a ≠ 0 ∧ (∀ i, a ≤ i → i < p → M i a = 0) ∧ (∀ j < L, Sm (M p j)) ∧ R (.fz .non) [(0, .lst (mtL n L (ldM M a p)))]
theorem ok_lead_with (T : Tx K mg) : FnOk P w K mg base (L2.CX P w) 3 T.a_lead_with T.d_lead_with ["rows", "at"] (SpJ K sp_lead_with) := by
  refine jfn T.F_lead_with z_lead_with zo_lead_with zf_lead_with sp_lead_with (fun as R RX h => ?_) (fun X B E as R RX cj hE h => ?_)
  · obtain ⟨_, _, _, _, _, rfl, _⟩ := h; rfl
  obtain ⟨n, L, M, a, p, rfl, hL, hnL, hap, hpn, hp0, hz, hsm, hR⟩ := h
  have ix : ∀ {i : Nat}, i < n → ixN (mtL n L M).length (i : Int) = some i := fun {i} h => by rw [mtL_len]; exact (ixN_pos (by omega) (by omega)).trans (by rw [Int.toNat_natCast])
  show JSs X B _ [.bw 0 (.lst (mtL n L M)), .fz (.int (a : Nat)), .no, .no, .no] _
  refine JSs.cons ?_
  refine js_set cj 2 (JV.je (jv_name cj 1 ?_))
  refine JSs.cons ?_
  refine JS.whileN cj (fun m G => ∃ i : Nat, i + m = p ∧ a ≤ i ∧ G = [.bw 0 (.lst (mtL n L M)), .fz (.int (a : Nat)), .fz (.int (i : Nat)), .no, .no]) (p - a) ⟨a, by omega, Nat.le_refl _, rfl⟩ fun m G hI => ?_
  obtain ⟨i, hi, hai, rfl⟩ := hI
  refine jt_eqi cj (jv_ix (jv_ix (jv_ixO cj 0 (jv_name cj 2 ⟨_, _, _, rfl, rfl, at_nat (mtL_get (by omega)), jv_name cj 1 ⟨_, _, _, .lst, rfl, at_nat (rwl_get (L := L) (f := M i) (j := a) (by omega)), jv_int ⟨_, _, D.int (M i a).num, .tup, rfl, rfl, jv_int ⟨_, _, rfl, rfl, fun hb => ?_, fun hb => ?_⟩⟩⟩⟩))))
  · have hne : i ≠ p := fun z => by
      subst z
      exact hp0 (Rat.num_eq_zero.mp (of_decide_eq_true hb))
    refine JSs.one ?_
    refine js_set cj 2 (JV.je (jv_add (jv_name cj 2 (jv_int ⟨_, _, rfl, rfl, ?_⟩))))
    exact ⟨m - 1, by omega, i + 1, by omega, by omega, rfl⟩
  have hip : i = p := by
    apply Classical.byContradiction
    intro z
    have h0 := hz i hai (by omega)
    have hb := of_decide_eq_false hb
    exact hb (by rw [h0]; rfl)
  subst hip
  refine JSs.cons ?_
  refine JS.asg z_lead_with.li (JV.je (jv_tup (JD.cons (jv_ixO cj 0 (jv_name cj 2 ⟨_, _, _, rfl, rfl, at_nat (mtL_get (i := i) (by omega)), ?_⟩))))) (hw := by rw [swst_scope (e' := { X.env with scope := z_lead_with.sc }) cj.hsc]; rfl)
  refine JD.cons (jv_ixO cj 0 (jv_name cj 1 ⟨_, _, _, rfl, rfl, at_nat (mtL_get (i := a) (by omega)), JD.nil ⟨lz rfl, ?_⟩⟩))
  refine JG.tup cj (JGs.cons (JG.setix cj 0 (jv_name cj 1 ⟨_, _, a, rfl, rfl, ix (by omega), ?_⟩)))
  have e1 : (mtL n L M).set a (rwL L (M i)) = mtL n L (fun k => if k = a then M i else M k) := mtL_set (by omega) (by rw [if_pos rfl]) fun j h _ => by rw [if_neg h]
  rw [e1]
  refine JGs.cons (JG.setix cj 0 (jv_name cj 2 ⟨_, _, i, rfl, rfl, ?_, JGs.nil ?_⟩))
  · rw [mtL_len]; exact (ixN_pos (by omega) (by omega)).trans (by rw [Int.toNat_natCast])
  have e2 : (mtL n L (fun k => if k = a then M i else M k)).set i (rwL L (M a)) = mtL n L (swM M a i) := mtL_set (by omega) (by
    unfold swM
    by_cases h : i = a
    · rw [if_pos h, h]
    · rw [if_neg h, if_pos rfl]) fun j h _ => by
    unfold swM
    by_cases h2 : j = a
    · rw [if_pos h2, if_pos h2]
    · rw [if_neg h2, if_neg h2, if_neg h]
  show JSs X B _ [.bw 0 (.lst ((mtL n L (fun k => if k = a then M i else M k)).set i (rwL L (M a)))), .fz (.int (a : Nat)), .fz (.int (i : Nat)), .no, .no] _
  rw [e2]
  have ga : (mtL n L (swM M a i))[a]? = some (rwL L (M i)) := by rw [mtL_get (by omega)]; unfold swM; rw [if_pos rfl]
  refine JSs.cons ?_
  refine js_set cj 3 (JV.je (jv_ix (jv_ixO cj 0 (jv_name cj 1 ⟨_, _, _, rfl, rfl, at_nat ga, jv_name cj 1 ⟨_, _, _, .lst, rfl, at_nat (rwl_get (f := M i) (j := a) (by omega)), ?_⟩⟩))))
  refine JSs.one ?_
  refine js_setix cj 0 (JE.jv ?_)
  refine je_lcB cj [3, 4] [4] ["over"] [("one", 4)] (ji_seq (jv_ixO cj 0 (jv_name cj 1 ⟨_, _, _, rfl, rfl, at_nat ga, _, .inl rfl, ?_⟩)))
  refine LcI.map (fun j d => d = frD (M i j / M i a)) ?_ (fun G => G = [.bw 0 (.lst (mtL n L (swM M a i))), .fz (.int (a : Nat)), .fz (.int (i : Nat)), .fz (frD (M i a)), .no]) rfl (fun j d G2 hj hd hI X1 c1 => ?_) fun acc G2 hacc hv hI => ?_
  · rw [List.length_map, List.length_range]; unfold sizeLine; omega
  · subst hI
    rw [List.length_map, List.length_range] at hj
    have hd : d = frD (M i j) := by
      have h2 : ((List.range L).map fun j => frD (M i j))[j]? = some d := hd
      rw [rwl_get hj] at h2; exact (Option.some.inj h2).symm
    subst hd
    refine JG.name c1 4 fun X3 c3 => ?_
    refine JE.jv (je_if (jt_eqi c3 (jv_ix (jv_name c3 4 (jv_int ⟨_, _, D.int (M i j).num, .tup, rfl, rfl, jv_int ⟨_, _, rfl, rfl, fun hb => ?_, fun hb => ?_⟩⟩)))))
    · have h0 : M i j = 0 := Rat.num_eq_zero.mp (of_decide_eq_true hb)
      refine JV.je (jv_name c3 4 ⟨?_, rfl⟩)
      rw [h0]; congr 1; grind
    · refine je_call0 c3 (ok_over T) (by decide) 0 T.g_over T.F_over.kp T.b_over ?_
      exact JD.cons (jv_name c3 4 (JD.cons (jv_name c3 3 (JD.nil ⟨M i j, M i a, rfl, hsm j hj, hsm a (by omega), hp0, rfl, rfl⟩))))
  subst hI
  rw [List.length_map, List.length_range] at hacc
  have eacc : acc = (List.range L).map fun j => frD (M i j / M i a) := by
    apply List.ext_getElem?
    intro j
    by_cases hj : j < L
    · have hlt : j < acc.length := by omega
      rw [List.getElem?_eq_getElem hlt, hv j _ (List.getElem?_eq_getElem hlt), rwl_get (f := fun j => M i j / M i a) hj]
    · rw [List.getElem?_eq_none (by omega), List.getElem?_eq_none (by rw [List.length_map, List.length_range]; omega)]
  subst eacc
  refine jv_name cj 1 ⟨_, _, a, rfl, rfl, ?_, ?_⟩
  · rw [mtL_len]; exact (ixN_pos (by omega) (by omega)).trans (by rw [Int.toNat_natCast])
  have e3 : (mtL n L (swM M a i)).set a (rwL L fun j => M i j / M i a) = mtL n L (ldM M a i) := mtL_set (by omega) (by unfold ldM; rw [if_pos rfl]) fun j h _ => by unfold ldM swM; rw [if_neg h, if_neg h]
  show R (.fz .non) [(0, .lst ((mtL n L (swM M a i)).set a (rwL L fun j => M i j / M i a)))]
  rw [e3]
  exact hR
/-- one step: all rows less so many times the leading one -/
def gjM (M : Nat → Nat → Rat) (a p : Nat) : Nat → Nat → Rat := fun k => if k = a then ldM M a p a else rlF (ldM M a p k) (ldM M a p a) (ldM M a p k a) a
def SmM (n L : Nat) (M : Nat → Nat → Rat) (a p : Nat) : Prop := ∀ i < n, ∀ j < L, Sm (M i j) ∧ Sm (M p j / M p a) ∧ Sm (ldM M a p i a * (M p j / M p a))
@[reducible] def sp_solved : J.Spec := fun ps R _ => ∃ (n L : Nat) (M0 : Nat → Nat → Rat) (I : Nat → (Nat → Nat → Rat) → Prop), ps = [.v (.lst (mtL n L M0))] ∧ L ≤ 1000 ∧ n ≤ L ∧ I 0 M0 ∧
  (∀ a M, a < n → I a M → ∃ p, a ≤ p ∧ p < n ∧ M p a ≠ 0 ∧ (∀ i, a ≤ i → i < p → M i a = 0) ∧ SmM n L M a p ∧ I (a + 1) (gjM M a p)) ∧
  (∀ M, I n M → R (.fz (.lst ((List.range n).map fun i => rwL (L - n) fun c => M i (n + c)))) [])
theorem ok_solved (T : Tx K mg) : FnOk P w K mg base (L2.CX P w) 4 T.a_solved T.d_solved ["rows"] (SpJ K sp_solved) := by
  refine jfn T.F_solved z_solved zo_solved zf_solved sp_solved (fun as R RX h => ?_) (fun X B E as R RX cj hE h => ?_)
  · obtain ⟨_, _, _, _, rfl, _⟩ := h; rfl
  obtain ⟨n, L, M0, I, rfl, hL, hnL, hI0, hstep, hR⟩ := h
  show JSs X B _ [.fz (.lst (mtL n L M0)), .no, .no, .no, .no, .no] _
  refine JSs.cons ?_
  refine js_setLcB cj 0 [5] [5] ["list"] [("row", 5)] (ji_seq (jv_name cj 0 ⟨_, .inl rfl, ?_⟩))
  refine LcI.map (fun i d => ∀ e, (mtL n L M0)[i]? = some e → d = e) ?_ (fun G => G = [.fz (.lst (mtL n L M0)), .no, .no, .no, .no, .no]) rfl (fun j d G2 hj hd hI X1 c1 => ?_) fun acc G2 hacc hv hI => ?_
  · rw [mtL_len]; unfold sizeLine; omega
  · subst hI
    rw [mtL_len] at hj
    have hd : (mtL n L M0)[j]? = some d := hd
    rw [mtL_get hj] at hd
    cases hd
    refine JG.name c1 5 fun X3 c3 => ?_
    refine JE.jv (je_listOf c3 0 T.z_list (jv_name c3 5 ⟨_, .lst, fun e he => ?_, rfl⟩))
    rw [mtL_get hj] at he; cases he; rfl
  subst hI
  have eacc : acc = mtL n L M0 := by
    apply List.ext_getElem?
    intro j
    rw [mtL_len] at hacc
    by_cases hj : j < n
    · have hlt : j < acc.length := by omega
      rw [List.getElem?_eq_getElem hlt, mtL_get hj, hv j _ (List.getElem?_eq_getElem hlt) _ (mtL_get hj)]
    · rw [List.getElem?_eq_none (by omega), List.getElem?_eq_none (by rw [mtL_len]; omega)]
  subst eacc
  refine JSs.cons ?_
  refine js_set cj 1 (JV.je (jv_lenO cj 0 0 T.z_len ?_))
  rw [mtL_len]
  show JSs X B _ [.ow (.lst (mtL n L M0)), .fz (.int (n : Nat)), .no, .no, .no, .no] _
  refine JSs.cons ?_
  refine js_for cj (ji_range1 cj 1 T.z_range (jv_name cj 1 ⟨_, rfl, ?_, ?_, fun a G => ∃ M a2 a3 a4, I a M ∧ G = [.ow (.lst (mtL n L M)), .fz (.int (n : Nat)), a2, a3, a4, .no], ⟨M0, _, _, _, hI0, rfl⟩, fun a d G ha hd hI => ?_, fun G hI => ?_⟩))
  · omega
  · omega
  · obtain ⟨M, a2, a3, a4, hIM, rfl⟩ := hI
    have hd : d = .int ((a : Nat) : Int) := hd.trans (by rw [Int.zero_add])
    subst hd
    have han : a < n := by omega
    obtain ⟨p, hap, hpn, hp0, hz, hsm, hI1⟩ := hstep a M han hIM
    refine JG.name cj 2 ?_
    refine JSs.cons ?_
    refine JS.drop (je_callL cj (ok_lead_with T) (by decide) 2 0 T.g_lead_with T.F_lead_with.kp T.b_lead_with ?_)
    refine JD.cons (jv_name cj 2 (JD.nil ⟨_, rfl, n, L, M, a, p, rfl, hL, hnL, hap, hpn, hp0, hz, fun j hj => (hsm p hpn j hj).1, ?_⟩))
    show JSs X B _ [.ow (.lst (mtL n L (ldM M a p))), .fz (.int (n : Nat)), .fz (.int ((a : Nat) : Int)), a3, a4, .no] _
    refine JSs.cons ?_
    refine js_set cj 3 (JV.je (jv_ixO cj 0 (jv_name cj 2 ⟨_, _, _, rfl, rfl, at_nat (mtL_get han), ?_⟩)))
    refine JSs.one ?_
    refine js_for cj (ji_range1 cj 1 T.z_range (jv_name cj 1 ⟨_, rfl, ?_, ?_, fun k G => ∃ a4, G = [.ow (.lst (mtL n L (fun i => if i < k then gjM M a p i else ldM M a p i))), .fz (.int (n : Nat)), .fz (.int ((a : Nat) : Int)), .fz (rwL L (ldM M a p a)), a4, .no], ⟨a4, ?_⟩, fun k d G hk hd hI => ?_, fun G hI => ?_⟩))
    · omega
    · omega
    · have e : (fun i => if i < 0 then gjM M a p i else ldM M a p i) = ldM M a p := funext fun i => if_neg (Nat.not_lt_zero i)
      rw [e]; rfl
    · obtain ⟨a4, rfl⟩ := hI
      have hd : d = .int ((k : Nat) : Int) := hd.trans (by rw [Int.zero_add])
      subst hd
      have hkn : k < n := by omega
      have gk : (mtL n L (fun i => if i < k then gjM M a p i else ldM M a p i))[k]? = some (rwL L (ldM M a p k)) := by rw [mtL_get hkn, if_neg (Nat.lt_irrefl k)]
      have next : ∀ x, x = rwL L (gjM M a p k) → (mtL n L (fun i => if i < k then gjM M a p i else ldM M a p i)).set k x = mtL n L (fun i => if i < k + 1 then gjM M a p i else ldM M a p i) := fun x hx => by
        subst hx
        refine mtL_set hkn ?_ fun j h _ => ?_
        · rw [if_pos (Nat.lt_succ_self k)]
        · by_cases h2 : j < k
          · rw [if_pos h2, if_pos (by omega)]
          · rw [if_neg h2, if_neg (by omega)]
      have stay : gjM M a p k = ldM M a p k ∨ rwL L (gjM M a p k) = rwL L (ldM M a p k) → mtL n L (fun i => if i < k + 1 then gjM M a p i else ldM M a p i) = mtL n L (fun i => if i < k then gjM M a p i else ldM M a p i) := fun h => by
        rw [← next (rwL L (ldM M a p k)) (by rcases h with h | h; rw [h]; exact h.symm)]
        have := gk
        obtain ⟨hl, he⟩ := List.getElem?_eq_some_iff.mp gk
        conv => lhs; rw [← he]
        exact List.set_getElem_self hl
      refine JG.name cj 4 ?_
      refine JSs.one ?_
      refine JS.ite (JW.jt (jw_and (jt_nei cj (jv_name cj 4 (jv_name cj 2 ⟨_, _, rfl, rfl, fun hb => ?_, fun hb => ⟨fun z => absurd z (by decide), fun _ => JSs.nil ?_⟩⟩)))))
      · have hka : k ≠ a := by
          have : ¬ ((k : Int) = (a : Int)) := by simpa using hb
          omega
        refine jw_and1 (jt_nei cj (jv_ix (jv_ix (jv_ixO cj 0 (jv_name cj 4 ⟨_, _, _, rfl, rfl, at_nat gk, jv_name cj 2 ⟨_, _, _, .lst, rfl, at_nat (rwl_get (L := L) (f := ldM M a p k) (j := a) (by omega)), jv_int ⟨_, _, D.int (ldM M a p k a).num, .tup, rfl, rfl, jv_int ⟨_, _, rfl, rfl, fun hb2 => ?_, fun hb2 => JSs.nil ?_⟩⟩⟩⟩)))))
        · refine JSs.one ?_
          refine js_setix cj 0 (JE.jv (je_call0 cj (ok_row_less T) (by decide) 3 T.g_row_less T.F_row_less.kp T.b_row_less ?_))
          refine JD.cons (jv_ixO cj 0 (jv_name cj 4 ⟨_, _, _, rfl, rfl, at_nat gk, ?_⟩))
          refine JD.cons (jv_name cj 3 (JD.cons (jv_ix (jv_ixO cj 0 (jv_name cj 4 ⟨_, _, _, rfl, rfl, at_nat gk, jv_name cj 2 ⟨_, _, _, .lst, rfl, at_nat (rwl_get (L := L) (f := ldM M a p k) (j := a) (by omega)), ?_⟩⟩)))))
          have sk : ∀ j < L, Sm (ldM M a p k j) := fun j hj => by
            unfold ldM
            rw [if_neg hka]
            split
            · exact (hsm a han j hj).1
            · exact (hsm k hkn j hj).1
          refine JD.cons (jv_name cj 2 (JD.nil ⟨L, ldM M a p k, ldM M a p a, ldM M a p k a, a, rfl, hL, by omega, sk a (by omega), fun j hj => ⟨sk j hj, ?_, ?_⟩, ?_⟩))
          · unfold ldM
            rw [if_pos rfl]
            exact (hsm k hkn j hj).2.1
          · have := (hsm k hkn j hj).2.2
            have e : ldM M a p a j = M p j / M p a := by unfold ldM; rw [if_pos rfl]
            rw [e]; exact this
          refine jv_name cj 4 ⟨_, _, k, rfl, rfl, ?_, ?_⟩
          · rw [mtL_len]; exact (ixN_pos (by omega) (by omega)).trans (by rw [Int.toNat_natCast])
          refine ⟨.fz (.int ((k : Nat) : Int)), ?_⟩
          rw [← next (rwL L (rlF (ldM M a p k) (ldM M a p a) (ldM M a p k a) a)) (by unfold gjM; rw [if_neg hka])]; rfl
        · have h0 : ldM M a p k a = 0 := by
            have : (ldM M a p k a).num = 0 := by simpa using hb2
            exact Rat.num_eq_zero.mp this
          refine ⟨.fz (.int ((k : Nat) : Int)), ?_⟩
          rw [stay (.inr (rwL_congr fun j _ => by
            unfold gjM rlF
            rw [if_neg hka, h0]
            split
            · rfl
            · grind))]; rfl
      · have hka : k = a := by
          have : (k : Int) = (a : Int) := by simpa using hb
          omega
        refine ⟨.fz (.int ((k : Nat) : Int)), ?_⟩
        rw [stay (.inl (by unfold gjM; rw [if_pos hka, hka]))]; rfl
    · obtain ⟨a4, rfl⟩ := hI
      have e : mtL n L (fun i => if i < (n : Int).toNat then gjM M a p i else ldM M a p i) = mtL n L (gjM M a p) := by
        unfold mtL
        refine List.map_congr_left fun i hi => ?_
        have := List.mem_range.mp hi
        show rwL L (if i < (n : Int).toNat then gjM M a p i else ldM M a p i) = _
        rw [if_pos (by omega)]
      rw [e]
      exact ⟨_, _, _, _, hI1, rfl⟩
  · obtain ⟨M, a2, a3, a4, hIM, rfl⟩ := hI
    rw [Int.toNat_natCast] at hIM
    refine JSs.forget 2 (JSs.forget 3 (JSs.forget 4 ?_))
    refine @JSs.freeze X B _ _ _ 0 _ _ rfl rfl ?_
    refine JSs.one (JS.ret (JV.je (JE.jv ?_)))
    refine je_lcB cj [1, 5] [5] [] [("row", 5)] (ji_seq (jv_name cj 0 ⟨_, .inl rfl, ?_⟩))
    refine LcI.map (fun i d => d = rwL (L - n) fun c => M i (n + c)) ?_ (fun G => G = [.fz (.lst (mtL n L M)), .fz (.int (n : Nat)), .no, .no, .no, .no]) rfl (fun j d G2 hj hd hI X1 c1 => ?_) fun acc G2 hacc hv hI => ?_
    · rw [mtL_len]; unfold sizeLine; omega
    · subst hI
      rw [mtL_len] at hj
      have hd : (mtL n L M)[j]? = some d := hd
      rw [mtL_get hj] at hd
      cases hd
      refine JG.name c1 5 fun X3 c3 => ?_
      refine JE.jv (je_slice (jv_name c3 5 (JO.som (jv_name c3 1 ⟨_, rfl, JO.non ⟨_, .inl rfl, ?_, rfl⟩⟩))))
      rw [cutD_drop]
      unfold rwL
      congr 1
      apply List.ext_getElem?
      intro c
      by_cases hc : c < L - n
      · rw [List.getElem?_drop, rwl_get (by omega), rwl_get hc]
      · rw [List.getElem?_eq_none (by rw [List.length_drop, List.length_map, List.length_range]; omega), List.getElem?_eq_none (by rw [List.length_map, List.length_range]; omega)]
    subst hI
    have eacc : acc = (List.range n).map fun i => rwL (L - n) fun c => M i (n + c) := by
      rw [mtL_len] at hacc
      apply List.ext_getElem?
      intro j
      by_cases hj : j < n
      · have hlt : j < acc.length := by omega
        rw [List.getElem?_eq_getElem hlt, hv j _ (List.getElem?_eq_getElem hlt), List.getElem?_map, rng_get hj]; rfl
      · rw [List.getElem?_eq_none (by omega), List.getElem?_eq_none (by rw [List.length_map, List.length_range]; omega)]
    subst eacc
    exact hR M hIM
/-! equations solved: the plain law -/
def rs (f : Nat → Rat) : Nat → Rat
  | 0 => 0
  | n + 1 => rs f n + f n
theorem rs_congr {f g : Nat → Rat} : ∀ {n : Nat}, (∀ j, j < n → f j = g j) → rs f n = rs g n
  | 0, _ => rfl
  | n + 1, h => by
    show rs f n + f n = rs g n + g n
    rw [rs_congr fun j hj => h j (by omega), h n (by omega)]
theorem rs_zero {f : Nat → Rat} : ∀ {n : Nat}, (∀ j, j < n → f j = 0) → rs f n = 0
  | 0, _ => rfl
  | n + 1, h => by
    show rs f n + f n = 0
    rw [rs_zero fun j hj => h j (by omega), h n (by omega)]; grind
theorem rs_add (f g : Nat → Rat) : ∀ n : Nat, rs (fun j => f j + g j) n = rs f n + rs g n
  | 0 => by show (0 : Rat) = 0 + 0; grind
  | n + 1 => by
    show rs (fun j => f j + g j) n + (f n + g n) = (rs f n + f n) + (rs g n + g n)
    rw [rs_add f g n]; grind
theorem rs_mul (c : Rat) (f : Nat → Rat) : ∀ n : Nat, rs (fun j => c * f j) n = c * rs f n
  | 0 => by show (0 : Rat) = c * 0; grind
  | n + 1 => by
    show rs (fun j => c * f j) n + c * f n = c * (rs f n + f n)
    rw [rs_mul c f n]; grind
theorem rs_stop {f : Nat → Rat} {m : Nat} : ∀ {n : Nat}, m ≤ n → (∀ j, m ≤ j → j < n → f j = 0) → rs f n = rs f m
  | 0, h, _ => by rw [Nat.le_zero.mp h]
  | n + 1, h, hz => by
    by_cases e : m = n + 1
    · rw [e]
    · show rs f n + f n = rs f m
      rw [rs_stop (by omega) fun j a b => hz j a (by omega), hz n (by omega) (by omega)]; grind
theorem rs_swap (f : Nat → Nat → Rat) (m : Nat) : ∀ n : Nat, rs (fun i => rs (f i) m) n = rs (fun j => rs (fun i => f i j) n) m
  | 0 => (rs_zero fun _ _ => rfl).symm
  | n + 1 => by
    show rs (fun i => rs (f i) m) n + rs (f n) m = rs (fun j => rs (fun i => f i j) n + f n j) m
    rw [rs_swap f m n, rs_add]
theorem rs_le {f g : Nat → Rat} : ∀ {n : Nat}, (∀ j, j < n → f j ≤ g j) → rs f n ≤ rs g n
  | 0, _ => Rat.le_refl
  | n + 1, h => by
    have h1 := rs_le (n := n) fun j hj => h j (by omega)
    have h2 := h n (by omega)
    show rs f n + f n ≤ rs g n + g n
    grind
theorem rs_nonneg {f : Nat → Rat} : ∀ {n : Nat}, (∀ j, j < n → 0 ≤ f j) → 0 ≤ rs f n
  | 0, _ => Rat.le_refl
  | n + 1, h => by
    have h1 := rs_nonneg (n := n) fun j hj => h j (by omega)
    have h2 := h n (by omega)
    show 0 ≤ rs f n + f n
    grind
theorem rs_pos_zero {f : Nat → Rat} : ∀ {n : Nat}, (∀ j, j < n → 0 ≤ f j) → rs f n = 0 → ∀ j, j < n → f j = 0
  | 0, _, _, j, hj => absurd hj (Nat.not_lt_zero j)
  | n + 1, h, e, j, hj => by
    have h1 := rs_nonneg (n := n) fun j hj => h j (by omega)
    have h2 := h n (by omega)
    have e : rs f n + f n = 0 := e
    have e1 : rs f n = 0 := by grind
    by_cases z : j = n
    · rw [z]; grind
    · exact rs_pos_zero (n := n) (fun j hj => h j (by omega)) e1 j (by omega)
def Ker (n w : Nat) (M : Nat → Nat → Rat) (y : Nat → Rat) : Prop := ∀ i < n, rs (fun j => M i j * y j) w = 0
def Unit' (n a : Nat) (M : Nat → Nat → Rat) : Prop := ∀ i < n, ∀ j < a, M i j = if i = j then 1 else 0
def NS (n w : Nat) (M : Nat → Nat → Rat) : Prop := ∀ y : Nat → Rat, (∀ j, n ≤ j → y j = 0) → Ker n w M y → ∀ j < n, y j = 0
section
variable {n w a p : Nat} {M : Nat → Nat → Rat}
theorem gj_unit (ha : a < n) (hp : a ≤ p) (hpn : p < n) (h0 : M p a ≠ 0) (u : Unit' n a M) : Unit' n (a + 1) (gjM M a p) := fun k hk j hj => by
  unfold gjM
  by_cases hka : k = a
  · rw [if_pos hka]
    unfold ldM
    rw [if_pos rfl]
    by_cases hja : j = a
    · rw [hja, if_pos hka]
      grind
    · have := u p hpn j (by omega)
      rw [if_neg (by omega)] at this
      show M p j / M p a = _
      rw [this, if_neg (by omega)]; grind
  · rw [if_neg hka]
    unfold rlF
    by_cases hja : j < a
    · rw [if_pos hja]
      unfold ldM
      rw [if_neg hka]
      by_cases hkp : k = p
      · have := u a ha j hja
        rw [if_pos hkp, this, if_neg (by omega), if_neg (by omega)]
      · rw [if_neg hkp, u k hk j hja]
    · have hja : j = a := by omega
      subst hja
      have e : ldM M j p j j = 1 := by unfold ldM; rw [if_pos rfl]; grind
      rw [if_neg hja, e, if_neg hka]; grind
theorem gj_ker (ha : a < n) (hp : a ≤ p) (hpn : p < n) (h0 : M p a ≠ 0) (u : Unit' n a M) {y : Nat → Rat} (k : Ker n w (gjM M a p) y) : Ker n w M y := by
  have sp : rs (fun j => M p j * y j) w = 0 := by
    have h := k a ha
    have e : ∀ j, j < w → gjM M a p a j * y j = (1 / M p a) * (M p j * y j) := fun j _ => by
      unfold gjM ldM
      rw [if_pos rfl, if_pos rfl]; grind
    rw [rs_congr e, rs_mul] at h
    have : M p a * ((1 / M p a) * rs (fun j => M p j * y j) w) = M p a * 0 := by rw [h]
    have e2 : M p a * ((1 / M p a) * rs (fun j => M p j * y j) w) = rs (fun j => M p j * y j) w := by grind
    rw [e2] at this; grind
  have sl : rs (fun j => ldM M a p a j * y j) w = 0 := by
    have h := k a ha
    have e : ∀ j, j < w → gjM M a p a j * y j = ldM M a p a j * y j := fun j _ => by unfold gjM; rw [if_pos rfl]
    rw [rs_congr e] at h; exact h
  have la : ∀ j, j < a → ldM M a p a j = 0 := fun j hj => by
    have := u p hpn j hj
    rw [if_neg (by omega)] at this
    unfold ldM
    rw [if_pos rfl, this]; grind
  have so : ∀ i, i < n → i ≠ a → rs (fun j => ldM M a p i j * y j) w = 0 := fun i hi hia => by
    have h := k i hi
    have e : ∀ j, j < w → gjM M a p i j * y j = ldM M a p i j * y j + (-(ldM M a p i a)) * (ldM M a p a j * y j) := fun j _ => by
      unfold gjM rlF
      rw [if_neg hia]
      by_cases hja : j < a
      · rw [if_pos hja, la j hja]; grind
      · rw [if_neg hja]; grind
    rw [rs_congr e, rs_add, rs_mul, sl] at h
    grind
  intro i hi
  by_cases hip : i = p
  · rw [hip]; exact sp
  by_cases hia : i = a
  · have h := so p hpn (by omega)
    have e : ldM M a p p = M a := by
      unfold ldM
      rw [if_neg (by omega), if_pos rfl]
    rw [e] at h
    rw [hia]; exact h
  · have h := so i hi hia
    have e : ldM M a p i = M i := by
      unfold ldM
      rw [if_neg hia, if_neg hip]
    rw [e] at h; exact h
/-- the sum along a row that is a unit row up to a place -/
theorem unit_sum {c : Nat → Rat} {i : Nat} (u : ∀ j < a, M i j = if i = j then 1 else 0) : ∀ k : Nat, k ≤ a → rs (fun j => M i j * c j) k = if i < k then c i else 0
  | 0, _ => by rw [if_neg (Nat.not_lt_zero i)]; rfl
  | k + 1, hk => by
    show rs (fun j => M i j * c j) k + M i k * c k = _
    rw [unit_sum u k (by omega), u k (by omega)]
    by_cases h : i = k
    · rw [h, if_neg (Nat.lt_irrefl k), if_pos rfl, if_pos (Nat.lt_succ_self k)]; grind
    · by_cases h2 : i < k
      · rw [if_pos h2, if_neg h, if_pos (by omega)]; grind
      · rw [if_neg h2, if_neg h, if_neg (by omega)]; grind
/-- a column behind the unit ones is told by the unit ones -/
def colY (M : Nat → Nat → Rat) (a c : Nat) : Nat → Rat := fun j => if j < a then -(M j c) else if j = c then 1 else 0
theorem colY_lt {c j : Nat} (h : j < a) : colY M a c j = -(M j c) := if_pos h
theorem colY_c {c : Nat} (h : a ≤ c) : colY M a c c = 1 := by unfold colY; rw [if_neg (by omega), if_pos rfl]
theorem colY_o {c j : Nat} (h : a ≤ j) (h2 : j ≠ c) : colY M a c j = 0 := by unfold colY; rw [if_neg (by omega), if_neg h2]
theorem col_sum {M0 : Nat → Nat → Rat} {i c : Nat} (hac : a ≤ c) (hcw : c < w) : rs (fun j => M0 i j * colY M a c j) w = rs (fun j => M0 i j * colY M a c j) a + M0 i c := by
  have e2 : rs (fun j => M0 i j * colY M a c j) c = rs (fun j => M0 i j * colY M a c j) a := rs_stop hac fun j h1 h2 => by
    rw [colY_o h1 (by omega)]; grind
  have e3 : rs (fun j => M0 i j * colY M a c j) (c + 1) = rs (fun j => M0 i j * colY M a c j) c + M0 i c * colY M a c c := rfl
  have e4 : rs (fun j => M0 i j * colY M a c j) w = rs (fun j => M0 i j * colY M a c j) (c + 1) := rs_stop (by omega) fun j h1 h2 => by
    rw [colY_o (by omega) (by omega)]; grind
  rw [e4, e3, e2, colY_c hac]; grind
theorem col_ker {c : Nat} (hac : a ≤ c) (hcw : c < w) (u : Unit' n a M) (hz : ∀ i, a ≤ i → i < n → M i c = 0) : Ker n w M (colY M a c) := fun i hi => by
  rw [col_sum hac hcw, unit_sum (u i hi) a (Nat.le_refl a)]
  by_cases h : i < a
  · rw [if_pos h, colY_lt h]; grind
  · rw [if_neg h, hz i (by omega) hi]; grind
theorem pivot_ex (ha : a < n) (hnw : n ≤ w) (u : Unit' n a M) (ns : NS n w M) : ∃ p, a ≤ p ∧ p < n ∧ M p a ≠ 0 ∧ ∀ i, a ≤ i → i < p → M i a = 0 := by
  have ex : ∃ p, a ≤ p ∧ p < n ∧ M p a ≠ 0 := by
    apply Classical.byContradiction
    intro h
    have hz : ∀ i, a ≤ i → i < n → M i a = 0 := fun i h1 h2 => Classical.byContradiction fun q => h ⟨i, h1, h2, q⟩
    have k := col_ker (w := w) (Nat.le_refl a) (by omega) u hz
    have := ns _ (fun j hj => colY_o (by omega) (by omega)) k a ha
    rw [colY_c (Nat.le_refl a)] at this
    exact absurd this (by decide)
  have key : ∀ m : Nat, ∀ p, p ≤ m → a ≤ p → p < n → M p a ≠ 0 → ∃ p, a ≤ p ∧ p < n ∧ M p a ≠ 0 ∧ ∀ i, a ≤ i → i < p → M i a = 0 := by
    intro m
    induction m with
    | zero => intro p h0 h1 h2 h3; exact ⟨p, h1, h2, h3, fun i a1 a2 => by omega⟩
    | succ m ih =>
      intro p h0 h1 h2 h3
      by_cases z : ∃ i, a ≤ i ∧ i < p ∧ M i a ≠ 0
      · obtain ⟨i, z1, z2, z3⟩ := z
        exact ih i (by omega) z1 (by omega) z3
      · exact ⟨p, h1, h2, h3, fun i a1 a2 => Classical.byContradiction fun q => z ⟨i, a1, a2, q⟩⟩
  obtain ⟨p, h1, h2, h3⟩ := ex
  exact key p p (Nat.le_refl p) h1 h2 h3
end
/-! sizes: a row by one bottom -/
def Bd (b w : Nat) (f : Nat → Rat) : Prop := ∃ d : Nat, 0 < d ∧ d < 2 ^ b ∧ ∀ j < w, ∃ u : Int, u.natAbs < 2 ^ b ∧ f j = mkRat u d
theorem SmB {b : Nat} (hb : b ≤ 4000) {u : Int} {d : Nat} (hd : 0 < d) (h1 : d < 2 ^ b) (h2 : u.natAbs < 2 ^ b) : Sm (mkRat u d) := by
  have hp : 2 ^ b ≤ 2 ^ 4000 := Nat.pow_le_pow_right (by decide) hb
  unfold Sm
  rw [Rat.num_mkRat, Rat.den_mkRat, if_neg (by omega), if_neg (by omega)]
  exact ⟨Nat.lt_of_lt_of_le (Nat.lt_of_le_of_lt (Int.natAbs_ediv_le_natAbs _ _) h2) hp, Nat.lt_of_lt_of_le (Nat.lt_of_le_of_lt (Nat.div_le_self _ _) h1) hp⟩
theorem mk_div {u : Int} {d : Nat} (hd : 0 < d) : mkRat u d = (u : Rat) / ((d : Int) : Rat) := by
  rw [← Rat.divInt_ofNat, Rat.divInt_eq_div]
theorem lead_bd {b w : Nat} {f : Nat → Rat} {a : Nat} (ha : a < w) (h : Bd b w f) (h0 : f a ≠ 0) : Bd b w (fun j => f j / f a) := by
  obtain ⟨d, d0, d1, hu⟩ := h
  obtain ⟨ua, ua1, ea⟩ := hu a ha
  have hua : ua ≠ 0 := fun z => h0 (by rw [ea, z, Rat.zero_mkRat])
  refine ⟨ua.natAbs, by omega, ua1, fun j hj => ?_⟩
  obtain ⟨uj, uj1, ej⟩ := hu j hj
  have hd : ((d : Int) : Rat) ≠ 0 := by
    intro z
    have : (d : Int) = 0 := by exact_mod_cast z
    omega
  have hr : (ua : Rat) ≠ 0 := by
    intro z
    exact hua (by exact_mod_cast z)
  by_cases s : 0 < ua
  · refine ⟨uj, uj1, ?_⟩
    have e : ((ua.natAbs : Nat) : Int) = ua := by omega
    show f j / f a = _
    rw [mk_div (by omega), e, ej, ea, mk_div d0, mk_div d0]
    grind
  · refine ⟨-uj, by omega, ?_⟩
    have e : ((ua.natAbs : Nat) : Int) = -ua := by omega
    show f j / f a = _
    rw [mk_div (by omega), e, ej, ea, mk_div d0, mk_div d0, Rat.intCast_neg, Rat.intCast_neg]
    grind
theorem less_bd {b w : Nat} {f l : Nat → Rat} {a : Nat} (ha : a < w) (hb : 0 < b) (h : Bd b w f) (hl : Bd b w l) : Bd (2 * b + 1) w (rlF f l (f a) a) ∧ ∀ j < w, ∃ (u : Int) (d : Nat), 0 < d ∧ d < 2 ^ (2 * b) ∧ u.natAbs < 2 ^ (2 * b) ∧ f a * l j = mkRat u d := by
  obtain ⟨d, d0, d1, hu⟩ := h
  obtain ⟨e, e0, e1, hv⟩ := hl
  obtain ⟨ua, ua1, ea⟩ := hu a ha
  have hd : ((d : Int) : Rat) ≠ 0 := by
    intro z
    have : (d : Int) = 0 := by exact_mod_cast z
    omega
  have he : ((e : Int) : Rat) ≠ 0 := by
    intro z
    have : (e : Int) = 0 := by exact_mod_cast z
    omega
  have p2 : 2 ^ (2 * b) = 2 ^ b * 2 ^ b := by rw [Nat.two_mul, Nat.pow_add]
  have p3 : 2 ^ (2 * b + 1) = 2 * 2 ^ (2 * b) := by rw [Nat.pow_succ]; omega
  have hde : d * e < 2 ^ (2 * b) := by rw [p2]; exact Nat.mul_lt_mul'' d1 e1
  have hdp : 0 < d * e := Nat.mul_pos d0 e0
  refine ⟨⟨d * e, hdp, by omega, fun j hj => ?_⟩, fun j hj => ?_⟩
  · obtain ⟨uj, uj1, ej⟩ := hu j hj
    obtain ⟨vj, vj1, ev⟩ := hv j hj
    have h1 : (uj * (e : Int)).natAbs < 2 ^ (2 * b) := by rw [Int.natAbs_mul, Int.natAbs_natCast, p2]; exact Nat.mul_lt_mul'' uj1 e1
    have h2 : (ua * vj).natAbs < 2 ^ (2 * b) := by rw [Int.natAbs_mul, p2]; exact Nat.mul_lt_mul'' ua1 vj1
    unfold rlF
    by_cases hja : j < a
    · rw [if_pos hja]
      refine ⟨uj * (e : Int), by omega, ?_⟩
      rw [ej, mk_div d0, mk_div hdp, Int.natCast_mul, Rat.intCast_mul, Rat.intCast_mul]
      grind
    · rw [if_neg hja]
      refine ⟨uj * (e : Int) - ua * vj, by omega, ?_⟩
      rw [ej, ea, ev, mk_div d0, mk_div d0, mk_div e0, mk_div hdp, Int.natCast_mul, Rat.intCast_mul, Rat.intCast_sub, Rat.intCast_mul, Rat.intCast_mul]
      grind
  · obtain ⟨vj, vj1, ev⟩ := hv j hj
    refine ⟨ua * vj, d * e, hdp, hde, by rw [Int.natAbs_mul, p2]; exact Nat.mul_lt_mul'' ua1 vj1, ?_⟩
    rw [ea, ev, mk_div d0, mk_div e0, mk_div hdp, Int.natCast_mul, Rat.intCast_mul, Rat.intCast_mul]
    grind
theorem Bd.mono {b c w : Nat} {f : Nat → Rat} (h : Bd b w f) (hc : b ≤ c) : Bd c w f := by
  obtain ⟨d, d0, d1, hu⟩ := h
  have hp : 2 ^ b ≤ 2 ^ c := Nat.pow_le_pow_right (by decide) hc
  refine ⟨d, d0, by omega, fun j hj => ?_⟩
  obtain ⟨u, u1, e⟩ := hu j hj
  exact ⟨u, by omega, e⟩
def bs (b : Nat) : Nat → Nat
  | 0 => b
  | a + 1 => 2 * bs b a + 1
theorem bs_mono (b : Nat) : ∀ {m n : Nat}, m ≤ n → bs b m ≤ bs b n
  | m, 0, h => by rw [Nat.le_zero.mp h]; exact Nat.le_refl _
  | m, n + 1, h => by
    by_cases e : m = n + 1
    · rw [e]; exact Nat.le_refl _
    · have := bs_mono b (m := m) (n := n) (by omega)
      show _ ≤ 2 * bs b n + 1
      omega
/-- what holds ahead of each step -/
structure GI (n w b : Nat) (M0 : Nat → Nat → Rat) (a : Nat) (M : Nat → Nat → Rat) : Prop where
  u : Unit' n a M
  ns : NS n w M
  back : ∀ y, Ker n w M y → Ker n w M0 y
  bd : ∀ i < n, Bd (bs b a) w (M i)
theorem GI.step {n w b : Nat} {M0 M : Nat → Nat → Rat} {a : Nat} (hnw : n ≤ w) (hb : 0 < b) (hb2 : bs b n ≤ 2000) (ha : a < n) (g : GI n w b M0 a M) : ∃ p, a ≤ p ∧ p < n ∧ M p a ≠ 0 ∧ (∀ i, a ≤ i → i < p → M i a = 0) ∧ SmM n w M a p ∧ GI n w b M0 (a + 1) (gjM M a p) := by
  obtain ⟨p, h1, h2, h3, h4⟩ := pivot_ex ha hnw g.u g.ns
  have hba : bs b a ≤ 2000 := Nat.le_trans (bs_mono b (by omega)) hb2
  have hb0 : 0 < bs b a := Nat.lt_of_lt_of_le hb (bs_mono b (Nat.zero_le a))
  have lb : Bd (bs b a) w (fun j => M p j / M p a) := lead_bd (by omega) (g.bd p h2) h3
  have lda : ldM M a p a = fun j => M p j / M p a := by unfold ldM; rw [if_pos rfl]
  have ldb : ∀ i < n, Bd (bs b a) w (ldM M a p i) := fun i hi => by
    by_cases hia : i = a
    · rw [hia, lda]; exact lb
    · unfold ldM
      rw [if_neg hia]
      split
      · exact g.bd a ha
      · exact g.bd i hi
  have smb : ∀ {f : Nat → Rat}, Bd (bs b a) w f → ∀ j < w, Sm (f j) := fun {f} ⟨d, d0, d1, hu⟩ j hj => by
    obtain ⟨u, u1, e⟩ := hu j hj
    rw [e]; exact SmB (by omega) d0 d1 u1
  refine ⟨p, h1, h2, h3, h4, fun i hi j hj => ⟨smb (g.bd i hi) j hj, smb lb j hj, ?_⟩, gj_unit ha h1 h2 h3 g.u, ?_, ?_, fun i hi => ?_⟩
  · obtain ⟨u, d, d0, d1, u1, e⟩ := (less_bd (a := a) (by omega) hb0 (ldb i hi) lb).2 j hj
    have e : ldM M a p i a * (M p j / M p a) = mkRat u d := e
    rw [e]; exact SmB (by omega) d0 d1 u1
  · exact fun y hy k => g.ns y hy (gj_ker ha h1 h2 h3 g.u k)
  · exact fun y k => g.back y (gj_ker ha h1 h2 h3 g.u k)
  · show Bd (2 * bs b a + 1) w (gjM M a p i)
    unfold gjM
    by_cases hia : i = a
    · rw [if_pos hia, lda]; exact lb.mono (by omega)
    · rw [if_neg hia]
      have := (less_bd (a := a) (by omega) hb0 (ldb i hi) (ldb a ha)).1
      exact this
theorem GI.start {n w b : Nat} {M0 : Nat → Nat → Rat} (ns : NS n w M0) (bd : ∀ i < n, Bd b w (M0 i)) : GI n w b M0 0 M0 :=
  ⟨fun i _ j hj => absurd hj (Nat.not_lt_zero j), ns, fun _ k => k, bd⟩
/-- behind the last step the columns behind the unknown ones are what is sought -/
theorem GI.done {n w b : Nat} {M0 M : Nat → Nat → Rat} (g : GI n w b M0 n M) {c : Nat} (h1 : n ≤ c) (h2 : c < w) : ∀ i < n, rs (fun j => M0 i j * M j c) n = M0 i c := fun i hi => by
  have k := g.back _ (col_ker (w := w) h1 h2 g.u fun i h1 h2 => by omega) i hi
  rw [col_sum h1 h2] at k
  have e0 : rs (fun j => M0 i j * colY M n c j) n = -(rs (fun j => M0 i j * M j c) n) := by
    have : ∀ j, j < n → M0 i j * colY M n c j = (-1) * (M0 i j * M j c) := fun j hj => by rw [colY_lt hj]; grind
    rw [rs_congr this, rs_mul]; grind
  rw [e0] at k
  grind
theorem GI.sm {n w b : Nat} {M0 M : Nat → Nat → Rat} (hb2 : bs b n ≤ 2000) (g : GI n w b M0 n M) {i j : Nat} (hi : i < n) (hj : j < w) : Sm (M i j) := by
  obtain ⟨d, d0, d1, hu⟩ := g.bd i hi
  obtain ⟨u, u1, e⟩ := hu j hj
  rw [e]; exact SmB (by omega) d0 d1 u1
/-- where a move leads -/
def rw_ (mv : List (Int × List Int)) (n : Int) : List Int := (mv.getD n.toNat (0, [])).2
def NumOk (mv : List (Int × List Int)) (n : Int) : Prop := 0 ≤ n ∧ n < mv.length
theorem rw_get {mv : List (Int × List Int)} {n : Int} (h : NumOk mv n) : ∃ wt, mv[n.toNat]? = some (wt, rw_ mv n) := by
  have hlt : n.toNat < mv.length := by have := h.1; have := h.2; omega
  refine ⟨mv[n.toNat].1, ?_⟩
  rw [List.getElem?_eq_getElem hlt]
  simp [rw_, List.getD_eq_getElem?_getD, List.getElem?_eq_getElem hlt]
theorem Ch.row {many : Int} {mv : List (Int × List Int)} (c : Ch many mv) {n : Int} (h : NumOk mv n) : ((rw_ mv n).length : Int) = many ∧ ∀ x ∈ rw_ mv n, 0 ≤ x ∧ x < many := by
  obtain ⟨wt, h1⟩ := rw_get h
  exact (c.mv _ (List.mem_of_getElem? h1)).2
theorem Ch.rowI {many : Int} {mv : List (Int × List Int)} (c : Ch many mv) {n p : Int} (h : NumOk mv n) (h0 : 0 ≤ p) (h1 : p < many) : 0 ≤ gI (rw_ mv n) p ∧ gI (rw_ mv n) p < many := (c.row h).2 _ (gI_mem h0 (by rw [(c.row h).1]; exact h1))
theorem map_acc {ns : List Int} {acc : List D} {f : Int → Int} (hl : acc.length = ns.length) (h : ∀ (i : Nat) (d : D), acc[i]? = some d → ∀ x, ns[i]? = some x → d = .int (f x)) : acc = (ns.map f).map D.int := by
  rw [List.map_map]
  apply List.ext_getElem?
  intro i
  by_cases hi : i < ns.length
  · have hlt : i < acc.length := by omega
    rw [List.getElem?_map, List.getElem?_eq_getElem hi, List.getElem?_eq_getElem hlt]
    rw [h i _ (List.getElem?_eq_getElem hlt) _ (List.getElem?_eq_getElem hi)]; rfl
  · rw [List.getElem?_eq_none (by omega), List.getElem?_eq_none (by simp; omega)]
/-- a place behind some moves in turn -/
def Wk (mv : List (Int × List Int)) : List Int → Int → Int
  | [], p => p
  | n :: ns, p => Wk mv ns (gI (rw_ mv n) p)
theorem Wk_app {mv : List (Int × List Int)} : ∀ (a b : List Int) (p : Int), Wk mv (a ++ b) p = Wk mv b (Wk mv a p)
  | [], _, _ => rfl
  | n :: a, b, p => Wk_app a b _
theorem Wk_ok {many : Int} {mv : List (Int × List Int)} (c : Ch many mv) : ∀ (ns : List Int) (p : Int), (∀ n ∈ ns, NumOk mv n) → 0 ≤ p → p < many → 0 ≤ Wk mv ns p ∧ Wk mv ns p < many
  | [], p, _, h0, h1 => ⟨h0, h1⟩
  | n :: ns, p, h, h0, h1 => by
    have := c.rowI (h n (by simp)) h0 h1
    exact Wk_ok c ns _ (fun m hm => h m (by simp [hm])) this.1 this.2
/-- where all walks end that begin so far back -/
def ends (many : Int) (mv : List (Int × List Int)) (ns : List Int) (f : Nat) : List Int := (rg many).map (Wk mv (ns.take f).reverse)
theorem ends_zero (many : Int) (mv : List (Int × List Int)) (ns : List Int) : ends many mv ns 0 = rg many := by
  unfold ends; simp [Wk]
theorem ends_len (many : Int) (mv : List (Int × List Int)) (ns : List Int) (f : Nat) : (ends many mv ns f).length = many.toNat := by unfold ends; rw [List.length_map, rg_len]
theorem ends_succ {many : Int} {mv : List (Int × List Int)} {ns : List Int} {f : Nat} {n : Int} (c : Ch many mv) (hn : ∀ n ∈ ns, NumOk mv n) (h : ns[f]? = some n) : ends many mv ns (f + 1) = (rw_ mv n).map (gI (ends many mv ns f)) := by
  have ok := hn n (List.mem_of_getElem? h)
  symm
  unfold ends
  refine eq_rg (by rw [List.length_map]; have := (c.row ok).1; omega) fun i hi => ?_
  have hr := (c.row ok).1
  rw [gI_map (by omega) (by omega)]
  have hx := c.rowI (p := i) ok (by omega) (by omega)
  rw [gI_rgmap hx.1 hx.2]
  have ht : (ns.take (f + 1)).reverse = n :: (ns.take f).reverse := by
    rw [List.take_add_one, h]; simp
  rw [ht]; rfl
inductive Dr (many : Int) (mv : List (Int × List Int)) (ns : List Int) : D → Prop
  | one {f : Nat} (h : f ≤ ns.length) (o : One (ends many mv ns f)) (n : ∀ g < f, ¬ One (ends many mv ns g)) : Dr many mv ns (.tup [.int (gI (ends many mv ns f) 0), .int f])
  | none (n : ∀ g ≤ ns.length, ¬ One (ends many mv ns g)) : Dr many mv ns .non
theorem Dr.uniq {many : Int} {mv : List (Int × List Int)} {ns : List Int} {d e : D} (h : Dr many mv ns d) (h' : Dr many mv ns e) : d = e := by
  cases h with
  | @one f h1 o n => cases h' with
    | @one g h2 o' n' =>
      have : f = g := by
        rcases Nat.lt_trichotomy f g with q | q | q
        · exact absurd o (n' f q)
        · exact q
        · exact absurd o' (n g q)
      subst this; rfl
    | none n' => exact absurd o (n' f h1)
  | none n => cases h' with
    | @one g h2 o' n' => exact absurd o' (n g h2)
    | none n' => rfl
/-! what can be come to -/
def Rch (mv : List (Int × List Int)) (p q : Int) : Prop := ∃ ns : List Int, (∀ n ∈ ns, NumOk mv n) ∧ Wk mv ns p = q
theorem Rch.refl {mv : List (Int × List Int)} (p : Int) : Rch mv p p := ⟨[], fun n h => (by cases h), rfl⟩
theorem Rch.trans {mv : List (Int × List Int)} {p q r : Int} (a : Rch mv p q) (b : Rch mv q r) : Rch mv p r := by
  obtain ⟨n1, h1, rfl⟩ := a
  obtain ⟨n2, h2, rfl⟩ := b
  exact ⟨n1 ++ n2, fun n hn => (List.mem_append.mp hn).elim (h1 n) (h2 n), Wk_app _ _ _⟩
theorem Rch.step {mv : List (Int × List Int)} {p q n : Int} (a : Rch mv p q) (h : NumOk mv n) : Rch mv p (gI (rw_ mv n) q) :=
  a.trans ⟨[n], fun m hm => by rcases List.mem_singleton.mp hm with rfl; exact h, rfl⟩
theorem Rch.ok {many : Int} {mv : List (Int × List Int)} (c : Ch many mv) {p q : Int} (h : Rch mv p q) (p0 : 0 ≤ p) (p1 : p < many) : 0 ≤ q ∧ q < many := by
  obtain ⟨ns, h1, rfl⟩ := h
  exact Wk_ok c ns p h1 p0 p1
/-- what holds of the first one and is carried on by moves -/
theorem Rch.closed {mv : List (Int × List Int)} {S : Int → Prop} (hs : ∀ x, S x → ∀ n, NumOk mv n → S (gI (rw_ mv n) x)) {p q : Int} (h : Rch mv p q) (hp : S p) : S q := by
  obtain ⟨ns, h1, rfl⟩ := h
  induction ns generalizing p with
  | nil => exact hp
  | cons n ns ih => exact ih (hs p hp n (h1 n (by simp))) (fun m hm => h1 m (by simp [hm]))
open Classical in
noncomputable def rchL (many : Int) (mv : List (Int × List Int)) (p : Int) : List Int := (rg many).filter fun q => decide (Rch mv p q)
theorem rg_lt (n : Int) : (rg n).Pairwise (· < ·) := by
  unfold rg
  rw [List.pairwise_map]
  exact List.pairwise_lt_range.imp fun h => by omega
theorem rchL_lt (many : Int) (mv : List (Int × List Int)) (p : Int) : (rchL many mv p).Pairwise (· < ·) := (rg_lt many).filter _
open Classical in
theorem rchL_mem {many : Int} {mv : List (Int × List Int)} (c : Ch many mv) {p q : Int} (p0 : 0 ≤ p) (p1 : p < many) : q ∈ rchL many mv p ↔ Rch mv p q := by
  unfold rchL
  rw [List.mem_filter, decide_eq_true_eq, rg_mem]
  exact ⟨fun h => h.2, fun h => ⟨h.ok c p0 p1, h⟩⟩
theorem rchL_in {many : Int} {mv : List (Int × List Int)} {p q : Int} (h : q ∈ rchL many mv p) : 0 ≤ q ∧ q < many := rg_mem.mp (List.mem_filter.mp h).1
theorem rchL_len {many : Int} {mv : List (Int × List Int)} {p : Int} : (rchL many mv p).length ≤ many.toNat := by
  have := List.length_filter_le (fun q => @decide (Rch mv p q) (Classical.propDecidable _)) (rg many)
  rw [rg_len] at this
  exact this
theorem rchL_uniq {many : Int} {mv : List (Int × List Int)} {p : Int} {l : List Int} (h : l.Pairwise (· < ·)) (hm : ∀ q, q ∈ l ↔ q ∈ rchL many mv p) : l = rchL many mv p := ss_uniq h (rchL_lt _ _ _) hm
/-- the reach of what is come to -/
theorem rchL_sub {many : Int} {mv : List (Int × List Int)} (c : Ch many mv) {p o : Int} (p0 : 0 ≤ p) (p1 : p < many) (h : o ∈ rchL many mv p) {q : Int} (hq : q ∈ rchL many mv o) : q ∈ rchL many mv p := by
  have ho := rchL_in h
  exact (rchL_mem c p0 p1).mpr (((rchL_mem c p0 p1).mp h).trans ((rchL_mem c ho.1 ho.2).mp hq))
theorem rchL_eq {many : Int} {mv : List (Int × List Int)} (c : Ch many mv) {p o : Int} (p0 : 0 ≤ p) (p1 : p < many) (h : o ∈ rchL many mv p) (h2 : p ∈ rchL many mv o) : rchL many mv o = rchL many mv p := by
  have ho := rchL_in h
  exact ss_uniq (rchL_lt _ _ _) (rchL_lt _ _ _) fun q => ⟨rchL_sub c p0 p1 h, rchL_sub c ho.1 ho.2 h2⟩
theorem rchL_self {many : Int} {mv : List (Int × List Int)} (c : Ch many mv) {p : Int} (p0 : 0 ≤ p) (p1 : p < many) : p ∈ rchL many mv p := (rchL_mem c p0 p1).mpr (.refl p)
/-- closed, and the least of its group -/
def Cls1 (many : Int) (mv : List (Int × List Int)) (p : Int) : Prop := ∀ o ∈ rchL many mv p, p ∈ rchL many mv o
def Lst1 (many : Int) (mv : List (Int × List Int)) (p : Int) : Prop := ∀ o ∈ rchL many mv p, p ≤ o
open Classical in
noncomputable def clB (many : Int) (mv : List (Int × List Int)) (p : Int) : Bool := decide (Lst1 many mv p ∧ Cls1 many mv p)
noncomputable def clTo (many : Int) (mv : List (Int × List Int)) (i : Nat) : List (List Int) := (((rg many).take i).filter (clB many mv)).map (rchL many mv)
noncomputable def clF (many : Int) (mv : List (Int × List Int)) : List (List Int) := clTo many mv many.toNat
theorem clTo_succ {many : Int} {mv : List (Int × List Int)} {i : Nat} (hi : i < many.toNat) : clTo many mv (i + 1) = clTo many mv i ++ (if clB many mv (i : Nat) = true then [rchL many mv (i : Nat)] else []) := by
  unfold clTo
  rw [List.take_add_one, rg_get hi, List.filter_append, List.map_append]
  congr 1
  by_cases h : clB many mv ((i : Nat) : Int) = true
  · rw [if_pos h]; simp [h]
  · rw [if_neg h]; simp [h]
theorem clTo_len {many : Int} {mv : List (Int × List Int)} {i : Nat} : (clTo many mv i).length ≤ many.toNat := by
  unfold clTo
  rw [List.length_map]
  have h1 := List.length_filter_le (clB many mv) ((rg many).take i)
  have h2 : ((rg many).take i).length ≤ many.toNat := by rw [List.length_take, rg_len]; omega
  omega
theorem rg_take_mem {many : Int} {i : Nat} {x : Int} : x ∈ (rg many).take i ↔ 0 ≤ x ∧ x < many ∧ x < i := by
  constructor
  · intro h
    obtain ⟨j, hj⟩ := List.getElem?_of_mem h
    by_cases hji : j < i
    · rw [List.getElem?_take_of_lt hji] at hj
      have hlt := (List.getElem?_eq_some_iff.mp hj).1
      rw [rg_len] at hlt
      rw [rg_get hlt] at hj
      cases hj
      omega
    · rw [List.getElem?_eq_none (by rw [List.length_take]; omega)] at hj; cases hj
  · intro ⟨h0, h1, h2⟩
    have hlt : x.toNat < many.toNat := by omega
    have := rg_get hlt
    refine List.mem_of_getElem? (i := x.toNat) ?_
    rw [List.getElem?_take_of_lt (by omega), this]
    congr 1; omega
open Classical in
/-- a group that is closed is already there just if its least place was met -/
theorem clTo_mem {many : Int} {mv : List (Int × List Int)} (c : Ch many mv) {i : Nat} (hi : i < many.toNat) (h : Cls1 many mv (i : Nat)) : rchL many mv (i : Nat) ∈ clTo many mv i ↔ ¬ Lst1 many mv (i : Nat) := by
  have i0 : (0 : Int) ≤ (i : Nat) := by omega
  have i1 : ((i : Nat) : Int) < many := by omega
  constructor
  · intro hm hl
    obtain ⟨q, hq, e⟩ := List.mem_map.mp hm
    obtain ⟨hq1, hq2⟩ := List.mem_filter.mp hq
    obtain ⟨q0, q1, q2⟩ := rg_take_mem.mp hq1
    have : q ∈ rchL many mv (i : Nat) := by rw [← e]; exact rchL_self c q0 q1
    have := hl q this
    omega
  · intro hn
    -- the least of the group
    have : ∃ m, m ∈ rchL many mv (i : Nat) ∧ ∀ o ∈ rchL many mv (i : Nat), m ≤ o := by
      have hs := rchL_lt many mv (i : Nat)
      cases hr : rchL many mv ((i : Nat) : Int) with
      | nil => have := rchL_self c i0 i1; rw [hr] at this; cases this
      | cons m r =>
        rw [hr] at hs
        refine ⟨m, by simp, fun o ho => ?_⟩
        rcases List.mem_cons.mp ho with rfl | ho
        · exact Int.le_refl _
        · exact Int.le_of_lt ((List.pairwise_cons.mp hs).1 o ho)
    obtain ⟨m, hm, hmin⟩ := this
    have hm2 := rchL_in hm
    have e := rchL_eq c i0 i1 hm (h m hm)
    have hlt : m < (i : Nat) := by
      apply Classical.byContradiction
      intro z
      refine hn fun o ho => ?_
      have := hmin o ho
      omega
    refine List.mem_map.mpr ⟨m, List.mem_filter.mpr ⟨rg_take_mem.mpr ⟨hm2.1, hm2.2, hlt⟩, ?_⟩, e⟩
    refine decide_eq_true ⟨fun o ho => ?_, fun o ho => ?_⟩
    · rw [e] at ho; exact hmin o ho
    · rw [e] at ho
      have := rchL_eq c i0 i1 ho (h o ho)
      rw [this]; exact hm
open Classical in
/-- there is one -/
theorem clF_ne {many : Int} {mv : List (Int × List Int)} (c : Ch many mv) : clF many mv ≠ [] := by
  have m1 := c.m1
  -- a place with the fewest
  have go : ∀ (n : Nat) (p : Int), 0 ≤ p → p < many → (rchL many mv p).length ≤ n → ∃ q, 0 ≤ q ∧ q < many ∧ Cls1 many mv q := by
    intro n
    induction n with
    | zero =>
      intro p p0 p1 hl
      have := rchL_self c p0 p1
      cases hr : rchL many mv p with
      | nil => rw [hr] at this; cases this
      | cons a r => rw [hr] at hl; simp at hl
    | succ n ih =>
      intro p p0 p1 hl
      by_cases h : Cls1 many mv p
      · exact ⟨p, p0, p1, h⟩
      · have : ∃ o, o ∈ rchL many mv p ∧ p ∉ rchL many mv o := by
          apply Classical.byContradiction
          intro z
          exact h fun o ho => Classical.byContradiction fun z2 => z ⟨o, ho, z2⟩
        obtain ⟨o, ho, hn⟩ := this
        have ho2 := rchL_in ho
        refine ih o ho2.1 ho2.2 ?_
        have hsub : ∀ x, x ∈ p :: rchL many mv o → x ∈ rchL many mv p := fun x hx => by
          rcases List.mem_cons.mp hx with rfl | hx
          · exact rchL_self c p0 p1
          · exact rchL_sub c p0 p1 ho hx
        have := List.Nodup.length_le_of_subset (List.nodup_cons.mpr ⟨hn, nodup_lt (rchL_lt many mv o)⟩) (l₂ := rchL many mv p) hsub
        rw [List.length_cons] at this
        omega
  obtain ⟨q, q0, q1, hq⟩ := go _ 0 (Int.le_refl _) (by omega) (Nat.le_refl _)
  -- its least one
  intro z
  have hi : q.toNat < many.toNat := by omega
  have eq : ((q.toNat : Nat) : Int) = q := by omega
  by_cases hl : Lst1 many mv q
  · have : rchL many mv q ∈ clF many mv := List.mem_map.mpr ⟨q, List.mem_filter.mpr ⟨rg_take_mem.mpr ⟨q0, q1, by omega⟩, decide_eq_true ⟨hl, hq⟩⟩, rfl⟩
    rw [z] at this; cases this
  · have := (clTo_mem c hi (by rw [eq]; exact hq)).mpr (by rw [eq]; exact hl)
    obtain ⟨m, hm, _⟩ := List.mem_map.mp this
    obtain ⟨hm1, hm2⟩ := List.mem_filter.mp hm
    have hm3 := rg_take_mem.mp hm1
    have : rchL many mv m ∈ clF many mv := List.mem_map.mpr ⟨m, List.mem_filter.mpr ⟨rg_take_mem.mpr ⟨hm3.1, hm3.2.1, by omega⟩, hm2⟩, rfl⟩
    rw [z] at this; cases this
/-- places that are come to in so many steps -/
def stg (mv : List (Int × List Int)) (p : Int) : Nat → List Int
  | 0 => [p]
  | t + 1 => ss (stg mv p t ++ mv.flatMap fun m => (stg mv p t).map fun x => gI m.2 x)
theorem stg_mem {mv : List (Int × List Int)} {p : Int} {t : Nat} {x : Int} : x ∈ stg mv p (t + 1) ↔ x ∈ stg mv p t ∨ ∃ n, NumOk mv n ∧ ∃ y ∈ stg mv p t, gI (rw_ mv n) y = x := by
  show x ∈ ss _ ↔ _
  rw [ss_mem, List.mem_append, List.mem_flatMap]
  refine or_congr Iff.rfl ⟨fun ⟨m, hm, h⟩ => ?_, fun ⟨n, ok, y, hy, e⟩ => ?_⟩
  · obtain ⟨y, hy, e⟩ := List.mem_map.mp h
    obtain ⟨j, hj⟩ := List.getElem?_of_mem hm
    have hlt := (List.getElem?_eq_some_iff.mp hj).1
    refine ⟨(j : Nat), ⟨by omega, by omega⟩, y, hy, ?_⟩
    have : rw_ mv ((j : Nat) : Int) = m.2 := by simp [rw_, hj]
    rw [this]; exact e
  · obtain ⟨wt, hg⟩ := rw_get ok
    exact ⟨_, List.mem_of_getElem? hg, List.mem_map.mpr ⟨y, hy, e⟩⟩
theorem stg_rch {mv : List (Int × List Int)} {p : Int} : ∀ {t : Nat} {x : Int}, x ∈ stg mv p t → Rch mv p x
  | 0, x, h => by rcases List.mem_singleton.mp h with rfl; exact .refl _
  | t + 1, x, h => by
    rcases stg_mem.mp h with h | ⟨n, ok, y, hy, rfl⟩
    · exact stg_rch h
    · exact (stg_rch hy).step ok
theorem stg_lt {mv : List (Int × List Int)} {p : Int} : ∀ t, (stg mv p t).Pairwise (· < ·)
  | 0 => List.pairwise_singleton _ _
  | t + 1 => ss_sorted _
def stgC (mv : List (Int × List Int)) (p : Int) (t : Nat) : Prop := ∀ x ∈ stg mv p t, ∀ n, NumOk mv n → gI (rw_ mv n) x ∈ stg mv p t
theorem stg_grow {mv : List (Int × List Int)} {p : Int} : ∀ t, stgC mv p t ∨ t + 1 ≤ (stg mv p t).length
  | 0 => .inr (Nat.le_refl _)
  | t + 1 => by
    by_cases hc : stgC mv p t
    · left
      intro x hx n ok
      have back : ∀ x, x ∈ stg mv p (t + 1) → x ∈ stg mv p t := fun x hx => by
        rcases stg_mem.mp hx with h | ⟨n, ok, y, hy, rfl⟩
        · exact h
        · exact hc y hy n ok
      exact stg_mem.mpr (.inl (hc x (back x hx) n ok))
    · rcases stg_grow (mv := mv) (p := p) t with h | h
      · exact absurd h hc
      right
      have : ∃ y, y ∈ stg mv p (t + 1) ∧ y ∉ stg mv p t := by
        apply Classical.byContradiction
        intro z
        refine hc fun x hx n ok => Classical.byContradiction fun z2 => z ⟨_, stg_mem.mpr (.inr ⟨n, ok, x, hx, rfl⟩), z2⟩
      obtain ⟨y, hy, hn⟩ := this
      have hsub : ∀ x, x ∈ y :: stg mv p t → x ∈ stg mv p (t + 1) := fun x hx => by
        rcases List.mem_cons.mp hx with rfl | hx
        · exact hy
        · exact stg_mem.mpr (.inl hx)
      have := List.Nodup.length_le_of_subset (List.nodup_cons.mpr ⟨hn, nodup_lt (stg_lt t)⟩) (l₂ := stg mv p (t + 1)) hsub
      rw [List.length_cons] at this
      omega
theorem stg_sub {mv : List (Int × List Int)} {p : Int} : ∀ t, p ∈ stg mv p t
  | 0 => by simp [stg]
  | t + 1 => stg_mem.mpr (.inl (stg_sub t))
theorem stg_in {many : Int} {mv : List (Int × List Int)} (c : Ch many mv) {p : Int} (p0 : 0 ≤ p) (p1 : p < many) {t : Nat} {x : Int} (h : x ∈ stg mv p t) : 0 ≤ x ∧ x < many := (stg_rch h).ok c p0 p1
theorem stg_len {many : Int} {mv : List (Int × List Int)} (c : Ch many mv) {p : Int} (p0 : 0 ≤ p) (p1 : p < many) (t : Nat) : (stg mv p t).length ≤ many.toNat := by
  have := List.Nodup.length_le_of_subset (nodup_lt (stg_lt (mv := mv) (p := p) t)) (l₂ := rg many) fun x hx => rg_mem.mpr (stg_in c p0 p1 hx)
  rw [rg_len] at this
  exact this
theorem stg_all {many : Int} {mv : List (Int × List Int)} (c : Ch many mv) {p : Int} (p0 : 0 ≤ p) (p1 : p < many) : stg mv p many.toNat = rchL many mv p := by
  refine rchL_uniq (stg_lt _) fun q => ⟨fun h => (rchL_mem c p0 p1).mpr (stg_rch h), fun h => ?_⟩
  have hl := stg_len c p0 p1 many.toNat
  rcases stg_grow (mv := mv) (p := p) many.toNat with hc | hc
  · exact Rch.closed (S := fun x => x ∈ stg mv p many.toNat) (fun x hx n ok => hc x hx n ok) ((rchL_mem c p0 p1).mp h) (stg_sub _)
  · omega
/-! chances by weights -/
def cwt (l : List (Int × List Int)) (p q : Int) : Int := (l.map fun m => if gI m.2 p = q then m.1 else 0).sum
def csm (l : List (Int × List Int)) (p : Int) (k : Nat) : Int := (l.map fun m => if gI m.2 p < (k : Int) then m.1 else 0).sum
def cfr (w : Int) (l : List (Int × List Int)) (p q : Int) : Rat := mkRat (cwt l p q) w.toNat
theorem mk_addW {a b : Int} {w : Nat} (h : w ≠ 0) : mkRat a w + mkRat b w = mkRat (a + b) w := by
  rw [Rat.mkRat_add_mkRat _ _ h h, ← Int.add_mul, Rat.mkRat_mul_right h]
theorem SmW {a b : Int} (hb : 0 < b) (h1 : b.natAbs < 2 ^ 4000) (h2 : a.natAbs < 2 ^ 4000) : Sm (mkRat a b.toNat) := by
  unfold Sm
  rw [Rat.num_mkRat, Rat.den_mkRat, if_neg (by omega), if_neg (by omega)]
  exact ⟨Nat.lt_of_le_of_lt (Int.natAbs_ediv_le_natAbs _ _) h2, Nat.lt_of_le_of_lt (Nat.div_le_self _ _) (by omega)⟩
theorem small_nat {a : Int} (h0 : 0 ≤ a) (h : a ≤ 100000) : a.natAbs < 2 ^ 4000 := Nat.lt_of_lt_of_le (by omega : a.natAbs < 2 ^ 17) (Nat.pow_le_pow_right (by decide) (by decide))
theorem oneW {w : Int} (h : 0 < w) : mkRat w w.toNat = 1 := by
  obtain ⟨k, rfl⟩ : ∃ k : Nat, w = k := ⟨w.toNat, by omega⟩
  have e := Rat.mkRat_mul_left (n := 1) (d := 1) (a := k) (by omega)
  rw [Int.mul_one, Nat.mul_one] at e
  rw [Int.toNat_natCast, e]; rfl
theorem sum_bnd {l : List (Int × List Int)} (h : ∀ m ∈ l, 0 ≤ m.1) (c : Int × List Int → Prop) [DecidablePred c] : 0 ≤ (l.map fun m => if c m then m.1 else 0).sum ∧ (l.map fun m => if c m then m.1 else 0).sum ≤ wsum l := by
  induction l with
  | nil => exact ⟨Int.le_refl _, Int.le_refl _⟩
  | cons m l ih =>
    have h1 := h m (by simp)
    obtain ⟨h2, h3⟩ := ih fun x hx => h x (by simp [hx])
    unfold wsum at h3 ⊢
    simp only [List.map_cons, List.sum_cons]
    split <;> omega
theorem cwt_le {many : Int} {mv : List (Int × List Int)} (c : Ch many mv) (i : Nat) (p q : Int) : 0 ≤ cwt (mv.take i) p q ∧ cwt (mv.take i) p q ≤ wsum mv := by
  have h0 : ∀ m ∈ mv, 0 ≤ m.1 := fun m hm => by have h : 1 ≤ m.1 := (c.mv m hm).1.1; omega
  obtain ⟨h1, h2⟩ := sum_bnd (l := mv.take i) (fun m hm => h0 m (List.mem_of_mem_take hm)) fun m => gI m.2 p = q
  refine ⟨h1, Int.le_trans h2 ?_⟩
  have e : wsum mv = wsum (mv.take i) + wsum (mv.drop i) := by
    unfold wsum
    rw [← List.sum_append, ← List.map_append, List.take_append_drop]
  have h3 := sum_bnd (l := mv.drop i) (fun m hm => h0 m (List.mem_of_mem_drop hm)) fun _ => False
  have : (0 : Int) ≤ wsum (mv.drop i) := by omega
  omega
theorem cwt_all {many : Int} {mv : List (Int × List Int)} (c : Ch many mv) (p q : Int) : 0 ≤ cwt mv p q ∧ cwt mv p q ≤ wsum mv := by
  have := cwt_le c mv.length p q
  rwa [List.take_length] at this
theorem cfr_sm {many : Int} {mv : List (Int × List Int)} (c : Ch many mv) (i : Nat) (p q : Int) : Sm (cfr (wsum mv) (mv.take i) p q) := by
  obtain ⟨h1, h2⟩ := wsum_pos c
  have := cwt_le c i p q
  exact SmW (by omega) (small_nat (by omega) (by omega)) (small_nat (by omega) (by omega))
theorem cwt_succ {mv : List (Int × List Int)} {i : Nat} {wt : Int} {row : List Int} (h : mv[i]? = some (wt, row)) (p q : Int) : cwt (mv.take (i + 1)) p q = cwt (mv.take i) p q + if gI row p = q then wt else 0 := by
  unfold cwt
  rw [List.take_add_one, h, List.map_append, List.sum_append]
  simp
theorem rg_setD {α : Type} {many : Int} {f g : Int → α} {q : Int} (h0 : 0 ≤ q) (h1 : q < many) (h : ∀ p, p ≠ q → g p = f p) : ((rg many).map f).set q.toNat (g q) = (rg many).map g := by
  apply List.ext_getElem?
  intro i
  by_cases hi : i < many.toNat
  · by_cases z : q.toNat = i
    · subst z
      rw [List.getElem?_set_self (by rw [List.length_map, rg_len]; exact hi), List.getElem?_map, rg_get hi]
      show some (g q) = some (g ((q.toNat : Nat) : Int))
      rw [show ((q.toNat : Nat) : Int) = q by omega]
    · rw [List.getElem?_set_ne z, List.getElem?_map, List.getElem?_map, rg_get hi]
      show some (f _) = some (g _)
      rw [h _ (by omega)]
  · rw [List.getElem?_eq_none (by rw [List.length_set, List.length_map, rg_len]; omega), List.getElem?_eq_none (by rw [List.length_map, rg_len]; omega)]
theorem rg_getD {α : Type} {many : Int} {f : Int → α} {q : Int} (h0 : 0 ≤ q) (h1 : q < many) : ((rg many).map f)[q.toNat]? = some (f q) := by
  rw [List.getElem?_map, rg_get (by omega)]
  show some (f ((q.toNat : Nat) : Int)) = _
  rw [show ((q.toNat : Nat) : Int) = q by omega]
def rowC (many w : Int) (l : List (Int × List Int)) (p : Int) : List Rat := (rg many).map fun q => cfr w l p q
theorem rowC_step {many w : Int} {mv : List (Int × List Int)} {i : Nat} {wt : Int} {row : List Int} (hw : 0 < w) (h : mv[i]? = some (wt, row)) (p : Int) (h0 : 0 ≤ gI row p) (h1 : gI row p < many) :
    ((rowC many w (mv.take i) p).map frD).set (gI row p).toNat (frD (cfr w (mv.take i) p (gI row p) + mkRat wt w.toNat)) = (rowC many w (mv.take (i + 1)) p).map frD := by
  have e : cfr w (mv.take i) p (gI row p) + mkRat wt w.toNat = cfr w (mv.take (i + 1)) p (gI row p) := by
    unfold cfr
    rw [mk_addW (by omega), cwt_succ h, if_pos rfl]
  rw [e]
  unfold rowC
  rw [List.map_map, List.map_map]
  refine rg_setD (f := frD ∘ fun q => cfr w (mv.take i) p q) (g := frD ∘ fun q => cfr w (mv.take (i + 1)) p q) h0 h1 fun q hq => ?_
  show frD (cfr w (mv.take (i + 1)) p q) = frD (cfr w (mv.take i) p q)
  unfold cfr
  rw [cwt_succ h, if_neg (fun z => hq z.symm), Int.add_zero]
theorem csm_succ (l : List (Int × List Int)) (p : Int) (k : Nat) : csm l p (k + 1) = csm l p k + cwt l p (k : Int) := by
  unfold csm cwt
  induction l with
  | nil => rfl
  | cons m l ih =>
    simp only [List.map_cons, List.sum_cons]
    rw [ih]
    split <;> split <;> split <;> omega
theorem csm_zero {l : List (Int × List Int)} {p : Int} (h : ∀ m ∈ l, 0 ≤ gI m.2 p) : csm l p 0 = 0 := by
  unfold csm
  induction l with
  | nil => rfl
  | cons m l ih =>
    have := h m (by simp)
    simp only [List.map_cons, List.sum_cons]
    rw [ih fun x hx => h x (by simp [hx]), if_neg (by omega)]; rfl
theorem csm_full {l : List (Int × List Int)} {p : Int} {k : Nat} (h : ∀ m ∈ l, gI m.2 p < (k : Int)) : csm l p k = wsum l := by
  unfold csm wsum
  congr 1
  exact List.map_congr_left fun m hm => by rw [if_pos (h m hm)]
theorem Ch.gI {many : Int} {mv : List (Int × List Int)} (c : Ch many mv) {m : Int × List Int} (hm : m ∈ mv) {p : Int} (h0 : 0 ≤ p) (h1 : p < many) : 0 ≤ J.gI m.2 p ∧ J.gI m.2 p < many := by
  obtain ⟨_, h2, h3⟩ := c.mv m hm
  exact h3 _ (gI_mem h0 (by omega))
theorem rowC_part {many : Int} {mv : List (Int × List Int)} (c : Ch many mv) {p : Int} (h0 : 0 ≤ p) (h1 : p < many) : ∀ k : Nat, k ≤ many.toNat → rsum ((rowC many (wsum mv) mv p).take k) = mkRat (csm mv p k) (wsum mv).toNat
  | 0, _ => by rw [csm_zero fun m hm => (c.gI hm h0 h1).1, Rat.zero_mkRat]; rfl
  | k + 1, h => by
    have hw := (wsum_pos c).1
    have hg : (rowC many (wsum mv) mv p)[k]? = some (cfr (wsum mv) mv p (k : Int)) := by
      unfold rowC
      rw [List.getElem?_map, rg_get (by omega)]; rfl
    rw [rsum_take hg, rowC_part c h0 h1 k (by omega), csm_succ]
    exact mk_addW (by omega)
theorem rowC_len (many w : Int) (l : List (Int × List Int)) (p : Int) : (rowC many w l p).length = many.toNat := by unfold rowC; rw [List.length_map, rg_len]
theorem rowC_all {many : Int} {mv : List (Int × List Int)} (c : Ch many mv) {p : Int} (h0 : 0 ≤ p) (h1 : p < many) :
    (∀ k ≤ (rowC many (wsum mv) mv p).length, Sm (rsum ((rowC many (wsum mv) mv p).take k))) ∧ (∀ q ∈ rowC many (wsum mv) mv p, Sm q ∧ 0 ≤ q) ∧ rsum (rowC many (wsum mv) mv p) = 1 := by
  obtain ⟨w1, w2⟩ := wsum_pos c
  have w0 : ∀ m ∈ mv, 0 ≤ m.1 := fun m hm => by have h : 1 ≤ m.1 := (c.mv m hm).1.1; omega
  refine ⟨fun k hk => ?_, fun q hq => ?_, ?_⟩
  · rw [rowC_len] at hk
    rw [rowC_part c h0 h1 k hk]
    have := sum_bnd w0 fun m => J.gI m.2 p < (k : Int)
    have e : csm mv p k = (mv.map fun m => if J.gI m.2 p < (k : Int) then m.1 else 0).sum := rfl
    exact SmW (by omega) (small_nat (by omega) (by omega)) (small_nat (by omega) (by omega))
  · obtain ⟨q, _, rfl⟩ := List.mem_map.mp hq
    have h := cfr_sm c mv.length p q
    rw [List.take_length] at h
    refine ⟨h, ?_⟩
    have := (cwt_all c p q).1
    unfold cfr
    rw [← Rat.num_nonneg, Rat.num_mkRat]
    split
    · exact Int.le_refl _
    · exact Int.ediv_nonneg this (by omega)
  · have := rowC_part c h0 h1 many.toNat (Nat.le_refl _)
    rw [← rowC_len many (wsum mv) mv p, List.take_length, rowC_len, csm_full fun m hm => by have := (c.gI hm h0 h1).2; omega, oneW (by omega)] at this
    exact this
/-! shares that a step leaves as they are -/
open Classical in
theorem grp_in {many : Int} {mv : List (Int × List Int)} (c : Ch many mv) {S : Int → Prop} (hs : ∀ x, 0 ≤ x → x < many → S x → ∀ n, NumOk mv n → S (gI (rw_ mv n) x)) {p : Int} (p0 : 0 ≤ p) (p1 : p < many) (hp : S p) : ∃ m, 0 ≤ m ∧ m < many ∧ clB many mv m = true ∧ ∀ q ∈ rchL many mv m, S q := by
  have sr : ∀ {x y : Int}, 0 ≤ x → x < many → S x → Rch mv x y → S y := fun {x y} x0 x1 hx hr => by
    have := Rch.closed (S := fun z => 0 ≤ z ∧ z < many ∧ S z) (fun z ⟨z0, z1, hz⟩ n hn => ⟨(c.rowI hn z0 z1).1, (c.rowI hn z0 z1).2, hs z z0 z1 hz n hn⟩) hr ⟨x0, x1, hx⟩
    exact this.2.2
  have go : ∀ (n : Nat) (p : Int), 0 ≤ p → p < many → S p → (rchL many mv p).length ≤ n → ∃ q, 0 ≤ q ∧ q < many ∧ S q ∧ Cls1 many mv q := by
    intro n
    induction n with
    | zero =>
      intro p p0 p1 _ hl
      have := rchL_self c p0 p1
      cases hr : rchL many mv p with
      | nil => rw [hr] at this; cases this
      | cons a r => rw [hr] at hl; simp at hl
    | succ n ih =>
      intro p p0 p1 hp hl
      by_cases h : Cls1 many mv p
      · exact ⟨p, p0, p1, hp, h⟩
      · have : ∃ o, o ∈ rchL many mv p ∧ p ∉ rchL many mv o := by
          apply Classical.byContradiction
          intro z
          exact h fun o ho => Classical.byContradiction fun z2 => z ⟨o, ho, z2⟩
        obtain ⟨o, ho, hn⟩ := this
        have ho2 := rchL_in ho
        refine ih o ho2.1 ho2.2 (sr p0 p1 hp ((rchL_mem c p0 p1).mp ho)) ?_
        have hsub : ∀ x, x ∈ p :: rchL many mv o → x ∈ rchL many mv p := fun x hx => by
          rcases List.mem_cons.mp hx with rfl | hx
          · exact rchL_self c p0 p1
          · exact rchL_sub c p0 p1 ho hx
        have := List.Nodup.length_le_of_subset (List.nodup_cons.mpr ⟨hn, nodup_lt (rchL_lt many mv o)⟩) (l₂ := rchL many mv p) hsub
        rw [List.length_cons] at this
        omega
  obtain ⟨q, q0, q1, hq, hc⟩ := go _ p p0 p1 hp (Nat.le_refl _)
  have : ∃ m, m ∈ rchL many mv q ∧ ∀ o ∈ rchL many mv q, m ≤ o := by
    have hs := rchL_lt many mv q
    cases hr : rchL many mv q with
    | nil => have := rchL_self c q0 q1; rw [hr] at this; cases this
    | cons m r =>
      rw [hr] at hs
      refine ⟨m, by simp, fun o ho => ?_⟩
      rcases List.mem_cons.mp ho with rfl | ho
      · exact Int.le_refl _
      · exact Int.le_of_lt ((List.pairwise_cons.mp hs).1 o ho)
  obtain ⟨m, hm, hmin⟩ := this
  have hm2 := rchL_in hm
  have e := rchL_eq c q0 q1 hm (hc m hm)
  have hb : clB many mv m = true := by
    unfold clB
    refine decide_eq_true (And.intro (fun o ho => ?_) fun o ho => ?_)
    · rw [e] at ho; exact hmin o ho
    · rw [e] at ho
      rw [rchL_eq c q0 q1 ho (hc o ho)]; exact hm
  refine ⟨m, hm2.1, hm2.2, hb, fun o ho => ?_⟩
  rw [e] at ho
  exact sr q0 q1 hq ((rchL_mem c q0 q1).mp ho)
theorem clF_at {many : Int} {mv : List (Int × List Int)} {m : Int} (m0 : 0 ≤ m) (m1 : m < many) (h : clB many mv m = true) : rchL many mv m ∈ clF many mv :=
  List.mem_map.mpr ⟨m, List.mem_filter.mpr ⟨rg_take_mem.mpr ⟨m0, m1, by omega⟩, h⟩, rfl⟩
theorem one_grp {many : Int} {mv : List (Int × List Int)} (h : (clF many mv).length ≤ 1) {a b : List Int} (ha : a ∈ clF many mv) (hb : b ∈ clF many mv) : a = b := by
  cases hc : clF many mv with
  | nil => rw [hc] at ha; cases ha
  | cons x r =>
    rw [hc] at h ha hb
    have : r = [] := by
      cases r with
      | nil => rfl
      | cons _ _ => simp at h
    subst this
    rw [List.mem_singleton.mp ha, List.mem_singleton.mp hb]
/-! chances of a step -/
def Pn (mv : List (Int × List Int)) (o q : Nat) : Rat := cfr (wsum mv) mv (o : Int) (q : Int)
theorem Pn_nonneg {many : Int} {mv : List (Int × List Int)} (c : Ch many mv) (o q : Nat) : 0 ≤ Pn mv o q := by
  have := (cwt_all c (o : Int) (q : Int)).1
  have hw := (wsum_pos c).1
  unfold Pn cfr
  rw [← Rat.num_nonneg, Rat.num_mkRat]
  split
  · exact Int.le_refl _
  · exact Int.ediv_nonneg this (by omega)
theorem Pn_sum {many : Int} {mv : List (Int × List Int)} (c : Ch many mv) {o : Nat} (ho : o < many.toNat) : rs (Pn mv o) many.toNat = 1 := by
  have hw := (wsum_pos c).1
  have hr : ∀ m ∈ mv, 0 ≤ J.gI m.2 (o : Int) ∧ J.gI m.2 (o : Int) < many := fun m hm => c.gI hm (by omega) (by omega)
  have go : ∀ k : Nat, rs (Pn mv o) k = mkRat (csm mv (o : Int) k) (wsum mv).toNat := by
    intro k
    induction k with
    | zero => rw [csm_zero fun m hm => (hr m hm).1, Rat.zero_mkRat]; rfl
    | succ k ih =>
      show rs (Pn mv o) k + Pn mv o k = _
      rw [ih, csm_succ]
      exact mk_addW (by omega)
  rw [go, csm_full fun m hm => by have := (hr m hm).2; omega, oneW (by omega)]
theorem Pn_pos {many : Int} {mv : List (Int × List Int)} (c : Ch many mv) {o q : Nat} (h : ∃ m ∈ mv, gI m.2 (o : Int) = (q : Int)) : 0 < Pn mv o q := by
  obtain ⟨m, hm, e⟩ := h
  have hw := (wsum_pos c).1
  have hpos : 0 < cwt mv (o : Int) (q : Int) := by
    have w0 : ∀ x ∈ mv, 0 ≤ x.1 := fun x hx => by have h : 1 ≤ x.1 := (c.mv x hx).1.1; omega
    have w1 : 1 ≤ m.1 := (c.mv m hm).1.1
    have go : ∀ l : List (Int × List Int), (∀ x ∈ l, 0 ≤ x.1) → m ∈ l → 0 < cwt l (o : Int) (q : Int) := by
      intro l
      induction l with
      | nil => intro _ h; cases h
      | cons x l ih =>
        intro hl hx
        have hb := (sum_bnd (l := l) (fun y hy => hl y (by simp [hy])) fun y => J.gI y.2 (o : Int) = (q : Int)).1
        have hb : 0 ≤ cwt l (o : Int) (q : Int) := hb
        have h0 := hl x (by simp)
        have e2 : cwt (x :: l) (o : Int) (q : Int) = (if J.gI x.2 (o : Int) = (q : Int) then x.1 else 0) + cwt l (o : Int) (q : Int) := rfl
        rcases List.mem_cons.mp hx with rfl | hx
        · rw [e2, if_pos e]; omega
        · have := ih (fun y hy => hl y (by simp [hy])) hx
          rw [e2]
          split <;> omega
    exact go mv w0 hm
  have h0 := Pn_nonneg c o q
  have hne : Pn mv o q ≠ 0 := by
    unfold Pn cfr
    intro z
    rw [mk_divInt (by omega), Rat.divInt_eq_div] at z
    have hr : ((wsum mv : Int) : Rat) ≠ 0 := by
      intro z2
      have : wsum mv = 0 := by exact_mod_cast z2
      omega
    have h3 : ((cwt mv (o : Int) (q : Int) : Int) : Rat) = 0 := by grind
    have : cwt mv (o : Int) (q : Int) = 0 := by exact_mod_cast h3
    omega
  grind
theorem Pn_zero {mv : List (Int × List Int)} {o q : Nat} (h : ∀ m ∈ mv, gI m.2 (o : Int) ≠ (q : Int)) : Pn mv o q = 0 := by
  unfold Pn cfr
  have : cwt mv (o : Int) (q : Int) = 0 := by
    unfold cwt
    have e : (mv.map fun m => if J.gI m.2 (o : Int) = (q : Int) then m.1 else 0) = mv.map fun _ => (0 : Int) := List.map_congr_left fun m hm => if_neg (h m hm)
    rw [e]
    clear e h
    induction mv with
    | nil => rfl
    | cons m l ih => rw [List.map_cons, List.sum_cons, ih]; rfl
  rw [this, Rat.zero_mkRat]
/-! what a step leaves as it is -/
def St (n : Nat) (P : Nat → Nat → Rat) (y : Nat → Rat) : Prop := ∀ q < n, rs (fun o => y o * P o q) n = y q
def ab (x : Rat) : Rat := if 0 ≤ x then x else -x
theorem ab_nonneg (x : Rat) : 0 ≤ ab x := by unfold ab; split <;> grind
theorem ab_le (x : Rat) : x ≤ ab x ∧ -x ≤ ab x := by unfold ab; split <;> grind
theorem ab_add (x y : Rat) : ab (x + y) ≤ ab x + ab y := by
  have h1 := ab_le x
  have h2 := ab_le y
  unfold ab at h1 h2 ⊢
  split <;> grind
theorem ab_mul {x p : Rat} (hp : 0 ≤ p) : ab (x * p) = ab x * p := by
  unfold ab
  by_cases h : 0 ≤ x
  · have := Rat.mul_nonneg h hp
    rw [if_pos h, if_pos this]
  · have h1 : 0 ≤ -x := by grind
    have := Rat.mul_nonneg h1 hp
    rw [if_neg h]
    split <;> grind
theorem rs_ab (f : Nat → Rat) : ∀ n : Nat, ab (rs f n) ≤ rs (fun j => ab (f j)) n
  | 0 => by show ab 0 ≤ 0; unfold ab; rw [if_pos Rat.le_refl]; exact Rat.le_refl
  | n + 1 => by
    have h1 := rs_ab f n
    have h2 := ab_add (rs f n) (f n)
    show ab (rs f n + f n) ≤ rs (fun j => ab (f j)) n + ab (f n)
    grind
theorem rs_term {f : Nat → Rat} {i : Nat} : ∀ {n : Nat}, i < n → (∀ j, j < n → 0 ≤ f j) → f i ≤ rs f n
  | 0, h, _ => absurd h (Nat.not_lt_zero i)
  | n + 1, h, h0 => by
    have h2 := h0 n (by omega)
    show f i ≤ rs f n + f n
    by_cases e : i = n
    · have := rs_nonneg (f := f) (n := n) fun j hj => h0 j (by omega)
      rw [e]; grind
    · have := rs_term (n := n) (by omega : i < n) fun j hj => h0 j (by omega)
      grind
section
variable {n : Nat} {P : Nat → Nat → Rat} {y : Nat → Rat}
theorem st_mass (h1 : ∀ o < n, rs (P o) n = 1) (z : Nat → Rat) : rs (fun q => rs (fun o => z o * P o q) n) n = rs z n := by
  rw [rs_swap (fun q o => z o * P o q)]
  refine rs_congr fun o ho => ?_
  rw [rs_mul, h1 o ho]; grind
theorem st_ab (h0 : ∀ o q, o < n → q < n → 0 ≤ P o q) (h1 : ∀ o < n, rs (P o) n = 1) (st : St n P y) : St n P (fun i => ab (y i)) := fun q hq => by
  have hd : ∀ q, q < n → 0 ≤ rs (fun o => ab (y o) * P o q) n - ab (y q) := fun q hq => by
    have h2 := rs_ab (fun o => y o * P o q) n
    rw [st q hq] at h2
    have e : rs (fun o => ab (y o * P o q)) n = rs (fun o => ab (y o) * P o q) n := rs_congr fun o ho => ab_mul (h0 o q ho hq)
    rw [e] at h2
    grind
  have hs : rs (fun q => rs (fun o => ab (y o) * P o q) n - ab (y q)) n = 0 := by
    have e : rs (fun q => rs (fun o => ab (y o) * P o q) n - ab (y q)) n = rs (fun q => rs (fun o => ab (y o) * P o q) n + (-1) * ab (y q)) n := rs_congr fun q _ => by grind
    rw [e, rs_add, rs_mul, st_mass h1]; grind
  have := rs_pos_zero hd hs q hq
  grind
theorem st_lin (st : St n P y) {z : Nat → Rat} (sz : St n P z) (a b : Rat) : St n P (fun i => a * y i + b * z i) := fun q hq => by
  have e : rs (fun o => (a * y o + b * z o) * P o q) n = rs (fun o => a * (y o * P o q) + b * (z o * P o q)) n := rs_congr fun o _ => by grind
  rw [e, rs_add, rs_mul, rs_mul, st q hq, sz q hq]
theorem st_supp (h0 : ∀ o q, o < n → q < n → 0 ≤ P o q) (st : St n P y) (hy : ∀ i, i < n → 0 ≤ y i) {o q : Nat} (ho : o < n) (hq : q < n) (h : 0 < y o) (hp : 0 < P o q) : 0 < y q := by
  have h2 := rs_term (f := fun i => y i * P i q) ho fun i hi => Rat.mul_nonneg (hy i hi) (h0 i q hi hq)
  rw [st q hq] at h2
  have := Rat.mul_pos h hp
  grind
end
section
variable {many : Int} {mv : List (Int × List Int)} {y : Nat → Rat}
/-- where something from nought on that a step leaves is above nought, there is a closed group -/
theorem supp_grp (c : Ch many mv) (st : St many.toNat (Pn mv) y) (hy : ∀ i, i < many.toNat → 0 ≤ y i) {o : Nat} (ho : o < many.toNat) (h : 0 < y o) : ∃ m, 0 ≤ m ∧ m < many ∧ clB many mv m = true ∧ ∀ q ∈ rchL many mv m, 0 < y q.toNat := by
  refine grp_in c (S := fun x => 0 < y x.toNat) (fun x x0 x1 hx k hk => ?_) (p := (o : Int)) (by omega) (by omega) (by rw [Int.toNat_natCast]; exact h)
  obtain ⟨wt, hg⟩ := rw_get hk
  have hr := c.rowI hk x0 x1
  refine st_supp (fun o q _ _ => Pn_nonneg c o q) st hy (o := x.toNat) (q := (gI (rw_ mv k) x).toNat) (by omega) (by omega) hx (Pn_pos c ⟨_, List.mem_of_getElem? hg, ?_⟩)
  show gI (rw_ mv k) ((x.toNat : Nat) : Int) = (((gI (rw_ mv k) x).toNat : Nat) : Int)
  rw [show ((x.toNat : Nat) : Int) = x by omega]
  omega
theorem no_signs (c : Ch many mv) (h1 : (clF many mv).length ≤ 1) (st : St many.toNat (Pn mv) y) {i j : Nat} (hi : i < many.toNat) (hj : j < many.toNat) (pi : 0 < y i) (nj : y j < 0) : False := by
  have p0 : ∀ o q, o < many.toNat → q < many.toNat → 0 ≤ Pn mv o q := fun o q _ _ => Pn_nonneg c o q
  have p1 : ∀ o < many.toNat, rs (Pn mv o) many.toNat = 1 := fun o ho => Pn_sum c ho
  have sa := st_ab p0 p1 st
  have s1 := st_lin sa st 1 1
  have s2 := st_lin sa st 1 (-1)
  have n1 : ∀ k, k < many.toNat → 0 ≤ 1 * ab (y k) + 1 * y k := fun k _ => by have := ab_le (y k); grind
  have n2 : ∀ k, k < many.toNat → 0 ≤ 1 * ab (y k) + (-1) * y k := fun k _ => by have := ab_le (y k); grind
  have hi' : 0 < 1 * ab (y i) + 1 * y i := by have := ab_le (y i); grind
  have hj' : 0 < 1 * ab (y j) + (-1) * y j := by have := ab_le (y j); grind
  obtain ⟨m, m0, m1, mb, hm⟩ := supp_grp c s1 n1 hi hi'
  obtain ⟨m', m0', m1', mb', hm'⟩ := supp_grp c s2 n2 hj hj'
  have e := one_grp h1 (clF_at m0 m1 mb) (clF_at m0' m1' mb')
  have k1 := hm m (rchL_self c m0 m1)
  have k2 := hm' m (by rw [← e]; exact rchL_self c m0 m1)
  unfold ab at k1 k2
  split at k1 <;> grind
theorem st_zero (c : Ch many mv) (h1 : (clF many mv).length ≤ 1) (st : St many.toNat (Pn mv) y) (hs : rs y many.toNat = 0) : ∀ i, i < many.toNat → y i = 0 := by
  by_cases hp : ∃ i, i < many.toNat ∧ 0 < y i
  · obtain ⟨i, hi, pi⟩ := hp
    refine rs_pos_zero (fun j hj => ?_) hs
    apply Classical.byContradiction
    intro z
    exact no_signs c h1 st hi hj pi (by grind)
  · have hn : ∀ i, i < many.toNat → 0 ≤ (-1) * y i := fun i hi => by
      have : ¬ 0 < y i := fun z => hp ⟨i, hi, z⟩
      grind
    intro i hi
    have := rs_pos_zero hn (by rw [rs_mul, hs]; grind) i hi
    grind
/-- the own shares -/
structure Own (many : Int) (mv : List (Int × List Int)) (x : Nat → Rat) : Prop where
  st : St many.toNat (Pn mv) x
  one : rs x many.toNat = 1
theorem Own.nonneg (c : Ch many mv) (h1 : (clF many mv).length ≤ 1) {x : Nat → Rat} (o : Own many mv x) : ∀ i, i < many.toNat → 0 ≤ x i := fun j hj => by
  apply Classical.byContradiction
  intro z
  have nj : x j < 0 := by grind
  by_cases hp : ∃ i, i < many.toNat ∧ 0 < x i
  · obtain ⟨i, hi, pi⟩ := hp
    exact no_signs c h1 o.st hi hj pi nj
  · have hn : ∀ i, i < many.toNat → 0 ≤ (-1) * x i := fun i hi => by
      have : ¬ 0 < x i := fun z => hp ⟨i, hi, z⟩
      grind
    have := rs_nonneg hn
    rw [rs_mul, o.one] at this
    grind
theorem Own.uniq (c : Ch many mv) (h1 : (clF many mv).length ≤ 1) {x z : Nat → Rat} (o : Own many mv x) (o' : Own many mv z) : ∀ i, i < many.toNat → x i = z i := fun i hi => by
  have s := st_lin o.st o'.st 1 (-1)
  have hs : rs (fun i => 1 * x i + (-1) * z i) many.toNat = 0 := by rw [rs_add, rs_mul, rs_mul, o.one, o'.one]; grind
  have := st_zero c h1 s hs i hi
  grind
/-- nought just outside of the closed group -/
theorem Own.supp (c : Ch many mv) (h1 : (clF many mv).length ≤ 1) {x : Nat → Rat} (ow : Own many mv x) {g : List Int} (hg : g ∈ clF many mv) : ∀ i : Nat, i < many.toNat → (0 < x i ↔ (i : Int) ∈ g) := by
  have hx := ow.nonneg c h1
  have ex : ∃ o, o < many.toNat ∧ 0 < x o := by
    apply Classical.byContradiction
    intro z
    have : ∀ i, i < many.toNat → x i = 0 := fun i hi => by
      have h2 : ¬ 0 < x i := fun q => z ⟨i, hi, q⟩
      have := hx i hi
      grind
    have e := rs_zero this
    rw [ow.one] at e
    exact absurd e (by decide)
  obtain ⟨o, ho, po⟩ := ex
  obtain ⟨m, m0, m1, mb, hm⟩ := supp_grp c ow.st hx ho po
  have eg : rchL many mv m = g := one_grp h1 (clF_at m0 m1 mb) hg
  subst eg
  intro i hi
  refine ⟨fun pi => ?_, fun h => by have := hm _ h; rwa [Int.toNat_natCast] at this⟩
  apply Classical.byContradiction
  intro hni
  -- closed: from within the group to it alone
  have cls : ∀ o q : Nat, o < many.toNat → q < many.toNat → (o : Int) ∈ rchL many mv m → (q : Int) ∉ rchL many mv m → Pn mv o q = 0 := fun o q ho hq h2 h3 => by
    refine Pn_zero fun mm hmm e => h3 ?_
    obtain ⟨k, hk⟩ := List.getElem?_of_mem hmm
    have ok : NumOk mv (k : Int) := ⟨by omega, by have := (List.getElem?_eq_some_iff.mp hk).1; omega⟩
    have er : rw_ mv (k : Int) = mm.2 := by
      unfold rw_
      rw [Int.toNat_natCast, List.getD_eq_getElem?_getD, hk]; rfl
    refine (rchL_mem c m0 m1).mpr ?_
    have := ((rchL_mem c m0 m1).mp h2).step ok
    rw [er, e] at this; exact this
  -- the weight that goes into the group from without is nought
  have e1 : rs (fun q => (if (q : Int) ∈ rchL many mv m then 1 else 0) * x q) many.toNat = rs (fun o => x o * rs (fun q => Pn mv o q * (if (q : Int) ∈ rchL many mv m then 1 else 0)) many.toNat) many.toNat := by
    have a1 : rs (fun q => (if (q : Int) ∈ rchL many mv m then 1 else 0) * x q) many.toNat = rs (fun q => rs (fun o => x o * (Pn mv o q * (if (q : Int) ∈ rchL many mv m then 1 else 0))) many.toNat) many.toNat := rs_congr fun q hq => by
      have a2 : rs (fun o => x o * (Pn mv o q * (if (q : Int) ∈ rchL many mv m then 1 else 0))) many.toNat = rs (fun o => (if (q : Int) ∈ rchL many mv m then 1 else 0) * (x o * Pn mv o q)) many.toNat := rs_congr fun o _ => by grind
      rw [a2, rs_mul, ow.st q hq]
    rw [a1, rs_swap (fun q o => x o * (Pn mv o q * (if (q : Int) ∈ rchL many mv m then 1 else 0)))]
    exact rs_congr fun o _ => rs_mul _ _ _
  have pin : ∀ o : Nat, o < many.toNat → (o : Int) ∈ rchL many mv m → rs (fun q => Pn mv o q * (if (q : Int) ∈ rchL many mv m then 1 else 0)) many.toNat = 1 := fun o ho h2 => by
    refine Eq.trans (rs_congr fun q hq => ?_) (Pn_sum c ho)
    by_cases h3 : (q : Int) ∈ rchL many mv m
    · rw [if_pos h3]; grind
    · rw [if_neg h3, cls o q ho hq h2 h3]; grind
  have pge : ∀ o : Nat, 0 ≤ rs (fun q => Pn mv o q * (if (q : Int) ∈ rchL many mv m then 1 else 0)) many.toNat := fun o => rs_nonneg fun q _ => by
    have := Pn_nonneg c o q
    split <;> grind
  have e2 : rs (fun o => x o * rs (fun q => Pn mv o q * (if (q : Int) ∈ rchL many mv m then 1 else 0)) many.toNat - (if (o : Int) ∈ rchL many mv m then 1 else 0) * x o) many.toNat = 0 := by
    have a1 : ∀ o, o < many.toNat → x o * rs (fun q => Pn mv o q * (if (q : Int) ∈ rchL many mv m then 1 else 0)) many.toNat - (if (o : Int) ∈ rchL many mv m then 1 else 0) * x o = x o * rs (fun q => Pn mv o q * (if (q : Int) ∈ rchL many mv m then 1 else 0)) many.toNat + (-1) * ((if (o : Int) ∈ rchL many mv m then 1 else 0) * x o) := fun o _ => by grind
    rw [rs_congr a1, rs_add, rs_mul, ← e1]; grind
  have out : ∀ o : Nat, o < many.toNat → (o : Int) ∉ rchL many mv m → 0 < x o → ∀ q : Nat, q < many.toNat → (q : Int) ∈ rchL many mv m → Pn mv o q = 0 := fun o ho h2 hpo q hq h3 => by
    have a1 := rs_pos_zero (fun o ho => ?_) e2 o ho
    · rw [if_neg h2] at a1
      have a2 : rs (fun q => Pn mv o q * (if (q : Int) ∈ rchL many mv m then 1 else 0)) many.toNat = 0 := by
        have : x o ≠ 0 := by grind
        grind
      have a3 := rs_pos_zero (fun q _ => ?_) a2 q hq
      · have a4 : Pn mv o q * (if (q : Int) ∈ rchL many mv m then 1 else 0) = 0 := a3
        rw [if_pos h3, Rat.mul_one] at a4; exact a4
      · have := Pn_nonneg c o q
        split <;> grind
    · by_cases h4 : (o : Int) ∈ rchL many mv m
      · rw [if_pos h4, pin o ho h4]; grind
      · rw [if_neg h4]
        have := Rat.mul_nonneg (hx o ho) (pge o)
        grind
  -- so there would be another one
  obtain ⟨m', m0', m1', mb', hm'⟩ := grp_in c (S := fun z => 0 < x z.toNat ∧ z ∉ rchL many mv m) (fun z z0 z1 ⟨hz1, hz2⟩ k hk => by
    obtain ⟨wt, hgk⟩ := rw_get hk
    have hr := c.rowI hk z0 z1
    have ez : ((z.toNat : Nat) : Int) = z := by omega
    have mm : ∃ mm ∈ mv, gI mm.2 ((z.toNat : Nat) : Int) = (((gI (rw_ mv k) z).toNat : Nat) : Int) := ⟨_, List.mem_of_getElem? hgk, by
      show gI (rw_ mv k) ((z.toNat : Nat) : Int) = _
      rw [ez]; omega⟩
    refine ⟨st_supp (fun o q _ _ => Pn_nonneg c o q) ow.st hx (o := z.toNat) (q := (gI (rw_ mv k) z).toNat) (by omega) (by omega) hz1 (Pn_pos c mm), fun h5 => ?_⟩
    have := out z.toNat (by omega) (by rw [ez]; exact hz2) hz1 (gI (rw_ mv k) z).toNat (by omega) (by rw [show (((gI (rw_ mv k) z).toNat : Nat) : Int) = gI (rw_ mv k) z by omega]; exact h5)
    have h6 := Pn_pos c mm
    grind) (p := (i : Int)) (by omega) (by omega) ⟨by rw [Int.toNat_natCast]; exact pi, hni⟩
  have e := one_grp h1 (clF_at m0 m1 mb) (clF_at m0' m1' mb')
  exact (hm' m' (rchL_self c m0' m1')).2 (by rw [e]; exact rchL_self c m0' m1')
end
/-! the equations of the own shares -/
def ownM (mv : List (Int × List Int)) (n : Nat) : Nat → Nat → Rat := fun p j => if p + 1 < n then (if j < n then Pn mv j p - (if j = p then 1 else 0) else 0) else 1
theorem ownM_st {many : Int} {mv : List (Int × List Int)} (c : Ch many mv) {y : Nat → Rat} {s : Rat} (h : ∀ i < many.toNat, rs (fun j => ownM mv many.toNat i j * y j) many.toNat = if i + 1 < many.toNat then 0 else s) : St many.toNat (Pn mv) y ∧ rs y many.toNat = s := by
  have m1 := c.m1
  obtain ⟨n, hn⟩ : ∃ n, many.toNat = n + 1 := ⟨many.toNat - 1, by omega⟩
  have p1 : ∀ o < many.toNat, rs (Pn mv o) many.toNat = 1 := fun o ho => Pn_sum c ho
  have hsum : rs y many.toNat = s := by
    have := h n (by omega)
    rw [if_neg (by omega)] at this
    rw [← this]
    refine rs_congr fun j _ => ?_
    unfold ownM
    rw [if_neg (by omega)]; grind
  have row : ∀ q, q < n → rs (fun o => y o * Pn mv o q) many.toNat = y q := fun q hq => by
    have := h q (by omega)
    rw [if_pos (by omega)] at this
    have e : rs (fun j => ownM mv many.toNat q j * y j) many.toNat = rs (fun j => y j * Pn mv j q + (-1) * ((if j = q then 1 else 0) * y j)) many.toNat := rs_congr fun j hj => by
      unfold ownM
      rw [if_pos (by omega), if_pos hj]; grind
    have e2 : rs (fun j => (if j = q then 1 else 0) * y j) many.toNat = y q := by
      have e3 : rs (fun j => (if j = q then 1 else 0) * y j) (q + 1) = rs (fun j => (if j = q then 1 else 0) * y j) q + (if q = q then 1 else 0) * y q := rfl
      rw [rs_stop (m := q + 1) (by omega) fun j a b => by rw [if_neg (by omega)]; grind, e3, rs_zero fun j hj => by rw [if_neg (by omega)]; grind, if_pos rfl]; grind
    rw [e, rs_add, rs_mul, e2] at this
    grind
  refine ⟨fun q hq => ?_, hsum⟩
  by_cases hqn : q < n
  · exact row q hqn
  · have hqn : q = n := by omega
    have ms := st_mass (n := many.toNat) (P := Pn mv) p1 y
    have a1 : ∀ f : Nat → Rat, rs f many.toNat = rs f n + f n := fun f => by rw [hn]; rfl
    rw [a1 (fun q => rs (fun o => y o * Pn mv o q) many.toNat), a1 y, rs_congr (f := fun q => rs (fun o => y o * Pn mv o q) many.toNat) (g := y) row] at ms
    rw [hqn]
    grind
/-! the own shares by equations -/
theorem clF_le {many : Int} {mv : List (Int × List Int)} (h : ¬ 1 < (clF many mv).length) : (clF many mv).length ≤ 1 := by omega
theorem ownM_ns {many : Int} {mv : List (Int × List Int)} (c : Ch many mv) (h1 : (clF many mv).length ≤ 1) : NS many.toNat (many.toNat + 1) (ownM mv many.toNat) := fun y hy k => by
  have k2 : ∀ i < many.toNat, rs (fun j => ownM mv many.toNat i j * y j) many.toNat = if i + 1 < many.toNat then 0 else 0 := fun i hi => by
    have h := k i hi
    have h : rs (fun j => ownM mv many.toNat i j * y j) many.toNat + ownM mv many.toNat i many.toNat * y many.toNat = 0 := h
    rw [hy many.toNat (Nat.le_refl _)] at h
    split <;> grind
  obtain ⟨a, b⟩ := ownM_st c k2
  exact st_zero c h1 a b
theorem ownM_own {many : Int} {mv : List (Int × List Int)} (c : Ch many mv) {b : Nat} {M : Nat → Nat → Rat} (g : GI many.toNat (many.toNat + 1) b (ownM mv many.toNat) many.toNat M) : Own many mv fun j => M j many.toNat := by
  have h := g.done (c := many.toNat) (Nat.le_refl _) (Nat.lt_succ_self _)
  have k2 : ∀ i < many.toNat, rs (fun j => ownM mv many.toNat i j * M j many.toNat) many.toNat = if i + 1 < many.toNat then 0 else 1 := fun i hi => by
    rw [h i hi]
    unfold ownM
    split
    · rw [if_neg (Nat.lt_irrefl _)]
    · rfl
  obtain ⟨a, b⟩ := ownM_st c k2
  exact ⟨a, b⟩
theorem ownM_bd {many : Int} {mv : List (Int × List Int)} (c : Ch many mv) (p : Nat) : Bd 10 (many.toNat + 1) (ownM mv many.toNat p) := by
  obtain ⟨w1, w2⟩ := wsum_pos c
  have e1 : (1 : Rat) = mkRat (wsum mv) (wsum mv).toNat := (oneW (by omega)).symm
  refine ⟨(wsum mv).toNat, by omega, by omega, fun j _ => ?_⟩
  unfold ownM
  split
  · split
    · have hc := cwt_all c (j : Int) (p : Int)
      split
      · refine ⟨cwt mv (j : Int) (p : Int) - wsum mv, by omega, ?_⟩
        unfold Pn cfr
        have e2 : mkRat (cwt mv (j : Int) (p : Int)) (wsum mv).toNat = mkRat (cwt mv (j : Int) (p : Int) - wsum mv) (wsum mv).toNat + mkRat (wsum mv) (wsum mv).toNat := by
          rw [mk_addW (by omega)]; congr 1; omega
        rw [e2, ← e1]; grind
      · refine ⟨cwt mv (j : Int) (p : Int), by omega, ?_⟩
        unfold Pn cfr
        grind
    · exact ⟨0, by decide, (Rat.zero_mkRat _).symm⟩
  · exact ⟨wsum mv, by omega, e1⟩
theorem bs_le (n : Nat) (h : n ≤ 6) : bs 10 n ≤ 703 := Nat.le_trans (bs_mono 10 h) (by decide)
theorem den_mk {b : Nat} {u : Int} {d : Nat} (hd : 0 < d) (h1 : d < 2 ^ b) : (mkRat u d).den < 2 ^ b := by
  rw [Rat.den_mkRat, if_neg (by omega)]
  exact Nat.lt_of_le_of_lt (Nat.div_le_self _ _) h1
theorem GI.den {n w : Nat} {M0 M : Nat → Nat → Rat} (hn : n ≤ 6) (g : GI n w 10 M0 n M) {i j : Nat} (hi : i < n) (hj : j < w) : (M i j).den < 2 ^ 703 := by
  obtain ⟨d, d0, d1, hu⟩ := g.bd i hi
  obtain ⟨u, u1, e⟩ := hu j hj
  rw [e]
  exact Nat.lt_of_lt_of_le (den_mk d0 d1) (Nat.pow_le_pow_right (by decide) (bs_le n hn))
theorem Pn_sm {many : Int} {mv : List (Int × List Int)} (c : Ch many mv) (o q : Nat) : Sm (Pn mv o q) := by
  have h := cfr_sm c mv.length (o : Int) (q : Int)
  rwa [List.take_length] at h
def loD (l : List (List Int)) : List D := l.map fun o => .lst (o.map .int)
/-- reached, closed -/
theorem dput_new {m : KD} {k : Int} {d : D} (h : dget m k = none) : dput m k d = m ++ [(k, d)] := by
  unfold dput
  rw [if_neg]
  intro z
  rw [List.any_eq_true] at z
  obtain ⟨p, hp, hpk⟩ := z
  unfold dget at h
  have : m.find? (fun p => decide (p.1 = k)) = none := by simpa using h
  rw [List.find?_eq_none] at this
  exact this p hp hpk
theorem dget_none {m : KD} {k : Int} : dget m k = none ↔ k ∉ m.map (·.1) := by
  unfold dget
  rw [Option.map_eq_none_iff, List.find?_eq_none]
  constructor
  · intro h hm
    obtain ⟨p, hp, e⟩ := List.mem_map.mp hm
    exact h p hp (by simpa using e)
  · intro h p hp e
    exact h (List.mem_map.mpr ⟨p, hp, by simpa using e⟩)
/-- what holds of the found ones (ks) and the waiting ones (ws) -/
structure RIn (many : Int) (mv : List (Int × List Int)) (p : Int) (ks ws : List Int) : Prop where
  nd : ks.Nodup
  hp : p ∈ ks
  rc : ∀ x ∈ ks, Rch mv p x
  sub : ∀ x ∈ ws, x ∈ ks
  cl : ∀ x ∈ ks, x ∉ ws → ∀ n, NumOk mv n → gI (rw_ mv n) x ∈ ks
def RIn2 (mv : List (Int × List Int)) (p here : Int) (i : Nat) (ks ws : List Int) : Prop :=
  ks.Nodup ∧ p ∈ ks ∧ (∀ x ∈ ks, Rch mv p x) ∧ (∀ x ∈ ws, x ∈ ks) ∧ here ∈ ks ∧ (∀ x ∈ ks, x ∉ ws → x ≠ here → ∀ n, NumOk mv n → gI (rw_ mv n) x ∈ ks) ∧ (∀ j < i, gI (rw_ mv (j : Nat)) here ∈ ks)
theorem nodup_le {many : Int} {mv : List (Int × List Int)} (c : Ch many mv) {p : Int} (p0 : 0 ≤ p) (p1 : p < many) {ks : List Int} (nd : ks.Nodup) (rc : ∀ x ∈ ks, Rch mv p x) : ks.length ≤ many.toNat := by
  have := List.Nodup.length_le_of_subset nd (l₂ := rg many) fun x hx => rg_mem.mpr ((rc x hx).ok c p0 p1)
  rw [rg_len] at this
  exact this
theorem rin_end {many : Int} {mv : List (Int × List Int)} (c : Ch many mv) {p : Int} (p0 : 0 ≤ p) (p1 : p < many) {ks : List Int} (h : RIn many mv p ks []) : isort ks = rchL many mv p := by
  have e : ks.Perm (rchL many mv p) := (List.perm_ext_iff_of_nodup h.nd (nodup_lt (rchL_lt many mv p))).mpr fun x => ⟨fun hx => (rchL_mem c p0 p1).mpr (h.rc x hx), fun hx => Rch.closed (S := fun x => x ∈ ks) (fun x hx n ok => h.cl x hx (by simp) n ok) ((rchL_mem c p0 p1).mp hx) h.hp⟩
  exact (isort_of e.symm ((rchL_lt many mv p).imp fun h => Int.le_of_lt h)).symm
theorem mv_num {mv : List (Int × List Int)} {i : Nat} {q : Int × List Int} (h : mv[i]? = some q) : NumOk mv (i : Nat) ∧ rw_ mv (i : Nat) = q.2 := by
  have := (List.getElem?_eq_some_iff.mp h).1
  exact ⟨⟨by omega, by omega⟩, by simp [rw_, h]⟩
@[reducible] def sp_reached (T : Tx K mg) : J.Spec := fun ps R _ => ∃ (many : Int) (mv : List (Int × List Int)) (p : Int), ps = [.v (.ins T.C_Chain ["many", "moves"] [.int many, .lst (mv.map mvD)]), .v (.int p)] ∧ Ch many mv ∧ 0 ≤ p ∧ p < many ∧ R (.ow (.lst ((rchL many mv p).map .int))) []
theorem ok_reached (T : Tx K mg) : FnOk P w K mg base (L2.CX P w) 1 T.a_reached T.d_reached ["chain", "place"] (SpJ K (sp_reached T)) := by
  refine jfn T.F_reached z_reached zo_reached zf_reached (sp_reached T) (fun as R RX h => ?_) (fun X B E as R RX cj hE h => ?_)
  · obtain ⟨_, _, _, rfl, _⟩ := h; rfl
  obtain ⟨many, mv, p, rfl, hc, p0, p1, hR⟩ := h
  have m1 := hc.m1
  have m2 := hc.m2
  have l2 := hc.l2
  show JSs X B _ [.fz (chD T.C_Chain many mv), .fz (.int p), .no, .no, .no, .no, .no] _
  refine JSs.cons (js_set cj 2 (je_disp1 (jv_name cj 1 (jv_bl ⟨p, rfl, ?_⟩))))
  refine JSs.cons (js_set cj 3 (je_lst (JD.cons (jv_name cj 1 (JD.nil ⟨lz rfl, ?_⟩)))))
  refine JSs.cons (JS.whileN cj (fun m G => ∃ (kd0 : KD) (ws : List Int) (a b c : Ent), G = [.fz (chD T.C_Chain many mv), .fz (.int p), .ow (.dK (kd kd0)), .ow (.lst (ws.map .int)), a, b, c] ∧ RIn many mv p (kd0.map (·.1)) ws ∧ 2 * (many.toNat - kd0.length) + ws.length = m ∧ m ≤ 12 ∧ bws [a] = [] ∧ bws [b] = [] ∧ bws [c] = []) _ ⟨[(p, .bl true)], [p], .no, .no, .no, rfl, ?_, rfl, ?_, rfl, rfl, rfl⟩ fun m G hI => ?_)
  · refine ⟨by simp, by simp, fun x hx => ?_, fun x hx => hx, fun x hx hn => absurd hx hn⟩
    rcases List.mem_singleton.mp hx with rfl
    exact .refl _
  · simp; omega
  obtain ⟨kd0, ws, a, b, c, rfl, hin, hm, hm12, ba, bb, bc⟩ := hI
  have fl : ∀ l : List Int, Flat 1 (.lst (l.map .int)) := fun l => .lst (flat_ints l)
  refine jt_neO cj 3 (JE.jv (je_lst (JD.nil ⟨lz rfl, _, rfl, ⟨1, fl ws, by decide⟩, ⟨1, fl [], by decide⟩, fun hb => ?_, fun hb => ?_⟩)))
  · have hne : ws ≠ [] := fun z => by
      have hb : (!deq (.lst (ws.map .int)) (.lst ([].map .int))) = true := hb
      rw [z, deq_refl (fl [])] at hb; cases hb
    obtain ⟨ws', here, rfl⟩ : ∃ ws' here, ws = ws' ++ [here] := ⟨_, _, (List.dropLast_concat_getLast hne).symm⟩
    have hh := hin.rc here (hin.sub here (by simp))
    have hh2 := hh.ok hc p0 p1
    refine JSs.cons (js_set cj 4 (JV.je (jv_pop cj 3 (ds := ws'.map .int) (d := .int here) ?_ ?_)))
    · show some (Ow.lst ((ws' ++ [here]).map .int)) = _; rw [List.map_append]; rfl
    refine JSs.one (js_for cj (ji_seq (jv_fldK cj T.cl_Chain T.na_Chain_moves (jv_name cj 0 ⟨_, _, _, rfl, rfl, _, .inl rfl, fun i G => ∃ (kd1 : KD) (ws1 : List Int) (b c : Ent), G = [.fz (chD T.C_Chain many mv), .fz (.int p), .ow (.dK (kd kd1)), .ow (.lst (ws1.map .int)), .fz (.int here), b, c] ∧ RIn2 mv p here i (kd1.map (·.1)) ws1 ∧ 2 * (many.toNat - kd1.length) + ws1.length < m ∧ bws [b] = [] ∧ bws [c] = [], ⟨kd0, ws', b, c, rfl, ⟨hin.nd, hin.hp, hin.rc, fun x hx => hin.sub x (by simp [hx]), hin.sub here (by simp), fun x hx hn hne n ok => hin.cl x hx (by simp [hn, hne]) n ok, fun j hj => absurd hj (Nat.not_lt_zero j)⟩, by simp at hm; omega, bb, bc⟩, fun i d G hi hd hI => ?_, fun G hI => ?_⟩))))
    · obtain ⟨kd1, ws1, b, c, rfl, ⟨i1, i2, i3, i4, i5, i6, i7⟩, hm1, _, _⟩ := hI
      obtain ⟨⟨wt, row⟩, hq, rfl⟩ := map_get hd
      obtain ⟨ok, er⟩ := mv_num hq
      have er : rw_ mv (i : Nat) = row := er
      have hrow := hc.row ok
      have hr2 := hc.rowI ok hh2.1 hh2.2
      rw [er] at hrow hr2
      have kl := nodup_le hc p0 p1 i1 i3
      rw [List.length_map] at kl
      refine JG.tup cj (JGs.cons (JG.name cj 5 (JGs.cons (JG.name cj 6 (JGs.nil ?_)))))
      show JSs X B _ [.fz (chD T.C_Chain many mv), .fz (.int p), .ow (.dK (kd kd1)), .ow (.lst (ws1.map .int)), .fz (.int here), .fz (.int wt), .fz (.tup (row.map .int))] _
      refine JSs.one (JS.ite (jt_dnotin cj 2 (jv_ix (jv_name cj 6 (jv_name cj 4 ⟨_, _, _, .tup, rfl, at_int (ns := row) hh2.1 ?_, kd1, gI row here, rfl, rfl, fun hb => ?_, fun hb => JSs.nil ?_⟩)))))
      · have := hrow.1; omega
      · have hb : dget kd1 (gI row here) = none := by simpa using hb
        have hnew := dget_none.mp hb
        have e1 := dput_new (d := .bl true) hb
        have nd2 : ((kd1 ++ [(gI row here, D.bl true)]).map (·.1)).Nodup := by
          rw [List.map_append, List.nodup_append]
          refine ⟨i1, by simp, fun x hx y hy => ?_⟩
          have : y = gI row here := by simpa using hy
          subst this
          intro z; subst z; exact hnew hx
        have hstep : Rch mv p (gI row here) := by rw [← er]; exact hh.step ok
        have rc2 : ∀ x ∈ (kd1 ++ [(gI row here, D.bl true)]).map (·.1), Rch mv p x := fun x hx => by
          rw [List.map_append] at hx
          rcases List.mem_append.mp hx with hx | hx
          · exact i3 x hx
          · have : x = gI row here := by simpa using hx
            subst this; exact hstep
        have kl2 := nodup_le hc p0 p1 nd2 rc2
        rw [List.length_map, List.length_append] at kl2
        simp only [List.length_cons, List.length_nil] at kl2
        refine JSs.cons (js_dput cj 2 (jv_bl (jv_ix (jv_name cj 6 (jv_name cj 4 ⟨_, _, _, .tup, rfl, at_int (ns := row) hh2.1 ?_, kd1, gI row here, rfl, rfl, ?_, ?_⟩)))))
        · have := hrow.1; omega
        · unfold sizeLine; omega
        refine JSs.one (js_append cj 3 (jv_ix (jv_name cj 6 (jv_name cj 4 ⟨_, _, _, .tup, rfl, at_int (ns := row) hh2.1 ?_, ws1.map .int, rfl, ?_, ?_⟩))))
        · have := hrow.1; omega
        · rw [List.length_map]; unfold sizeLine; omega
        refine ⟨kd1 ++ [(gI row here, .bl true)], ws1 ++ [gI row here], .fz (.int wt), .fz (.tup (row.map .int)), ?_, ⟨nd2, ?_, rc2, fun x hx => ?_, ?_, fun x hx hn hne n okn => ?_, fun j hj => ?_⟩, ?_, rfl, rfl⟩
        · rw [e1, List.map_append (l₁ := ws1)]; rfl
        · rw [List.map_append]; exact List.mem_append_left _ i2
        · rw [List.map_append]
          rcases List.mem_append.mp hx with hx | hx
          · exact List.mem_append_left _ (i4 x hx)
          · exact List.mem_append_right _ (by simpa using hx)
        · rw [List.map_append]; exact List.mem_append_left _ i5
        · rw [List.map_append] at hx ⊢
          rcases List.mem_append.mp hx with hx | hx
          · exact List.mem_append_left _ (i6 x hx (fun z => hn (List.mem_append_left _ z)) hne n okn)
          · have : x = gI row here := by simpa using hx
            subst this
            exact absurd (by simp) hn
        · rw [List.map_append]
          rcases Nat.lt_succ_iff_lt_or_eq.mp hj with hj | rfl
          · exact List.mem_append_left _ (i7 j hj)
          · rw [er]; exact List.mem_append_right _ (by simp)
        · rw [List.length_append, List.length_append]
          simp only [List.length_cons, List.length_nil]
          omega
      · have hb : ¬ dget kd1 (gI row here) = none := fun z => by rw [z] at hb; simp at hb
        have hold : gI row here ∈ kd1.map (·.1) := Classical.byContradiction fun z => hb (dget_none.mpr z)
        refine ⟨kd1, ws1, _, _, rfl, ⟨i1, i2, i3, i4, i5, i6, fun j hj => ?_⟩, hm1, rfl, rfl⟩
        rcases Nat.lt_succ_iff_lt_or_eq.mp hj with hj | rfl
        · exact i7 j hj
        · rw [er]; exact hold
    · obtain ⟨kd1, ws1, b, c, rfl, ⟨i1, i2, i3, i4, i5, i6, i7⟩, hm1, bb, bc⟩ := hI
      refine ⟨_, hm1, kd1, ws1, _, b, c, rfl, ⟨i1, i2, i3, i4, fun x hx hn n ok => ?_⟩, rfl, by omega, rfl, bb, bc⟩
      by_cases e : x = here
      · subst e
        have := i7 n.toNat (by rw [List.length_map]; have := ok.1; have := ok.2; omega)
        have en : ((n.toNat : Nat) : Int) = n := by have := ok.1; omega
        rw [en] at this; exact this
      · exact i6 x hx hn e n ok
  · have hz : ws = [] := by
      have hb : (!deq (.lst (ws.map .int)) (.lst ([].map .int))) = false := hb
      have hb : deq (.lst (ws.map .int)) (.lst ([].map .int)) = true := by simpa using hb
      have := (deq_iff (fl ws) (fl [])).mp hb
      exact ints_inj (by injection this)
    subst hz
    have kl := nodup_le hc p0 p1 hin.nd hin.rc
    rw [List.length_map] at kl
    refine JSs.forget 4 (JSs.forget 5 (JSs.forget 6 (JSs.one (JS.ret (je_sortedD cj 0 2 T.z_sorted ?_ ?_)))))
    · exact (by omega : kd0.length < 64)
    · rw [rin_end hc p0 p1 hin]; exact hR
@[reducible] def sp_closed (T : Tx K mg) : J.Spec := fun ps R _ => ∃ (many : Int) (mv : List (Int × List Int)), ps = [.v (.ins T.C_Chain ["many", "moves"] [.int many, .lst (mv.map mvD)])] ∧ Ch many mv ∧ R (.ow (.lst (loD (clF many mv)))) []
open Classical in
theorem ok_closed (T : Tx K mg) : FnOk P w K mg base (L2.CX P w) 2 T.a_closed T.d_closed ["chain"] (SpJ K (sp_closed T)) := by
  refine jfn T.F_closed z_closed zo_closed zf_closed (sp_closed T) (fun as R RX h => ?_) (fun X B E as R RX cj hE h => ?_)
  · obtain ⟨_, _, rfl, _⟩ := h; rfl
  obtain ⟨many, mv, rfl, hc, hR⟩ := h
  have m1 := hc.m1
  have m2 := hc.m2
  show JSs X B _ [.fz (chD T.C_Chain many mv), .no, .no, .no, .no] _
  refine JSs.cons (js_set cj 1 (je_lst (JD.nil ⟨lz rfl, ?_⟩)))
  refine JSs.cons (js_for cj (ji_range1 cj 0 T.z_range (jv_fldK cj T.cl_Chain T.na_Chain_many (jv_name cj 0 ⟨_, _, _, rfl, rfl, many, rfl, ?_, ?_, fun i G => ∃ a b, G = [.fz (chD T.C_Chain many mv), .ow (.lst (loD (clTo many mv i))), a, b, .no], ⟨.no, .no, rfl⟩, fun i d G hi hd hI => ?_, fun G hI => ?_⟩))))
  · omega
  · omega
  · obtain ⟨a, b, rfl⟩ := hI
    have hd : d = .int ((i : Nat) : Int) := hd.trans (by rw [Int.zero_add])
    subst hd
    have i0 : (0 : Int) ≤ (i : Nat) := by omega
    have i1 : ((i : Nat) : Int) < many := by omega
    have fl : ∀ l : List Int, Flat 1 (.lst (l.map .int)) := fun l => .lst (flat_ints l)
    have self := rchL_self hc i0 i1
    obtain ⟨least, hlm, hmin⟩ : ∃ m, m ∈ rchL many mv (i : Nat) ∧ ∀ o ∈ rchL many mv (i : Nat), m ≤ o := by
      have hs := rchL_lt many mv (i : Nat)
      cases hr : rchL many mv ((i : Nat) : Int) with
      | nil => rw [hr] at self; cases self
      | cons m r =>
        rw [hr] at hs
        refine ⟨m, by simp, fun o ho => ?_⟩
        rcases List.mem_cons.mp ho with rfl | ho
        · exact Int.le_refl _
        · exact Int.le_of_lt ((List.pairwise_cons.mp hs).1 o ho)
    refine JG.name cj 2 ?_
    refine JSs.cons (js_set cj 3 (je_call0 cj (ok_reached T) (by decide) 1 T.g_reached T.F_reached.kp T.b_reached (JD.cons (jv_name cj 0 (JD.cons (jv_name cj 2 (JD.nil ⟨many, mv, _, rfl, hc, i0, i1, ?_⟩)))))))
    refine JSs.one (JS.ite (JW.jt (jw_and (jt_eqi cj (jv_minL cj 2 T.z_min (jv_nameF cj 3 ⟨rchL many mv (i : Nat), least, rfl, hlm, hmin, jv_name cj 2 ⟨_, _, rfl, rfl, fun hb => ?_, fun hb => ?_⟩⟩))))))
    rotate_left
    · refine ⟨fun z => absurd z (by decide), fun _ => ?_⟩
      have hb : ¬ least = (i : Nat) := by simpa using hb
      have hB : clB many mv (i : Nat) = false := decide_eq_false fun z => hb ?_
      · exact JSs.nil ⟨.fz (.int (i : Nat)), .fz (.lst ((rchL many mv (i : Nat)).map .int)), by rw [clTo_succ hi, hB]; simp⟩
      have h1 := hmin _ self
      have h2 := z.1 least hlm
      omega
    have hb : least = (i : Nat) := by simpa using hb
    have hL : Lst1 many mv (i : Nat) := fun o ho => by rw [← hb]; exact hmin o ho
    refine jw_and1 (jt_eq cj (JE.jv (je_lcB cj [0, 2, 4] [4] ["reached"] [("other", 4)] (ji_seq (jv_name cj 3 ⟨_, .inl rfl, ?_⟩)))))
    refine ⟨?_, fun j acc G => acc = (((rchL many mv (i : Nat)).take j).filter fun o => !decide (((i : Nat) : Int) ∈ rchL many mv o)).map D.int ∧ G = [.fz (chD T.C_Chain many mv), .ow (.lst (loD (clTo many mv i))), .fz (.int (i : Nat)), .fz (.lst ((rchL many mv (i : Nat)).map .int)), .no], ⟨rfl, rfl⟩, fun j d acc G2 hj hd hI _ X1 c1 => ?_, fun acc G2 hI => ?_⟩
    · have := @rchL_len many mv (i : Nat); rw [List.length_map]; unfold sizeLine; omega
    · obtain ⟨rfl, rfl⟩ := hI
      obtain ⟨o, ho, rfl⟩ := map_int_get hd
      have hoi := rchL_in (List.mem_of_getElem? ho)
      refine JG.name c1 4 fun X2 c2 => JTs.one (jt_notinL c2 (jv_name c2 2 (JE.jv (je_call0 c2 (ok_reached T) (by decide) 0 T.g_reached T.F_reached.kp T.b_reached ?_))))
      refine JD.cons (jv_name c2 0 (JD.cons (jv_name c2 4 (JD.nil ⟨many, mv, o, rfl, hc, hoi.1, hoi.2, (i : Nat), rchL many mv o, rfl, rfl, fun hb X3 c3 => jv_name c3 4 ⟨?_, rfl⟩, fun hb => ⟨?_, rfl⟩⟩))))
      · have hb : (i : Int) ∉ rchL many mv o := by simpa using hb
        rw [List.take_add_one, ho, List.filter_append, List.map_append]
        congr 1
        simp [hb]
      · have hb : (i : Int) ∈ rchL many mv o := by simpa using hb
        rw [List.take_add_one, ho, List.filter_append, List.map_append]
        simp [hb]
    · obtain ⟨rfl, rfl⟩ := hI
      rw [List.length_map, List.take_length]
      obtain ⟨fs, efs⟩ : ∃ fs, ((rchL many mv (i : Nat)).filter fun o => !decide (((i : Nat) : Int) ∈ rchL many mv o)) = fs := ⟨_, rfl⟩
      rw [efs]
      have hfs : fs = [] ↔ Cls1 many mv (i : Nat) := by
        rw [← efs, List.filter_eq_nil_iff]
        constructor
        · intro h o ho
          have := h o ho
          exact Classical.byContradiction fun z => this (by simpa using z)
        · intro h o ho z
          have z : (i : Int) ∉ rchL many mv o := by simpa using z
          exact z (h o ho)
      refine JE.jv (je_lst (JD.nil ⟨lz rfl, ⟨1, fl fs, by decide⟩, ⟨1, fl [], by decide⟩, fun hb2 => ?_, fun hb2 => ?_⟩))
      · have : fs = [] := by
          have := (deq_iff (fl fs) (fl [])).mp hb2
          exact ints_inj (by injection this)
        have hB : clB many mv (i : Nat) = true := decide_eq_true ⟨hL, hfs.mp this⟩
        refine JSs.one (js_append cj 1 (jv_name cj 3 ⟨loD (clTo many mv i), rfl, ?_, .fz (.int (i : Nat)), .fz (.lst ((rchL many mv (i : Nat)).map .int)), ?_⟩))
        · have := @clTo_len many mv i; unfold loD; rw [List.length_map]; unfold sizeLine; omega
        · rw [clTo_succ hi, hB, if_pos rfl]; unfold loD; rw [List.map_append]; rfl
      · have : ¬ fs = [] := fun z => by rw [z] at hb2; have hb2 : deq (.lst ([].map D.int)) (.lst ([].map D.int)) = false := hb2; rw [deq_refl (fl [])] at hb2; cases hb2
        have hB : clB many mv (i : Nat) = false := decide_eq_false fun z => this (hfs.mpr z.2)
        exact JSs.nil ⟨.fz (.int (i : Nat)), .fz (.lst ((rchL many mv (i : Nat)).map .int)), by rw [clTo_succ hi, hB]; simp⟩
  · obtain ⟨a, b, rfl⟩ := hI
    exact JSs.forget 2 (JSs.forget 3 (JSs.one (JS.ret (je_move cj 1 hR))))
/-- NotOne -/
theorem ok_NotOne_init (T : Tx K mg) : FnOk P w K mg base (L2.CX P w) 1 T.a_NotOne___init__ T.d_NotOne___init__ ["self", "groups"] (spEx T.C_NotOne "groups") :=
  xinit_ok T.F_NotOne___init__ zf_NotOne___init__ rfl T.xb_LongError T.g_LongError T.X_NotOne (by decide +kernel) (by decide +kernel) (by decide +kernel) (by decide +kernel) (fun _ => ⟨_, rfl⟩)
@[reducible] def sp_Chain_weight (T : Tx K mg) : J.Spec := fun ps R _ => ∃ (many : Int) (mv : List (Int × List Int)), ps = [.v (.ins T.C_Chain ["many", "moves"] [.int many, .lst (mv.map mvD)])] ∧ Ch many mv ∧ R (.fz (.int (wsum mv))) []
theorem ok_Chain_weight (T : Tx K mg) : FnOk P w K mg base (L2.CX P w) 1 T.a_Chain_weight T.d_Chain_weight ["self"] (SpJ K (sp_Chain_weight T)) := by
  refine jfn T.F_Chain_weight z_Chain_weight zo_Chain_weight zf_Chain_weight (sp_Chain_weight T) (fun as R RX h => ?_) (fun X B E as R RX cj hE h => ?_)
  · obtain ⟨_, _, rfl, _⟩ := h; rfl
  obtain ⟨many, mv, rfl, hc, hR⟩ := h
  have l2 := hc.l2
  show JSs X B _ [.fz (chD T.C_Chain many mv), .no, .no] _
  refine JSs.one (JS.ret (JV.je (jv_sum cj 0 T.z_sum (JE.jv (je_lcB cj [1, 2] [1, 2] [] [("weight", 1), ("row", 2)] (ji_seq (jv_fldK cj T.cl_Chain T.na_Chain_moves (jv_name cj 0 ⟨_, _, _, rfl, rfl, _, .inl rfl, LcI.map (fun i d => ∀ p, mv[i]? = some p → d = .int p.1) ?_ (fun G => G = [.fz (chD T.C_Chain many mv), .no, .no]) rfl (fun j d G2 hj hd hI X1 c1 => ?_) fun acc G2 hacc hv hI => ?_⟩))))))))
  · rw [List.length_map]; unfold sizeLine; omega
  · subst hI
    obtain ⟨p, hp, rfl⟩ := map_get hd
    refine JG.tup c1 (JGs.cons (JG.name c1 1 (JGs.cons (JG.name c1 2 (JGs.nil fun X3 c3 => jv_name c3 1 ⟨fun q hq => ?_, rfl⟩)))))
    rw [hp] at hq; cases hq; rfl
  · subst hI
    rw [List.length_map] at hacc
    have eacc : acc = (mv.map (·.1)).map .int := by
      rw [List.map_map]
      apply List.ext_getElem?
      intro i
      by_cases hi : i < mv.length
      · have hlt : i < acc.length := by omega
        rw [List.getElem?_map, List.getElem?_eq_getElem hi, List.getElem?_eq_getElem hlt]
        rw [hv i _ (List.getElem?_eq_getElem hlt) _ (List.getElem?_eq_getElem hi)]; rfl
      · rw [List.getElem?_eq_none (by omega), List.getElem?_eq_none (by simp; omega)]
    subst eacc
    exact ⟨_, rfl, hR⟩
/-- chances -/
def chaD (many : Int) (mv : List (Int × List Int)) : D := .lst ((rg many).map fun p => .lst ((rowC many (wsum mv) mv p).map frD))
@[reducible] def sp_chances (T : Tx K mg) : J.Spec := fun ps R _ => ∃ (many : Int) (mv : List (Int × List Int)), ps = [.v (.ins T.C_Chain ["many", "moves"] [.int many, .lst (mv.map mvD)])] ∧ Ch many mv ∧ R (.fz (chaD many mv)) []
theorem ok_chances (T : Tx K mg) : FnOk P w K mg base (L2.CX P w) 3 T.a_chances T.d_chances ["chain"] (SpJ K (sp_chances T)) := by
  refine jfn T.F_chances z_chances zo_chances zf_chances (sp_chances T) (fun as R RX h => ?_) (fun X B E as R RX cj hE h => ?_)
  · obtain ⟨_, _, rfl, _⟩ := h; rfl
  obtain ⟨many, mv, rfl, hc, hR⟩ := h
  have m1 := hc.m1
  have m2 := hc.m2
  obtain ⟨w1, w2⟩ := wsum_pos hc
  show JSs X B _ [.fz (chD T.C_Chain many mv), .no, .no, .no, .no, .no, .no, .no, .no, .no, .no, .no] _
  refine JSs.cons ?_
  refine js_setLcN cj 1 6 [0, 4] [4] ["range"] [("place", 4)] (ji_range1 cj 0 T.z_range (jv_fldK cj T.cl_Chain T.na_Chain_many (jv_name cj 0 ⟨_, _, _, rfl, rfl, many, rfl, ?_, ?_, ?_, ?_, fun i ds => ds = (rowC many (wsum mv) [] (i : Int)).map frD, fun G => G = [.fz (chD T.C_Chain many mv), .no, .no, .no, .no, .no, .no, .no, .no, .no, .no, .no], rfl, fun i d G2 hi hd hI X1 c1 => ?_, fun acc G2 hacc hV hI => ?_⟩)))
  · omega
  · omega
  · show many.toNat + 6 ≤ 12
    omega
  · unfold sizeLine; omega
  · subst hI
    refine JG.name c1 4 fun X3 c3 => ?_
    refine je_lcB c3 [5] [5] ["NOUGHT"] [("other", 5)] (ji_range1 c3 0 T.z_range (jv_fldK c3 T.cl_Chain T.na_Chain_many (jv_name c3 0 ⟨_, _, _, rfl, rfl, many, rfl, ?_, ?_, ?_⟩)))
    · omega
    · omega
    refine LcI.map (fun _ d => d = frD 0) ?_ (fun G => G = [.fz (chD T.C_Chain many mv), .no, .no, .no, .fz d, .no, .no, .no, .no, .no, .no, .no]) rfl (fun j d2 G2 hj hd2 hI X1 c1 => ?_) fun acc G2 hacc hv hI => ?_
    · unfold sizeLine; omega
    · subst hI
      refine JG.name c1 5 fun X4 c4 => ?_
      exact jv_globT c4 0 T.g_NOUGHT T.p_NOUGHT ⟨rfl, rfl⟩
    · subst hI
      refine ⟨acc, rfl, ?_, rfl⟩
      have e0 : ∀ q, cfr (wsum mv) [] (i : Int) q = 0 := fun q => by
        unfold cfr cwt
        exact Rat.zero_mkRat _
      apply List.ext_getElem?
      intro j
      by_cases hj : j < many.toNat
      · have hlt : j < acc.length := by omega
        rw [List.getElem?_eq_getElem hlt, hv j _ (List.getElem?_eq_getElem hlt)]
        unfold rowC
        rw [List.map_map, List.getElem?_map, rg_get hj]
        show some (frD 0) = some (frD (cfr (wsum mv) [] (i : Int) _))
        rw [e0]
      · rw [List.getElem?_eq_none (by omega), List.getElem?_eq_none (by rw [List.length_map, rowC_len]; omega)]
  subst hI
  have hl6 : acc.reverse.length ≤ (List.replicate 6 Ent.no).length := by rw [List.length_reverse, List.length_replicate]; omega
  have eg := gG_eq (gb := 6) acc.reverse [.fz (chD T.C_Chain many mv), .ow (.lst (acc.map refD)), .no, .no, .no, .no] (List.replicate 6 Ent.no) rfl hl6
  rw [List.reverse_reverse, List.length_reverse] at eg
  show JSs X B _ (gG 6 acc.reverse ([.fz (chD T.C_Chain many mv), .ow (.lst (acc.map refD)), .no, .no, .no, .no] ++ List.replicate 6 Ent.no)) _
  rw [eg]
  clear eg
  have gl : (List.replicate 6 Ent.no).drop acc.length = List.replicate (6 - acc.length) Ent.no := List.drop_replicate
  rw [gl]
  refine JSs.cons ?_
  refine js_for cj (ji_seq (jv_fldK cj T.cl_Chain T.na_Chain_moves (jv_name cj 0 ⟨_, _, D.lst (mv.map mvD), rfl, rfl, _, .inl rfl, fun i G => ∃ (acc : RL) (a2 a3 a4 a5 : Ent), acc.length = many.toNat ∧ (∀ (k : Nat) p, acc[k]? = some p → p.2 = (rowC many (wsum mv) (mv.take i) (k : Int)).map frD) ∧ G = [.fz (chD T.C_Chain many mv), .ow (.lst (acc.map refD)), a2, a3, a4, a5] ++ (acc.map rowE ++ List.replicate (6 - acc.length) Ent.no), ⟨acc, _, _, _, _, hacc, hV, rfl⟩, fun i d G hi hd hI => ?_, fun G hI => ?_⟩)))
  · obtain ⟨acc, a2, a3, a4, a5, hacc, hV, rfl⟩ := hI
    obtain ⟨⟨wt, row⟩, hq, rfl⟩ := map_get hd
    have hmem := List.mem_of_getElem? hq
    have ok := hc.mv _ hmem
    have wt1 : 1 ≤ wt := ok.1.1
    have wt2 : wt ≤ 99 := ok.1.2
    have rl : (row.length : Int) = many := ok.2.1
    refine JG.tup cj (JGs.cons (JG.name cj 2 (JGs.cons (JG.name cj 3 (JGs.nil ?_)))))
    refine JSs.one ?_
    refine js_for cj (ji_range1 cj 0 T.z_range (jv_fldK cj T.cl_Chain T.na_Chain_many (jv_name cj 0 ⟨_, _, _, rfl, rfl, many, rfl, ?_, ?_, fun j G => ∃ (acc : RL) (a4 a5 : Ent), acc.length = many.toNat ∧ (∀ (k : Nat) p, acc[k]? = some p → p.2 = (rowC many (wsum mv) (mv.take (if k < j then i + 1 else i)) (k : Int)).map frD) ∧ G = [.fz (chD T.C_Chain many mv), .ow (.lst (acc.map refD)), .fz (.int wt), .fz (.tup (row.map .int)), a4, a5] ++ (acc.map rowE ++ List.replicate (6 - acc.length) Ent.no), ⟨acc, a4, a5, hacc, fun k p hp => by rw [if_neg (Nat.not_lt_zero k)]; exact hV k p hp, rfl⟩, fun j d2 G hj hd2 hI => ?_, fun G hI => ?_⟩)))
    · omega
    · omega
    · obtain ⟨acc, a4, a5, hacc, hV, rfl⟩ := hI
      have hd2 : d2 = .int ((j : Nat) : Int) := hd2.trans (by rw [Int.zero_add])
      subst hd2
      have hjm : j < many.toNat := hj
      have hp : acc[j]? = some acc[j] := List.getElem?_eq_getElem (by omega)
      have hr := hV j _ hp
      rw [if_neg (Nat.lt_irrefl j)] at hr
      obtain ⟨q0, q1⟩ := hc.gI hmem (p := (j : Int)) (by omega) (by omega)
      have q0 : 0 ≤ gI row (j : Int) := q0
      have q1 : gI row (j : Int) < many := q1
      obtain ⟨pa, pds⟩ : ∃ pp, acc[j] = pp := ⟨_, rfl⟩
      have hp : acc[j]? = some pa := by rw [← pds]; exact hp
      rw [pds] at hr
      obtain ⟨ad, ds⟩ := pa
      have hr : ds = _ := hr
      subst hr
      have hgh := gh_get (pre := [.fz (chD T.C_Chain many mv), .ow (.lst (acc.map refD)), .fz (.int wt), .fz (.tup (row.map .int)), .fz (.int ((j : Nat) : Int)), .fz (.int (gI row (j : Int)))]) (R := List.replicate (6 - acc.length) Ent.no) hp
      have hix : atI (acc.map refD) ((j : Nat) : Int) = some (.raw (.ref ad)) := at_mapN (f := refD) hp
      refine JG.name cj 4 ?_
      refine JSs.cons ?_
      refine js_set cj 5 (JV.je (jv_ix (jv_name cj 3 (jv_name cj 4 ⟨_, ((j : Nat) : Int), D.int (gI row (j : Int)), .tup, rfl, at_int (ns := row) ?_ ?_, ?_⟩))))
      · omega
      · omega
      show JSs X B _ ([.fz (chD T.C_Chain many mv), .ow (.lst (acc.map refD)), .fz (.int wt), .fz (.tup (row.map .int)), .fz (.int ((j : Nat) : Int)), .fz (.int (gI row (j : Int)))] ++ (acc.map rowE ++ List.replicate (6 - acc.length) Ent.no)) _
      refine JSs.one ?_
      refine js_setixG (JE.jv (je_call0 cj (ok_added T) (by decide) 1 T.g_added T.F_added.kp T.b_added ?_))
      have hat : atI ((rowC many (wsum mv) (mv.take i) (j : Int)).map frD) (gI row (j : Int)) = some (frD (cfr (wsum mv) (mv.take i) (j : Int) (gI row (j : Int)))) := at_map (f := frD) q0 (rg_getD (f := fun q => cfr (wsum mv) (mv.take i) (j : Int) q) q0 q1)
      refine JD.cons (jv_ixG (jv_ixO cj 1 (jv_name cj 4 ⟨_, _, _, rfl, rfl, hix, jv_name cj 5 ⟨ad, _, _, _, _, rfl, hgh, rfl, hat, ?_⟩⟩)))
      refine JD.cons (JE.jv (je_call0 cj (ok_made T) (by decide) 2 T.g_made T.F_made.kp T.b_made ?_))
      refine JD.cons (jv_name cj 2 (JD.cons (JE.jv (je_meth0 cj (ok_Chain_weight T) (by decide) T.cl_Chain T.M_Chain_weight T.b_Chain_weight (jv_name cj 0 ⟨_, _, rfl, by decide +kernel, many, mv, rfl, hc, ?_⟩)))))
      have hw8 : (wsum mv).natAbs < 2 ^ 8000 := Nat.lt_of_lt_of_le (small_nat (a := wsum mv) (by omega) (by omega)) (Nat.pow_le_pow_right (by decide) (by decide))
      refine JD.nil ⟨wt, wsum mv, rfl, by omega, hw8, ?_⟩
      refine JD.nil ⟨_, mkRat wt (wsum mv).toNat, rfl, cfr_sm hc i _ _, SmW (by omega) (small_nat (by omega) (by omega)) (small_nat (by omega) (by omega)), ?_⟩
      refine jv_ixO cj 1 (jv_name cj 4 ⟨_, _, _, rfl, rfl, hix, jv_name cj 5 ⟨ad, _, _, _, (gI row (j : Int)).toNat, rfl, hgh, rfl, ixN_pos q0 ?_, ?_⟩⟩)
      · rw [List.length_map, rowC_len]; omega
      rw [rowC_step (by omega) hq (j : Int) q0 q1]
      have hset := gh_set (pre := [.fz (chD T.C_Chain many mv), .ow (.lst (acc.map refD)), .fz (.int wt), .fz (.tup (row.map .int)), .fz (.int ((j : Nat) : Int)), .fz (.int (gI row (j : Int)))]) (R := List.replicate (6 - acc.length) Ent.no) (q := (ad, (rowC many (wsum mv) (mv.take (i + 1)) (j : Int)).map frD)) hp
      refine ⟨acc.set j (ad, (rowC many (wsum mv) (mv.take (i + 1)) (j : Int)).map frD), .fz (.int ((j : Nat) : Int)), .fz (.int (gI row (j : Int))), by rw [List.length_set]; exact hacc, fun k p hk => ?_, ?_⟩
      · by_cases z : j = k
        · subst z
          rw [List.getElem?_set_self (by omega)] at hk
          cases hk
          rw [if_pos (Nat.lt_succ_self j)]
        · rw [List.getElem?_set_ne z] at hk
          have := hV k p hk
          by_cases z2 : k < j
          · rw [if_pos z2] at this; rw [if_pos (by omega)]; exact this
          · rw [if_neg z2] at this; rw [if_neg (by omega)]; exact this
      · rw [refs_set (q := (ad, (rowC many (wsum mv) (mv.take (i + 1)) (j : Int)).map frD)) hp rfl, List.length_set]
        exact hset
    · obtain ⟨acc, a4, a5, hacc, hV, rfl⟩ := hI
      refine ⟨acc, .fz (.int wt), .fz (.tup (row.map .int)), a4, a5, hacc, fun k p hp => ?_, rfl⟩
      have := hV k p hp
      have hk := (List.getElem?_eq_some_iff.mp hp).1
      rw [if_pos (by omega)] at this
      exact this
  · obtain ⟨acc, a2, a3, a4, a5, hacc, hV, rfl⟩ := hI
    rw [List.length_map, List.take_length] at hV
    refine JSs.forget 2 (JSs.forget 3 (JSs.forget 4 (JSs.forget 5 ?_)))
    refine JSs.unghosts 1 (pre := [.fz (chD T.C_Chain many mv), .no, .no, .no, .no, .no]) (R := List.replicate (6 - acc.length) Ent.no) (by decide : 1 < 6) acc [] ?_
    have eacc : (([] ++ acc : RL).map fun p => D.lst p.2) = (rg many).map fun p => .lst ((rowC many (wsum mv) mv p).map frD) := by
      apply List.ext_getElem?
      intro k
      rw [List.nil_append]
      by_cases hk : k < many.toNat
      · have hp : acc[k]? = some acc[k] := List.getElem?_eq_getElem (by omega)
        rw [List.getElem?_map, hp, List.getElem?_map, rg_get hk]
        show some (D.lst acc[k].2) = _
        rw [hV k _ hp]; rfl
      · rw [List.getElem?_eq_none (by rw [List.length_map]; omega), List.getElem?_eq_none (by rw [List.length_map, rg_len]; omega)]
    rw [eacc]
    refine JSs.one (JS.ret (JV.je (jv_nameF cj 1 ?_)))
    show R _ (bws ([.fz (chD T.C_Chain many mv), .fz (chaD many mv), .no, .no, .no, .no] ++ (List.replicate ([] ++ acc).length Ent.no ++ List.replicate (6 - acc.length) Ent.no)))
    rw [bws_app, bws_app, bws_nos, bws_nos]
    exact hR
/-- own -/
theorem Sm_one : Sm 1 := ⟨Nat.one_lt_two_pow (by decide), Nat.one_lt_two_pow (by decide)⟩
theorem mtL_succ (i L : Nat) (M : Nat → Nat → Rat) : mtL (i + 1) L M = mtL i L M ++ [rwL L (M i)] := by
  unfold mtL
  rw [List.range_succ, List.map_append]; rfl
@[reducible] def sp_own (T : Tx K mg) : J.Spec := fun ps R RX => ∃ (many : Int) (mv : List (Int × List Int)), ps = [.v (.ins T.C_Chain ["many", "moves"] [.int many, .lst (mv.map mvD)])] ∧ Ch many mv ∧
  (1 < (clF many mv).length → RX ⟨T.C_NotOne, [("groups", .lst (loD (clF many mv)))]⟩) ∧
  ((clF many mv).length ≤ 1 → ∀ x, Own many mv x → (∀ i < many.toNat, (x i).den < 2 ^ 703) → (∀ i < many.toNat, Sm (x i)) → R (.fz (rwL many.toNat x)) [])
theorem ok_own (T : Tx K mg) : FnOk P w K mg base (L2.CX P w) 5 T.a_own T.d_own ["chain"] (SpJ K (sp_own T)) := by
  refine jfn T.F_own z_own zo_own zf_own (sp_own T) (fun as R RX h => ?_) (fun X B E as R RX cj hE h => ?_)
  · obtain ⟨_, _, rfl, _⟩ := h; rfl
  obtain ⟨many, mv, rfl, hc, hX, hR⟩ := h
  have m1 := hc.m1
  have m2 := hc.m2
  obtain ⟨n, hn⟩ : ∃ n : Nat, many = (n : Int) := ⟨many.toNat, by omega⟩
  have hnt : many.toNat = n := by omega
  show JSs X B _ [.fz (chD T.C_Chain many mv), .no, .no, .no, .no, .no, .no] _
  refine JSs.cons (js_set cj 1 (je_call0 cj (ok_closed T) (by decide) 0 T.g_closed T.F_closed.kp T.b_closed (JD.cons (jv_name cj 0 (JD.nil ⟨many, mv, rfl, hc, ?_⟩)))))
  refine JSs.cons (JS.ite (jt_gt (jv_lenO cj 1 1 T.z_len (jv_int ⟨_, _, rfl, rfl, fun hb => ?_, fun hb => ?_⟩))))
  · have hb := of_decide_eq_true hb
    unfold loD at hb
    rw [List.length_map] at hb
    exact JSs.one (js_raiseF cj (by decide) 2 T.X_NotOne (ok_NotOne_init T) T.b_NotOne___init__ T.g_NotOne (jv_nameF cj 1 (hE _ _ (hX (by omega)))))
  have hb := of_decide_eq_false hb
  unfold loD at hb
  rw [List.length_map] at hb
  have hl : (clF many mv).length ≤ 1 := by omega
  refine JSs.nil ?_
  refine JSs.cons ?_
  refine js_set cj 2 (je_call0 cj (ok_chances T) (by decide) 3 T.g_chances T.F_chances.kp T.b_chances (JD.cons (jv_name cj 0 (JD.nil ⟨many, mv, rfl, hc, ?_⟩))))
  refine JSs.cons (js_set cj 3 (je_lst (JD.nil ⟨lz rfl, ?_⟩)))
  refine JSs.forget 1 ?_
  show JSs X B _ [.fz (chD T.C_Chain many mv), .no, .fz (chaD many mv), .ow (.lst []), .no, .no, .no] _
  refine JSs.cons ?_
  refine js_for cj (ji_range1 cj 4 T.z_range (jv_sub (jv_fldK cj T.cl_Chain T.na_Chain_many (jv_name cj 0 ⟨_, _, _, rfl, rfl, jv_int ⟨_, _, rfl, rfl, _, rfl, ?_, ?_, fun i G => ∃ a4 a5 a6, G = [.fz (chD T.C_Chain many mv), .no, .fz (chaD many mv), .ow (.lst (mtL i (n + 1) (ownM mv n))), a4, a5, a6], ⟨_, _, _, rfl⟩, fun i d G hi hd hI => ?_, fun G hI => ?_⟩⟩))))
  · omega
  · omega
  · obtain ⟨a4, a5, a6, rfl⟩ := hI
    have hd : d = .int ((i : Nat) : Int) := hd.trans (by rw [Int.zero_add])
    subst hd
    have hin : i + 1 < n := by omega
    refine JG.name cj 4 ?_
    refine JSs.cons ?_
    refine js_setLcB cj 5 [2, 4, 6] [6] [] [("other", 6)] (ji_range1 cj 4 T.z_range (jv_fldK cj T.cl_Chain T.na_Chain_many (jv_name cj 0 ⟨_, _, _, rfl, rfl, many, rfl, ?_, ?_, ?_⟩)))
    · omega
    · omega
    refine LcI.map (fun j d => d = frD (Pn mv j i)) ?_ (fun G => G = [.fz (chD T.C_Chain many mv), .no, .fz (chaD many mv), .ow (.lst (mtL i (n + 1) (ownM mv n))), .fz (.int ((i : Nat) : Int)), a5, .no]) ?_ (fun j d G2 hj hd hI X1 c1 => ?_) fun acc G2 hacc hv hI => ?_
    · unfold sizeLine; omega
    · rfl
    · subst hI
      have hd : d = .int ((j : Nat) : Int) := hd.trans (by rw [Int.zero_add])
      subst hd
      have hrow : atI ((rg many).map fun p => D.lst ((rowC many (wsum mv) mv p).map frD)) ((j : Nat) : Int) = some (.lst ((rowC many (wsum mv) mv (j : Int)).map frD)) := at_nat (by rw [List.getElem?_map, rg_get (by omega)]; rfl)
      refine JG.name c1 6 fun X3 c3 => ?_
      refine jv_ix (jv_ix (jv_name c3 2 (jv_name c3 6 ⟨_, _, _, .lst, rfl, hrow, jv_name c3 4 ⟨_, _, _, .lst, rfl, at_map (f := frD) (i := (i : Int)) (by omega) (rg_getD (f := fun q => cfr (wsum mv) mv (j : Int) q) (q := (i : Int)) (by omega) (by omega)), rfl, rfl⟩⟩)))
    subst hI
    have eacc : acc = (List.range n).map fun j => frD (Pn mv j i) := by
      apply List.ext_getElem?
      intro j
      by_cases hj : j < n
      · have hlt : j < acc.length := by omega
        rw [List.getElem?_eq_getElem hlt, hv j _ (List.getElem?_eq_getElem hlt), List.getElem?_map, rng_get hj]; rfl
      · rw [List.getElem?_eq_none (by omega), List.getElem?_eq_none (by rw [List.length_map, List.length_range]; omega)]
    subst eacc
    refine JSs.cons ?_
    refine js_setix cj 5 (JE.jv (je_call0 cj (ok_less T) (by decide) 5 T.g_less T.F_less.kp T.b_less ?_))
    refine JD.cons (jv_ixO cj 5 (jv_name cj 4 ⟨_, _, _, rfl, rfl, at_nat (by rw [List.getElem?_map, rng_get (by omega : i < n)]; rfl), ?_⟩))
    refine JD.cons (jv_globT cj 6 T.g_WHOLE T.p_WHOLE (JD.nil ⟨Pn mv i i, 1, rfl, Pn_sm hc i i, Sm_one, ?_⟩))
    refine jv_name cj 4 ⟨_, _, i, rfl, rfl, ?_, ?_⟩
    · rw [List.length_map, List.length_range]; exact (ixN_pos (by omega) (by omega)).trans (by rw [Int.toNat_natCast])
    have e1 : ((List.range n).map fun j => frD (Pn mv j i)).set i (frD (Pn mv i i - 1)) = (List.range n).map fun j => frD (Pn mv j i - if j = i then 1 else 0) := by
      have := rng_set (n := n) (i := i) (f := fun j => frD (Pn mv j i)) (g := fun j => frD (Pn mv j i - if j = i then 1 else 0)) (by omega) fun j hne _ => by
        show frD _ = frD _
        rw [if_neg hne]
        congr 1; grind
      rw [← this]
      show _ = List.set _ _ (frD (Pn mv i i - if i = i then 1 else 0))
      rw [if_pos rfl]
    rw [e1]
    refine JSs.one ?_
    refine js_append cj 3 (JE.jv (je_cat (jv_nameF cj 5 (JE.jv (je_lst (JD.cons (jv_globT cj 7 T.g_NOUGHT T.p_NOUGHT (JD.nil ⟨lz rfl, _, _, rfl, rfl, ?_, mtL i (n + 1) (ownM mv n), rfl, ?_, .fz (.int ((i : Nat) : Int)), .fz (.lst ((List.range n).map fun j => frD (Pn mv j i - if j = i then 1 else 0))), .no, ?_⟩))))))))
    · rw [List.length_map, List.length_range]; unfold sizeLine; show n + 1 ≤ _; omega
    · rw [mtL_len]; unfold sizeLine; omega
    have e2 : ((List.range n).map fun j => frD (Pn mv j i - if j = i then 1 else 0)) ++ [frD 0] = (List.range (n + 1)).map fun j => frD (ownM mv n i j) := by
      rw [List.range_succ, List.map_append]
      congr 1
      · refine List.map_congr_left fun j hj => ?_
        have := List.mem_range.mp hj
        unfold ownM
        rw [if_pos hin, if_pos this]
      · unfold ownM
        rw [List.map_cons, if_pos hin, if_neg (Nat.lt_irrefl n)]; rfl
    show ([.fz (chD T.C_Chain many mv), .no, .fz (chaD many mv), .ow (.lst (mtL i (n + 1) (ownM mv n) ++ [.lst (((List.range n).map fun j => frD (Pn mv j i - if j = i then 1 else 0)) ++ [frD 0])])), _, _, _] : List Ent) = _
    rw [mtL_succ, e2]; rfl
  · obtain ⟨a4, a5, a6, rfl⟩ := hI
    have em : (many - 1).toNat = n - 1 := by omega
    rw [em]
    refine JSs.forget 4 (JSs.forget 5 (JSs.forget 6 ?_))
    show JSs X B _ [.fz (chD T.C_Chain many mv), .no, .fz (chaD many mv), .ow (.lst (mtL (n - 1) (n + 1) (ownM mv n))), .no, .no, .no] _
    refine JSs.cons ?_
    refine js_append cj 3 (JE.jv (je_lcB cj [4] [4] ["WHOLE"] [("place", 4)] (ji_range1 cj 4 T.z_range (jv_add (jv_fldK cj T.cl_Chain T.na_Chain_many (jv_name cj 0 ⟨_, _, _, rfl, rfl, jv_int ⟨_, _, rfl, rfl, _, rfl, ?_, ?_, ?_⟩⟩))))))
    · omega
    · omega
    refine LcI.map (fun j d => d = frD 1) ?_ (fun G => G = [.fz (chD T.C_Chain many mv), .no, .fz (chaD many mv), .ow (.lst (mtL (n - 1) (n + 1) (ownM mv n))), .no, .no, .no]) rfl (fun j d G2 hj hd hI X1 c1 => ?_) fun acc G2 hacc hv hI => ?_
    · unfold sizeLine; omega
    · subst hI
      refine JG.name c1 4 fun X3 c3 => ?_
      exact jv_globT c3 0 T.g_WHOLE T.p_WHOLE ⟨rfl, rfl⟩
    subst hI
    have eacc : D.lst acc = rwL (n + 1) (ownM mv n (n - 1)) := by
      unfold rwL
      congr 1
      apply List.ext_getElem?
      intro j
      by_cases hj : j < n + 1
      · have hlt : j < acc.length := by omega
        rw [List.getElem?_eq_getElem hlt, hv j _ (List.getElem?_eq_getElem hlt), rwl_get hj]
        unfold ownM
        rw [if_neg (by omega)]
      · rw [List.getElem?_eq_none (by omega), List.getElem?_eq_none (by rw [List.length_map, List.length_range]; omega)]
    refine ⟨mtL (n - 1) (n + 1) (ownM mv n), rfl, ?_, ?_⟩
    · rw [mtL_len]; unfold sizeLine; omega
    show JSs X B _ [.fz (chD T.C_Chain many mv), .no, .fz (chaD many mv), .ow (.lst (mtL (n - 1) (n + 1) (ownM mv n) ++ [D.lst acc])), .no, .no, .no] _
    rw [eacc, ← mtL_succ, show n - 1 + 1 = n by omega]
    refine JSs.one (JS.ret (JV.je (JE.jv ?_)))
    refine je_lcB cj [5] [5] [] [("row", 5)] (ji_seq (JE.jv (je_call0 cj (ok_solved T) (by decide) 8 T.g_solved T.F_solved.kp T.b_solved ?_)))
    have gi : GI n (n + 1) 10 (ownM mv n) 0 (ownM mv n) := by
      have h1 := ownM_ns hc hl
      have h2 := ownM_bd hc
      rw [hnt] at h1 h2
      exact GI.start h1 fun i _ => h2 i
    have hb6 : bs 10 n ≤ 2000 := Nat.le_trans (bs_le n (by omega)) (by decide)
    refine JD.cons (jv_nameF cj 3 (JD.nil ⟨n, n + 1, ownM mv n, GI n (n + 1) 10 (ownM mv n), rfl, by omega, by omega, gi, fun a M ha g => g.step (by omega) (by decide) hb6 ha, fun M g => ?_⟩))
    refine ⟨_, .inl rfl, ?_⟩
    refine LcI.map (fun i d => d = frD (M i n)) ?_ (fun G => G = [.fz (chD T.C_Chain many mv), .no, .fz (chaD many mv), .fz (.lst (mtL n (n + 1) (ownM mv n))), .no, .no, .no]) rfl (fun j d G2 hj hd hI X1 c1 => ?_) fun acc G2 hacc hv hI => ?_
    · rw [List.length_map, List.length_range]; unfold sizeLine; omega
    · subst hI
      rw [List.length_map, List.length_range] at hj
      have hd : ((List.range n).map fun i => rwL (n + 1 - n) fun c => M i (n + c))[j]? = some d := hd
      rw [List.getElem?_map, rng_get hj] at hd
      cases hd
      refine JG.name c1 5 fun X3 c3 => ?_
      refine jv_ix (jv_name c3 5 (jv_int ⟨_, _, frD (M j n), .lst, rfl, ?_, rfl, rfl⟩))
      exact at_nat (i := 0) (rwl_get (L := n + 1 - n) (f := fun c => M j (n + c)) (j := 0) (by omega))
    subst hI
    rw [List.length_map, List.length_range] at hacc
    have eacc : D.lst acc = rwL n fun i => M i n := by
      unfold rwL
      congr 1
      apply List.ext_getElem?
      intro j
      by_cases hj : j < n
      · have hlt : j < acc.length := by omega
        rw [List.getElem?_eq_getElem hlt, hv j _ (List.getElem?_eq_getElem hlt), rwl_get hj]
      · rw [List.getElem?_eq_none (by omega), List.getElem?_eq_none (by rw [List.length_map, List.length_range]; omega)]
    have ho : Own many mv fun j => M j n := by
      have := ownM_own (M := M) (b := 10) hc (by rw [hnt]; exact g)
      rw [hnt] at this
      exact this
    have := hR hl _ ho (fun i hi => g.den (by omega) (by omega) (by omega)) fun i hi => g.sm hb6 (by omega) (by omega)
    rw [hnt] at this
    show R (.fz (.lst acc)) _
    rw [eacc]
    exact this
/-! sizes of sums of shares -/
theorem den_mkle (t : Int) {d : Nat} (hd : d ≠ 0) : (mkRat t d).den ≤ d := by
  rw [Rat.den_mkRat, if_neg hd]
  exact Nat.div_le_self _ _
theorem den_add (p q : Rat) : (p + q).den ≤ p.den * q.den := by
  rw [← rat_add_mk, dd_nat]
  have h1 := p.den_pos
  have h2 := q.den_pos
  exact den_mkle _ (by have := Nat.mul_pos h1 h2; omega)
theorem den_mulE (p q : Rat) : (p * q).den ≤ p.den * q.den := by
  rw [Rat.mul_def']
  have h1 := p.den_pos
  have h2 := q.den_pos
  exact den_mkle _ (by have := Nat.mul_pos h1 h2; omega)
theorem rs_den {b : Nat} {f : Nat → Rat} : ∀ {n : Nat}, (∀ j < n, (f j).den ≤ 2 ^ b) → (rs f n).den ≤ 2 ^ (b * n)
  | 0, _ => by show (1 : Nat) ≤ _; exact Nat.one_le_two_pow
  | n + 1, h => by
    have h1 := rs_den (n := n) fun j hj => h j (by omega)
    have h2 := h n (by omega)
    show (rs f n + f n).den ≤ _
    rw [Nat.mul_succ, Nat.pow_add]
    exact Nat.le_trans (den_add _ _) (Nat.mul_le_mul h1 h2)
theorem Sm01 {b : Nat} (hb : b < 4000) {x : Rat} (h0 : 0 ≤ x) (h1 : x ≤ 1) (hd : x.den ≤ 2 ^ b) : Sm x := by
  have hp : 2 ^ b < 2 ^ 4000 := Nat.pow_lt_pow_right (by decide) hb
  have hn : 0 ≤ x.num := Rat.num_nonneg.mpr h0
  have h2 := (Rat.le_iff x 1).mp h1
  have h2 : x.num * 1 ≤ 1 * (x.den : Int) := h2
  unfold Sm
  omega
theorem rsum_range (f : Nat → Rat) (n : Nat) : ∀ k : Nat, k ≤ n → rsum (((List.range n).map f).take k) = rs f k
  | 0, _ => rfl
  | k + 1, h => by
    have hg : ((List.range n).map f)[k]? = some (f k) := by rw [List.getElem?_map, List.getElem?_range (by omega)]; rfl
    rw [rsum_take hg, rsum_range f n k (by omega)]; rfl
theorem rs_part {f : Nat → Rat} {n k : Nat} (hk : k ≤ n) (h : ∀ j < n, 0 ≤ f j) : rs f k ≤ rs f n := by
  induction n with
  | zero => rw [Nat.le_zero.mp hk]; exact Rat.le_refl
  | succ n ih =>
    by_cases e : k = n + 1
    · rw [e]; exact Rat.le_refl
    · have h1 := ih (by omega) fun j hj => h j (by omega)
      have h2 := h n (by omega)
      show rs f k ≤ rs f n + f n
      grind
section
variable {many : Int} {mv : List (Int × List Int)} {x : Nat → Rat}
theorem Own.le1 (c : Ch many mv) (h1 : (clF many mv).length ≤ 1) (o : Own many mv x) {i : Nat} (hi : i < many.toNat) : x i ≤ 1 := by
  have := rs_term hi fun j hj => o.nonneg c h1 j hj
  rw [o.one] at this; exact this
theorem Own.part (c : Ch many mv) (h1 : (clF many mv).length ≤ 1) (o : Own many mv x) (hd : ∀ i < many.toNat, (x i).den < 2 ^ 703) {k : Nat} (hk : k ≤ many.toNat) : Sm (rs x k) := by
  have m2 := c.m2
  have nn := o.nonneg c h1
  by_cases e : k = many.toNat
  · rw [e, o.one]; exact Sm01 (b := 0) (by decide) (by decide) Rat.le_refl (by decide)
  · have h2 := rs_part hk nn
    rw [o.one] at h2
    refine Sm01 (b := 703 * k) (by omega) (rs_nonneg fun j hj => nn j (by omega)) h2 (rs_den fun j hj => ?_)
    exact Nat.le_of_lt (hd j (by omega))
theorem Pn_den (c : Ch many mv) (o q : Nat) : (Pn mv o q).den ≤ 2 ^ 10 := by
  obtain ⟨w1, w2⟩ := wsum_pos c
  unfold Pn cfr
  exact Nat.le_trans (den_mkle _ (by omega)) (by omega)
theorem Own.in1 (c : Ch many mv) (h1 : (clF many mv).length ≤ 1) (o : Own many mv x) (hd : ∀ i < many.toNat, (x i).den < 2 ^ 703) {q : Nat} (hq : q < many.toNat) {j : Nat} (hj : j < many.toNat) : Sm (x j * Pn mv j q) := by
  have nn : ∀ j, j < many.toNat → 0 ≤ x j * Pn mv j q := fun j hj => Rat.mul_nonneg (o.nonneg c h1 j hj) (Pn_nonneg c j q)
  have h2 := rs_term (f := fun j => x j * Pn mv j q) hj nn
  rw [o.st q hq] at h2
  have h3 := o.le1 c h1 hq
  refine Sm01 (b := 713) (by decide) (nn j hj) (by grind) (Nat.le_trans (den_mulE _ _) ?_)
  rw [show (713 : Nat) = 703 + 10 from rfl, Nat.pow_add]
  exact Nat.mul_le_mul (Nat.le_of_lt (hd j hj)) (Pn_den c j q)
theorem Own.inSum (c : Ch many mv) (h1 : (clF many mv).length ≤ 1) (o : Own many mv x) (hd : ∀ i < many.toNat, (x i).den < 2 ^ 703) {q : Nat} (hq : q < many.toNat) {k : Nat} (hk : k ≤ many.toNat) : Sm (rs (fun j => x j * Pn mv j q) k) := by
  have m2 := c.m2
  have nn : ∀ j, j < many.toNat → 0 ≤ x j * Pn mv j q := fun j hj => Rat.mul_nonneg (o.nonneg c h1 j hj) (Pn_nonneg c j q)
  have h3 := o.le1 c h1 hq
  by_cases e : k = many.toNat
  · rw [e, o.st q hq]
    exact Sm01 (b := 703) (by decide) (o.nonneg c h1 q hq) h3 (Nat.le_of_lt (hd q hq))
  · have h2 := rs_part hk nn
    rw [o.st q hq] at h2
    refine Sm01 (b := 713 * k) (by omega) (rs_nonneg fun j hj => nn j (by omega)) (by grind) (rs_den fun j hj => Nat.le_trans (den_mulE _ _) ?_)
    rw [show (713 : Nat) = 703 + 10 from rfl, Nat.pow_add]
    exact Nat.mul_le_mul (Nat.le_of_lt (hd j (by omega))) (Pn_den c j q)
end
/-! maps of walks, counted by weights -/
def ff (f row : List Int) : List Int := row.map (gI f)
def En (many : Int) (mv : List (Int × List Int)) : Nat → (List Int → Int) → Int
  | 0, g => g (rg many)
  | n + 1, g => En many mv n fun f => (mv.map fun p => p.1 * g (ff f p.2)).sum
theorem En_congr {many : Int} {mv : List (Int × List Int)} : ∀ (n : Nat) {g g' : List Int → Int}, (∀ f, g f = g' f) → En many mv n g = En many mv n g'
  | 0, _, _, h => h _
  | n + 1, g, g', h => En_congr n fun f => by
    have : (fun p : Int × List Int => p.1 * g (ff f p.2)) = fun p => p.1 * g' (ff f p.2) := funext fun p => by rw [h]
    rw [this]
theorem sum_mul (c : Int) : ∀ (l : List Int), (l.map fun x => c * x).sum = c * l.sum
  | [] => by simp
  | x :: l => by simp only [List.map_cons, List.sum_cons]; rw [sum_mul c l, Int.mul_add]
theorem En_mul {many : Int} {mv : List (Int × List Int)} (c : Int) : ∀ (n : Nat) (g : List Int → Int), En many mv n (fun f => c * g f) = c * En many mv n g
  | 0, _ => rfl
  | n + 1, g => by
    show En many mv n _ = c * En many mv n _
    rw [← En_mul c n]
    refine En_congr n fun f => ?_
    rw [← sum_mul, List.map_map]
    congr 1
    refine List.map_congr_left fun p _ => ?_
    show p.1 * (c * g (ff f p.2)) = c * (p.1 * g (ff f p.2))
    rw [← Int.mul_assoc, Int.mul_comm p.1 c, Int.mul_assoc]
def whl (many : Int) (mv : List (Int × List Int)) (n : Nat) : Int := En many mv n fun _ => 1
theorem whl_pow {many : Int} {mv : List (Int × List Int)} : ∀ n : Nat, whl many mv n = (wsum mv) ^ n
  | 0 => (Int.pow_zero _).symm
  | n + 1 => by
    have e : ∀ f : List Int, (mv.map fun p => p.1 * 1).sum = wsum mv * 1 := fun f => by
      unfold wsum
      rw [Int.mul_one]; congr 1
      exact List.map_congr_left fun p _ => Int.mul_one _
    show En many mv n (fun f => (mv.map fun p => p.1 * 1).sum) = _
    rw [En_congr n e, En_mul (wsum mv) n (fun _ => 1)]
    show wsum mv * whl many mv n = _
    rw [whl_pow n, Int.pow_succ, Int.mul_comm]
def isC (many p : Int) (f : List Int) : Int := if f = List.replicate many.toNat p then 1 else 0
def cnt (many : Int) (mv : List (Int × List Int)) (n : Nat) (p : Int) : Int := En many mv n (isC many p)
/-! tables of counts -/
abbrev KI := List (List Int × Int)
def kI (ms : KI) : KTD := ms.map fun p => (p.1, D.int p.2)
def iget (ms : KI) (k : List Int) : Int := ((ms.find? fun p => decide (p.1 = k)).map (·.2)).getD 0
def iput (ms : KI) (k : List Int) (v : Int) : KI := if (ms.any fun p => decide (p.1 = k)) = true then ms.map (fun p => if p.1 = k then (p.1, v) else p) else ms ++ [(k, v)]
def ev (ms : KI) (g : List Int → Int) : Int := (ms.map fun p => g p.1 * p.2).sum
theorem kI_len (ms : KI) : (kI ms).length = ms.length := by unfold kI; rw [List.length_map]
theorem tget_kI (k : List Int) : ∀ ms : KI, (tget (kI ms) k).getD (.int 0) = .int (iget ms k) ∧ (tget (kI ms) k).isSome = ms.any (fun p => decide (p.1 = k))
  | [] => ⟨rfl, rfl⟩
  | (n, v) :: ms => by
    obtain ⟨h1, h2⟩ := tget_kI k ms
    by_cases z : n = k
    · subst z
      simp [tget, kI, iget, List.find?_cons]
    · have e1 : tget (kI ((n, v) :: ms)) k = tget (kI ms) k := by simp [tget, kI, List.find?_cons, z]
      have e2 : iget ((n, v) :: ms) k = iget ms k := by simp [iget, List.find?_cons, z]
      rw [e1, e2]
      refine ⟨h1, ?_⟩
      rw [h2, List.any_cons, decide_eq_false z]; rfl
theorem tget_mem {k : List Int} {v : Int} : ∀ {ms : KI}, (ms.map (·.1)).Nodup → (k, v) ∈ ms → tget (kI ms) k = some (.int v)
  | [], _, h => by cases h
  | (n, u) :: ms, nd, h => by
    have nd' := List.nodup_cons.mp nd
    rcases List.mem_cons.mp h with h | h
    · cases h; simp [tget, kI, List.find?_cons]
    · have z : ¬ n = k := fun z => nd'.1 (by rw [z]; exact List.mem_map.mpr ⟨_, h, rfl⟩)
      have e1 : tget (kI ((n, u) :: ms)) k = tget (kI ms) k := by simp [tget, kI, List.find?_cons, z]
      rw [e1]; exact tget_mem nd'.2 h
theorem tput_kI (k : List Int) (v : Int) (ms : KI) : tput (kI ms) k (.int v) = kI (iput ms k v) := by
  have ha : ((kI ms).any fun p => decide (p.1 = k)) = ms.any fun p => decide (p.1 = k) := by unfold kI; rw [List.any_map]; rfl
  unfold tput iput
  rw [ha]
  split
  · unfold kI
    rw [List.map_map, List.map_map]
    refine List.map_congr_left fun p _ => ?_
    show (if p.1 = k then (p.1, D.int v) else (p.1, D.int p.2)) = (((if p.1 = k then (p.1, v) else p) : List Int × Int).1, D.int ((if p.1 = k then (p.1, v) else p) : List Int × Int).2)
    split <;> rfl
  · unfold kI; rw [List.map_append]; rfl
theorem iput_keys (k : List Int) (v : Int) (ms : KI) : (iput ms k v).map (·.1) = if (ms.any fun p => decide (p.1 = k)) = true then ms.map (·.1) else ms.map (·.1) ++ [k] := by
  unfold iput
  split
  · rw [List.map_map]
    refine List.map_congr_left fun p _ => ?_
    show ((if p.1 = k then (p.1, v) else p) : List Int × Int).1 = p.1
    split <;> rfl
  · rw [List.map_append]; rfl
theorem any_key {k : List Int} {ms : KI} : (ms.any fun p => decide (p.1 = k)) = true ↔ k ∈ ms.map (·.1) := by
  rw [List.any_eq_true]
  constructor
  · rintro ⟨p, hp, e⟩
    exact List.mem_map.mpr ⟨p, hp, of_decide_eq_true e⟩
  · intro h
    obtain ⟨p, hp, e⟩ := List.mem_map.mp h
    exact ⟨p, hp, decide_eq_true e⟩
theorem iput_nodup {k : List Int} {v : Int} {ms : KI} (h : (ms.map (·.1)).Nodup) : ((iput ms k v).map (·.1)).Nodup := by
  rw [iput_keys]
  split
  · exact h
  · rename_i z
    refine List.nodup_append.mpr ⟨h, by simp, fun a ha b hb e => z (any_key.mpr ?_)⟩
    rw [List.mem_singleton] at hb
    subst hb; subst e; exact ha
theorem iput_mem {k x : List Int} {v : Int} {ms : KI} (h : x ∈ (iput ms k v).map (·.1)) : x ∈ ms.map (·.1) ∨ x = k := by
  rw [iput_keys] at h
  split at h
  · exact .inl h
  · rcases List.mem_append.mp h with h | h
    · exact .inl h
    · exact .inr (List.mem_singleton.mp h)
theorem iget_none {k : List Int} : ∀ {ms : KI}, k ∉ ms.map (·.1) → iget ms k = 0
  | [], _ => rfl
  | (n, v) :: ms, h => by
    have z : ¬ n = k := fun z => h (by rw [z]; simp)
    have e2 : iget ((n, v) :: ms) k = iget ms k := by simp [iget, List.find?_cons, z]
    rw [e2]; exact iget_none fun q => h (by simp [q])
theorem ev_no {k : List Int} {v : Int} {g : List Int → Int} : ∀ {ms : KI}, k ∉ ms.map (·.1) → ev (ms.map fun p => if p.1 = k then (p.1, v) else p) g = ev ms g
  | [], _ => rfl
  | (n, u) :: ms, h => by
    have z : ¬ n = k := fun z => h (by rw [z]; simp)
    have ih := ev_no (v := v) (g := g) (ms := ms) fun q => h (List.mem_cons_of_mem _ q)
    unfold ev at ih ⊢
    simp only [List.map_cons, List.sum_cons, if_neg z]
    rw [ih]
theorem ev_put {k : List Int} {v : Int} {g : List Int → Int} : ∀ {ms : KI}, (ms.map (·.1)).Nodup → ev (iput ms k (iget ms k + v)) g = ev ms g + g k * v := by
  intro ms nd
  by_cases h : k ∈ ms.map (·.1)
  · have e : iput ms k (iget ms k + v) = ms.map (fun p => if p.1 = k then (p.1, iget ms k + v) else p) := by
      unfold iput; rw [if_pos (any_key.mpr h)]
    rw [e]
    clear e
    induction ms with
    | nil => cases h
    | cons p ms ih =>
      obtain ⟨n, u⟩ := p
      have nd' := List.nodup_cons.mp nd
      by_cases z : n = k
      · subst z
        have e2 : iget ((n, u) :: ms) n = u := by simp [iget, List.find?_cons]
        have en := ev_no (v := u + v) (g := g) nd'.1
        rw [e2]
        unfold ev at en ⊢
        simp only [List.map_cons, List.sum_cons, if_pos]
        rw [en, Int.mul_add]; omega
      · have e2 : iget ((n, u) :: ms) k = iget ms k := by simp [iget, List.find?_cons, z]
        have hk : k ∈ ms.map (·.1) := by
          rcases List.mem_cons.mp h with h | h
          · exact absurd h.symm z
          · exact h
        have ih := ih nd'.2 hk
        rw [e2]
        unfold ev at ih ⊢
        simp only [List.map_cons, List.sum_cons, if_neg z]
        rw [ih]; omega
  · have e : iput ms k (iget ms k + v) = ms ++ [(k, v)] := by
      unfold iput; rw [if_neg (fun z => h (any_key.mp z)), iget_none h, Int.zero_add]
    rw [e]
    unfold ev
    rw [List.map_append, List.sum_append]
    simp
theorem ev_get {k : List Int} : ∀ {ms : KI}, (ms.map (·.1)).Nodup → ev ms (fun f => if f = k then 1 else 0) = iget ms k
  | [], _ => rfl
  | (n, u) :: ms, nd => by
    have nd' := List.nodup_cons.mp nd
    have ih := ev_get (k := k) nd'.2
    by_cases z : n = k
    · subst z
      have e2 : iget ((n, u) :: ms) n = u := by simp [iget, List.find?_cons]
      rw [iget_none nd'.1] at ih
      rw [e2]
      unfold ev at ih ⊢
      simp only [List.map_cons, List.sum_cons, if_pos]
      rw [ih]; omega
    · have e2 : iget ((n, u) :: ms) k = iget ms k := by simp [iget, List.find?_cons, z]
      rw [e2, ← ih]
      unfold ev
      simp only [List.map_cons, List.sum_cons, if_neg z]
      omega
theorem ev_one (ms : KI) : ev ms (fun _ => 1) = (ms.map (·.2)).sum := by
  unfold ev
  congr 1
  exact List.map_congr_left fun p _ => Int.one_mul _
/-! how many maps there can be -/
def allM (l : List Int) : Nat → List (List Int)
  | 0 => [[]]
  | n + 1 => (allM l n).flatMap fun t => l.map fun x => x :: t
theorem allM_len (l : List Int) : ∀ n, (allM l n).length = l.length ^ n
  | 0 => rfl
  | n + 1 => by
    show ((allM l n).flatMap fun t => l.map fun x => x :: t).length = _
    rw [List.length_flatMap]
    have : (fun t : List Int => (l.map fun x => x :: t).length) = fun _ => l.length := funext fun t => List.length_map _
    rw [this, List.map_const', List.sum_replicate_nat, allM_len l n, Nat.pow_succ]
theorem allM_mem {l : List Int} : ∀ {f : List Int}, (∀ x ∈ f, x ∈ l) → f ∈ allM l f.length
  | [], _ => by simp [allM]
  | x :: f, h => List.mem_flatMap.mpr ⟨f, allM_mem fun y hy => h y (by simp [hy]), List.mem_map.mpr ⟨x, h x (by simp), rfl⟩⟩
def MapOk (many : Int) (f : List Int) : Prop := f.length = many.toNat ∧ ∀ x ∈ f, 0 ≤ x ∧ x < many
theorem maps_few {many : Int} (m2 : many ≤ 6) {ks : List (List Int)} (nd : ks.Nodup) (h : ∀ f ∈ ks, MapOk many f) : ks.length ≤ 46656 := by
  have hs : ∀ f, f ∈ ks → f ∈ allM (rg many) many.toNat := fun f hf => by
    obtain ⟨h1, h2⟩ := h f hf
    rw [← h1]
    exact allM_mem fun x hx => rg_mem.mpr (h2 x hx)
  have := List.Nodup.length_le_of_subset nd (l₂ := allM (rg many) many.toNat) hs
  rw [allM_len, rg_len] at this
  have h6 : many.toNat ≤ 6 := by omega
  have : many.toNat ^ many.toNat ≤ 6 ^ 6 := Nat.le_trans (Nat.pow_le_pow_left h6 _) (Nat.pow_le_pow_right (by decide) h6)
  omega
theorem ff_ok {many : Int} {f row : List Int} (hf : MapOk many f) (hr : (row.length : Int) = many) (h : ∀ x ∈ row, 0 ≤ x ∧ x < many) : MapOk many (ff f row) := by
  refine ⟨by unfold ff; rw [List.length_map]; omega, fun x hx => ?_⟩
  obtain ⟨y, hy, rfl⟩ := List.mem_map.mp hx
  have := h y hy
  exact hf.2 _ (gI_mem this.1 (by have := hf.1; omega))
theorem rg_ok {many : Int} (m1 : 1 ≤ many) : MapOk many (rg many) := ⟨rg_len, fun x hx => rg_mem.mp hx⟩
/-! shares of rows of a length -/
theorem sum_add_map {α : Type} (f g : α → Int) : ∀ l : List α, (l.map fun x => f x + g x).sum = (l.map f).sum + (l.map g).sum
  | [] => rfl
  | x :: l => by simp only [List.map_cons, List.sum_cons]; rw [sum_add_map f g l]; omega
theorem sum_le_map {α : Type} {f g : α → Int} : ∀ {l : List α}, (∀ x ∈ l, f x ≤ g x) → (l.map f).sum ≤ (l.map g).sum
  | [], _ => Int.le_refl _
  | x :: l, h => by
    have h1 := h x (by simp)
    have h2 := sum_le_map (l := l) fun y hy => h y (by simp [hy])
    simp only [List.map_cons, List.sum_cons]; omega
theorem En_add {many : Int} {mv : List (Int × List Int)} : ∀ (n : Nat) (g g' : List Int → Int), En many mv n (fun f => g f + g' f) = En many mv n g + En many mv n g'
  | 0, _, _ => rfl
  | n + 1, g, g' => by
    show En many mv n _ = En many mv n _ + En many mv n _
    rw [← En_add n]
    refine En_congr n fun f => ?_
    rw [← sum_add_map]
    congr 1
    exact List.map_congr_left fun p _ => Int.mul_add _ _ _
theorem En_le {many : Int} {mv : List (Int × List Int)} (hw : ∀ p ∈ mv, 0 ≤ p.1) : ∀ (n : Nat) {g g' : List Int → Int}, (∀ f, g f ≤ g' f) → En many mv n g ≤ En many mv n g'
  | 0, _, _, h => h _
  | n + 1, g, g', h => En_le hw n fun f => sum_le_map fun p hp => Int.mul_le_mul_of_nonneg_left (h _) (hw p hp)
theorem Ch.w0 {many : Int} {mv : List (Int × List Int)} (c : Ch many mv) : ∀ p ∈ mv, 0 ≤ p.1 := fun p hp => by have h : 1 ≤ p.1 := (c.mv p hp).1.1; omega
def isCk (many : Int) (k : Nat) (f : List Int) : Int := match k with
  | 0 => 0
  | k + 1 => isCk many k f + isC many (k : Int) f
theorem isCk_one {many : Int} (m1 : 1 ≤ many) (f : List Int) : ∀ k : Nat, isCk many k f = 0 ∨ (isCk many k f = 1 ∧ ∃ p : Nat, p < k ∧ f = List.replicate many.toNat (p : Int))
  | 0 => .inl rfl
  | k + 1 => by
    show isCk many k f + isC many (k : Int) f = 0 ∨ (isCk many k f + isC many (k : Int) f = 1 ∧ _)
    unfold isC
    rcases isCk_one m1 f k with h | ⟨h, p, hp, e⟩
    · rw [h]
      split
      · rename_i e; exact .inr ⟨by omega, k, Nat.lt_succ_self k, e⟩
      · exact .inl rfl
    · rw [h, if_neg]
      · exact .inr ⟨by omega, p, by omega, e⟩
      · intro e2
        rw [e] at e2
        have hm : many.toNat ≠ 0 := by omega
        obtain ⟨n, hn⟩ : ∃ n, many.toNat = n + 1 := ⟨many.toNat - 1, by omega⟩
        rw [hn, List.replicate_succ, List.replicate_succ] at e2
        have := (List.cons.inj e2).1
        omega
def cs (many : Int) (mv : List (Int × List Int)) (n k : Nat) : Int := En many mv n (isCk many k)
theorem cs_succ {many : Int} {mv : List (Int × List Int)} (n k : Nat) : cs many mv n (k + 1) = cs many mv n k + cnt many mv n (k : Int) := En_add n _ _
theorem En_zero {many : Int} {mv : List (Int × List Int)} (n : Nat) : En many mv n (fun _ => 0) = 0 := by
  have h1 := En_mul (many := many) (mv := mv) 0 n (fun _ => 1)
  have h2 : En many mv n (fun f => 0 * (fun _ => (1 : Int)) f) = En many mv n (fun _ => 0) := En_congr n fun _ => Int.zero_mul 1
  rw [← h2, h1, Int.zero_mul]
theorem cs_zero {many : Int} {mv : List (Int × List Int)} (n : Nat) : cs many mv n 0 = 0 := En_zero n
theorem cs_le {many : Int} {mv : List (Int × List Int)} (c : Ch many mv) (n k : Nat) : 0 ≤ cs many mv n k ∧ cs many mv n k ≤ whl many mv n := by
  constructor
  · rw [← En_zero (many := many) (mv := mv) n]
    refine En_le c.w0 n fun f => ?_
    rcases isCk_one c.m1 f k with h | ⟨h, _⟩ <;> omega
  · refine En_le c.w0 n fun f => ?_
    rcases isCk_one c.m1 f k with h | ⟨h, _⟩ <;> omega
theorem cnt_le {many : Int} {mv : List (Int × List Int)} (c : Ch many mv) (n : Nat) (p : Int) : 0 ≤ cnt many mv n p ∧ cnt many mv n p ≤ whl many mv n := by
  constructor
  · rw [← En_zero (many := many) (mv := mv) n]
    refine En_le c.w0 n fun f => ?_
    unfold isC; split <;> omega
  · refine En_le c.w0 n fun f => ?_
    unfold isC; split <;> omega
theorem whl_pos {many : Int} {mv : List (Int × List Int)} (c : Ch many mv) (n : Nat) : 0 < whl many mv n := by
  rw [whl_pow]
  exact Int.pow_pos (by have := (wsum_pos c).1; omega)
theorem whl_nat {many : Int} {mv : List (Int × List Int)} (c : Ch many mv) {n : Nat} (hn : n ≤ 20) : (whl many mv n).natAbs < 2 ^ 4000 := by
  obtain ⟨h1, h2⟩ := wsum_pos c
  rw [whl_pow, Int.natAbs_pow]
  have : (wsum mv).natAbs ^ n ≤ 1024 ^ 20 := Nat.le_trans (Nat.pow_le_pow_left (by omega) n) (Nat.pow_le_pow_right (by decide) hn)
  refine Nat.lt_of_le_of_lt this ?_
  have e : (1024 : Nat) = 2 ^ 10 := rfl
  rw [e, ← Nat.pow_mul]
  exact Nat.pow_lt_pow_right (by decide) (by decide)
theorem Sm_mk {a b : Int} (hb : 0 < b) (h1 : b.natAbs < 2 ^ 4000) (h2 : a.natAbs < 2 ^ 4000) : Sm (mkRat a b.toNat) := by
  unfold Sm
  rw [Rat.num_mkRat, Rat.den_mkRat, if_neg (by omega), if_neg (by omega)]
  exact ⟨Nat.lt_of_le_of_lt (Int.natAbs_ediv_le_natAbs _ _) h2, Nat.lt_of_le_of_lt (Nat.div_le_self _ _) (by omega)⟩
theorem mk_add {a b : Int} {w : Nat} (h : w ≠ 0) : mkRat a w + mkRat b w = mkRat (a + b) w := by
  rw [Rat.mkRat_add_mkRat _ _ h h, ← Int.add_mul, Rat.mkRat_mul_right h]
def shr (many : Int) (mv : List (Int × List Int)) (n : Nat) (p : Int) : Rat := mkRat (cnt many mv n p) (whl many mv n).toNat
def shL (many : Int) (mv : List (Int × List Int)) (n : Nat) : List Rat := (rg many).map (shr many mv n)
def rst (many : Int) (mv : List (Int × List Int)) (n : Nat) : Rat := 1 - rsum (shL many mv n)
theorem shL_len (many : Int) (mv : List (Int × List Int)) (n : Nat) : (shL many mv n).length = many.toNat := by unfold shL; rw [List.length_map, rg_len]
theorem shL_get {many : Int} {mv : List (Int × List Int)} {n k : Nat} (h : k < many.toNat) : (shL many mv n)[k]? = some (shr many mv n (k : Int)) := by
  unfold shL
  rw [List.getElem?_map, rg_get h]; rfl
theorem shL_part {many : Int} {mv : List (Int × List Int)} (c : Ch many mv) (n : Nat) : ∀ k : Nat, k ≤ many.toNat → rsum ((shL many mv n).take k) = mkRat (cs many mv n k) (whl many mv n).toNat
  | 0, _ => by rw [cs_zero, Rat.zero_mkRat]; rfl
  | k + 1, h => by
    have hw := whl_pos c n
    rw [rsum_take (shL_get (by omega)), shL_part c n k (by omega), cs_succ]
    exact mk_add (by omega)
theorem shL_sum {many : Int} {mv : List (Int × List Int)} (c : Ch many mv) (n : Nat) : rsum (shL many mv n) = mkRat (cs many mv n many.toNat) (whl many mv n).toNat := by
  have := shL_part c n many.toNat (Nat.le_refl _)
  rwa [← shL_len many mv n, List.take_length, shL_len] at this
theorem one_mk {w : Int} (h : 0 < w) : mkRat w w.toNat = 1 := by
  obtain ⟨k, rfl⟩ : ∃ k : Nat, w = k := ⟨w.toNat, by omega⟩
  have e := Rat.mkRat_mul_left (n := 1) (d := 1) (a := k) (by omega)
  rw [Int.mul_one, Nat.mul_one] at e
  rw [Int.toNat_natCast, e]; rfl
theorem rst_mk {many : Int} {mv : List (Int × List Int)} (c : Ch many mv) (n : Nat) : rst many mv n = mkRat (whl many mv n - cs many mv n many.toNat) (whl many mv n).toNat := by
  have hw := whl_pos c n
  unfold rst
  rw [shL_sum c, ← one_mk hw, Int.sub_eq_add_neg, ← mk_add (by omega), Rat.sub_eq_add_neg, Rat.neg_mkRat]
theorem shL_sm {many : Int} {mv : List (Int × List Int)} (c : Ch many mv) {n : Nat} (hn : n ≤ 20) : (∀ k ≤ (shL many mv n).length, Sm (rsum ((shL many mv n).take k))) ∧ (∀ q ∈ shL many mv n, Sm q) ∧ Sm (rsum (shL many mv n)) ∧ Sm (rst many mv n) := by
  have hw := whl_pos c n
  have hb := whl_nat c hn
  refine ⟨fun k hk => ?_, fun q hq => ?_, ?_, ?_⟩
  · rw [shL_len] at hk
    rw [shL_part c n k hk]
    have := cs_le c n k
    exact Sm_mk hw hb (by omega)
  · obtain ⟨p, _, rfl⟩ := List.mem_map.mp hq
    have := cnt_le c n p
    exact Sm_mk hw hb (by omega)
  · rw [shL_sum c]
    have := cs_le c n many.toNat
    exact Sm_mk hw hb (by omega)
  · rw [rst_mk c]
    have := cs_le c n many.toNat
    exact Sm_mk hw hb (by omega)
/-! one table from another -/
structure Part (many : Int) (ms : KI) (S : (List Int → Int) → Int) : Prop where
  nd : (ms.map (·.1)).Nodup
  ok : ∀ f ∈ ms.map (·.1), MapOk many f
  ev : ∀ g, ev ms g = S g
theorem Part.put {many : Int} {ms : KI} {S S' : (List Int → Int) → Int} {k : List Int} {v : Int} (h : Part many ms S) (hk : MapOk many k) (e : ∀ g, S' g = S g + g k * v) : Part many (iput ms k (iget ms k + v)) S' :=
  ⟨iput_nodup h.nd, fun f hf => (iput_mem hf).elim (h.ok f) fun z => z ▸ hk, fun g => by rw [ev_put h.nd, h.ev, e]⟩
theorem Part.congr {many : Int} {ms : KI} {S S' : (List Int → Int) → Int} (h : Part many ms S) (e : ∀ g, S' g = S g) : Part many ms S' := ⟨h.nd, h.ok, fun g => by rw [h.ev, e]⟩
theorem Part.few {many : Int} {ms : KI} {S : (List Int → Int) → Int} (h : Part many ms S) (m2 : many ≤ 6) : ms.length ≤ 46656 := by
  have := maps_few m2 h.nd h.ok
  rwa [List.length_map] at this
theorem Part.nil {many : Int} {S : (List Int → Int) → Int} (e : ∀ g, S g = 0) : Part many [] S := ⟨List.nodup_nil, fun f hf => (by cases hf), fun g => (e g).symm⟩
theorem Part.start {many : Int} (mv : List (Int × List Int)) (m1 : 1 ≤ many) : Part many [(rg many, 1)] (En many mv 0) :=
  ⟨by simp, fun f hf => by rw [List.map_cons, List.map_nil, List.mem_singleton] at hf; subst hf; exact rg_ok m1, fun g => by show g (rg many) * 1 + 0 = _; rw [Int.mul_one, Int.add_zero]; rfl⟩
def fm (cf : List Int → List Int → List Int) (mv : List (Int × List Int)) (g : List Int → Int) (f : List Int) : Int := (mv.map fun p => p.1 * g (cf f p.2)).sum
def S1 (cf : List Int → List Int → List Int) (mv : List (Int × List Int)) (ms : KI) (i : Nat) (g : List Int → Int) : Int := ev (ms.take i) (fm cf mv g)
def S2 (cf : List Int → List Int → List Int) (mv : List (Int × List Int)) (ms : KI) (i j : Nat) (f : List Int) (c : Int) (g : List Int → Int) : Int := S1 cf mv ms i g + fm cf (mv.take j) g f * c
theorem S1_zero {cf : List Int → List Int → List Int} (mv : List (Int × List Int)) (ms : KI) (g : List Int → Int) : S1 cf mv ms 0 g = 0 := rfl
theorem S1_succ {cf : List Int → List Int → List Int} {mv : List (Int × List Int)} {ms : KI} {i : Nat} {f : List Int} {c : Int} (h : ms[i]? = some (f, c)) (g : List Int → Int) : S1 cf mv ms (i + 1) g = S2 cf mv ms i mv.length f c g := by
  unfold S2 S1 ev
  rw [List.take_add_one, h, List.take_length, List.map_append, List.sum_append]
  simp
theorem S2_zero {cf : List Int → List Int → List Int} (mv : List (Int × List Int)) (ms : KI) (i : Nat) (f : List Int) (c : Int) (g : List Int → Int) : S2 cf mv ms i 0 f c g = S1 cf mv ms i g := by
  show S1 cf mv ms i g + 0 * c = _
  rw [Int.zero_mul, Int.add_zero]
theorem S2_succ {cf : List Int → List Int → List Int} {mv : List (Int × List Int)} {ms : KI} {i j : Nat} {f row : List Int} {c wt : Int} (h : mv[j]? = some (wt, row)) (g : List Int → Int) : S2 cf mv ms i (j + 1) f c g = S2 cf mv ms i j f c g + g (cf f row) * (wt * c) := by
  unfold S2
  have e : fm cf (mv.take (j + 1)) g f = fm cf (mv.take j) g f + wt * g (cf f row) := by
    unfold fm
    rw [List.take_add_one, h, List.map_append, List.sum_append]
    simp
  rw [e, Int.add_mul, ← Int.add_assoc, Int.mul_comm wt (g (cf f row)), Int.mul_assoc]
theorem Part.turn {many : Int} {mv : List (Int × List Int)} {ms ms' : KI} {n : Nat} (h : Part many ms (En many mv n)) (h' : Part many ms' (S1 ff mv ms ms.length)) : Part many ms' (En many mv (n + 1)) :=
  h'.congr fun g => by
    show En many mv n (fm ff mv g) = Kz.ev (ms.take ms.length) (fm ff mv g)
    rw [List.take_length, h.ev]
theorem Part.cnt {many : Int} {mv : List (Int × List Int)} {ms : KI} {n : Nat} (h : Part many ms (En many mv n)) (p : Int) : iget ms (List.replicate many.toNat p) = Kz.cnt many mv n p := by
  rw [← ev_get h.nd, h.ev]; rfl
theorem Part.whl {many : Int} {mv : List (Int × List Int)} {ms : KI} {n : Nat} (h : Part many ms (En many mv n)) : (ms.map (·.2)).sum = Kz.whl many mv n := by
  rw [← ev_one, h.ev]; rfl
theorem kI_vals (ms : KI) : (kI ms).map (·.2) = (ms.map (·.2)).map D.int := by
  unfold kI
  rw [List.map_map, List.map_map]; rfl
theorem kI_get {ms : KI} {i : Nat} {p : List Int × D} (h : (kI ms)[i]? = some p) : ∃ f c, ms[i]? = some (f, c) ∧ p = (f, .int c) := by
  unfold kI at h
  rw [List.getElem?_map] at h
  obtain ⟨q, h1, h2⟩ := Option.map_eq_some_iff.mp h
  exact ⟨q.1, q.2, h1, h2.symm⟩
theorem ints_rep {acc : List D} {n : Nat} {p : Int} (hl : acc.length = n) (h : ∀ (i : Nat) d, acc[i]? = some d → d = .int p) : acc = (List.replicate n p).map D.int := by
  apply List.ext_getElem?
  intro i
  by_cases hi : i < n
  · have hlt : i < acc.length := by omega
    rw [List.getElem?_map, List.getElem?_replicate_of_lt hi, List.getElem?_eq_getElem hlt, h i _ (List.getElem?_eq_getElem hlt)]; rfl
  · rw [List.getElem?_eq_none (by omega), List.getElem?_eq_none (by simp; omega)]
/-- farther, shares -/
@[reducible] def sp_farther : J.Spec := fun ps R _ => ∃ (many : Int) (f row : List Int), ps = [.v (.tp (f.map .int)), .v (.tup (row.map .int))] ∧ many ≤ 6 ∧ MapOk many f ∧ (row.length : Int) = many ∧ (∀ x ∈ row, 0 ≤ x ∧ x < many) ∧ R (.fz (.tp ((ff f row).map .int))) []
theorem ok_farther (T : Tx K mg) : FnOk P w K mg base (L2.CX P w) 1 T.a_farther T.d_farther ["ends", "row"] (SpJ K sp_farther) := by
  refine jfn T.F_farther z_farther zo_farther zf_farther sp_farther (fun as R RX h => ?_) (fun X B E as R RX cj hE h => ?_)
  · obtain ⟨_, _, _, rfl, _⟩ := h; rfl
  obtain ⟨many, f, row, rfl, m2, hf, hl, hr, hR⟩ := h
  show JSs X B _ [.fz (.tp (f.map .int)), .fz (.tup (row.map .int)), .no] _
  refine JSs.one (JS.ret (JV.je (jv_tupleP cj 0 T.z_tuple (JE.jv (je_lcB cj [0, 2] [2] [] [("place", 2)] (ji_tup (jv_name cj 1 ⟨_, rfl, LcI.map (fun i d => ∀ x, row[i]? = some x → d = .int (gI f x)) ?_ (fun G => G = [.fz (.tp (f.map .int)), .fz (.tup (row.map .int)), .no]) rfl (fun j d G2 hj hd hI X1 c1 => ?_) fun acc G2 hacc hv hI => ?_⟩)))))))
  · rw [List.length_map]; unfold sizeLine; omega
  · subst hI
    obtain ⟨x, hx, rfl⟩ := map_int_get hd
    have := hr x (List.mem_of_getElem? hx)
    refine JG.name c1 2 fun X3 c3 => ?_
    refine jv_ix (jv_name c3 0 (jv_name c3 2 ⟨_, _, _, .tp, rfl, at_int (ns := f) this.1 ?_, fun y hy => ?_, rfl⟩))
    · have := hf.1; omega
    · rw [hx] at hy; cases hy; rfl
  · subst hI
    rw [List.length_map] at hacc
    have e := map_acc hacc fun i d hd x hx => hv i d hd x hx
    subst e
    exact ⟨_, .inl rfl, hR⟩
@[reducible] def sp_shares (T : Tx K mg) : J.Spec := fun ps R RX => ∃ (many : Int) (mv : List (Int × List Int)) (far : Int), ps = [.v (.ins T.C_Chain ["many", "moves"] [.int many, .lst (mv.map mvD)]), .v (.int far)] ∧ Ch many mv ∧
  ((0 ≤ far ∧ far ≤ 20) → R (.fz (.tup [.lst ((shL many mv far.toNat).map frD), frD (rst many mv far.toNat)])) []) ∧ (¬ (0 ≤ far ∧ far ≤ 20) → RX ⟨T.C_NoSuch, []⟩)
theorem ok_shares (T : Tx K mg) : FnOk P w K mg base (L2.CX P w) 4 T.a_shares T.d_shares ["chain", "far"] (SpJ K (sp_shares T)) := by
  refine jfn T.F_shares z_shares zo_shares zf_shares (sp_shares T) (fun as R RX h => ?_) (fun X B E as R RX cj hE h => ?_)
  · obtain ⟨_, _, _, rfl, _⟩ := h; rfl
  obtain ⟨many, mv, far, rfl, hc, hR, hX⟩ := h
  have m1 := hc.m1
  have m2 := hc.m2
  show JSs X B _ [.fz (chD T.C_Chain many mv), .fz (.int far), .no, .no, .no, .no, .no, .no, .no, .no, .no, .no, .no] _
  refine JSs.cons (JS.ite (jt_not (jt_lele (jv_int (jv_name cj 1 ⟨_, _, rfl, rfl, fun k1 => ?_, fun k1 => ⟨fun _ => ?_, fun z => absurd z (by decide)⟩⟩)))))
  rotate_left
  · exact JSs.one (js_raiseV cj 1 T.xi_NoSuch T.g_NoSuch T.kp_NoSuch T.su_NoSuch T.ty_NoSuch (hE _ _ (hX fun c => by have := c.1; omega)))
  refine jv_globI cj 0 T.g_MOST_FAR ⟨_, rfl, fun hb => ?_, fun hb => JSs.nil ?_⟩
  · exact JSs.one (js_raiseV cj 1 T.xi_NoSuch T.g_NoSuch T.kp_NoSuch T.su_NoSuch T.ty_NoSuch (hE _ _ (hX fun c => by have := c.2; simp at hb; omega)))
  have k2 : far ≤ 20 := by simpa using hb
  have hR := hR ⟨k1, k2⟩
  obtain ⟨n, rfl⟩ : ∃ n : Nat, far = n := ⟨far.toNat, by omega⟩
  rw [Int.toNat_natCast] at hR
  have hn : n ≤ 20 := by omega
  clear k1 k2 hX hb
  refine JSs.cons ?_
  refine js_set cj 2 (je_tdisp1 cj (jv_tupRgP cj 2 3 T.z_tuple T.z_range (jv_fldK cj T.cl_Chain T.na_Chain_many (jv_name cj 0 ⟨_, _, _, rfl, rfl, many, rfl, ⟨by omega, by omega, by omega, by omega, by omega⟩, jv_int ⟨_, rfl, ?_⟩⟩))))
  rw [rgI0]
  show JSs X B _ [.fz (chD T.C_Chain many mv), .fz (.int (n : Nat)), .ow (.dT (kt (kI [(rg many, 1)]))), .no, .no, .no, .no, .no, .no, .no, .no, .no, .no] _
  refine JSs.cons ?_
  refine js_for cj (ji_range1 cj 3 T.z_range (jv_name cj 1 ⟨_, rfl, ?_, ?_, fun t G => ∃ ms a3 a5 a6 a7 a8, Part many ms (En many mv t) ∧ G = [.fz (chD T.C_Chain many mv), .fz (.int (n : Nat)), .ow (.dT (kt (kI ms))), a3, .no, a5, a6, a7, a8, .no, .no, .no, .no], ⟨_, _, _, _, _, _, Part.start mv m1, rfl⟩, fun t d G ht hd hI => ?_, fun G hI => ?_⟩))
  · omega
  · omega
  · obtain ⟨ms, a3, a5, a6, a7, a8, pt, rfl⟩ := hI
    refine JG.name cj 3 ?_
    refine JSs.cons ?_
    refine js_set cj 4 (je_tnew ?_)
    refine JSs.cons ?_
    refine js_forT cj 2 (m := kI ms) (fun dd o ks => ⟨fun i G => ∃ ms' b5 b6 b7 b8, Part many ms' (S1 ff mv ms i) ∧ G = [.fz (chD T.C_Chain many mv), .fz (.int (n : Nat)), .ow (.lkT dd o ks (kt (kI ms))), .fz d, .ow (.dT (kt (kI ms'))), b5, b6, b7, b8, .no, .no, .no, .no], ?_, ?_, fun i p G hp hI => ?_, fun G hI => ?_⟩)
    · exact ⟨[], a5, a6, a7, a8, Part.nil fun g => S1_zero mv ms g, rfl⟩
    · rintro j G2 ⟨_, _, _, _, _, _, rfl⟩; rfl
    · obtain ⟨ms', b5, b6, b7, b8, pt', rfl⟩ := hI
      obtain ⟨f, c, hf, rfl⟩ := kI_get hp
      have hfm : (f, c) ∈ ms := List.mem_of_getElem? hf
      have fok : MapOk many f := pt.ok f (List.mem_map.mpr ⟨_, hfm, rfl⟩)
      refine JG.name cj 5 ?_
      refine JSs.one ?_
      refine js_for cj (ji_seq (jv_fldK cj T.cl_Chain T.na_Chain_moves (jv_name cj 0 ⟨_, _, D.lst (mv.map mvD), rfl, rfl, _, .inl rfl, fun j G => ∃ ms' b6 b7 b8, Part many ms' (S2 ff mv ms i j f c) ∧ G = [.fz (chD T.C_Chain many mv), .fz (.int (n : Nat)), .ow (.lkT dd o ks (kt (kI ms))), .fz d, .ow (.dT (kt (kI ms'))), .fz (.tp (f.map .int)), b6, b7, b8, .no, .no, .no, .no], ⟨ms', b6, b7, b8, pt'.congr fun g => S2_zero mv ms i f c g, rfl⟩, fun j d2 G hj hd2 hI => ?_, fun G hI => ?_⟩)))
      · obtain ⟨ms2, b6, b7, b8, pt2, rfl⟩ := hI
        obtain ⟨⟨wt, row⟩, hq, rfl⟩ := map_get hd2
        have ok := hc.mv _ (List.mem_of_getElem? hq)
        have w1 : 1 ≤ wt := ok.1.1
        have w2 : wt ≤ 99 := ok.1.2
        have few := pt2.few m2
        refine JG.tup cj (JGs.cons (JG.name cj 6 (JGs.cons (JG.name cj 7 (JGs.nil ?_)))))
        refine JSs.cons ?_
        refine js_set cj 8 (je_call0 cj (ok_farther T) (by decide) 4 T.g_farther T.F_farther.kp T.b_farther ?_)
        refine JD.cons (jv_name cj 5 (JD.cons (jv_name cj 7 (JD.nil ⟨many, f, row, rfl, m2, fok, ok.2.1, ok.2.2, ?_⟩))))
        refine JSs.one ?_
        refine js_tput cj 4 (jv_add (jv_tget2 cj 4 (jv_name cj 8 (jv_int ⟨kI ms2, ff f row, _, rfl, .free, rfl, ?_⟩)) (hg := ⟨kI ms2, _, rfl, .free⟩)))
        refine jv_mul (jv_name cj 6 (jv_tget cj 2 (jv_name cj 5 ⟨kI ms, f, .int c, _, rfl, .lock, rfl, tget_mem pt.nd hfm, wt, c, rfl, rfl, .inl ⟨?_, ?_⟩, ?_⟩)))
        · omega
        · omega
        refine ⟨iget ms2 (ff f row), _, (tget_kI _ _).1, rfl, ?_⟩
        refine jv_name cj 8 ⟨kI ms2, ff f row, rfl, rfl, ?_, ?_⟩
        · rw [kI_len]; unfold sizeLine; omega
        rw [tput_kI]
        exact ⟨_, _, _, _, pt2.put (ff_ok fok ok.2.1 ok.2.2) fun g => S2_succ hq g, rfl⟩
      · obtain ⟨ms2, b6, b7, b8, pt2, rfl⟩ := hI
        rw [List.length_map] at pt2
        exact ⟨ms2, _, b6, b7, b8, pt2.congr fun g => S1_succ hf g, rfl⟩
    · obtain ⟨ms', b5, b6, b7, b8, pt', rfl⟩ := hI
      rw [kI_len] at pt'
      refine JSs.one ?_
      refine js_set cj 2 (je_move cj 4 ?_)
      exact ⟨ms', .fz d, b5, b6, b7, b8, pt.turn pt', rfl⟩
  obtain ⟨ms, a3, a5, a6, a7, a8, pt, rfl⟩ := hI
  have hw := whl_pos hc n
  have hwn := whl_nat hc hn
  obtain ⟨sm1, sm2, sm3, sm4⟩ := shL_sm hc hn
  refine JSs.cons ?_
  refine js_set cj 9 (JV.je (jv_sum cj 5 T.z_sum (JE.jv (je_listVals cj 6 2 T.z_list ⟨ms.map (·.2), congrArg D.lst (kI_vals ms), ?_⟩))))
  rw [Int.toNat_natCast] at pt
  rw [pt.whl]
  refine JSs.cons ?_
  refine js_set cj 10 (je_lst (JD.nil ⟨lz rfl, ?_⟩))
  refine JSs.forget 3 (JSs.forget 5 (JSs.forget 6 (JSs.forget 7 (JSs.forget 8 ?_))))
  refine JSs.cons ?_
  refine js_for cj (ji_range1 cj 3 T.z_range (jv_fldK cj T.cl_Chain T.na_Chain_many (jv_name cj 0 ⟨_, _, _, rfl, rfl, many, rfl, ?_, ?_, fun i G => ∃ a, G = [.fz (chD T.C_Chain many mv), .fz (.int (n : Nat)), .ow (.dT (kt (kI ms))), .no, .no, .no, .no, .no, .no, .fz (.int (whl many mv n)), .ow (.lst (((shL many mv n).take i).map frD)), a, .no], ⟨.no, rfl⟩, fun i d G hi hd hI => ?_, fun G hI => ?_⟩)))
  · omega
  · omega
  · obtain ⟨a, rfl⟩ := hI
    have hd : d = .int ((i : Nat) : Int) := hd.trans (by rw [Int.zero_add])
    subst hd
    refine JG.name cj 11 ?_
    refine JSs.one ?_
    refine js_append cj 10 (JE.jv (je_call0 cj (ok_made T) (by decide) 7 T.g_made T.F_made.kp T.b_made ?_))
    refine JD.cons (jv_tget2 cj 2 (jv_tupleP cj 2 T.z_tuple (JE.jv ?_)) (hg := ⟨kI ms, _, rfl, .free⟩))
    refine je_lcB cj [11, 12] [12] [] [("one", 12)] (ji_range1 cj 3 T.z_range (jv_fldK cj T.cl_Chain T.na_Chain_many (jv_name cj 0 ⟨_, _, _, rfl, rfl, many, rfl, ?_, ?_, ?_⟩)))
    · omega
    · omega
    refine LcI.map (fun _ d => d = .int ((i : Nat) : Int)) ?_ (fun G => G = [.fz (chD T.C_Chain many mv), .fz (.int (n : Nat)), .ow (.dT (kt (kI ms))), .no, .no, .no, .no, .no, .no, .fz (.int (whl many mv n)), .ow (.lst (((shL many mv n).take i).map frD)), .fz (.int ((i : Nat) : Int)), .no]) rfl (fun j d G2 hj hd hI X1 c1 => ?_) fun acc G2 hacc hv hI => ?_
    · unfold sizeLine; omega
    · subst hI
      refine JG.name c1 12 fun X3 c3 => ?_
      exact jv_name c3 11 ⟨rfl, rfl⟩
    subst hI
    have eacc := ints_rep hacc fun i d h => hv i d h
    subst eacc
    refine ⟨_, .inl rfl, jv_int ⟨kI ms, List.replicate many.toNat ((i : Nat) : Int), _, rfl, .free, rfl, ?_⟩⟩
    rw [(tget_kI _ _).1, pt.cnt]
    refine JD.cons (jv_name cj 9 (JD.nil ⟨cnt many mv n i, whl many mv n, rfl, hw, Nat.lt_of_lt_of_le hwn (Nat.pow_le_pow_right (by decide) (by decide)), ?_⟩))
    refine ⟨_, rfl, ?_, .fz (.int ((i : Nat) : Int)), ?_⟩
    · rw [List.length_map, List.length_take, shL_len]; unfold sizeLine; omega
    · have e : ((shL many mv n).take (i + 1)).map frD = ((shL many mv n).take i).map frD ++ [frD (shr many mv n i)] := by
        rw [List.take_add_one, shL_get hi, List.map_append]; rfl
      rw [e]; rfl
  obtain ⟨a, rfl⟩ := hI
  have et : (shL many mv n).take many.toNat = shL many mv n := by rw [← shL_len many mv n, List.take_length]
  rw [et]
  refine JSs.forget 2 (JSs.forget 11 ?_)
  refine @JSs.freeze X B _ _ _ 10 _ _ rfl rfl ?_
  refine JSs.one (JS.ret (JV.je (jv_tup ?_)))
  refine JD.cons (jv_name cj 10 (JD.cons (JE.jv (je_call0 cj (ok_less T) (by decide) 8 T.g_less T.F_less.kp T.b_less ?_))))
  refine JD.cons (jv_globT cj 9 T.g_WHOLE T.p_WHOLE (JD.cons (JE.jv (je_call0 cj (ok_summed T) (by decide) 10 T.g_summed T.F_summed.kp T.b_summed ?_))))
  refine JD.cons (jv_name cj 10 (JD.nil ⟨shL many mv n, rfl, sm1, sm2, ?_⟩))
  refine JD.nil ⟨1, rsum (shL many mv n), rfl, ⟨by decide, by decide⟩, sm3, ?_⟩
  exact JD.nil ⟨lz rfl, hR⟩
/-- _law_low, _law_add, _law_sum -/
@[reducible] def sp__law_low : J.Spec := fun ps R _ => ∃ (t b : Int), ps = [.v (.int t), .v (.int b)] ∧ 0 < b ∧ b.natAbs < 2 ^ 8000 ∧ R (.fz (frD (mkRat t b.toNat))) []
theorem ok__law_low (T : Tx K mg) : FnOk P w K mg base (L2.CX P w) 1 T.a__law_low T.d__law_low ["_law_top", "_law_bottom"] (SpJ K sp__law_low) := by
  refine jfn T.F__law_low z__law_low zo__law_low zf__law_low sp__law_low (fun as R RX h => ?_) (fun X B E as R RX cj hE h => ?_)
  · obtain ⟨_, _, rfl, _⟩ := h; rfl
  obtain ⟨t, b, rfl, hb, hz, hR⟩ := h
  show JSs X B _ [.fz (.int t), .fz (.int b), .no, .no] _
  refine JSs.cons (js_set cj 2 (JV.je (jv_abs cj 0 T.z_abs (jv_name cj 0 ⟨_, rfl, ?_⟩))))
  refine JSs.cons (js_set cj 3 (JV.je (jv_name cj 1 ?_)))
  rw [show (if t < 0 then -t else t) = ((t.natAbs : Nat) : Int) by split <;> omega]
  obtain ⟨bn, rfl⟩ : ∃ bn : Nat, b = bn := ⟨b.toNat, by omega⟩
  refine JSs.cons (JS.whileN cj (fun m G => ∃ x : Nat, x.gcd m = t.natAbs.gcd bn ∧ G = [.fz (.int t), .fz (.int (bn : Nat)), .fz (.int (x : Nat)), .fz (.int (m : Nat))]) bn ⟨t.natAbs, rfl, rfl⟩ fun m G hI => ?_)
  obtain ⟨x, hx, rfl⟩ := hI
  refine jt_gt (jv_name cj 3 (jv_int ⟨_, _, rfl, rfl, fun hc => ?_, fun hc => ?_⟩))
  · have hc := of_decide_eq_true hc
    refine JSs.one (js_parB cj 2 3 (jv_name cj 3 (jv_mod (jv_name cj 2 (jv_name cj 3 ⟨_, _, rfl, rfl, hc, ?_⟩)))))
    refine ⟨x % m, Nat.mod_lt _ (by omega), m, ?_, ?_⟩
    · rw [← hx, Nat.gcd_comm m, ← Nat.gcd_rec, Nat.gcd_comm]
    · rw [Int.natCast_emod]; rfl
  · have hc := of_decide_eq_false hc
    have hm : m = 0 := by omega
    subst hm
    rw [Nat.gcd_zero_right] at hx
    subst hx
    have e0 : t.natAbs.gcd bn = t.natAbs.gcd (bn : Int).natAbs := by rw [Int.natAbs_natCast]
    rw [e0]
    obtain ⟨g1, g2⟩ := gcd_le (t := t) hb
    have cd : ∀ i, CDivW i ((t.natAbs.gcd (bn : Int).natAbs : Nat) : Int) := fun i => ⟨by omega, by
      rw [Int.natAbs_natCast]
      exact Nat.lt_of_lt_of_le (log2_lt (Nat.lt_of_le_of_lt g1 hz) (by decide)) (by decide)⟩
    refine JSs.one (JS.ret (JV.je (jv_tup (JD.cons (jv_fdivW (jv_name cj 0 (jv_name cj 2 ⟨_, _, rfl, rfl, cd _, ?_⟩)))))))
    refine JD.cons (jv_fdivW (jv_name cj 1 (jv_name cj 2 ⟨_, _, rfl, rfl, cd _, JD.nil ⟨lz rfl, ?_⟩⟩)))
    rw [frD_mk hb] at hR
    exact hR
@[reducible] def sp__law_add : J.Spec := fun ps R _ => ∃ p q : Rat, ps = [.v (frD p), .v (frD q)] ∧ Sm p ∧ Sm q ∧ R (.fz (frD (p + q))) []
theorem ok__law_add (T : Tx K mg) : FnOk P w K mg base (L2.CX P w) 2 T.a__law_add T.d__law_add ["_law_one", "_law_other"] (SpJ K sp__law_add) := by
  refine jfn T.F__law_add z__law_add zo__law_add zf__law_add sp__law_add (fun as R RX h => ?_) (fun X B E as R RX cj hE h => ?_)
  · obtain ⟨_, _, rfl, _⟩ := h; rfl
  obtain ⟨p, q, rfl, hp, hq, hR⟩ := h
  show JSs X B _ [.fz (frD p), .fz (frD q)] _
  refine JSs.one (JS.ret (je_call0 cj (ok__law_low T) (by decide) 0 T.g__law_low T.F__law_low.kp T.b__law_low ?_))
  refine JD.cons (jv_add (jv_mulW (jv_ix (jv_name cj 0 (jv_int ⟨_, _, D.int p.num, .tup, rfl, rfl, ?_⟩)))))
  refine jv_ix (jv_name cj 1 (jv_int ⟨_, _, D.int q.den, .tup, rfl, rfl, _, _, rfl, rfl, cmulW hp.1 hq.den, ?_⟩))
  refine jv_mulW (jv_ix (jv_name cj 1 (jv_int ⟨_, _, D.int q.num, .tup, rfl, rfl, ?_⟩)))
  refine jv_ix (jv_name cj 0 (jv_int ⟨_, _, D.int p.den, .tup, rfl, rfl, _, _, rfl, rfl, cmulW hq.1 hp.den, _, _, rfl, rfl, ?_⟩))
  refine JD.cons (jv_mulW (jv_ix (jv_name cj 0 (jv_int ⟨_, _, D.int p.den, .tup, rfl, rfl, ?_⟩))))
  refine jv_ix (jv_name cj 1 (jv_int ⟨_, _, D.int q.den, .tup, rfl, rfl, _, _, rfl, rfl, cmulW hp.den hq.den, JD.nil ⟨_, _, rfl, dd_pos p q, dd_small hp hq, ?_⟩⟩))
  rw [rat_add_mk]
  exact hR
@[reducible] def sp__law_sum : J.Spec := fun ps R _ => ∃ qs : List Rat, ps = [.v (.lst (qs.map frD))] ∧ (∀ k ≤ qs.length, Sm (rsum (qs.take k))) ∧ (∀ q ∈ qs, Sm q) ∧ R (.fz (frD (rsum qs))) []
theorem ok__law_sum (T : Tx K mg) : FnOk P w K mg base (L2.CX P w) 3 T.a__law_sum T.d__law_sum ["_law_some"] (SpJ K sp__law_sum) := by
  refine jfn T.F__law_sum z__law_sum zo__law_sum zf__law_sum sp__law_sum (fun as R RX h => ?_) (fun X B E as R RX cj hE h => ?_)
  · obtain ⟨_, rfl, _⟩ := h; rfl
  obtain ⟨qs, rfl, hp, hq, hR⟩ := h
  show JSs X B _ [.fz (.lst (qs.map frD)), .no, .no] _
  refine JSs.cons (js_set cj 1 (JV.je (jv_tup (JD.cons (jv_int (JD.cons (jv_int (JD.nil ⟨lz rfl, ?_⟩))))))))
  refine JSs.cons (js_for cj (ji_seq (jv_name cj 0 ⟨_, .inl rfl, fun i G => ∃ a, G = [.fz (.lst (qs.map frD)), .fz (frD (rsum (qs.take i))), a], ⟨.no, rfl⟩, fun i d G hi hd hI => ?_, fun G hI => ?_⟩)))
  · obtain ⟨a, rfl⟩ := hI
    obtain ⟨q, hq2, rfl⟩ := map_get hd
    rw [List.length_map] at hi
    refine JG.name cj 2 ?_
    refine JSs.one (js_set cj 1 (je_call0 cj (ok__law_add T) (by decide) 0 T.g__law_add T.F__law_add.kp T.b__law_add ?_))
    refine JD.cons (jv_name cj 1 (JD.cons (jv_name cj 2 (JD.nil ⟨_, q, rfl, hp i (by omega), hq q (List.mem_of_getElem? hq2), ?_⟩))))
    exact ⟨.fz (frD q), by rw [rsum_take hq2]; rfl⟩
  · obtain ⟨a, rfl⟩ := hI
    rw [List.length_map, List.take_length]
    refine JSs.forget 2 ?_
    exact JSs.one (JS.ret (JV.je (jv_name cj 1 hR)))
/-- _law_is_share, _law_are_shares -/
@[reducible] def sp__law_is_share : J.Spec := fun ps R _ => ∃ q : Rat, ps = [.v (frD q)] ∧ 0 ≤ q ∧ Sm q ∧ R (.fz (.bl true)) []
theorem ok__law_is_share (T : Tx K mg) : FnOk P w K mg base (L2.CX P w) 2 T.a__law_is_share T.d__law_is_share ["_law_found"] (SpJ K sp__law_is_share) := by
  refine jfn T.F__law_is_share z__law_is_share zo__law_is_share zf__law_is_share sp__law_is_share (fun as R RX h => ?_) (fun X B E as R RX cj hE h => ?_)
  · obtain ⟨_, rfl, _⟩ := h; rfl
  obtain ⟨q, rfl, h0, hq, hR⟩ := h
  have hn : 0 ≤ q.num := Rat.num_nonneg.mpr h0
  have hd := q.den_pos
  show JSs X B _ [.fz (frD q), .no] _
  refine JSs.cons (JS.ite (JW.jt (jw_or (jt_not (jt_val (jv_isi cj 0 T.z_isinstance (jv_name cj 0 (jv_ty (T := "tuple") cj 1 T.z_tuple (by decide +kernel) ⟨"tuple", "tuple", true, rfl, rfl, by decide +kernel, _, rfl, fun _ => ?_, fun z => absurd z (by decide)⟩))))))))
  refine jw_or1 (jt_nei cj (jv_len cj 2 T.z_len (jv_name cj 0 ⟨_, .tup, jv_int ⟨_, _, rfl, rfl, fun z => ?_, fun _ => JSs.nil ?_⟩⟩)))
  · simp at z
  refine JSs.cons (js_for cj (ji_tup (jv_name cj 0 ⟨_, rfl, fun i G => ∃ a, G = [.fz (frD q), a], ⟨.no, rfl⟩, fun i d G hi hd2 hI => ?_, fun G hI => ?_⟩)))
  · obtain ⟨a, rfl⟩ := hI
    obtain ⟨x, rfl⟩ : ∃ x, d = .int x := by
      match i, hd2 with
      | 0, h => exact ⟨_, (Option.some.inj h).symm⟩
      | 1, h => exact ⟨_, (Option.some.inj h).symm⟩
      | n + 2, h => simp at h
    refine JG.name cj 1 ?_
    refine JSs.one (JS.ite (JW.jt (jw_or (jt_val (jv_isi cj 0 T.z_isinstance (jv_name cj 1 (jv_ty (T := "bool") cj 3 T.z_bool (by decide +kernel) ⟨"int", "bool", false, rfl, rfl, by decide +kernel, _, rfl, fun _ => ?_, fun z => absurd z (by decide)⟩)))))))
    refine jw_or1 (jt_not (jt_val (jv_isi cj 0 T.z_isinstance (jv_name cj 1 (jv_ty (T := "int") cj 4 T.z_int (by decide +kernel) ⟨"int", "int", true, rfl, rfl, by decide +kernel, _, rfl, fun z => absurd z (by decide), fun _ => JSs.nil ⟨_, rfl⟩⟩)))))
  · obtain ⟨a, rfl⟩ := hI
    refine JSs.forget 1 ?_
    refine JSs.one (JS.ret (JV.je (jv_and (jv_ge (jv_ix (jv_name cj 0 (jv_int ⟨_, _, D.int q.num, .tup, rfl, rfl, jv_int ⟨_, _, rfl, rfl, _, rfl, fun _ => ?_, fun z => ?_⟩⟩)))))))
    rotate_left
    · have := of_decide_eq_false z; omega
    refine jv_and (jv_gt (jv_ix (jv_name cj 0 (jv_int ⟨_, _, D.int q.den, .tup, rfl, rfl, jv_int ⟨_, _, rfl, rfl, _, rfl, fun _ => ?_, fun z => ?_⟩⟩))))
    rotate_left
    · have := of_decide_eq_false z; omega
    refine jv_one (jv_eq cj (JE.jv (je_call0 cj (ok__law_low T) (by decide) 5 T.g__law_low T.F__law_low.kp T.b__law_low ?_)))
    refine JD.cons (jv_ix (jv_name cj 0 (jv_int ⟨_, _, D.int q.num, .tup, rfl, rfl, ?_⟩)))
    refine JD.cons (jv_ix (jv_name cj 0 (jv_int ⟨_, _, D.int q.den, .tup, rfl, rfl, JD.nil ⟨_, _, rfl, by omega, ?_, ?_⟩⟩)))
    · rw [Int.natAbs_natCast]
      exact Nat.lt_of_lt_of_le hq.2 (Nat.pow_le_pow_right (by decide) (by decide))
    refine jv_name cj 0 ⟨⟨1, frD_flat _, by decide⟩, ⟨1, frD_flat _, by decide⟩, ?_⟩
    rw [Int.toNat_natCast, Rat.mkRat_self, deq_refl (frD_flat q)]
    exact hR
@[reducible] def sp__law_are_shares : J.Spec := fun ps R _ => ∃ (qs : List Rat) (n : Int), ps = [.v (.lst (qs.map frD)), .v (.int n)] ∧ n = qs.length ∧ qs.length ≤ 1000 ∧ (∀ k ≤ qs.length, Sm (rsum (qs.take k))) ∧ (∀ q ∈ qs, Sm q ∧ 0 ≤ q) ∧ rsum qs = 1 ∧ R (.fz (.bl true)) []
theorem ok__law_are_shares (T : Tx K mg) : FnOk P w K mg base (L2.CX P w) 4 T.a__law_are_shares T.d__law_are_shares ["_law_found", "_law_many"] (SpJ K sp__law_are_shares) := by
  refine jfn T.F__law_are_shares z__law_are_shares zo__law_are_shares zf__law_are_shares sp__law_are_shares (fun as R RX h => ?_) (fun X B E as R RX cj hE h => ?_)
  · obtain ⟨_, _, rfl, _⟩ := h; rfl
  obtain ⟨qs, n, rfl, hn, hl, hp, hq, h1, hR⟩ := h
  show JSs X B _ [.fz (.lst (qs.map frD)), .fz (.int n), .no] _
  refine JSs.cons (JS.ite (JW.jt (jw_or (jt_not (jt_val (jv_isi cj 0 T.z_isinstance (jv_name cj 0 (jv_ty (T := "list") cj 1 T.z_list (by decide +kernel) ⟨"list", "list", true, rfl, rfl, by decide +kernel, _, rfl, fun _ => ?_, fun z => absurd z (by decide)⟩))))))))
  refine jw_or1 (jt_nei cj (jv_len cj 2 T.z_len (jv_name cj 0 ⟨_, .lst, jv_name cj 1 ⟨_, _, rfl, rfl, fun z => ?_, fun _ => JSs.nil ?_⟩⟩)))
  · rw [List.length_map, hn] at z; simp at z
  have f0 : Flat 1 (.lst []) := .lst fun d hd => by cases hd
  refine JSs.one (JS.ret (JV.je (jv_and (jv_eq cj (JE.jv (je_lcB cj [2] [2] ["_law_is_share"] [("_law_one", 2)] (ji_seq (jv_name cj 0 ⟨_, .inl rfl, ?_, fun i acc G => acc = [] ∧ G = [.fz (.lst (qs.map frD)), .fz (.int n), .no], ⟨rfl, rfl⟩, fun i d acc G2 hi hd hI _ X1 c1 => ?_, fun acc G2 hI => ?_⟩))))))))
  · rw [List.length_map]; unfold sizeLine; omega
  · obtain ⟨rfl, rfl⟩ := hI
    obtain ⟨q, hq2, rfl⟩ := map_get hd
    have := hq q (List.mem_of_getElem? hq2)
    refine JG.name c1 2 fun X2 c2 => JTs.one (jt_not (jt_val (JE.jv (je_call0 c2 (ok__law_is_share T) (by decide) 0 T.g__law_is_share T.F__law_is_share.kp T.b__law_is_share ?_))))
    exact JD.cons (jv_name c2 2 (JD.nil ⟨q, rfl, this.2, this.1, _, rfl, fun z => absurd z (by decide), fun _ => ⟨rfl, rfl⟩⟩))
  · obtain ⟨rfl, rfl⟩ := hI
    refine JE.jv (je_lst (JD.nil ⟨lz rfl, ⟨1, f0, by decide⟩, ⟨1, f0, by decide⟩, _, rfl, fun _ => ?_, fun z => ?_⟩))
    rotate_left
    · rw [deq_refl f0] at z; cases z
    refine jv_one (jv_eq cj (JE.jv (je_call0 cj (ok__law_sum T) (by decide) 3 T.g__law_sum T.F__law_sum.kp T.b__law_sum ?_)))
    refine JD.cons (jv_name cj 0 (JD.nil ⟨qs, rfl, hp, fun q h => (hq q h).1, ?_⟩))
    refine jv_tup (JD.cons (jv_int (JD.cons (jv_int (JD.nil ⟨lz rfl, ⟨1, frD_flat _, by decide⟩, ⟨1, frD_flat 1, by decide⟩, ?_⟩)))))
    rw [h1]
    have : deq (frD 1) (.tup [.int 1, .int 1]) = true := deq_refl (frD_flat 1)
    rw [this]
    exact hR
/-- _law_times -/
@[reducible] def sp__law_times : J.Spec := fun ps R _ => ∃ p q : Rat, ps = [.v (frD p), .v (frD q)] ∧ Sm p ∧ Sm q ∧ R (.fz (frD (p * q))) []
theorem ok__law_times (T : Tx K mg) : FnOk P w K mg base (L2.CX P w) 2 T.a__law_times T.d__law_times ["_law_one", "_law_other"] (SpJ K sp__law_times) := by
  refine jfn T.F__law_times z__law_times zo__law_times zf__law_times sp__law_times (fun as R RX h => ?_) (fun X B E as R RX cj hE h => ?_)
  · obtain ⟨_, _, rfl, _⟩ := h; rfl
  obtain ⟨p, q, rfl, hp, hq, hR⟩ := h
  show JSs X B _ [.fz (frD p), .fz (frD q)] _
  refine JSs.one (JS.ret (je_call0 cj (ok__law_low T) (by decide) 0 T.g__law_low T.F__law_low.kp T.b__law_low ?_))
  refine JD.cons (jv_mulW (jv_ix (jv_name cj 0 (jv_int ⟨_, _, D.int p.num, .tup, rfl, rfl, ?_⟩))))
  refine jv_ix (jv_name cj 1 (jv_int ⟨_, _, D.int q.num, .tup, rfl, rfl, _, _, rfl, rfl, cmulW hp.1 hq.1, ?_⟩))
  refine JD.cons (jv_mulW (jv_ix (jv_name cj 0 (jv_int ⟨_, _, D.int p.den, .tup, rfl, rfl, ?_⟩))))
  refine jv_ix (jv_name cj 1 (jv_int ⟨_, _, D.int q.den, .tup, rfl, rfl, _, _, rfl, rfl, cmulW hp.den hq.den, JD.nil ⟨_, _, rfl, dd_pos p q, dd_small hp hq, ?_⟩⟩))
  rw [dd_nat, ← Rat.mul_def']
  exact hR
/-- _law_ends -/
@[reducible] def sp__law_ends : J.Spec := fun ps R _ => ∃ (many : Int) (mv : List (Int × List Int)) (ns : List Int), ps = [.v (toldD many mv), .v (.lst (ns.map .int))] ∧ Ch many mv ∧ (∀ n ∈ ns, NumOk mv n) ∧ ns.length ≤ 1000 ∧ R (.fz (.lst (((rg many).map (Wk mv ns)).map .int))) []
theorem ok__law_ends (T : Tx K mg) : FnOk P w K mg base (L2.CX P w) 1 T.a__law_ends T.d__law_ends ["_law_told", "_law_numbers_here"] (SpJ K sp__law_ends) := by
  refine jfn T.F__law_ends z__law_ends zo__law_ends zf__law_ends sp__law_ends (fun as R RX h => ?_) (fun X B E as R RX cj hE h => ?_)
  · obtain ⟨_, _, _, rfl, _⟩ := h; rfl
  obtain ⟨many, mv, ns, rfl, hc, hn, hl, hR⟩ := h
  have m1 := hc.m1
  have m2 := hc.m2
  show JSs X B _ [.fz (toldD many mv), .fz (.lst (ns.map .int)), .no, .no, .no] _
  refine JSs.cons (js_set cj 2 (je_listRg cj 0 1 T.z_list T.z_range (jv_ix (jv_name cj 0 (jv_int ⟨_, _, _, .tup, rfl, rfl, many, rfl, ⟨by omega, by omega, by omega, by omega, by omega⟩, ?_⟩)))))
  rw [rgI0]
  refine JSs.freeze 2 rfl rfl ?_
  refine JSs.cons (js_for cj (ji_seq (jv_name cj 1 ⟨_, .inl rfl, fun i G => ∃ e, G = [.fz (toldD many mv), .fz (.lst (ns.map .int)), .fz (.lst (((rg many).map (Wk mv (ns.take i))).map .int)), e, .no], ⟨.no, ?_⟩, fun i d G hi hd hI => ?_, fun G hI => ?_⟩)))
  · show _ = [Ent.fz (toldD many mv), .fz (.lst (ns.map .int)), .fz (.lst (((rg many).map (Wk mv [])).map .int)), .no, .no]
    rw [show (rg many).map (Wk mv []) = rg many from (List.map_congr_left fun _ _ => rfl).trans (List.map_id _)]
    rfl
  · obtain ⟨e, rfl⟩ := hI
    obtain ⟨n, hn2, rfl⟩ := map_int_get hd
    have ok := hn n (List.mem_of_getElem? hn2)
    obtain ⟨wt, hg⟩ := rw_get ok
    refine JG.name cj 3 ?_
    refine JSs.cons (js_setLcB cj 2 [0, 3, 4] [4] [] [("_law_place", 4)] (ji_seq (jv_name cj 2 ⟨_, .inl rfl, LcI.map (fun j d => ∀ x, ((rg many).map (Wk mv (ns.take i)))[j]? = some x → d = .int (gI (rw_ mv n) x)) ?_ (fun G => G = [.fz (toldD many mv), .fz (.lst (ns.map .int)), .fz (.lst (((rg many).map (Wk mv (ns.take i))).map .int)), .fz (.int n), .no]) rfl (fun j d G2 hj hd hI X1 c1 => ?_) fun acc G2 hacc hv hI => ?_⟩)))
    · rw [List.length_map, List.length_map, rg_len]; unfold sizeLine; omega
    · subst hI
      obtain ⟨x, hx, rfl⟩ := map_int_get hd
      have hx2 : 0 ≤ x ∧ x < many := by
        obtain ⟨p, hp, rfl⟩ := List.mem_map.mp (List.mem_of_getElem? hx)
        have := rg_mem.mp hp
        exact Wk_ok hc _ p (fun m hm => hn m (List.mem_of_mem_take hm)) this.1 this.2
      refine JG.name c1 4 fun X3 c3 => ?_
      refine jv_ix (jv_ix (jv_ix (jv_ix (jv_name c3 0 (jv_int ⟨_, _, _, .tup, rfl, rfl, ?_⟩)))))
      refine jv_name c3 3 ⟨_, _, _, .lst, rfl, at_map ok.1 hg, ?_⟩
      refine jv_int ⟨_, _, _, .tup, rfl, rfl, jv_name c3 4 ⟨_, _, _, .tup, rfl, at_int hx2.1 ?_, fun y hy => ?_, rfl⟩⟩
      · have := (hc.row ok).1; show x < (rw_ mv n).length; omega
      · rw [hx] at hy; cases hy; rfl
    · subst hI
      rw [List.length_map] at hacc
      have eacc := map_acc hacc hv
      subst eacc
      have e2 : (((rg many).map (Wk mv (ns.take i))).map fun x => gI (rw_ mv n) x) = (rg many).map (Wk mv (ns.take (i + 1))) := by
        rw [List.map_map]
        refine List.map_congr_left fun p _ => ?_
        rw [List.take_add_one, hn2]
        show gI (rw_ mv n) (Wk mv (ns.take i) p) = Wk mv (ns.take i ++ [n]) p
        rw [Wk_app]; rfl
      refine JSs.freeze 2 rfl rfl (JSs.nil ⟨.fz (.int n), ?_⟩)
      rw [← e2]
      rfl
  · obtain ⟨e, rfl⟩ := hI
    refine JSs.forget 3 (JSs.one (JS.ret (JV.je (jv_name cj 2 ?_))))
    rw [List.length_map, List.take_length]
    exact hR
/-! pairs of places that meet -/
inductive Mt (mv : List (Int × List Int)) : Int → Int → Prop
  | one {a b : Int} {m : Int × List Int} : m ∈ mv → gI m.2 a = gI m.2 b → Mt mv a b
  | step {a b : Int} {m : Int × List Int} : m ∈ mv → Mt mv (gI m.2 a) (gI m.2 b) → Mt mv a b
theorem Mt.symm {mv : List (Int × List Int)} {a b : Int} (h : Mt mv a b) : Mt mv b a := by
  induction h with
  | one hm e => exact .one hm e.symm
  | step hm _ ih => exact .step hm ih
def srt (a b : Int) : Int × Int := if a ≤ b then (a, b) else (b, a)
theorem srt_symm (a b : Int) : srt a b = srt b a := by
  unfold srt
  by_cases h : a ≤ b
  · by_cases h2 : b ≤ a
    · have : a = b := by omega
      rw [this]
    · rw [if_pos h, if_neg h2]
  · rw [if_neg h, if_pos (by omega)]
theorem isort2 (a b : Int) : isort [a, b] = [(srt a b).1, (srt a b).2] := by
  unfold srt
  show insI a (insI b []) = _
  show insI a [b] = _
  unfold insI
  by_cases h : a ≤ b
  · rw [if_pos h, if_pos h]
  · rw [if_neg h, if_neg h]; rfl
theorem Mt.srt {mv : List (Int × List Int)} {a b : Int} : Mt mv (srt a b).1 (srt a b).2 ↔ Mt mv a b := by
  unfold Kz.srt
  split
  · exact Iff.rfl
  · exact ⟨Mt.symm, Mt.symm⟩
def prsTo (many : Int) : Nat → List (Int × Int)
  | 0 => []
  | i + 1 => prsTo many i ++ (List.range (many.toNat - (i + 1))).map fun j => (((i : Nat) : Int), ((i + 1 + j : Nat) : Int))
def prs (many : Int) : List (Int × Int) := prsTo many many.toNat
theorem prsTo_mem {many : Int} {a b : Int} : ∀ {i : Nat}, (a, b) ∈ prsTo many i ↔ 0 ≤ a ∧ a < i ∧ a < b ∧ b < many
  | 0 => by
    constructor
    · intro h; cases h
    · rintro ⟨h1, h2, _⟩; omega
  | i + 1 => by
    show (a, b) ∈ prsTo many i ++ _ ↔ _
    rw [List.mem_append, prsTo_mem, List.mem_map]
    constructor
    · rintro (⟨h1, h2, h3, h4⟩ | ⟨j, hj, e⟩)
      · exact ⟨h1, by omega, h3, h4⟩
      · have := List.mem_range.mp hj
        injection e with e1 e2
        omega
    · rintro ⟨h1, h2, h3, h4⟩
      by_cases z : a < i
      · exact .inl ⟨h1, z, h3, h4⟩
      · refine .inr ⟨(b - a - 1).toNat, List.mem_range.mpr (by omega), ?_⟩
        have e1 : ((i : Nat) : Int) = a := by omega
        have e2 : ((i + 1 + (b - a - 1).toNat : Nat) : Int) = b := by omega
        rw [e1, e2]
theorem prs_mem {many a b : Int} : (a, b) ∈ prs many ↔ 0 ≤ a ∧ a < b ∧ b < many := by
  unfold prs
  rw [prsTo_mem]
  constructor
  · rintro ⟨h1, h2, h3, h4⟩; exact ⟨h1, h3, h4⟩
  · rintro ⟨h1, h3, h4⟩; exact ⟨h1, by omega, h3, h4⟩
theorem prs_srt {many a b : Int} (a0 : 0 ≤ a) (a1 : a < many) (b0 : 0 ≤ b) (b1 : b < many) (hne : a ≠ b) : srt a b ∈ prs many := by
  unfold srt
  split
  · exact prs_mem.mpr ⟨a0, by omega, b1⟩
  · exact prs_mem.mpr ⟨b0, by omega, a1⟩
theorem prsTo_len {many : Int} (m2 : many ≤ 6) (i : Nat) : (prsTo many i).length ≤ 6 * i := by
  induction i with
  | zero => exact Nat.le_refl _
  | succ i ih =>
    show (prsTo many i ++ _).length ≤ _
    rw [List.length_append, List.length_map, List.length_range]; omega
theorem prs_len {many : Int} (m2 : many ≤ 6) : (prs many).length ≤ 36 := by
  have := prsTo_len m2 many.toNat
  unfold prs
  omega
def behP (row : List Int) (p : Int × Int) : Int × Int := srt (gI row p.1) (gI row p.2)
def Fires (ks : List (Int × Int)) (p : Int × Int) (m : Int × List Int) : Prop := (behP m.2 p).1 = (behP m.2 p).2 ∨ behP m.2 p ∈ ks
def Clo (many : Int) (mv : List (Int × List Int)) (ks : List (Int × Int)) : Prop := ∀ p ∈ prs many, p ∉ ks → ∀ m ∈ mv, ¬ Fires ks p m
theorem srt_eq {a b : Int} : (srt a b).1 = (srt a b).2 ↔ a = b := by
  unfold srt
  split
  · exact Iff.rfl
  · exact ⟨fun h => h.symm, fun h => h.symm⟩
theorem gI_in {many : Int} {mv : List (Int × List Int)} (c : Ch many mv) {m : Int × List Int} (hm : m ∈ mv) {p : Int} (h0 : 0 ≤ p) (h1 : p < many) : 0 ≤ gI m.2 p ∧ gI m.2 p < many := by
  obtain ⟨_, h2, h3⟩ := c.mv m hm
  exact h3 _ (gI_mem h0 (by omega))
theorem Clo.all {many : Int} {mv : List (Int × List Int)} (c : Ch many mv) {ks : List (Int × Int)} (cl : Clo many mv ks) {a b : Int} (h : Mt mv a b) : 0 ≤ a → a < many → 0 ≤ b → b < many → a ≠ b → srt a b ∈ ks := by
  induction h with
  | @one a b m hm e =>
    intro a0 a1 b0 b1 hne
    apply Classical.byContradiction
    intro hn
    refine cl _ (prs_srt a0 a1 b0 b1 hne) hn m hm (.inl ?_)
    unfold behP srt
    by_cases h : a ≤ b
    · rw [if_pos h]
      exact srt_eq.mpr e
    · rw [if_neg h]
      exact srt_eq.mpr e.symm
  | @step a b m hm _ ih =>
    intro a0 a1 b0 b1 hne
    apply Classical.byContradiction
    intro hn
    have ra := gI_in c hm a0 a1
    have rb := gI_in c hm b0 b1
    refine cl _ (prs_srt a0 a1 b0 b1 hne) hn m hm ?_
    have e : behP m.2 (srt a b) = srt (gI m.2 a) (gI m.2 b) := by
      unfold behP srt
      by_cases h : a ≤ b
      · rw [if_pos h]
      · rw [if_neg h]
        exact srt_symm _ _
    unfold Fires
    rw [e]
    by_cases z : gI m.2 a = gI m.2 b
    · exact .inl (srt_eq.mpr z)
    · exact .inr (ih ra.1 ra.2 rb.1 rb.2 z)
structure Kn (many : Int) (mv : List (Int × List Int)) (ks : List (Int × Int)) : Prop where
  nd : ks.Nodup
  mem : ∀ p ∈ ks, p ∈ prs many ∧ Mt mv p.1 p.2
theorem Kn.len {many : Int} {mv : List (Int × List Int)} {ks : List (Int × Int)} (h : Kn many mv ks) : ks.length ≤ (prs many).length :=
  List.Nodup.length_le_of_subset h.nd fun p hp => (h.mem p hp).1
theorem Kn.add {many : Int} {mv : List (Int × List Int)} {ks : List (Int × Int)} (h : Kn many mv ks) {p : Int × Int} {m : Int × List Int} (hp : p ∈ prs many) (hn : p ∉ ks) (hm : m ∈ mv) (f : Fires ks p m) : Kn many mv (ks ++ [p]) := by
  refine ⟨List.nodup_append.mpr ⟨h.nd, by simp, fun a ha b hb e => ?_⟩, fun q hq => ?_⟩
  · rw [List.mem_singleton.mp hb] at e
    rw [e] at ha; exact hn ha
  · rcases List.mem_append.mp hq with hq | hq
    · exact h.mem q hq
    · rw [List.mem_singleton.mp hq]
      refine ⟨hp, ?_⟩
      rcases f with f | f
      · exact .one hm (srt_eq.mp f)
      · exact .step hm (Mt.srt.mp (h.mem _ f).2)
/-- within one turn -/
structure TI (many : Int) (mv : List (Int × List Int)) (ks0 : List (Int × Int)) (i j : Nat) (ks : List (Int × Int)) : Prop where
  kn : Kn many mv ks
  di : (ks0.length < ks.length ∧ ¬ Clo many mv ks0) ∨ (ks = ks0 ∧ (∀ i' p, i' < i → (prs many)[i']? = some p → p ∉ ks0 → ∀ m ∈ mv, ¬ Fires ks0 p m) ∧ (∀ p, (prs many)[i]? = some p → p ∉ ks0 → ∀ j' m, j' < j → mv[j']? = some m → ¬ Fires ks0 p m))
theorem TI.start {many : Int} {mv : List (Int × List Int)} {ks0 : List (Int × Int)} (h : Kn many mv ks0) : TI many mv ks0 0 0 ks0 :=
  ⟨h, .inr ⟨rfl, fun _ _ h => absurd h (Nat.not_lt_zero _), fun _ _ _ _ _ h => absurd h (Nat.not_lt_zero _)⟩⟩
theorem TI.row {many : Int} {mv : List (Int × List Int)} {ks0 ks : List (Int × Int)} {i : Nat} (h : TI many mv ks0 i mv.length ks) : TI many mv ks0 (i + 1) 0 ks := by
  refine ⟨h.kn, h.di.imp id fun ⟨e, h1, h2⟩ => ⟨e, fun i' p hi hp hn m hm => ?_, fun _ _ _ _ _ h => absurd h (Nat.not_lt_zero _)⟩⟩
  by_cases z : i' < i
  · exact h1 i' p z hp hn m hm
  · have : i' = i := by omega
    subst this
    obtain ⟨j, hj⟩ := List.getElem?_of_mem hm
    exact h2 p hp hn j m (List.getElem?_eq_some_iff.mp hj).1 hj
theorem TI.skip {many : Int} {mv : List (Int × List Int)} {ks0 ks : List (Int × Int)} {i j : Nat} {p : Int × Int} {m : Int × List Int} (h : TI many mv ks0 i j ks) (hp : (prs many)[i]? = some p) (hm : mv[j]? = some m) (hn : p ∈ ks ∨ ¬ Fires ks p m) : TI many mv ks0 i (j + 1) ks := by
  refine ⟨h.kn, h.di.imp id fun ⟨e, h1, h2⟩ => ⟨e, h1, fun q hq hnq j' m' hj hm' => ?_⟩⟩
  by_cases z : j' < j
  · exact h2 q hq hnq j' m' z hm'
  · have : j' = j := by omega
    subst this
    rw [hp] at hq; cases hq
    rw [hm] at hm'; cases hm'
    subst e
    rcases hn with hn | hn
    · exact absurd hn hnq
    · exact hn
theorem TI.add {many : Int} {mv : List (Int × List Int)} {ks0 ks : List (Int × Int)} {i j : Nat} {p : Int × Int} {m : Int × List Int} (h : TI many mv ks0 i j ks) (hp : (prs many)[i]? = some p) (hm : mv[j]? = some m) (hn : p ∉ ks) (f : Fires ks p m) : TI many mv ks0 i (j + 1) (ks ++ [p]) := by
  have hpm := List.mem_of_getElem? hp
  have hmm := List.mem_of_getElem? hm
  refine ⟨h.kn.add hpm hn hmm f, .inl ?_⟩
  rcases h.di with ⟨h1, h2⟩ | ⟨e, _, _⟩
  · exact ⟨by rw [List.length_append]; omega, h2⟩
  · subst e
    exact ⟨by rw [List.length_append]; simp, fun cl => cl p hpm hn m hmm f⟩
/-- from turn to turn -/
structure TT (many : Int) (mv : List (Int × List Int)) (t : Nat) (ks : List (Int × Int)) : Prop where
  kn : Kn many mv ks
  di : t ≤ ks.length ∨ Clo many mv ks
theorem TT.start (many : Int) (mv : List (Int × List Int)) : TT many mv 0 [] := ⟨⟨List.nodup_nil, fun _ h => by cases h⟩, .inl (Nat.zero_le _)⟩
theorem TT.turn {many : Int} {mv : List (Int × List Int)} {t : Nat} {ks0 ks : List (Int × Int)} (h0 : TT many mv t ks0) (h : TI many mv ks0 (prs many).length 0 ks) : TT many mv (t + 1) ks := by
  refine ⟨h.kn, ?_⟩
  rcases h.di with ⟨h1, h2⟩ | ⟨e, h1, _⟩
  · rcases h0.di with h3 | h3
    · exact .inl (by omega)
    · exact absurd h3 h2
  · subst e
    refine .inr fun p hp hn m hm => ?_
    obtain ⟨i, hi⟩ := List.getElem?_of_mem hp
    exact h1 i p (List.getElem?_eq_some_iff.mp hi).1 hi hn m hm
theorem TT.done {many : Int} {mv : List (Int × List Int)} {ks : List (Int × Int)} (c : Ch many mv) (h : TT many mv ((prs many).length + 1) ks) {p : Int × Int} (hp : p ∈ prs many) : p ∈ ks ↔ Mt mv p.1 p.2 := by
  have cl : Clo many mv ks := by
    rcases h.di with h1 | h1
    · have := h.kn.len; omega
    · exact h1
  refine ⟨fun q => (h.kn.mem p q).2, fun q => ?_⟩
  have hp2 := prs_mem.mp (show (p.1, p.2) ∈ prs many from hp)
  have := cl.all c q hp2.1 (by omega) (by omega) hp2.2.2 (by omega)
  have e : srt p.1 p.2 = p := by
    unfold srt
    rw [if_pos (by omega)]
  rwa [e] at this
open Classical in
noncomputable def apL (many : Int) (mv : List (Int × List Int)) : List (Int × Int) := (prs many).filter fun p => !decide (Mt mv p.1 p.2)
theorem apL_nil {many : Int} {mv : List (Int × List Int)} (h : apL many mv = []) {a b : Int} (a0 : 0 ≤ a) (a1 : a < many) (b0 : 0 ≤ b) (b1 : b < many) (hne : a ≠ b) : Mt mv a b := by
  unfold apL at h
  rw [List.filter_eq_nil_iff] at h
  have := h _ (prs_srt a0 a1 b0 b1 hne)
  simp at this
  exact Mt.srt.mp this
/-! pairs as data -/
def prD (p : Int × Int) : D := .tup [.int p.1, .int p.2]
theorem prD_inj {p q : Int × Int} (h : prD p = prD q) : p = q := by
  injection h with h
  injection h with h1 h2
  injection h2 with h2 _
  injection h1 with h1
  injection h2 with h2
  exact Prod.ext h1 h2
theorem prD_mem {l : List (Int × Int)} {p : Int × Int} : prD p ∈ l.map prD ↔ p ∈ l := by
  rw [List.mem_map]
  exact ⟨fun ⟨a, h1, h2⟩ => by rw [← prD_inj h2]; exact h1, fun h => ⟨p, h, rfl⟩⟩
theorem prD_flat (p : Int × Int) : Flat 1 (prD p) := flat_ints [p.1, p.2] |> .tup
theorem prs_flat (l : List (Int × Int)) : ∀ e ∈ l.map prD, Flat 1 e := fun e he => by
  obtain ⟨p, _, rfl⟩ := List.mem_map.mp he
  exact prD_flat p
/-- pairs_of, moved_pair, goes, meeting_pairs, never -/
def prT (p : Int × Int) : D := .tp [.int p.1, .int p.2]
def kT (ks : List (Int × Int)) : KTD := ks.map fun p => ([p.1, p.2], D.bl true)
theorem kT_len (ks : List (Int × Int)) : (kT ks).length = ks.length := List.length_map ..
theorem pr2_eq {p q : Int × Int} (h : ([p.1, p.2] : List Int) = [q.1, q.2]) : p = q := by
  injection h with h1 h2
  injection h2 with h2 _
  exact Prod.ext h1 h2
theorem kT_get (p : Int × Int) : ∀ ks : List (Int × Int), (tget (kT ks) [p.1, p.2]).isSome = decide (p ∈ ks)
  | [] => rfl
  | q :: ks => by
    have ih := kT_get p ks
    unfold tget kT at ih ⊢
    rw [List.map_cons, List.find?_cons]
    by_cases e : ([q.1, q.2] : List Int) = [p.1, p.2]
    · have : q = p := pr2_eq e
      subst this
      simp
    · have hne : ¬ p = q := fun z => e (by rw [z])
      rw [decide_eq_false e]
      rw [ih]
      simp [hne]
theorem kT_put {p : Int × Int} {ks : List (Int × Int)} (h : p ∉ ks) : tput (kT ks) [p.1, p.2] (.bl true) = kT (ks ++ [p]) := by
  have e : ((kT ks).any fun q => decide (q.1 = [p.1, p.2])) = false := by
    rw [List.any_eq_false]
    intro q hq
    obtain ⟨r, hr, rfl⟩ := List.mem_map.mp hq
    simp only [decide_eq_true_eq]
    intro z
    have : r = p := pr2_eq z
    rw [this] at hr; exact h hr
  unfold tput
  rw [e, if_neg (by decide)]
  unfold kT
  rw [List.map_append]; rfl
@[reducible] def sp_pairs_of (T : Tx K mg) : J.Spec := fun ps R _ => ∃ (many : Int) (mv : List (Int × List Int)), ps = [.v (.ins T.C_Chain ["many", "moves"] [.int many, .lst (mv.map mvD)])] ∧ Ch many mv ∧ R (.ow (.lst ((prs many).map prT))) []
theorem ok_pairs_of (T : Tx K mg) : FnOk P w K mg base (L2.CX P w) 1 T.a_pairs_of T.d_pairs_of ["chain"] (SpJ K (sp_pairs_of T)) := by
  refine jfn T.F_pairs_of z_pairs_of zo_pairs_of zf_pairs_of (sp_pairs_of T) (fun as R RX h => ?_) (fun X B E as R RX cj hE h => ?_)
  · obtain ⟨_, _, rfl, _⟩ := h; rfl
  obtain ⟨many, mv, rfl, hc, hR⟩ := h
  have m1 := hc.m1
  have m2 := hc.m2
  show JSs X B _ [.fz (chD T.C_Chain many mv), .no, .no, .no] _
  refine JSs.cons (js_set cj 1 (je_lst (JD.nil ⟨lz rfl, ?_⟩)))
  refine JSs.cons ?_
  refine js_for cj (ji_range1 cj 0 T.z_range (jv_fldK cj T.cl_Chain T.na_Chain_many (jv_name cj 0 ⟨_, _, _, rfl, rfl, many, rfl, ?_, ?_, fun i G => ∃ a2, G = [.fz (chD T.C_Chain many mv), .ow (.lst ((prsTo many i).map prT)), a2, .no], ⟨.no, rfl⟩, fun i d G hi hd hI => ?_, fun G hI => ?_⟩)))
  · omega
  · omega
  · obtain ⟨a2, rfl⟩ := hI
    have hd : d = .int ((i : Nat) : Int) := hd.trans (by rw [Int.zero_add])
    subst hd
    refine JG.name cj 2 ?_
    refine JSs.one ?_
    refine js_extend cj 1 (JE.jv (je_lcB cj [2, 3] [3] [] [("other", 3)] (ji_range2 cj 0 T.z_range (jv_add (jv_name cj 2 (jv_int ⟨_, _, rfl, rfl, jv_fldK cj T.cl_Chain T.na_Chain_many (jv_name cj 0 ⟨_, _, _, rfl, rfl, _, many, rfl, rfl, ?_, ?_⟩)⟩))))))
    · omega
    refine LcI.map (fun j d => d = prT (((i : Nat) : Int), ((i + 1 + j : Nat) : Int))) ?_ (fun G => G = [.fz (chD T.C_Chain many mv), .ow (.lst ((prsTo many i).map prT)), .fz (.int ((i : Nat) : Int)), .no]) rfl (fun j d G2 hj hd hI X1 c1 => ?_) fun acc G2 hacc hv hI => ?_
    · unfold sizeLine; omega
    · subst hI
      have hd : d = .int ((i + 1 + j : Nat) : Int) := hd.trans (by congr 1)
      subst hd
      refine JG.name c1 3 fun X3 c3 => ?_
      exact jv_tupP (JD.cons (jv_name c3 2 (JD.cons (jv_name c3 3 (JD.nil ⟨lz rfl, rfl, rfl⟩)))))
    subst hI
    have eacc : acc = (((List.range (many.toNat - (i + 1))).map fun j => (((i : Nat) : Int), ((i + 1 + j : Nat) : Int))).map prT) := by
      rw [List.map_map]
      apply List.ext_getElem?
      intro j
      by_cases hj : j < many.toNat - (i + 1)
      · have hlt : j < acc.length := by omega
        rw [List.getElem?_eq_getElem hlt, hv j _ (List.getElem?_eq_getElem hlt), List.getElem?_map, List.getElem?_range hj]; rfl
      · rw [List.getElem?_eq_none (by omega), List.getElem?_eq_none (by rw [List.length_map, List.length_range]; omega)]
    subst eacc
    refine ⟨_, _, rfl, rfl, ?_, .fz (.int ((i : Nat) : Int)), ?_⟩
    · have := prsTo_len m2 i
      rw [List.length_map, List.length_map, List.length_map, List.length_range]; unfold sizeLine; omega
    · show ([_, .ow (.lst ((prsTo many i).map prT ++ _)), _, _] : List Ent) = _
      rw [← List.map_append]; rfl
  obtain ⟨a2, rfl⟩ := hI
  refine JSs.forget 2 ?_
  exact JSs.one (JS.ret (je_move cj 1 hR))
@[reducible] def sp_moved_pair : J.Spec := fun ps R _ => ∃ (many : Int) (row : List Int) (p : Int × Int), ps = [.v (.tup (row.map .int)), .v (prT p)] ∧ (row.length : Int) = many ∧ (0 ≤ p.1 ∧ p.1 < many ∧ 0 ≤ p.2 ∧ p.2 < many) ∧
  (gI row p.1 = gI row p.2 → R (.fz .non) []) ∧ (gI row p.1 ≠ gI row p.2 → R (.fz (prT (behP row p))) [])
theorem ok_moved_pair (T : Tx K mg) : FnOk P w K mg base (L2.CX P w) 1 T.a_moved_pair T.d_moved_pair ["row", "pair"] (SpJ K sp_moved_pair) := by
  refine jfn T.F_moved_pair z_moved_pair zo_moved_pair zf_moved_pair sp_moved_pair (fun as R RX h => ?_) (fun X B E as R RX cj hE h => ?_)
  · obtain ⟨_, _, _, rfl, _⟩ := h; rfl
  obtain ⟨many, row, p, rfl, hl, hp, hR1, hR2⟩ := h
  show JSs X B _ [.fz (.tup (row.map .int)), .fz (prT p), .no, .no] _
  refine JSs.cons ?_
  refine js_set cj 2 (JV.je (jv_ix (jv_name cj 0 (jv_ix (jv_name cj 1 (jv_int ⟨_, _, D.int p.1, .tp, rfl, rfl, _, p.1, D.int (gI row p.1), .tup, rfl, at_int (ns := row) ?_ ?_, ?_⟩))))))
  · omega
  · omega
  refine JSs.cons ?_
  refine js_set cj 3 (JV.je (jv_ix (jv_name cj 0 (jv_ix (jv_name cj 1 (jv_int ⟨_, _, D.int p.2, .tp, rfl, rfl, _, p.2, D.int (gI row p.2), .tup, rfl, at_int (ns := row) ?_ ?_, ?_⟩))))))
  · omega
  · omega
  refine JSs.cons (JS.ite (jt_eqi cj (jv_name cj 2 (jv_name cj 3 ⟨_, _, rfl, rfl, fun hb => ?_, fun hb => JSs.nil ?_⟩))))
  · exact JSs.one (JS.ret (JV.je (jv_non (hR1 (of_decide_eq_true hb)))))
  have hne := of_decide_eq_false hb
  refine JSs.one (JS.ret (JV.je (jv_tupP (JD.cons (jv_min2 cj 0 T.z_min (jv_name cj 2 (jv_name cj 3 ⟨_, _, rfl, rfl, ?_⟩)))))))
  refine JD.cons (jv_max2 cj 1 T.z_max (jv_name cj 2 (jv_name cj 3 ⟨_, _, rfl, rfl, JD.nil ⟨lz rfl, ?_⟩⟩)))
  have h2 := hR2 hne
  have e1 : (if gI row p.2 < gI row p.1 then gI row p.2 else gI row p.1) = (behP row p).1 := by
    unfold behP srt
    by_cases h : gI row p.1 ≤ gI row p.2
    · rw [if_pos h, if_neg (by omega)]
    · rw [if_neg h, if_pos (by omega)]
  have e2 : (if gI row p.2 > gI row p.1 then gI row p.2 else gI row p.1) = (behP row p).2 := by
    unfold behP srt
    by_cases h : gI row p.1 ≤ gI row p.2
    · rw [if_pos h, if_pos (by omega)]
    · rw [if_neg h, if_neg (by omega)]
  rw [e1, e2]
  exact h2
@[reducible] def sp_goes (T : Tx K mg) : J.Spec := fun ps R _ => ∃ (many : Int) (mv : List (Int × List Int)) (p : Int × Int) (ks : List (Int × Int)), ps = [.v (.ins T.C_Chain ["many", "moves"] [.int many, .lst (mv.map mvD)]), .v (prT p), .b (.dT (kt (kT ks)))] ∧ Ch many mv ∧ p ∈ prs many ∧
  ∀ b : Bool, (b = true → ∃ m ∈ mv, Fires ks p m) → (b = false → ∀ m ∈ mv, ¬ Fires ks p m) → R (.fz (.bl b)) [(2, .dT (kt (kT ks)))]
theorem ok_goes (T : Tx K mg) : FnOk P w K mg base (L2.CX P w) 2 T.a_goes T.d_goes ["chain", "pair", "known"] (SpJ K (sp_goes T)) := by
  refine jfn T.F_goes z_goes zo_goes zf_goes (sp_goes T) (fun as R RX h => ?_) (fun X B E as R RX cj hE h => ?_)
  · obtain ⟨_, _, _, _, rfl, _⟩ := h; rfl
  obtain ⟨many, mv, p, ks, rfl, hc, hpm, hR⟩ := h
  have m1 := hc.m1
  have m2 := hc.m2
  have l2 := hc.l2
  have hp2 := prs_mem.mp (show (p.1, p.2) ∈ prs many from hpm)
  show JSs X B _ [.fz (chD T.C_Chain many mv), .fz (prT p), .bw 2 (.dT (kt (kT ks))), .no, .no, .no] _
  refine JSs.cons ?_
  refine js_for cj (ji_seq (jv_fldK cj T.cl_Chain T.na_Chain_moves (jv_name cj 0 ⟨_, _, _, rfl, rfl, _, .inl rfl, fun i G => ∃ a3 a4 a5, (∀ j m, j < i → mv[j]? = some m → ¬ Fires ks p m) ∧ G = [.fz (chD T.C_Chain many mv), .fz (prT p), .bw 2 (.dT (kt (kT ks))), a3, a4, a5], ⟨_, _, _, fun _ _ h => absurd h (Nat.not_lt_zero _), rfl⟩, fun i d G hi hd hI => ?_, fun G hI => ?_⟩)))
  · obtain ⟨a3, a4, a5, hno, rfl⟩ := hI
    obtain ⟨⟨wt, row⟩, hm, rfl⟩ := map_get hd
    have rok := (hc.mv _ (List.mem_of_getElem? hm)).2
    have next : ¬ Fires ks p (wt, row) → ∀ j m, j < i + 1 → mv[j]? = some m → ¬ Fires ks p m := fun h j m hj hm2 => by
      by_cases z : j < i
      · exact hno j m z hm2
      · have : j = i := by omega
        subst this
        rw [hm] at hm2; cases hm2; exact h
    refine JG.tup cj (JGs.cons (JG.name cj 3 (JGs.cons (JG.name cj 4 (JGs.nil ?_)))))
    refine JSs.cons ?_
    refine js_set cj 5 (je_call0 cj (ok_moved_pair T) (by decide) 0 T.g_moved_pair T.F_moved_pair.kp T.b_moved_pair ?_)
    refine JD.cons (jv_name cj 4 (JD.cons (jv_name cj 1 (JD.nil ⟨many, row, p, rfl, rok.1, ⟨by omega, by omega, by omega, by omega⟩, fun h => ?_, fun h => ?_⟩))))
    · refine JSs.one ?_
      refine JS.ite (jt_or (jt_isN (jv_name cj 5 (jv_non ⟨rfl, .inl ⟨rfl, fun z => absurd z (by decide), fun _ => ⟨fun _ => JSs.one (JS.ret (JV.je (jv_bl ?_))), fun z => absurd z (by decide)⟩⟩⟩))))
      exact hR true (fun _ => ⟨_, List.mem_of_getElem? hm, .inl (srt_eq.mpr h)⟩) fun z => absurd z (by decide)
    · refine JSs.one ?_
      refine JS.ite (jt_or (jt_isN (jv_name cj 5 (jv_non ⟨rfl, .inr ⟨rfl, fun _ => ?_, fun z => absurd z (by decide)⟩⟩))))
      refine jw_or1 (jt_tin cj 2 (jv_name cj 5 ⟨kT ks, [(behP row p).1, (behP row p).2], _, rfl, .free, rfl, ?_⟩))
      rw [kT_get]
      refine ⟨fun hb => ?_, fun hb => JSs.nil ⟨_, _, _, next fun f => ?_, rfl⟩⟩
      · exact JSs.one (JS.ret (JV.je (jv_bl (hR true (fun _ => ⟨_, List.mem_of_getElem? hm, .inr (of_decide_eq_true hb)⟩) fun z => absurd z (by decide)))))
      · rcases f with f | f
        · exact h (srt_eq.mp f)
        · exact of_decide_eq_false hb f
  obtain ⟨a3, a4, a5, hno, rfl⟩ := hI
  rw [List.length_map] at hno
  refine JSs.forget 3 (JSs.forget 4 (JSs.forget 5 ?_))
  refine JSs.one (JS.ret (JV.je (jv_bl (hR false (fun z => absurd z (by decide)) fun _ m hm => ?_))))
  obtain ⟨j, hj⟩ := List.getElem?_of_mem hm
  exact hno j m (List.getElem?_eq_some_iff.mp hj).1 hj
theorem kT_few {many : Int} {mv : List (Int × List Int)} {ks : List (Int × Int)} (m2 : many ≤ 6) (h : Kn many mv ks) : ks.length ≤ 36 := Nat.le_trans h.len (prs_len m2)
/-- within one turn of the program's own loop -/
structure TJ (many : Int) (mv : List (Int × List Int)) (ks0 : List (Int × Int)) (i : Nat) (ks : List (Int × Int)) (ch : Bool) : Prop where
  kn : Kn many mv ks
  di : (ch = true ∧ ks0.length < ks.length) ∨ (ch = false ∧ ks = ks0 ∧ ∀ i' p, i' < i → (prs many)[i']? = some p → p ∉ ks0 → ∀ m ∈ mv, ¬ Fires ks0 p m)
@[reducible] def sp_meeting_pairs (T : Tx K mg) : J.Spec := fun ps R _ => ∃ (many : Int) (mv : List (Int × List Int)), ps = [.v (.ins T.C_Chain ["many", "moves"] [.int many, .lst (mv.map mvD)])] ∧ Ch many mv ∧ ∀ ks, Kn many mv ks → Clo many mv ks → R (.ow (.dT (kt (kT ks)))) []
theorem ok_meeting_pairs (T : Tx K mg) : FnOk P w K mg base (L2.CX P w) 3 T.a_meeting_pairs T.d_meeting_pairs ["chain"] (SpJ K (sp_meeting_pairs T)) := by
  refine jfn T.F_meeting_pairs z_meeting_pairs zo_meeting_pairs zf_meeting_pairs (sp_meeting_pairs T) (fun as R RX h => ?_) (fun X B E as R RX cj hE h => ?_)
  · obtain ⟨_, _, rfl, _⟩ := h; rfl
  obtain ⟨many, mv, rfl, hc, hR⟩ := h
  have m1 := hc.m1
  have m2 := hc.m2
  show JSs X B _ [.fz (chD T.C_Chain many mv), .no, .no, .no] _
  refine JSs.cons (js_set cj 1 (je_tnew ?_))
  refine JSs.cons (js_set cj 2 (JV.je (jv_bl ?_)))
  refine JSs.cons ?_
  refine JS.whileN cj (fun n G => ∃ ks ch a3, Kn many mv ks ∧ (ch = false → Clo many mv ks) ∧ n + ks.length = 36 + (if ch = true then 1 else 0) ∧ G = [.fz (chD T.C_Chain many mv), .ow (.dT (kt (kT ks))), .fz (.bl ch), a3]) 37 ⟨[], true, .no, ⟨List.nodup_nil, fun _ h => by cases h⟩, fun z => absurd z (by decide), rfl, rfl⟩ fun n G hI => ?_
  obtain ⟨ks0, ch, a3, kn, hcl, hn, rfl⟩ := hI
  refine jt_val (jv_name cj 2 ⟨ch, rfl, fun hch => ?_, fun hch => ?_⟩)
  · subst hch
    refine JSs.cons (js_set cj 2 (JV.je (jv_bl ?_)))
    refine JSs.one ?_
    refine js_for cj (ji_seq (JE.jv (je_call0 cj (ok_pairs_of T) (by decide) 0 T.g_pairs_of T.F_pairs_of.kp T.b_pairs_of (JD.cons (jv_name cj 0 (JD.nil ⟨many, mv, rfl, hc, _, .inl rfl, fun i G => ∃ ks ch a3, TJ many mv ks0 i ks ch ∧ G = [.fz (chD T.C_Chain many mv), .ow (.dT (kt (kT ks))), .fz (.bl ch), a3], ⟨ks0, false, a3, ⟨kn, .inr ⟨rfl, rfl, fun _ _ h => absurd h (Nat.not_lt_zero _)⟩⟩, rfl⟩, fun i d G hi hd hI => ?_, fun G hI => ?_⟩))))))
    · obtain ⟨ks, ch, a3, tj, rfl⟩ := hI
      obtain ⟨p, hp, rfl⟩ := map_get hd
      have hpm := List.mem_of_getElem? hp
      have few := kT_few m2 tj.kn
      refine JG.name cj 3 ?_
      refine JSs.one ?_
      refine JS.ite (JW.jt (jw_and (jt_tnotin cj 1 (jv_name cj 3 ⟨kT ks, [p.1, p.2], _, rfl, .free, rfl, ?_⟩))))
      rw [kT_get]
      refine ⟨fun hb => ?_, fun hb => ⟨fun z => absurd z (by decide), fun _ => JSs.nil ⟨ks, ch, _, ⟨tj.kn, tj.di.imp id fun ⟨h1, h2, h3⟩ => ⟨h1, h2, fun i' q hi' hq hn2 => ?_⟩⟩, rfl⟩⟩⟩
      rotate_left
      · by_cases z : i' < i
        · exact h3 i' q z hq hn2
        · have : i' = i := by omega
          subst this
          rw [hp] at hq; cases hq
          have hb : p ∈ ks := by simpa using hb
          rw [h2] at hb
          exact absurd hb hn2
      have hnot : p ∉ ks := by simpa using hb
      refine jw_and1 (jt_val (JE.jv (je_call cj (ok_goes T) (by decide) 1 T.g_goes T.F_goes.kp T.b_goes (JA.cons (jv_name cj 0 (JA.cons (jv_name cj 3 (JA.lend cj 1 (JA.nil ⟨rfl, many, mv, p, ks, rfl, hc, hpm, fun b h1 h2 => ?_⟩)))))))))
      refine ⟨b, rfl, fun hb2 => ?_, fun hb2 => JSs.nil ?_⟩
      · refine JSs.cons ?_
        refine js_tput cj 1 (jv_bl (jv_name cj 3 ⟨kT ks, [p.1, p.2], rfl, rfl, ?_, ?_⟩))
        · rw [kT_len]; unfold sizeLine; omega
        rw [kT_put hnot]
        refine JSs.one (js_set cj 2 (JV.je (jv_bl ?_)))
        obtain ⟨m, hm, f⟩ := h1 hb2
        refine ⟨ks ++ [p], true, _, ⟨tj.kn.add hpm hnot hm f, .inl ⟨rfl, ?_⟩⟩, rfl⟩
        rw [List.length_append]
        rcases tj.di with ⟨_, h3⟩ | ⟨_, h3, _⟩
        · omega
        · rw [h3]; simp
      · refine ⟨ks, ch, _, ⟨tj.kn, tj.di.imp id fun ⟨h4, h5, h3⟩ => ⟨h4, h5, fun i' q hi' hq hn2 => ?_⟩⟩, rfl⟩
        by_cases z : i' < i
        · exact h3 i' q z hq hn2
        · have : i' = i := by omega
          subst this
          rw [hp] at hq; cases hq
          rw [← h5]
          exact h2 hb2
    · obtain ⟨ks, ch, a3, tj, rfl⟩ := hI
      rw [List.length_map] at tj
      have few := kT_few m2 tj.kn
      rcases tj.di with ⟨h1, h2⟩ | ⟨h1, h2, h3⟩
      · subst h1
        refine ⟨36 + 1 - ks.length, ?_, ks, true, a3, tj.kn, fun z => absurd z (by decide), ?_, rfl⟩
        · simp only [if_pos] at hn; omega
        · simp only [if_pos]; omega
      · subst h1
        subst h2
        refine ⟨36 - ks.length, ?_, ks, false, a3, tj.kn, fun _ q hq hn2 m hm => ?_, ?_, rfl⟩
        · simp only [if_pos] at hn; omega
        · obtain ⟨i, hi⟩ := List.getElem?_of_mem hq
          exact h3 i q (List.getElem?_eq_some_iff.mp hi).1 hi hn2 m hm
        · rw [if_neg (by decide)]; omega
  · subst hch
    refine JSs.forget 3 ?_
    exact JSs.one (JS.ret (je_move cj 1 (hR ks0 kn (hcl rfl))))
open Classical in
@[reducible] def sp_never (T : Tx K mg) : J.Spec := fun ps R _ => ∃ (many : Int) (mv : List (Int × List Int)), ps = [.v (.ins T.C_Chain ["many", "moves"] [.int many, .lst (mv.map mvD)])] ∧ Ch many mv ∧ R (.ow (.lst ((apL many mv).map prT))) []
theorem Kn.mt {many : Int} {mv : List (Int × List Int)} (c : Ch many mv) {ks : List (Int × Int)} (kn : Kn many mv ks) (cl : Clo many mv ks) {p : Int × Int} (hp : p ∈ prs many) : p ∈ ks ↔ Mt mv p.1 p.2 := by
  refine ⟨fun q => (kn.mem p q).2, fun q => ?_⟩
  have hp2 := prs_mem.mp (show (p.1, p.2) ∈ prs many from hp)
  have := cl.all c q hp2.1 (by omega) (by omega) hp2.2.2 (by omega)
  have e : srt p.1 p.2 = p := by
    unfold srt
    rw [if_pos (by omega)]
  rwa [e] at this
open Classical in
theorem ok_never (T : Tx K mg) : FnOk P w K mg base (L2.CX P w) 4 T.a_never T.d_never ["chain"] (SpJ K (sp_never T)) := by
  refine jfn T.F_never z_never zo_never zf_never (sp_never T) (fun as R RX h => ?_) (fun X B E as R RX cj hE h => ?_)
  · obtain ⟨_, _, rfl, _⟩ := h; rfl
  obtain ⟨many, mv, rfl, hc, hR⟩ := h
  have m1 := hc.m1
  have m2 := hc.m2
  have pl := prs_len m2
  show JSs X B _ [.fz (chD T.C_Chain many mv), .no, .no] _
  refine JSs.cons ?_
  refine js_set cj 1 (je_call0 cj (ok_meeting_pairs T) (by decide) 0 T.g_meeting_pairs T.F_meeting_pairs.kp T.b_meeting_pairs (JD.cons (jv_name cj 0 (JD.nil ⟨many, mv, rfl, hc, fun ks kn cl => ?_⟩))))
  show JSs X B _ [.fz (chD T.C_Chain many mv), .ow (.dT (kt (kT ks))), .no] _
  refine JSs.one (JS.ret ?_)
  refine je_lcB cj [1, 2] [2] [] [("pair", 2)] (ji_seq (JE.jv (je_call0 cj (ok_pairs_of T) (by decide) 1 T.g_pairs_of T.F_pairs_of.kp T.b_pairs_of (JD.cons (jv_name cj 0 (JD.nil ⟨many, mv, rfl, hc, _, .inl rfl, ?_, fun i acc G => acc = (((prs many).take i).filter fun p => !decide (Mt mv p.1 p.2)).map prT ∧ G = [.fz (chD T.C_Chain many mv), .ow (.dT (kt (kT ks))), .no], ⟨rfl, rfl⟩, fun i d acc G2 hi hd hI hlt X1 c1 => ?_, fun acc G2 hI => ?_⟩))))))
  · rw [List.length_map]; unfold sizeLine; omega
  · obtain ⟨rfl, rfl⟩ := hI
    obtain ⟨p, hp, rfl⟩ := map_get hd
    have dn := kn.mt hc cl (List.mem_of_getElem? hp)
    have et : ∀ b : Bool, (!decide (Mt mv p.1 p.2)) = b → ((prs many).take (i + 1)).filter (fun p => !decide (Mt mv p.1 p.2)) = ((prs many).take i).filter (fun p => !decide (Mt mv p.1 p.2)) ++ if b = true then [p] else [] := fun b hb => by
      rw [List.take_add_one, hp, List.filter_append]
      congr 1
      show List.filter _ [p] = _
      rw [List.filter_cons, hb]; rfl
    refine JG.name c1 2 fun X2 c2 => JTs.one ?_
    refine jt_tnotin c2 1 (jv_name c2 2 ⟨kT ks, [p.1, p.2], _, rfl, .free, rfl, ?_⟩)
    rw [kT_get]
    refine ⟨fun hb X3 c3 => ?_, fun hb => ?_⟩
    · have hn : p ∉ ks := by simpa using hb
      refine jv_name c3 2 ⟨?_, rfl⟩
      rw [et true (by rw [decide_eq_false fun z => hn (dn.mpr z)]; rfl), List.map_append]; rfl
    · have hb : p ∈ ks := by simpa using hb
      refine ⟨?_, rfl⟩
      rw [et false (by rw [decide_eq_true (dn.mp hb)]; rfl)]; simp
  obtain ⟨rfl, rfl⟩ := hI
  rw [List.length_map, List.take_length]
  exact hR
/-! pairs behind a pair that never meets -/
inductive Pr (mv : List (Int × List Int)) (p0 : Int × Int) : Int × Int → Prop
  | refl : Pr mv p0 p0
  | step {q : Int × Int} {m : Int × List Int} : Pr mv p0 q → m ∈ mv → Pr mv p0 (behP m.2 q)
theorem behP_in {many : Int} {mv : List (Int × List Int)} (c : Ch many mv) {m : Int × List Int} (hm : m ∈ mv) {q : Int × Int} (hq : q ∈ prs many) (nm : ¬ Mt mv q.1 q.2) : gI m.2 q.1 ≠ gI m.2 q.2 ∧ behP m.2 q ∈ prs many ∧ ¬ Mt mv (behP m.2 q).1 (behP m.2 q).2 := by
  have hq2 := prs_mem.mp (show (q.1, q.2) ∈ prs many from hq)
  have r1 := gI_in c hm hq2.1 (by omega)
  have r2 := gI_in c hm (p := q.2) (by omega) (by omega)
  have hne : gI m.2 q.1 ≠ gI m.2 q.2 := fun z => nm (.one hm z)
  refine ⟨hne, prs_srt r1.1 r1.2 r2.1 r2.2 hne, fun z => nm (.step hm ?_)⟩
  exact Mt.srt.mp z
theorem Pr.in {many : Int} {mv : List (Int × List Int)} (c : Ch many mv) {p0 : Int × Int} (h0 : p0 ∈ prs many) (n0 : ¬ Mt mv p0.1 p0.2) {q : Int × Int} (h : Pr mv p0 q) : q ∈ prs many ∧ ¬ Mt mv q.1 q.2 := by
  induction h with
  | refl => exact ⟨h0, n0⟩
  | step _ hm ih => exact (behP_in c hm ih.1 ih.2).2
open Classical in
noncomputable def pbL (many : Int) (mv : List (Int × List Int)) (p0 : Int × Int) : List (Int × Int) := (prs many).filter fun p => decide (Pr mv p0 p)
theorem prsTo_lt {many : Int} (i : Nat) (m2 : many ≤ 6) : (prsTo many i).Pairwise (fun p q => p.1 < q.1 ∨ (p.1 = q.1 ∧ p.2 < q.2)) := by
  induction i with
  | zero => exact List.Pairwise.nil
  | succ i ih =>
    show (prsTo many i ++ _).Pairwise _
    refine List.pairwise_append.mpr ⟨ih, ?_, fun p hp q hq => ?_⟩
    · rw [List.pairwise_map]
      refine List.Pairwise.imp (fun {a b} h => .inr ⟨rfl, ?_⟩) List.pairwise_lt_range
      show ((i + 1 + a : Nat) : Int) < ((i + 1 + b : Nat) : Int)
      omega
    · obtain ⟨j, hj, rfl⟩ := List.mem_map.mp hq
      have := prsTo_mem.mp (show (p.1, p.2) ∈ prsTo many i from hp)
      exact .inl this.2.1
def pl (p : Int × Int) : List Int := [p.1, p.2]
theorem pbL_of {many : Int} {mv : List (Int × List Int)} {p0 : Int × Int} (m2 : many ≤ 6) {fs : List (Int × Int)} (nd : fs.Nodup) (hm : ∀ q, q ∈ fs ↔ q ∈ prs many ∧ Pr mv p0 q) {ks : List (List Int)} (pm : ks.Perm (fs.map pl)) (pw : ks.Pairwise (fun a b => TS.code 64 a ≤ TS.code 64 b)) : ks = (pbL many mv p0).map pl := by
  have slt : (pbL many mv p0).Pairwise (fun p q => p.1 < q.1 ∨ (p.1 = q.1 ∧ p.2 < q.2)) := List.Pairwise.filter _ (prsTo_lt many.toNat m2)
  have ndb : (pbL many mv p0).Nodup := slt.imp fun {a b} h e => by subst e; omega
  have pf : fs.Perm (pbL many mv p0) := (List.perm_ext_iff_of_nodup nd ndb).mpr fun q => by
    rw [hm]
    unfold pbL
    rw [List.mem_filter]
    simp
  have bnd : ∀ q, q ∈ fs → 0 ≤ q.1 ∧ q.1 < 6 ∧ 0 ≤ q.2 ∧ q.2 < 6 := fun q hq => by
    have := prs_mem.mp (show (q.1, q.2) ∈ prs many from ((hm q).mp hq).1)
    omega
  refine List.Perm.eq_of_pairwise (le := fun a b => TS.code 64 a ≤ TS.code 64 b) (fun a b ha hb h1 h2 => ?_) pw ?_ (pm.trans (pf.map pl))
  · obtain ⟨p, hp, rfl⟩ := List.mem_map.mp (pm.mem_iff.mp ha)
    obtain ⟨q, hq, rfl⟩ := List.mem_map.mp hb
    have b1 := bnd p hp
    have b2 := bnd q (pf.mem_iff.mpr hq)
    unfold pl at h1 h2 ⊢
    rw [code_pair, code_pair] at h1 h2
    have e1 : p.1 = q.1 := by omega
    have e2 : p.2 = q.2 := by omega
    rw [e1, e2]
  · rw [List.pairwise_map]
    refine List.Pairwise.imp_of_mem (fun {p q} hp hq h => ?_) slt
    have b1 := bnd p (pf.mem_iff.mpr hp)
    have b2 := bnd q (pf.mem_iff.mpr hq)
    unfold pl
    rw [code_pair, code_pair]
    omega
/-- what holds of the found ones and the waiting ones -/
structure PB (many : Int) (mv : List (Int × List Int)) (p0 : Int × Int) (fs ws : List (Int × Int)) : Prop where
  nd : fs.Nodup
  h0 : p0 ∈ fs
  rc : ∀ q ∈ fs, Pr mv p0 q
  sub : ∀ q ∈ ws, q ∈ fs
  cl : ∀ q ∈ fs, q ∉ ws → ∀ m ∈ mv, behP m.2 q ∈ fs
structure PB2 (many : Int) (mv : List (Int × List Int)) (p0 here : Int × Int) (j : Nat) (fs ws : List (Int × Int)) : Prop where
  nd : fs.Nodup
  h0 : p0 ∈ fs
  rc : ∀ q ∈ fs, Pr mv p0 q
  sub : ∀ q ∈ ws, q ∈ fs
  hh : here ∈ fs
  cl : ∀ q ∈ fs, q ∉ ws → q ≠ here → ∀ m ∈ mv, behP m.2 q ∈ fs
  me : ∀ j' m, j' < j → mv[j']? = some m → behP m.2 here ∈ fs
theorem pb_len {many : Int} {mv : List (Int × List Int)} (c : Ch many mv) {p0 : Int × Int} (h0 : p0 ∈ prs many) (n0 : ¬ Mt mv p0.1 p0.2) {fs : List (Int × Int)} (nd : fs.Nodup) (rc : ∀ q ∈ fs, Pr mv p0 q) : fs.length ≤ 36 :=
  Nat.le_trans (List.Nodup.length_le_of_subset nd fun q hq => ((rc q hq).in c h0 n0).1) (prs_len c.m2)
theorem PB.start (many : Int) (mv : List (Int × List Int)) (p0 : Int × Int) : PB many mv p0 [p0] [p0] :=
  ⟨by simp, by simp, fun q hq => by rw [List.mem_singleton.mp hq]; exact .refl, fun q hq => hq, fun q hq hn => absurd hq hn⟩
theorem PB.pop {many : Int} {mv : List (Int × List Int)} {p0 here : Int × Int} {fs ws : List (Int × Int)} (h : PB many mv p0 fs (ws ++ [here])) : PB2 many mv p0 here 0 fs ws :=
  ⟨h.nd, h.h0, h.rc, fun q hq => h.sub q (by simp [hq]), h.sub here (by simp), fun q hq hn hne => h.cl q hq (by simp [hn, hne]), fun _ _ h => absurd h (Nat.not_lt_zero _)⟩
theorem PB2.old {many : Int} {mv : List (Int × List Int)} {p0 here : Int × Int} {j : Nat} {fs ws : List (Int × Int)} (h : PB2 many mv p0 here j fs ws) {m : Int × List Int} (hm : mv[j]? = some m) (hb : behP m.2 here ∈ fs) : PB2 many mv p0 here (j + 1) fs ws :=
  ⟨h.nd, h.h0, h.rc, h.sub, h.hh, h.cl, fun j' m' hj hm' => by
    by_cases z : j' < j
    · exact h.me j' m' z hm'
    · have : j' = j := by omega
      subst this
      rw [hm] at hm'; cases hm'; exact hb⟩
theorem PB2.add {many : Int} {mv : List (Int × List Int)} {p0 here : Int × Int} {j : Nat} {fs ws : List (Int × Int)} (h : PB2 many mv p0 here j fs ws) {m : Int × List Int} (hm : mv[j]? = some m) (hb : behP m.2 here ∉ fs) : PB2 many mv p0 here (j + 1) (fs ++ [behP m.2 here]) (ws ++ [behP m.2 here]) :=
  ⟨List.nodup_append.mpr ⟨h.nd, by simp, fun a ha b hb2 e => by rw [List.mem_singleton.mp hb2] at e; rw [e] at ha; exact hb ha⟩, by simp [h.h0], fun q hq => by
    rcases List.mem_append.mp hq with hq | hq
    · exact h.rc q hq
    · rw [List.mem_singleton.mp hq]; exact .step (h.rc here h.hh) (List.mem_of_getElem? hm), fun q hq => by
    rcases List.mem_append.mp hq with hq | hq
    · exact List.mem_append_left _ (h.sub q hq)
    · exact List.mem_append_right _ hq, by simp [h.hh], fun q hq hn hne m' hm' => by
    rcases List.mem_append.mp hq with hq | hq
    · exact List.mem_append_left _ (h.cl q hq (fun z => hn (List.mem_append_left _ z)) hne m' hm')
    · exact absurd (List.mem_append_right _ hq) hn, fun j' m' hj hm' => by
    by_cases z : j' < j
    · exact List.mem_append_left _ (h.me j' m' z hm')
    · have : j' = j := by omega
      subst this
      rw [hm] at hm'; cases hm'; simp⟩
theorem PB2.next {many : Int} {mv : List (Int × List Int)} {p0 here : Int × Int} {fs ws : List (Int × Int)} (h : PB2 many mv p0 here mv.length fs ws) : PB many mv p0 fs ws :=
  ⟨h.nd, h.h0, h.rc, h.sub, fun q hq hn m hm => by
    by_cases e : q = here
    · subst e
      obtain ⟨j, hj⟩ := List.getElem?_of_mem hm
      exact h.me j m (List.getElem?_eq_some_iff.mp hj).1 hj
    · exact h.cl q hq hn e m hm⟩
theorem PB.all {many : Int} {mv : List (Int × List Int)} {p0 : Int × Int} {fs : List (Int × Int)} (h : PB many mv p0 fs []) {q : Int × Int} (hq : Pr mv p0 q) : q ∈ fs := by
  induction hq with
  | refl => exact h.h0
  | step _ hm ih => exact h.cl _ ih (by simp) _ hm
theorem PB.done {many : Int} {mv : List (Int × List Int)} (c : Ch many mv) {p0 : Int × Int} (h0 : p0 ∈ prs many) (n0 : ¬ Mt mv p0.1 p0.2) {fs : List (Int × Int)} (h : PB many mv p0 fs []) (q : Int × Int) : q ∈ fs ↔ q ∈ prs many ∧ Pr mv p0 q :=
  ⟨fun hq => ⟨((h.rc q hq).in c h0 n0).1, h.rc q hq⟩, fun hq => h.all hq.2⟩
/-- pairs_behind -/
theorem prs_lo (l : List (Int × Int)) : Lo (.lst (l.map prT)) (.lst (l.map prD)) := Lo.lst l fun _ => Lo.tp _
@[reducible] def sp_pairs_behind (T : Tx K mg) : J.Spec := fun ps R _ => ∃ (many : Int) (mv : List (Int × List Int)) (p0 : Int × Int), ps = [.v (.ins T.C_Chain ["many", "moves"] [.int many, .lst (mv.map mvD)]), .v (prT p0)] ∧ Ch many mv ∧ p0 ∈ prs many ∧ ¬ Mt mv p0.1 p0.2 ∧ R (.ow (.lst ((pbL many mv p0).map prD))) []
theorem ok_pairs_behind (T : Tx K mg) : FnOk P w K mg base (L2.CX P w) 2 T.a_pairs_behind T.d_pairs_behind ["chain", "pair"] (SpJ K (sp_pairs_behind T)) := by
  refine jfn T.F_pairs_behind z_pairs_behind zo_pairs_behind zf_pairs_behind (sp_pairs_behind T) (fun as R RX h => ?_) (fun X B E as R RX cj hE h => ?_)
  · obtain ⟨_, _, _, rfl, _⟩ := h; rfl
  obtain ⟨many, mv, p0, rfl, hc, h0, n0, hR⟩ := h
  have m1 := hc.m1
  have m2 := hc.m2
  show JSs X B _ [.fz (chD T.C_Chain many mv), .fz (prT p0), .no, .no, .no, .no, .no, .no] _
  refine JSs.cons (js_set cj 2 (je_tdisp1 cj (jv_name cj 1 (jv_bl ⟨[p0.1, p0.2], rfl, ?_⟩))))
  refine JSs.cons (js_set cj 3 (je_lst (JD.cons (jv_name cj 1 (JD.nil ⟨lz rfl, ?_⟩)))))
  refine JSs.cons (JS.whileN cj (fun n G => ∃ (fs ws : List (Int × Int)) (a b c d : Ent), PB many mv p0 fs ws ∧ 2 * (36 - fs.length) + ws.length = n ∧ n ≤ 72 ∧ G = [.fz (chD T.C_Chain many mv), .fz (prT p0), .ow (.dT (kt (kT fs))), .ow (.lst (ws.map prT)), a, b, c, d]) 71 ⟨[p0], [p0], .no, .no, .no, .no, PB.start many mv p0, rfl, by decide, rfl⟩ fun n G hI => ?_)
  obtain ⟨fs, ws, a, b, c, d, pb, hn, hn2, rfl⟩ := hI
  have fl : ∀ l : List (Int × Int), Flat 2 (.lst (l.map prD)) := fun l => .lst (prs_flat l)
  refine jt_neOL cj 3 (JE.jv (je_lst (JD.nil ⟨lz rfl, _, ws.map prD, rfl, prs_lo ws, ⟨2, fl ws, by decide⟩, ⟨2, fl [], by decide⟩, fun hb => ?_, fun hb => ?_⟩)))
  · have hne : ws ≠ [] := fun z => by
      have hb : (!deq (.lst (ws.map prD)) (.lst ([].map prD))) = true := hb
      rw [z, deq_refl (fl [])] at hb; cases hb
    obtain ⟨ws', here, rfl⟩ : ∃ ws' here, ws = ws' ++ [here] := ⟨_, _, (List.dropLast_concat_getLast hne).symm⟩
    have hh := (pb.rc here (pb.sub here (by simp))).in hc h0 n0
    have hp2 := prs_mem.mp (show (here.1, here.2) ∈ prs many from hh.1)
    refine JSs.cons (js_set cj 4 (JV.je (jv_pop cj 3 (ds := ws'.map prT) (d := prT here) ?_ ?_)))
    · show some (Ow.lst ((ws' ++ [here]).map prT)) = _; rw [List.map_append]; rfl
    refine JSs.one (js_for cj (ji_seq (jv_fldK cj T.cl_Chain T.na_Chain_moves (jv_name cj 0 ⟨_, _, _, rfl, rfl, _, .inl rfl, fun i G => ∃ (fs1 ws1 : List (Int × Int)) (b c d : Ent), PB2 many mv p0 here i fs1 ws1 ∧ 2 * (36 - fs1.length) + ws1.length < n ∧ G = [.fz (chD T.C_Chain many mv), .fz (prT p0), .ow (.dT (kt (kT fs1))), .ow (.lst (ws1.map prT)), .fz (prT here), b, c, d], ⟨fs, ws', b, c, d, pb.pop, by rw [List.length_append] at hn; simp at hn; omega, rfl⟩, fun i e G hi he hI => ?_, fun G hI => ?_⟩))))
    · obtain ⟨fs1, ws1, b, c, d, pb2, hlt, rfl⟩ := hI
      obtain ⟨⟨wt, row⟩, hm, rfl⟩ := map_get he
      have hmm := List.mem_of_getElem? hm
      have rok := (hc.mv _ hmm).2
      obtain ⟨hne, hbp, hbn⟩ := behP_in hc hmm hh.1 hh.2
      have few := pb_len hc h0 n0 pb2.nd pb2.rc
      refine JG.tup cj (JGs.cons (JG.name cj 5 (JGs.cons (JG.name cj 6 (JGs.nil ?_)))))
      refine JSs.cons ?_
      refine js_set cj 7 (je_call0 cj (ok_moved_pair T) (by decide) 0 T.g_moved_pair T.F_moved_pair.kp T.b_moved_pair ?_)
      refine JD.cons (jv_name cj 6 (JD.cons (jv_name cj 4 (JD.nil ⟨many, row, here, rfl, rok.1, ⟨by omega, by omega, by omega, by omega⟩, fun h => absurd h hne, fun _ => ?_⟩))))
      show JSs X B _ [.fz (chD T.C_Chain many mv), .fz (prT p0), .ow (.dT (kt (kT fs1))), .ow (.lst (ws1.map prT)), .fz (prT here), .fz (.int wt), .fz (.tup (row.map .int)), .fz (prT (behP row here))] _
      refine JSs.one (JS.ite (jt_tnotin cj 2 (jv_name cj 7 ⟨kT fs1, [(behP row here).1, (behP row here).2], _, rfl, .free, rfl, ?_⟩)))
      rw [kT_get]
      refine ⟨fun hb => ?_, fun hb => JSs.nil ⟨fs1, ws1, _, _, _, pb2.old hm (by simpa using hb), hlt, rfl⟩⟩
      have hnot : behP row here ∉ fs1 := by simpa using hb
      have pa := pb2.add hm hnot
      have few2 := pb_len hc h0 n0 pa.nd pa.rc
      rw [List.length_append] at few2
      simp only [List.length_cons, List.length_nil] at few2
      refine JSs.cons ?_
      refine js_tput cj 2 (jv_bl (jv_name cj 7 ⟨kT fs1, [(behP row here).1, (behP row here).2], rfl, rfl, ?_, ?_⟩))
      · rw [kT_len]; unfold sizeLine; omega
      rw [kT_put hnot]
      refine JSs.one (js_append cj 3 (jv_name cj 7 ⟨ws1.map prT, rfl, ?_, fs1 ++ [behP row here], ws1 ++ [behP row here], .fz (.int wt), .fz (.tup (row.map .int)), .fz (prT (behP row here)), pa, ?_, ?_⟩))
      · rw [List.length_map]; unfold sizeLine; omega
      · rw [List.length_append, List.length_append]
        simp only [List.length_cons, List.length_nil]
        omega
      · rw [List.map_append (l₁ := ws1)]; rfl
    · obtain ⟨fs1, ws1, b, c, d, pb2, hlt, rfl⟩ := hI
      rw [List.length_map] at pb2
      exact ⟨_, hlt, fs1, ws1, _, b, c, d, pb2.next, rfl, by omega, rfl⟩
  · have hz : ws = [] := by
      have hb : (!deq (.lst (ws.map prD)) (.lst ([].map prD))) = false := hb
      have hb : deq (.lst (ws.map prD)) (.lst ([].map prD)) = true := by simpa using hb
      have := (deq_iff (fl ws) (fl [])).mp hb
      injection this with this
      exact List.map_eq_nil_iff.mp this
    subst hz
    have few := pb_len hc h0 n0 pb.nd pb.rc
    refine JSs.forget 4 (JSs.forget 5 (JSs.forget 6 (JSs.forget 7 (JSs.one (JS.ret (je_sortedT cj 1 2 T.z_sorted (m := kT fs) ?_ (fun q hq => ?_) fun ks pm pw => ?_))))))
    · rw [kT_len]; omega
    · obtain ⟨p, hp, rfl⟩ := List.mem_map.mp hq
      have h1 := prs_mem.mp (show (p.1, p.2) ∈ prs many from ((pb.rc p hp).in hc h0 n0).1)
      refine ⟨rfl, fun y hy => ?_⟩
      rcases List.mem_cons.mp hy with rfl | hy
      · omega
      · rw [List.mem_singleton.mp hy]; omega
    · have ek : (kT fs).map (·.1) = fs.map pl := by unfold kT; rw [List.map_map]; rfl
      rw [ek] at pm
      have := pbL_of m2 pb.nd (pb.done hc h0 n0) pm pw
      rw [this, List.map_map]
      exact hR
/-! sets of places by fewest moves -/
abbrev BR := List (List Int × List Int)
def nb (mv : List (Int × List Int)) (k : Int) (s : List Int) : List Int := ss (s.map (gI (rw_ mv k)))
def bAdd (B : BR) (b r : List Int) : BR := if b ∈ B.map (·.1) then B else B ++ [(b, r)]
def bIn (mv : List (Int × List Int)) (s r : List Int) : Nat → BR → BR
  | 0, B => B
  | k + 1, B => bAdd (bIn mv s r k B) (nb mv (k : Nat) s) (r ++ [((k : Nat) : Int)])
def bfs (many : Int) (mv : List (Int × List Int)) : Nat → BR
  | 0 => [(rg many, [])]
  | n + 1 => match (bfs many mv n)[n]? with
    | none => bfs many mv n
    | some p => bIn mv p.1 p.2 mv.length (bfs many mv n)
theorem bfs_succ {many : Int} {mv : List (Int × List Int)} {n : Nat} {p : List Int × List Int} (h : (bfs many mv n)[n]? = some p) : bfs many mv (n + 1) = bIn mv p.1 p.2 mv.length (bfs many mv n) := by
  show (match (bfs many mv n)[n]? with | none => _ | some p => _) = _
  rw [h]
structure SetOk (many : Int) (s : List Int) : Prop where
  lt : s.Pairwise (· < ·)
  rg : ∀ x ∈ s, 0 ≤ x ∧ x < many
  ne : s ≠ []
theorem nb_ok {many : Int} {mv : List (Int × List Int)} (c : Ch many mv) {k : Int} (hk : NumOk mv k) {s : List Int} (h : SetOk many s) : SetOk many (nb mv k s) := by
  refine ⟨ss_sorted _, fun x hx => ?_, fun z => ?_⟩
  · obtain ⟨y, hy, rfl⟩ := List.mem_map.mp (ss_mem.mp hx)
    exact c.rowI hk (h.rg y hy).1 (h.rg y hy).2
  · cases s with
    | nil => exact h.ne rfl
    | cons a s =>
      have : gI (rw_ mv k) a ∈ nb mv k (a :: s) := ss_mem.mpr (by simp)
      rw [z] at this; cases this
theorem nb_mem {mv : List (Int × List Int)} {k : Int} {s : List Int} {x : Int} : x ∈ nb mv k s ↔ ∃ y ∈ s, gI (rw_ mv k) y = x := by
  unfold nb
  rw [ss_mem, List.mem_map]
def subs : List Int → List (List Int)
  | [] => [[]]
  | x :: l => subs l ++ (subs l).map (x :: ·)
theorem subs_len : ∀ l : List Int, (subs l).length = 2 ^ l.length
  | [] => rfl
  | x :: l => by
    show (subs l ++ (subs l).map (x :: ·)).length = _
    rw [List.length_append, List.length_map, subs_len l, List.length_cons, Nat.pow_succ]; omega
theorem subs_mem {s l : List Int} (h : s.Sublist l) : s ∈ subs l := by
  induction h with
  | slnil => exact List.mem_singleton.mpr rfl
  | cons a _ ih => exact List.mem_append_left _ ih
  | cons_cons a _ ih => exact List.mem_append_right _ (List.mem_map.mpr ⟨_, ih, rfl⟩)
theorem set_sub {many : Int} {s : List Int} (h : SetOk many s) : s.Sublist (rg many) := by
  have e : (rg many).filter (fun x => decide (x ∈ s)) = s := by
    refine List.Perm.eq_of_pairwise (le := fun a b => a < b) (fun a b _ _ h1 h2 => absurd h1 (by omega)) ?_ h.lt ?_
    · exact List.Pairwise.filter _ (rg_lt many)
    · refine (List.perm_ext_iff_of_nodup (nodup_lt (List.Pairwise.filter _ (rg_lt many))) (nodup_lt h.lt)).mpr fun q => ?_
      rw [List.mem_filter, rg_mem]
      constructor
      · rintro ⟨_, h2⟩; exact of_decide_eq_true h2
      · intro h2; exact ⟨h.rg q h2, decide_eq_true h2⟩
  rw [← e]
  exact List.filter_sublist
structure BOk (many : Int) (mv : List (Int × List Int)) (B : BR) : Prop where
  nd : (B.map (·.1)).Nodup
  ok : ∀ p ∈ B, SetOk many p.1 ∧ (∀ n ∈ p.2, NumOk mv n) ∧ ∀ x, x ∈ p.1 ↔ ∃ q, 0 ≤ q ∧ q < many ∧ Wk mv p.2 q = x
  len : ∀ (i : Nat) p, B[i]? = some p → p.2.length ≤ i
theorem BOk.few {many : Int} {mv : List (Int × List Int)} {B : BR} (m2 : many ≤ 6) (h : BOk many mv B) : B.length ≤ 64 := by
  have := List.Nodup.length_le_of_subset h.nd (l₂ := subs (rg many)) fun s hs => by
    obtain ⟨p, hp, rfl⟩ := List.mem_map.mp hs
    exact subs_mem (set_sub (h.ok p hp).1)
  rw [List.length_map, subs_len, rg_len] at this
  exact Nat.le_trans this (Nat.pow_le_pow_right (by decide) (by omega : many.toNat ≤ 6))
theorem BOk.start {many : Int} (mv : List (Int × List Int)) (m1 : 1 ≤ many) : BOk many mv [(rg many, [])] := by
  refine ⟨by simp, fun p hp => ?_, fun i p hp => ?_⟩
  · rw [List.mem_singleton.mp hp]
    refine ⟨⟨rg_lt many, fun x hx => rg_mem.mp hx, fun z => ?_⟩, fun n hn => (by cases hn), fun x => ?_⟩
    · have := @rg_len many
      have z : rg many = [] := z
      rw [z] at this
      simp at this
      omega
    · show x ∈ rg many ↔ _
      rw [rg_mem]
      exact ⟨fun h => ⟨x, h.1, h.2, rfl⟩, fun ⟨q, h1, h2, e⟩ => by
        have e : q = x := e
        subst e; exact ⟨h1, h2⟩⟩
  · cases i with
    | zero => cases hp; exact Nat.le_refl _
    | succ i => simp at hp
theorem bAdd_pre (B : BR) (b r : List Int) : B <+: bAdd B b r := by
  unfold bAdd
  split
  · exact List.prefix_refl _
  · exact List.prefix_append _ _
theorem bIn_pre (mv : List (Int × List Int)) (s r : List Int) (B : BR) : ∀ k : Nat, B <+: bIn mv s r k B
  | 0 => List.prefix_refl _
  | k + 1 => (bIn_pre mv s r B k).trans (bAdd_pre _ _ _)
theorem bfs_pre1 (many : Int) (mv : List (Int × List Int)) (n : Nat) : bfs many mv n <+: bfs many mv (n + 1) := by
  show _ <+: (match (bfs many mv n)[n]? with | none => _ | some p => _)
  split
  · exact List.prefix_refl _
  · exact bIn_pre mv _ _ _ _
theorem bfs_pre (many : Int) (mv : List (Int × List Int)) (n : Nat) : ∀ d : Nat, bfs many mv n <+: bfs many mv (n + d)
  | 0 => List.prefix_refl _
  | d + 1 => (bfs_pre many mv n d).trans (bfs_pre1 many mv (n + d))
theorem BOk.add {many : Int} {mv : List (Int × List Int)} {B : BR} (c : Ch many mv) (h : BOk many mv B) {i : Nat} {p : List Int × List Int} (hp : B[i]? = some p) {k : Int} (hk : NumOk mv k) : BOk many mv (bAdd B (nb mv k p.1) (p.2 ++ [k])) := by
  unfold bAdd
  split
  · exact h
  · rename_i hn
    obtain ⟨h1, h2, h3⟩ := h.ok p (List.mem_of_getElem? hp)
    have hil := (List.getElem?_eq_some_iff.mp hp).1
    refine ⟨?_, fun q hq => ?_, fun j q hq => ?_⟩
    · rw [List.map_append]
      refine List.nodup_append.mpr ⟨h.nd, by simp, fun a ha b hb e => ?_⟩
      have : b = nb mv k p.1 := by simpa using hb
      rw [e, this] at ha; exact hn ha
    · rcases List.mem_append.mp hq with hq | hq
      · exact h.ok q hq
      · rw [List.mem_singleton.mp hq]
        refine ⟨nb_ok c hk h1, fun n hn => ?_, fun x => ?_⟩
        · rcases List.mem_append.mp hn with hn | hn
          · exact h2 n hn
          · rw [List.mem_singleton.mp hn]; exact hk
        · rw [nb_mem]
          constructor
          · rintro ⟨y, hy, rfl⟩
            obtain ⟨q, q0, q1, rfl⟩ := (h3 y).mp hy
            exact ⟨q, q0, q1, Wk_app _ _ _⟩
          · rintro ⟨q, q0, q1, rfl⟩
            exact ⟨Wk mv p.2 q, (h3 _).mpr ⟨q, q0, q1, rfl⟩, (Wk_app p.2 [k] q).symm⟩
    · by_cases hj : j < B.length
      · rw [List.getElem?_append_left hj] at hq; exact h.len j q hq
      · rw [List.getElem?_append_right (by omega)] at hq
        by_cases z : j - B.length = 0
        · rw [z] at hq
          cases hq
          have := h.len i p hp
          rw [List.length_append]
          simp only [List.length_cons, List.length_nil]
          omega
        · rw [List.getElem?_eq_none (by simp; omega)] at hq; cases hq
theorem pre_get {B C : BR} (h : B <+: C) {i : Nat} {p : List Int × List Int} (hp : B[i]? = some p) : C[i]? = some p := by
  obtain ⟨t, rfl⟩ := h
  have := (List.getElem?_eq_some_iff.mp hp).1
  rw [List.getElem?_append_left this]; exact hp
theorem BOk.ins {many : Int} {mv : List (Int × List Int)} {B : BR} (c : Ch many mv) (h : BOk many mv B) {i : Nat} {p : List Int × List Int} (hp : B[i]? = some p) : ∀ k : Nat, k ≤ mv.length → BOk many mv (bIn mv p.1 p.2 k B)
  | 0, _ => h
  | k + 1, hk => (h.ins c hp k (by omega)).add c (pre_get (bIn_pre mv p.1 p.2 B k) hp) ⟨by omega, by omega⟩
theorem bfs_ok {many : Int} {mv : List (Int × List Int)} (c : Ch many mv) : ∀ n : Nat, BOk many mv (bfs many mv n)
  | 0 => BOk.start mv c.m1
  | n + 1 => by
    show BOk many mv (match (bfs many mv n)[n]? with | none => _ | some p => _)
    split
    · exact bfs_ok c n
    · rename_i p hp
      exact (bfs_ok c n).ins c hp _ (Nat.le_refl _)
def bK (B : BR) : KTD := B.map fun p => (p.1, D.tup (p.2.map .int))
def wK (B : BR) : List D := B.map fun p => .tp (p.1.map .int)
theorem bK_len (B : BR) : (bK B).length = B.length := List.length_map ..
theorem bK_isSome (k : List Int) : ∀ B : BR, (tget (bK B) k).isSome = decide (k ∈ B.map (·.1))
  | [] => rfl
  | q :: B => by
    have ih := bK_isSome k B
    unfold tget bK at ih ⊢
    rw [List.map_cons, List.find?_cons]
    by_cases e : q.1 = k
    · simp [e]
    · rw [decide_eq_false e]
      rw [ih]
      have : ¬ k = q.1 := fun z => e z.symm
      simp [this]
theorem bK_get {p : List Int × List Int} : ∀ {B : BR}, (B.map (·.1)).Nodup → p ∈ B → tget (bK B) p.1 = some (.tup (p.2.map .int))
  | [], _, h => by cases h
  | q :: B, nd, h => by
    have nd' := List.nodup_cons.mp nd
    unfold tget bK
    rw [List.map_cons, List.find?_cons]
    by_cases e : q.1 = p.1
    · have : q = p := by
        rcases List.mem_cons.mp h with h | h
        · exact h.symm
        · exact absurd (show q.1 ∈ B.map (·.1) by rw [e]; exact List.mem_map.mpr ⟨p, h, rfl⟩) nd'.1
      subst this
      simp
    · rw [decide_eq_false e]
      have hp : p ∈ B := by
        rcases List.mem_cons.mp h with h | h
        · exact absurd (by rw [h]) e
        · exact h
      have := bK_get nd'.2 hp
      unfold tget bK at this
      exact this
theorem bK_put {B : BR} {b r : List Int} (h : b ∉ B.map (·.1)) : tput (bK B) b (.tup (r.map .int)) = bK (B ++ [(b, r)]) := by
  have e : ((bK B).any fun q => decide (q.1 = b)) = false := by
    rw [List.any_eq_false]
    intro q hq
    obtain ⟨p, hp, rfl⟩ := List.mem_map.mp hq
    simp only [decide_eq_true_eq]
    intro z
    have z : p.1 = b := z
    exact h (by rw [← z]; exact List.mem_map.mpr ⟨p, hp, rfl⟩)
  unfold tput
  rw [e, if_neg (by decide)]
  unfold bK
  rw [List.map_append]; rfl
/-- walking -/
theorem wK_len (B : BR) : (wK B).length = B.length := List.length_map ..
theorem wK_get {B : BR} {i : Nat} {p : List Int × List Int} (h : B[i]? = some p) : (wK B)[i]? = some (.tp (p.1.map .int)) := by unfold wK; rw [List.getElem?_map, h]; rfl
@[reducible] def sp_walking (T : Tx K mg) : J.Spec := fun ps R _ => ∃ (many : Int) (mv : List (Int × List Int)), ps = [.v (.ins T.C_Chain ["many", "moves"] [.int many, .lst (mv.map mvD)]), .b (.dT (kt (bK (bfs many mv 0)))), .b (.lst (wK (bfs many mv 0)))] ∧ Ch many mv ∧
  ∀ N, N = (bfs many mv N).length → R (.fz (.lst (wK (bfs many mv N)))) [(1, .dT (kt (bK (bfs many mv N)))), (2, .lst (wK (bfs many mv N)))]
theorem ok_walking (T : Tx K mg) : FnOk P w K mg base (L2.CX P w) 1 T.a_walking T.d_walking ["chain", "rows", "waiting"] (SpJ K (sp_walking T)) := by
  refine jfn T.F_walking z_walking zo_walking zf_walking (sp_walking T) (fun as R RX h => ?_) (fun X B E as R RX cj hE h => ?_)
  · obtain ⟨_, _, rfl, _⟩ := h; rfl
  obtain ⟨many, mv, rfl, hc, hR⟩ := h
  have m1 := hc.m1
  have m2 := hc.m2
  have l2 := hc.l2
  show JSs X B _ [.fz (chD T.C_Chain many mv), .bw 1 (.dT (kt (bK (bfs many mv 0)))), .bw 2 (.lst (wK (bfs many mv 0))), .no, .no, .no, .no, .no] _
  refine JSs.cons (js_set cj 3 (JV.je (jv_int ?_)))
  refine JSs.cons ?_
  refine JS.whileN cj (fun m G => ∃ n a4 a5 a6, n ≤ (bfs many mv n).length ∧ m + n = 64 ∧ G = [.fz (chD T.C_Chain many mv), .bw 1 (.dT (kt (bK (bfs many mv n)))), .bw 2 (.lst (wK (bfs many mv n))), .fz (.int (n : Nat)), a4, a5, a6, .no]) 64 ⟨0, _, _, _, Nat.zero_le _, rfl, rfl⟩ fun m G hI => ?_
  obtain ⟨n, a4, a5, a6, hn, hm, rfl⟩ := hI
  have bo := bfs_ok hc n
  have few := bo.few m2
  refine jt_lt (jv_name cj 3 (jv_lenO cj 0 2 T.z_len ⟨_, _, rfl, rfl, fun hb => ?_, fun hb => ?_⟩))
  · have hb := of_decide_eq_true hb
    rw [wK_len] at hb
    have hlt : n < (bfs many mv n).length := by omega
    obtain ⟨p, hp⟩ : ∃ p, (bfs many mv n)[n]? = some p := ⟨_, List.getElem?_eq_getElem hlt⟩
    have hpm := List.mem_of_getElem? hp
    obtain ⟨so, rok, _⟩ := bo.ok p hpm
    have plen := bo.len n p hp
    have slen : p.1.length ≤ 6 := by
      have := (set_sub so).length_le
      rw [rg_len] at this; omega
    refine JSs.cons ?_
    refine js_set cj 4 (JV.je (jv_ixO cj 2 (jv_name cj 3 ⟨_, _, _, rfl, rfl, at_nat (wK_get hp), ?_⟩)))
    refine JSs.cons ?_
    refine js_set cj 3 (JV.je (jv_add (jv_name cj 3 (jv_int ⟨_, _, rfl, rfl, ?_⟩))))
    refine JSs.one ?_
    refine js_for cj (ji_range1 cj 1 T.z_range (jv_len cj 0 T.z_len (jv_fldK cj T.cl_Chain T.na_Chain_moves (jv_name cj 0 ⟨_, _, _, rfl, rfl, _, .lst, _, rfl, ?_, ?_, fun j G => ∃ a5 a6, G = [.fz (chD T.C_Chain many mv), .bw 1 (.dT (kt (bK (bIn mv p.1 p.2 j (bfs many mv n))))), .bw 2 (.lst (wK (bIn mv p.1 p.2 j (bfs many mv n)))), .fz (.int ((n : Int) + 1)), .fz (.tp (p.1.map .int)), a5, a6, .no], ⟨a5, a6, rfl⟩, fun j d G hj hd hI => ?_, fun G hI => ?_⟩))))
    · omega
    · rw [List.length_map]; omega
    · obtain ⟨a5, a6, rfl⟩ := hI
      have hd : d = .int ((j : Nat) : Int) := hd.trans (by rw [Int.zero_add])
      subst hd
      rw [List.length_map] at hj
      have hj : j < mv.length := by omega
      obtain ⟨⟨wt, row⟩, hq⟩ : ∃ q, mv[j]? = some q := ⟨_, List.getElem?_eq_getElem hj⟩
      have ok : NumOk mv (j : Nat) := ⟨by omega, by omega⟩
      have er : rw_ mv (j : Nat) = row := by simp [rw_, hq]
      have hrow := hc.row ok
      rw [er] at hrow
      have bo2 := bo.ins hc hp j (by omega)
      have few2 := bo2.few m2
      have hp2 := pre_get (bIn_pre mv p.1 p.2 (bfs many mv n) j) hp
      have hgm : (mv.map mvD)[j]? = some (mvD (wt, row)) := by rw [List.getElem?_map, hq]; rfl
      refine JG.name cj 5 ?_
      refine JSs.cons ?_
      refine js_set cj 6 (JV.je (jv_tupleP cj 2 T.z_tuple (JE.jv (je_sortedSetS cj 3 4 T.z_sorted T.z_set (JE.jv ?_)))))
      refine je_lcB cj [0, 5, 7] [7] [] [("place", 7)] (ji_tp (jv_name cj 4 ⟨_, rfl, ?_⟩))
      refine LcI.map (fun i d => ∀ x, p.1[i]? = some x → d = .int (gI row x)) ?_ (fun G => G = [.fz (chD T.C_Chain many mv), .bw 1 (.dT (kt (bK (bIn mv p.1 p.2 j (bfs many mv n))))), .bw 2 (.lst (wK (bIn mv p.1 p.2 j (bfs many mv n)))), .fz (.int ((n : Int) + 1)), .fz (.tp (p.1.map .int)), .fz (.int ((j : Nat) : Int)), a6, .no]) rfl (fun i d G2 hi hd hI X1 c1 => ?_) fun acc G2 hacc hv hI => ?_
      · rw [List.length_map]; unfold sizeLine; omega
      · subst hI
        obtain ⟨x, hx, rfl⟩ := map_int_get hd
        have hx2 := so.rg x (List.mem_of_getElem? hx)
        refine JG.name c1 7 fun X3 c3 => ?_
        refine jv_ix (jv_ix (jv_ix (jv_fldK c3 T.cl_Chain T.na_Chain_moves (jv_name c3 0 ⟨_, _, _, rfl, rfl, jv_name c3 5 ⟨_, _, _, .lst, rfl, at_nat hgm, jv_int ⟨_, _, D.tup (row.map .int), .tup, rfl, rfl, jv_name c3 7 ⟨_, _, _, .tup, rfl, at_int (ns := row) hx2.1 (by omega), fun y hy => ?_, rfl⟩⟩⟩⟩))))
        rw [hx] at hy; cases hy; rfl
      subst hI
      rw [List.length_map] at hacc
      have eacc := map_acc hacc hv
      subst eacc
      refine ⟨p.1.map (gI row), .lst, by rw [List.length_map]; omega, ?_⟩
      refine ⟨_, .inl rfl, ?_⟩
      have enb : ss (p.1.map (gI row)) = nb mv (j : Nat) p.1 := by unfold nb; rw [er]
      rw [enb]
      show JSs X B _ [.fz (chD T.C_Chain many mv), .bw 1 (.dT (kt (bK (bIn mv p.1 p.2 j (bfs many mv n))))), .bw 2 (.lst (wK (bIn mv p.1 p.2 j (bfs many mv n)))), .fz (.int ((n : Int) + 1)), .fz (.tp (p.1.map .int)), .fz (.int ((j : Nat) : Int)), .fz (.tp ((nb mv (j : Nat) p.1).map .int)), .no] _
      refine JSs.one ?_
      refine JS.ite (jt_tnotin cj 1 (jv_name cj 6 ⟨bK (bIn mv p.1 p.2 j (bfs many mv n)), nb mv (j : Nat) p.1, _, rfl, .free, rfl, ?_⟩))
      rw [bK_isSome]
      refine ⟨fun hb => ?_, fun hb => JSs.nil ⟨.fz (.int ((j : Nat) : Int)), .fz (.tp ((nb mv (j : Nat) p.1).map .int)), ?_⟩⟩
      rotate_left
      · have hb : nb mv (j : Nat) p.1 ∈ (bIn mv p.1 p.2 j (bfs many mv n)).map (·.1) := by simpa using hb
        have e : bIn mv p.1 p.2 (j + 1) (bfs many mv n) = bIn mv p.1 p.2 j (bfs many mv n) := by
          show bAdd _ _ _ = _
          unfold bAdd
          rw [if_pos hb]
        rw [e]
      have hnot : nb mv (j : Nat) p.1 ∉ (bIn mv p.1 p.2 j (bfs many mv n)).map (·.1) := by simpa using hb
      have e : bIn mv p.1 p.2 (j + 1) (bfs many mv n) = bIn mv p.1 p.2 j (bfs many mv n) ++ [(nb mv (j : Nat) p.1, p.2 ++ [((j : Nat) : Int)])] := by
        show bAdd _ _ _ = _
        unfold bAdd
        rw [if_neg hnot]
      refine JSs.cons ?_
      refine js_tput cj 1 (jv_catT (jv_tget cj 1 (jv_name cj 4 ⟨bK (bIn mv p.1 p.2 j (bfs many mv n)), p.1, .tup (p.2.map .int), _, rfl, .free, rfl, bK_get bo2.nd (List.mem_of_getElem? hp2), ?_⟩)))
      refine jv_tup (JD.cons (jv_name cj 5 (JD.nil ⟨lz rfl, _, _, rfl, rfl, ?_, ?_⟩)))
      · rw [List.length_map]; unfold sizeLine; show _ + 1 ≤ _; omega
      refine jv_name cj 6 ⟨bK (bIn mv p.1 p.2 j (bfs many mv n)), nb mv (j : Nat) p.1, rfl, rfl, ?_, ?_⟩
      · rw [bK_len]; unfold sizeLine; omega
      have er2 : (D.tup (p.2.map .int ++ [.int ((j : Nat) : Int)])) = .tup ((p.2 ++ [((j : Nat) : Int)]).map .int) := by rw [List.map_append]; rfl
      rw [er2, bK_put hnot, ← e]
      refine JSs.one (js_append cj 2 (jv_name cj 6 ⟨wK (bIn mv p.1 p.2 j (bfs many mv n)), rfl, ?_, .fz (.int ((j : Nat) : Int)), .fz (.tp ((nb mv (j : Nat) p.1).map .int)), ?_⟩))
      · rw [wK_len]; unfold sizeLine; omega
      · have ew : wK (bIn mv p.1 p.2 (j + 1) (bfs many mv n)) = wK (bIn mv p.1 p.2 j (bfs many mv n)) ++ [.tp ((nb mv (j : Nat) p.1).map .int)] := by
          rw [e]; unfold wK; rw [List.map_append]; rfl
        rw [ew]; rfl
    · obtain ⟨a5, a6, rfl⟩ := hI
      have ez : ((mv.map mvD).length : Int).toNat = mv.length := by rw [List.length_map]; omega
      rw [ez, ← bfs_succ hp]
      have pre := (bfs_pre1 many mv n).length_le
      exact ⟨m - 1, by omega, n + 1, _, _, _, by omega, by omega, rfl⟩
  · have hb := of_decide_eq_false hb
    rw [wK_len] at hb
    refine JSs.forget 4 (JSs.forget 5 (JSs.forget 6 ?_))
    refine JSs.one (JS.ret (JV.je (JE.jv (je_listO cj 5 2 T.z_list (hR n ?_)))))
    omega
/-- meeting -/
theorem find_at {α : Type} {q : α → Bool} {p : α} : ∀ {B : List α} {i : Nat}, B[i]? = some p → q p = true → (∀ j r, j < i → B[j]? = some r → q r = false) → B.find? q = some p
  | [], _, h, _, _ => by simp at h
  | x :: B, 0, h, hq, _ => by
    cases h
    rw [List.find?_cons, hq]
  | x :: B, i + 1, h, hq, hn => by
    rw [List.find?_cons, hn 0 x (Nat.zero_lt_succ i) rfl]
    exact find_at (B := B) (i := i) h hq fun j r hj hr => hn (j + 1) r (by omega) hr
def apD (l : List (Int × Int)) : D := .tup [.str "apart", .lst (l.map prD)]
def roD (r : List Int) : D := .tup [.str "row", .lst (r.map .int)]
def mtD (B : BR) : D := match B.find? (fun p => decide (p.1.length = 1)) with
  | some p => roD p.2
  | none => apD []
@[reducible] def sp_meeting (T : Tx K mg) : J.Spec := fun ps R _ => ∃ (many : Int) (mv : List (Int × List Int)), ps = [.v (.ins T.C_Chain ["many", "moves"] [.int many, .lst (mv.map mvD)])] ∧ Ch many mv ∧
  (∀ p0 rest, apL many mv = p0 :: rest → R (.fz (apD (pbL many mv p0))) []) ∧ (apL many mv = [] → ∀ N, N = (bfs many mv N).length → R (.fz (mtD (bfs many mv N))) [])
open Classical in
theorem ap_first {many : Int} {mv : List (Int × List Int)} {p0 : Int × Int} {rest : List (Int × Int)} (h : apL many mv = p0 :: rest) : p0 ∈ prs many ∧ ¬ Mt mv p0.1 p0.2 := by
  have hm : p0 ∈ apL many mv := by rw [h]; simp
  unfold apL at hm
  obtain ⟨h1, h2⟩ := List.mem_filter.mp hm
  exact ⟨h1, by simpa using h2⟩
theorem ok_meeting (T : Tx K mg) : FnOk P w K mg base (L2.CX P w) 5 T.a_meeting T.d_meeting ["chain"] (SpJ K (sp_meeting T)) := by
  refine jfn T.F_meeting z_meeting zo_meeting zf_meeting (sp_meeting T) (fun as R RX h => ?_) (fun X B E as R RX cj hE h => ?_)
  · obtain ⟨_, _, rfl, _⟩ := h; rfl
  obtain ⟨many, mv, rfl, hc, hA, hB⟩ := h
  have m1 := hc.m1
  have m2 := hc.m2
  have fl : ∀ l : List (Int × Int), Flat 2 (.lst (l.map prD)) := fun l => .lst (prs_flat l)
  show JSs X B _ [.fz (chD T.C_Chain many mv), .no, .no, .no, .no, .no] _
  refine JSs.cons ?_
  refine js_set cj 1 (je_call0 cj (ok_never T) (by decide) 0 T.g_never T.F_never.kp T.b_never (JD.cons (jv_name cj 0 (JD.nil ⟨many, mv, rfl, hc, ?_⟩))))
  refine JSs.freeze 1 rfl rfl ?_
  show JSs X B _ [.fz (chD T.C_Chain many mv), .fz (.lst ((apL many mv).map prT)), .no, .no, .no, .no] _
  refine JSs.cons ?_
  refine JS.ite (jt_ne cj (JV.loose (jv_name cj 1 ⟨_, prs_lo _, JE.jv (je_lst (JD.nil ⟨lz rfl, ⟨2, fl _, by decide⟩, ⟨2, fl [], by decide⟩, fun hb => ?_, fun hb => JSs.nil ?_⟩))⟩)))
  · cases hap : apL many mv with
    | nil =>
      rw [hap] at hb
      have hb : (!deq (.lst ([].map prD)) (.lst ([].map prD))) = true := hb
      rw [deq_refl (fl [])] at hb; cases hb
    | cons p0 rest =>
      obtain ⟨h0, n0⟩ := ap_first hap
      refine JSs.one (JS.ret (JV.je (jv_tup (JD.cons (jv_str (JD.cons (JE.jv (je_call0 cj (ok_pairs_behind T) (by decide) 1 T.g_pairs_behind T.F_pairs_behind.kp T.b_pairs_behind ?_))))))))
      refine JD.cons (jv_name cj 0 (JD.cons (jv_ix (jv_name cj 1 (jv_int ⟨_, _, prT p0, .lst, rfl, at_nat (i := 0) rfl, JD.nil ⟨many, mv, p0, rfl, hc, h0, n0, ?_⟩⟩)))))
      exact JD.nil ⟨lz rfl, hA p0 rest hap⟩
  have hap : apL many mv = [] := by
    have hb : deq (.lst ((apL many mv).map prD)) (.lst ([].map prD)) = true := by simpa using hb
    have := (deq_iff (fl _) (fl [])).mp hb
    injection this with this
    exact List.map_eq_nil_iff.mp this
  refine JSs.cons ?_
  refine js_set cj 2 (JV.je (jv_tupRgP cj 2 3 T.z_tuple T.z_range (jv_fldK cj T.cl_Chain T.na_Chain_many (jv_name cj 0 ⟨_, _, _, rfl, rfl, many, rfl, ⟨by omega, by omega, by omega, by omega, by omega⟩, ?_⟩))))
  rw [rgI0]
  refine JSs.cons ?_
  refine js_set cj 3 (je_tdisp1 cj (jv_name cj 2 (jv_tup (JD.nil ⟨lz rfl, rg many, rfl, ?_⟩))))
  refine JSs.cons ?_
  refine js_set cj 4 (je_lst (JD.cons (jv_name cj 2 (JD.nil ⟨lz rfl, ?_⟩))))
  refine JSs.forget 1 ?_
  show JSs X B _ [.fz (chD T.C_Chain many mv), .no, .fz (.tp ((rg many).map .int)), .ow (.dT (kt (bK (bfs many mv 0)))), .ow (.lst (wK (bfs many mv 0))), .no] _
  refine JSs.cons ?_
  refine js_for cj (ji_seq (JE.jv (je_call cj (ok_walking T) (by decide) 4 T.g_walking T.F_walking.kp T.b_walking (JA.cons (jv_name cj 0 (JA.lend cj 3 (JA.lend cj 4 (JA.nil ⟨rfl, many, mv, rfl, hc, fun N hN => ?_⟩))))))))
  refine ⟨_, .inl rfl, fun i G => ∃ a5, (∀ j p, j < i → (bfs many mv N)[j]? = some p → p.1.length ≠ 1) ∧ G = [.fz (chD T.C_Chain many mv), .no, .fz (.tp ((rg many).map .int)), .ow (.dT (kt (bK (bfs many mv N)))), .ow (.lst (wK (bfs many mv N))), a5], ⟨.no, fun _ _ h => absurd h (Nat.not_lt_zero _), rfl⟩, fun i d G hi hd hI => ?_, fun G hI => ?_⟩
  · obtain ⟨a5, hno, rfl⟩ := hI
    have bo := bfs_ok hc N
    obtain ⟨p, hp, rfl⟩ := map_get hd
    refine JG.name cj 5 ?_
    refine JSs.one ?_
    refine JS.ite (jt_eqi cj (jv_len cj 5 T.z_len (jv_name cj 5 ⟨_, .tp, jv_int ⟨_, _, rfl, rfl, fun hb => ?_, fun hb => JSs.nil ⟨_, fun j r hj hr => ?_, rfl⟩⟩⟩)))
    · have hb := of_decide_eq_true hb
      rw [List.length_map] at hb
      have h1 : p.1.length = 1 := by omega
      refine JSs.one (JS.ret (JV.je (jv_tup (JD.cons (jv_str (JD.cons (JE.jv (je_listOf cj 6 T.z_list (jv_tget cj 3 (jv_name cj 5 ⟨bK (bfs many mv N), p.1, .tup (p.2.map .int), _, rfl, .free, rfl, bK_get bo.nd (List.mem_of_getElem? hp), _, .tup, JD.nil ⟨lz rfl, ?_⟩⟩))))))))))
      have := hB hap N hN
      unfold mtD at this
      rw [find_at hp (decide_eq_true h1) fun j r hj hr => decide_eq_false (hno j r hj hr)] at this
      exact this
    · have hb := of_decide_eq_false hb
      rw [List.length_map] at hb
      by_cases z : j < i
      · exact hno j r z hr
      · have : j = i := by omega
        subst this
        rw [hp] at hr; cases hr
        omega
  obtain ⟨a5, hno, rfl⟩ := hI
  rw [wK_len] at hno
  refine JSs.forget 5 ?_
  refine JSs.one (JS.ret (JV.je (jv_tup (JD.cons (jv_str (JD.cons (JE.jv (je_lst (JD.nil ⟨lz rfl, JD.nil ⟨lz rfl, ?_⟩⟩)))))))))
  have := hB hap N hN
  unfold mtD at this
  rw [List.find?_eq_none.mpr fun p hp => ?_] at this
  · exact this
  · obtain ⟨j, hj⟩ := List.getElem?_of_mem hp
    have := hno j p (List.getElem?_eq_some_iff.mp hj).1 hj
    simp [this]
/-! own shares and shares of a length -/
open Classical in
theorem ap_one {many : Int} {mv : List (Int × List Int)} (c : Ch many mv) (h : apL many mv = []) : (clF many mv).length ≤ 1 := by
  have cls : ∀ {m : Int}, 0 ≤ m → m < many → ∀ q ∈ rchL many mv m, ∀ mm ∈ mv, gI mm.2 q ∈ rchL many mv m := fun {m} m0 m1 q hq mm hmm => by
    obtain ⟨k, hk⟩ := List.getElem?_of_mem hmm
    have ok : NumOk mv (k : Int) := ⟨by omega, by have := (List.getElem?_eq_some_iff.mp hk).1; omega⟩
    have er : rw_ mv (k : Int) = mm.2 := by
      unfold rw_
      rw [Int.toNat_natCast, List.getD_eq_getElem?_getD, hk]; rfl
    have := ((rchL_mem c m0 m1).mp hq).step ok
    rw [er] at this
    exact (rchL_mem c m0 m1).mpr this
  have nev : ∀ {a b : Int}, Mt mv a b → ∀ {m m' : Int}, 0 ≤ m → m < many → 0 ≤ m' → m' < many → Cls1 many mv m → Cls1 many mv m' → rchL many mv m ≠ rchL many mv m' → a ∈ rchL many mv m → b ∈ rchL many mv m' → False := fun {a b} hm => by
    induction hm with
    | one hmm e =>
      intro m m' m0 m1 m0' m1' hc hc' hne ha hb
      have h1 := cls m0 m1 _ ha _ hmm
      have h2 := cls m0' m1' _ hb _ hmm
      rw [e] at h1
      have e1 := rchL_eq c m0 m1 h1 (hc _ h1)
      have e2 := rchL_eq c m0' m1' h2 (hc' _ h2)
      exact hne (e1.symm.trans e2)
    | step hmm _ ih =>
      intro m m' m0 m1 m0' m1' hc hc' hne ha hb
      exact ih m0 m1 m0' m1' hc hc' hne (cls m0 m1 _ ha _ hmm) (cls m0' m1' _ hb _ hmm)
  have key : ∀ m m' : Int, 0 ≤ m → m < many → 0 ≤ m' → m' < many → m ≠ m' → clB many mv m = true → clB many mv m' = true → False := fun m m' m0 m1 m0' m1' hne hb hb' => by
    unfold clB at hb hb'
    have hb := of_decide_eq_true hb
    have hb' := of_decide_eq_true hb'
    have hr : rchL many mv m ≠ rchL many mv m' := fun z => by
      have h1 := hb.1 m' (by rw [z]; exact rchL_self c m0' m1')
      have h2 := hb'.1 m (by rw [← z]; exact rchL_self c m0 m1)
      omega
    exact nev (apL_nil h m0 m1 m0' m1' hne) m0 m1 m0' m1' hb.2 hb'.2 hr (rchL_self c m0 m1) (rchL_self c m0' m1')
  unfold clF clTo
  rw [List.length_map]
  have srt : (((rg many).take many.toNat).filter (clB many mv)).Pairwise (· < ·) := List.Pairwise.filter _ (List.Pairwise.sublist (List.take_sublist _ _) (rg_lt many))
  cases hf : ((rg many).take many.toNat).filter (clB many mv) with
  | nil => exact Nat.zero_le _
  | cons m r =>
    cases r with
    | nil => exact Nat.le_refl _
    | cons m' r =>
      exfalso
      have h1 : m ∈ ((rg many).take many.toNat).filter (clB many mv) := by rw [hf]; simp
      have h2 : m' ∈ ((rg many).take many.toNat).filter (clB many mv) := by rw [hf]; simp
      rw [hf] at srt
      have hlt := (List.pairwise_cons.mp srt).1 m' (by simp)
      have k1 := List.mem_filter.mp h1
      have k2 := List.mem_filter.mp h2
      have r1 := rg_take_mem.mp k1.1
      have r2 := rg_take_mem.mp k2.1
      exact key m m' r1.1 r1.2.1 r2.1 r2.2.1 (by omega) k1.2 k2.2
theorem gI_mapE {g : Int → Int} {l : List Int} {i : Int} (h0 : 0 ≤ i) (h1 : i < l.length) : gI (l.map g) i = g (gI l i) := by
  unfold gI
  have hlt : i.toNat < l.length := by omega
  rw [List.getD_eq_getElem?_getD, List.getD_eq_getElem?_getD, List.getElem?_map, List.getElem?_eq_getElem hlt]; rfl
/-! fractions in the place of counts -/
def fmR : List (Int × List Int) → (List Int → Rat) → List Int → Rat
  | [], _, _ => 0
  | m :: l, g, f => (m.1 : Rat) * g (ff f m.2) + fmR l g f
def EnR (many : Int) (mv : List (Int × List Int)) : Nat → (List Int → Rat) → Rat
  | 0, g => g (rg many)
  | n + 1, g => EnR many mv n (fmR mv g)
theorem fmR_cast (g : List Int → Int) (f : List Int) : ∀ l : List (Int × List Int), fmR l (fun f => ((g f : Int) : Rat)) f = (((l.map fun p => p.1 * g (ff f p.2)).sum : Int) : Rat)
  | [] => rfl
  | m :: l => by
    show (m.1 : Rat) * ((g (ff f m.2) : Int) : Rat) + fmR l _ f = _
    rw [fmR_cast g f l, List.map_cons, List.sum_cons, Rat.intCast_add, Rat.intCast_mul]
theorem EnR_cast {many : Int} {mv : List (Int × List Int)} : ∀ (n : Nat) (g : List Int → Int), EnR many mv n (fun f => ((g f : Int) : Rat)) = ((En many mv n g : Int) : Rat)
  | 0, _ => rfl
  | n + 1, g => by
    show EnR many mv n (fmR mv _) = _
    rw [show fmR mv (fun f => ((g f : Int) : Rat)) = fun f => (((mv.map fun p => p.1 * g (ff f p.2)).sum : Int) : Rat) from funext fun f => fmR_cast g f mv, EnR_cast n]
    rfl
theorem fmR_le {g g' : List Int → Rat} {f : List Int} : ∀ {l : List (Int × List Int)}, (∀ m ∈ l, 0 ≤ m.1 ∧ g (ff f m.2) ≤ g' (ff f m.2)) → fmR l g f ≤ fmR l g' f
  | [], _ => Rat.le_refl
  | m :: l, h => by
    have h1 := fmR_le (l := l) fun x hx => h x (by simp [hx])
    obtain ⟨h2, h3⟩ := h m (by simp)
    have h2 : (0 : Rat) ≤ (m.1 : Rat) := by exact_mod_cast h2
    have h4 := Rat.mul_nonneg h2 (show 0 ≤ g' (ff f m.2) - g (ff f m.2) by grind)
    show (m.1 : Rat) * g (ff f m.2) + fmR l g f ≤ (m.1 : Rat) * g' (ff f m.2) + fmR l g' f
    grind
theorem EnR_le {many : Int} {mv : List (Int × List Int)} (c : Ch many mv) : ∀ (n : Nat) {g g' : List Int → Rat}, (∀ f, MapOk many f → g f ≤ g' f) → EnR many mv n g ≤ EnR many mv n g'
  | 0, _, _, h => h _ (rg_ok c.m1)
  | n + 1, g, g', h => EnR_le c n fun f hf => fmR_le fun m hm => ⟨c.w0 m hm, h _ (ff_ok hf (c.mv m hm).2.1 (c.mv m hm).2.2)⟩
theorem EnR_congr {many : Int} {mv : List (Int × List Int)} (c : Ch many mv) (n : Nat) {g g' : List Int → Rat} (h : ∀ f, MapOk many f → g f = g' f) : EnR many mv n g = EnR many mv n g' :=
  Rat.le_antisymm (EnR_le c n fun f hf => by rw [h f hf]; exact Rat.le_refl) (EnR_le c n fun f hf => by rw [h f hf]; exact Rat.le_refl)
theorem fmR_mul (a : Rat) (g : List Int → Rat) (f : List Int) : ∀ l : List (Int × List Int), fmR l (fun f => a * g f) f = a * fmR l g f
  | [] => by show (0 : Rat) = a * 0; grind
  | m :: l => by
    show (m.1 : Rat) * (a * g (ff f m.2)) + fmR l _ f = a * ((m.1 : Rat) * g (ff f m.2) + fmR l g f)
    rw [fmR_mul a g f l]; grind
theorem EnR_mul {many : Int} {mv : List (Int × List Int)} (a : Rat) : ∀ (n : Nat) (g : List Int → Rat), EnR many mv n (fun f => a * g f) = a * EnR many mv n g
  | 0, _ => rfl
  | n + 1, g => by
    show EnR many mv n (fmR mv _) = a * EnR many mv n (fmR mv g)
    rw [← EnR_mul a n, show fmR mv (fun f => a * g f) = fun f => a * fmR mv g f from funext fun f => fmR_mul a g f mv]
def xs (n : Nat) (x : Nat → Rat) (p : Int) (f : List Int) : Rat := rs (fun o => x o * (if gI f (o : Int) = p then 1 else 0)) n
theorem rs_pick (h : Nat → Rat) {q0 n : Nat} (hq : q0 < n) : rs (fun q => h q * (if q0 = q then 1 else 0)) n = h q0 := by
  have e3 : rs (fun q => h q * (if q0 = q then 1 else 0)) (q0 + 1) = rs (fun q => h q * (if q0 = q then 1 else 0)) q0 + h q0 * (if q0 = q0 then 1 else 0) := rfl
  rw [rs_stop (m := q0 + 1) (by omega) fun j a b => by rw [if_neg (by omega)]; grind, e3, rs_zero fun j hj => by rw [if_neg (by omega)]; grind, if_pos rfl]; grind
theorem cwt_cons (m : Int × List Int) (l : List (Int × List Int)) (o q : Int) : cwt (m :: l) o q = (if gI m.2 o = q then m.1 else 0) + cwt l o q := rfl
theorem fmR_xs {many : Int} {x : Nat → Rat} {p : Int} {f : List Int} : ∀ {l : List (Int × List Int)}, (∀ m ∈ l, (m.2.length : Int) = many ∧ ∀ y ∈ m.2, 0 ≤ y ∧ y < many) →
    fmR l (xs many.toNat x p) f = rs (fun q => (if gI f (q : Int) = p then 1 else 0) * rs (fun o => x o * ((cwt l (o : Int) (q : Int) : Int) : Rat)) many.toNat) many.toNat
  | [], _ => by
    refine (rs_zero fun q _ => ?_).symm
    rw [rs_zero fun o _ => ?_]
    · grind
    · show x o * ((0 : Int) : Rat) = 0
      grind
  | m :: l, h => by
    show (m.1 : Rat) * xs many.toNat x p (ff f m.2) + fmR l (xs many.toNat x p) f = _
    rw [fmR_xs fun y hy => h y (by simp [hy])]
    obtain ⟨hl, hr⟩ := h m (by simp)
    have e1 : ∀ q, q < many.toNat → (if gI f (q : Int) = p then 1 else 0) * rs (fun o => x o * ((cwt (m :: l) (o : Int) (q : Int) : Int) : Rat)) many.toNat = (m.1 : Rat) * rs (fun o => x o * ((if gI f (q : Int) = p then 1 else 0) * (if (gI m.2 (o : Int)).toNat = q then 1 else 0))) many.toNat + (if gI f (q : Int) = p then 1 else 0) * rs (fun o => x o * ((cwt l (o : Int) (q : Int) : Int) : Rat)) many.toNat := fun q hq => by
      have e2 : rs (fun o => x o * ((cwt (m :: l) (o : Int) (q : Int) : Int) : Rat)) many.toNat = rs (fun o => (m.1 : Rat) * (x o * (if (gI m.2 (o : Int)).toNat = q then 1 else 0)) + x o * ((cwt l (o : Int) (q : Int) : Int) : Rat)) many.toNat := rs_congr fun o ho => by
        have hg := hr _ (gI_mem (i := (o : Int)) (by omega) (by omega))
        rw [cwt_cons, Rat.intCast_add]
        by_cases z : gI m.2 (o : Int) = (q : Int)
        · rw [if_pos z, if_pos (by omega)]; grind
        · rw [if_neg z, if_neg (by omega)]
          show x o * (((0 : Int) : Rat) + _) = _
          grind
      rw [e2, rs_add, rs_mul]
      by_cases z : gI f (q : Int) = p
      · rw [if_pos z]
        have e3 : rs (fun o => x o * (1 * (if (gI m.2 (o : Int)).toNat = q then 1 else 0))) many.toNat = rs (fun o => x o * (if (gI m.2 (o : Int)).toNat = q then 1 else 0)) many.toNat := rs_congr fun o _ => by grind
        rw [e3]; grind
      · rw [if_neg z]
        have e3 : rs (fun o => x o * (0 * (if (gI m.2 (o : Int)).toNat = q then 1 else 0))) many.toNat = 0 := rs_zero fun o _ => by grind
        rw [e3]; grind
    rw [rs_congr e1, rs_add, rs_mul, rs_swap (fun q o => x o * ((if gI f (q : Int) = p then 1 else 0) * (if (gI m.2 (o : Int)).toNat = q then 1 else 0)))]
    congr 2
    unfold xs
    refine rs_congr fun o ho => ?_
    have hg := hr _ (gI_mem (i := (o : Int)) (by omega) (by omega))
    rw [rs_mul, rs_pick (fun q => if gI f (q : Int) = p then 1 else 0) (by omega), show (((gI m.2 (o : Int)).toNat : Nat) : Int) = gI m.2 (o : Int) by omega]
    congr 2
    have e : gI (ff f m.2) (o : Int) = gI f (gI m.2 (o : Int)) := gI_mapE (g := gI f) (by omega) (by omega)
    rw [e]
theorem W_Pn {many : Int} {mv : List (Int × List Int)} (c : Ch many mv) (o q : Nat) : ((cwt mv (o : Int) (q : Int) : Int) : Rat) = ((wsum mv : Int) : Rat) * Pn mv o q := by
  obtain ⟨w1, _⟩ := wsum_pos c
  unfold Pn cfr
  rw [mk_divInt (by omega), Rat.divInt_eq_div]
  have hr : ((wsum mv : Int) : Rat) ≠ 0 := by
    intro z2
    have : wsum mv = 0 := by exact_mod_cast z2
    omega
  grind
section
variable {many : Int} {mv : List (Int × List Int)} {x : Nat → Rat}
theorem fmR_own (c : Ch many mv) (ow : Own many mv x) {p : Int} {f : List Int} : fmR mv (xs many.toNat x p) f = ((wsum mv : Int) : Rat) * xs many.toNat x p f := by
  rw [fmR_xs fun m hm => ⟨(c.mv m hm).2.1, (c.mv m hm).2.2⟩]
  unfold xs
  rw [← rs_mul]
  refine rs_congr fun q hq => ?_
  have e : rs (fun o => x o * ((cwt mv (o : Int) (q : Int) : Int) : Rat)) many.toNat = rs (fun o => ((wsum mv : Int) : Rat) * (x o * Pn mv o q)) many.toNat := rs_congr fun o _ => by rw [W_Pn c]; grind
  rw [e, rs_mul, ow.st q hq]; grind
theorem EnR_own (c : Ch many mv) (ow : Own many mv x) (p : Int) : ∀ n : Nat, EnR many mv n (xs many.toNat x p) = ((whl many mv n : Int) : Rat) * xs many.toNat x p (rg many)
  | 0 => by
    show xs many.toNat x p (rg many) = ((1 : Int) : Rat) * _
    grind
  | n + 1 => by
    show EnR many mv n (fmR mv _) = _
    rw [show fmR mv (xs many.toNat x p) = fun f => ((wsum mv : Int) : Rat) * xs many.toNat x p f from funext fun f => fmR_own c ow, EnR_mul, EnR_own c ow p n, whl_pow, whl_pow, Int.pow_succ, Rat.intCast_mul]
    grind
theorem xs_rg {p : Nat} (hp : p < many.toNat) : xs many.toNat x (p : Int) (rg many) = x p := by
  unfold xs
  rw [← rs_pick x hp]
  refine rs_congr fun o ho => ?_
  have e : gI (rg many) (o : Int) = (o : Int) := by
    unfold gI
    rw [Int.toNat_natCast, List.getD_eq_getElem?_getD, rg_get ho]; rfl
  rw [e]
  by_cases z : p = o
  · rw [if_pos z, if_pos (by omega)]
  · rw [if_neg z, if_neg (by omega)]
theorem isC_le_Ck (m1 : 1 ≤ many) (f : List Int) {p : Nat} : ∀ k : Nat, p < k → isC many (p : Int) f ≤ isCk many k f
  | 0, h => absurd h (Nat.not_lt_zero p)
  | k + 1, h => by
    show _ ≤ isCk many k f + isC many (k : Int) f
    have h0 := isCk_one m1 f k
    have h1 : 0 ≤ isC many (k : Int) f := by unfold isC; split <;> decide
    by_cases e : p = k
    · subst e
      rcases h0 with h0 | ⟨h0, _⟩ <;> omega
    · have := isC_le_Ck m1 f k (by omega : p < k)
      omega
theorem xs_bnd (c : Ch many mv) (hl : (clF many mv).length ≤ 1) (ow : Own many mv x) {p : Nat} (hp : p < many.toNat) {f : List Int} (hf : MapOk many f) :
    ((isC many (p : Int) f : Int) : Rat) ≤ xs many.toNat x (p : Int) f ∧ xs many.toNat x (p : Int) f ≤ (((isC many (p : Int) f + (1 + -1 * isCk many many.toNat f)) : Int) : Rat) := by
  have nn := ow.nonneg c hl
  have m1 := c.m1
  have x0 : 0 ≤ xs many.toNat x (p : Int) f := rs_nonneg fun o ho => Rat.mul_nonneg (nn o ho) (by split <;> decide)
  have x1 : xs many.toNat x (p : Int) f ≤ 1 := by
    rw [← ow.one]
    refine rs_le fun o ho => ?_
    have := nn o ho
    split <;> grind
  have hle := isC_le_Ck m1 f (p := p) many.toNat hp
  rcases isCk_one m1 f many.toNat with h0 | ⟨h0, q, hq, e⟩
  · rw [h0] at hle ⊢
    have hc : isC many (p : Int) f = 0 := by
      have : 0 ≤ isC many (p : Int) f := by unfold isC; split <;> decide
      omega
    rw [hc]
    exact ⟨x0, x1⟩
  · rw [h0]
    have hg : ∀ o, o < many.toNat → gI f (o : Int) = (q : Int) := fun o ho => by
      rw [e]
      unfold gI
      rw [Int.toNat_natCast, List.getD_eq_getElem?_getD, List.getElem?_replicate, if_pos ho]; rfl
    by_cases z : q = p
    · subst z
      have e1 : xs many.toNat x (q : Int) f = 1 := by
        rw [← ow.one]
        exact rs_congr fun o ho => by rw [hg o ho, if_pos rfl]; grind
      have e2 : isC many (q : Int) f = 1 := by unfold isC; rw [if_pos e]
      rw [e1, e2]
      exact ⟨Rat.le_refl, Rat.le_refl⟩
    · have e1 : xs many.toNat x (p : Int) f = 0 := rs_zero fun o ho => by rw [hg o ho, if_neg (by omega)]; grind
      have e2 : isC many (p : Int) f = 0 := by
        unfold isC
        rw [if_neg]
        intro e3
        have h1 := hg 0 (by omega)
        rw [e3] at h1
        unfold gI at h1
        rw [List.getD_eq_getElem?_getD, List.getElem?_replicate] at h1
        rw [if_pos (by simp; omega)] at h1
        simp at h1
        omega
      rw [e1, e2]
      exact ⟨Rat.le_refl, Rat.le_refl⟩
theorem mk_quo {a b : Int} (hb : 0 < b) : mkRat a b.toNat = (a : Rat) / (b : Rat) := by
  rw [mk_divInt hb, Rat.divInt_eq_div]
theorem quo_le {a b w : Rat} (hw : 0 < w) : a / w ≤ b ↔ a ≤ w * b := by
  have e : a / w * w = a := by grind
  constructor
  · intro h
    have := Rat.mul_nonneg (show 0 ≤ b - a / w by grind) (Rat.le_of_lt hw)
    grind
  · intro h
    apply Classical.byContradiction
    intro z
    have := Rat.mul_pos (show 0 < a / w - b by grind) hw
    grind
theorem le_quo {a b w : Rat} (hw : 0 < w) : b ≤ a / w ↔ w * b ≤ a := by
  have e : a / w * w = a := by grind
  constructor
  · intro h
    have := Rat.mul_nonneg (show 0 ≤ a / w - b by grind) (Rat.le_of_lt hw)
    grind
  · intro h
    apply Classical.byContradiction
    intro z
    have := Rat.mul_pos (show 0 < b - a / w by grind) hw
    grind
theorem posR {a : Int} (h : 0 < a) : (0 : Rat) < (a : Rat) := by exact_mod_cast h
/-- between its share of a length and that with those that draw nothing -/
theorem own_near (c : Ch many mv) (hl : (clF many mv).length ≤ 1) (ow : Own many mv x) {p : Nat} (hp : p < many.toNat) (n : Nat) : shr many mv n (p : Int) ≤ x p ∧ x p ≤ shr many mv n (p : Int) + rst many mv n := by
  have hw := whl_pos c n
  have hwR := posR hw
  have e0 := EnR_own c ow (p : Int) n
  rw [xs_rg hp] at e0
  have h1 : ((cnt many mv n (p : Int) : Int) : Rat) ≤ ((whl many mv n : Int) : Rat) * x p := by
    rw [← e0]
    unfold cnt
    rw [← EnR_cast]
    exact EnR_le c n fun f hf => (xs_bnd c hl ow hp hf).1
  have h2 : ((whl many mv n : Int) : Rat) * x p ≤ (((cnt many mv n (p : Int) + (whl many mv n + -1 * cs many mv n many.toNat)) : Int) : Rat) := by
    rw [← e0]
    have e : En many mv n (fun f => isC many (p : Int) f + (1 + -1 * isCk many many.toNat f)) = cnt many mv n (p : Int) + (whl many mv n + -1 * cs many mv n many.toNat) := by
      rw [En_add, En_add, En_mul]; rfl
    rw [← e, ← EnR_cast]
    exact EnR_le c n fun f hf => (xs_bnd c hl ow hp hf).2
  unfold shr
  rw [rst_mk c, mk_quo hw, mk_quo hw]
  refine ⟨(quo_le hwR).mpr h1, ?_⟩
  have e3 : ((cnt many mv n (p : Int) : Int) : Rat) / ((whl many mv n : Int) : Rat) + (((whl many mv n - cs many mv n many.toNat) : Int) : Rat) / ((whl many mv n : Int) : Rat) = (((cnt many mv n (p : Int) + (whl many mv n + -1 * cs many mv n many.toNat)) : Int) : Rat) / ((whl many mv n : Int) : Rat) := by
    rw [show cnt many mv n (p : Int) + (whl many mv n + -1 * cs many mv n many.toNat) = cnt many mv n (p : Int) + (whl many mv n - cs many mv n many.toNat) by omega, Rat.intCast_add]
    grind
  rw [e3]
  exact (le_quo hwR).mpr h2
/-! longer rows -/
theorem ff_rep {p : Int} {row : List Int} (hr : (row.length : Int) = many) (h : ∀ y ∈ row, 0 ≤ y ∧ y < many) : ff (List.replicate many.toNat p) row = List.replicate many.toNat p := by
  unfold ff
  apply List.eq_replicate_iff.mpr
  refine ⟨by rw [List.length_map]; omega, fun b hb => ?_⟩
  obtain ⟨y, hy, rfl⟩ := List.mem_map.mp hb
  have := h y hy
  unfold gI
  rw [List.getD_eq_getElem?_getD, List.getElem?_replicate, if_pos (by omega)]; rfl
theorem isC_ff {p : Int} {row f : List Int} (hr : (row.length : Int) = many) (h : ∀ y ∈ row, 0 ≤ y ∧ y < many) : isC many p f ≤ isC many p (ff f row) := by
  by_cases e : f = List.replicate many.toNat p
  · unfold isC
    rw [if_pos e, if_pos]
    · exact Int.le_refl _
    · rw [e]; exact ff_rep hr h
  · have e1 : isC many p f = 0 := by unfold isC; rw [if_neg e]
    have : 0 ≤ isC many p (ff f row) := by unfold isC; split <;> decide
    omega
theorem isCk_ff {row f : List Int} (hr : (row.length : Int) = many) (h : ∀ y ∈ row, 0 ≤ y ∧ y < many) : ∀ k : Nat, isCk many k f ≤ isCk many k (ff f row)
  | 0 => Int.le_refl _
  | k + 1 => by
    have h1 := isCk_ff hr h (f := f) k
    have h2 := isC_ff (p := (k : Int)) (f := f) hr h
    show isCk many k f + isC many (k : Int) f ≤ isCk many k (ff f row) + isC many (k : Int) (ff f row)
    omega
theorem En_grow (c : Ch many mv) {g : List Int → Int} (hg : ∀ f, ∀ m ∈ mv, g f ≤ g (ff f m.2)) (n : Nat) : wsum mv * En many mv n g ≤ En many mv (n + 1) g := by
  rw [← En_mul]
  show _ ≤ En many mv n fun f => (mv.map fun p => p.1 * g (ff f p.2)).sum
  refine En_le c.w0 n fun f => ?_
  have e : wsum mv * g f = (mv.map fun p => p.1 * g f).sum := by
    have h2 := sum_mul (g f) (mv.map (·.1))
    rw [List.map_map] at h2
    have e2 : (mv.map fun p => p.1 * g f) = mv.map ((fun y => g f * y) ∘ fun p => p.1) := List.map_congr_left fun p _ => Int.mul_comm _ _
    rw [e2, h2]
    exact Int.mul_comm _ _
  rw [e]
  exact sum_le_map fun p hp => Int.mul_le_mul_of_nonneg_left (hg f p hp) (c.w0 p hp)
theorem frac_grow {a b w v : Int} (hw : 0 < w) (hv : 0 < v) (h : v * a ≤ b) : mkRat a w.toNat ≤ mkRat b (w * v).toNat := by
  have hwv : 0 < w * v := Int.mul_pos hw hv
  rw [mk_quo hw, mk_quo hwv, quo_le (posR hw)]
  have e : ((b : Int) : Rat) / ((w * v : Int) : Rat) * (v : Rat) = (b : Rat) / (w : Rat) := by
    have h1 := posR hw
    have h2 := posR hv
    rw [Rat.intCast_mul]
    grind
  have h3 : ((v * a : Int) : Rat) ≤ (b : Rat) := by exact_mod_cast h
  rw [Rat.intCast_mul] at h3
  rw [Rat.intCast_mul]
  have h1 := posR hw
  have h2 := posR hv
  have e2 : (w : Rat) * ((b : Rat) / ((w : Rat) * (v : Rat))) = (b : Rat) / (v : Rat) := by grind
  rw [e2]
  exact (le_quo h2).mpr h3
theorem shr_grow (c : Ch many mv) (n : Nat) (p : Int) : shr many mv n p ≤ shr many mv (n + 1) p := by
  obtain ⟨w1, _⟩ := wsum_pos c
  unfold shr
  have e : whl many mv (n + 1) = whl many mv n * wsum mv := by rw [whl_pow, whl_pow, Int.pow_succ]
  rw [e]
  exact frac_grow (whl_pos c n) (by omega) (En_grow c (fun f m hm => isC_ff (c.mv m hm).2.1 (c.mv m hm).2.2) n)
theorem rst_grow (c : Ch many mv) (n : Nat) : rst many mv (n + 1) ≤ rst many mv n := by
  obtain ⟨w1, _⟩ := wsum_pos c
  unfold rst
  rw [shL_sum c, shL_sum c]
  have e : whl many mv (n + 1) = whl many mv n * wsum mv := by rw [whl_pow, whl_pow, Int.pow_succ]
  have h : mkRat (cs many mv n many.toNat) (whl many mv n).toNat ≤ mkRat (cs many mv (n + 1) many.toNat) (whl many mv (n + 1)).toNat := by
    rw [e]
    exact frac_grow (whl_pos c n) (by omega) (En_grow c (fun f m hm => isCk_ff (c.mv m hm).2.1 (c.mv m hm).2.2 _) n)
  grind
theorem shr_mono (c : Ch many mv) {n : Nat} (p : Int) : ∀ {d : Nat}, shr many mv n p ≤ shr many mv (n + d) p
  | 0 => Rat.le_refl
  | d + 1 => Rat.le_trans (shr_mono c p) (shr_grow c (n + d) p)
theorem rst_mono (c : Ch many mv) {n : Nat} : ∀ {d : Nat}, rst many mv (n + d) ≤ rst many mv n
  | 0 => Rat.le_refl
  | d + 1 => Rat.le_trans (rst_grow c (n + d)) (rst_mono c)
end
/-! all rows with their weights; maps of walks that go on -/
def wgt (mv : List (Int × List Int)) (k : Int) : Int := (mv.getD k.toNat (0, [])).1
def Rstep (mv : List (Int × List Int)) (p : List Int × Int) : KI := (rg mv.length).map fun k => (p.1 ++ [k], p.2 * wgt mv k)
def Rn (mv : List (Int × List Int)) : Nat → KI
  | 0 => [([], 1)]
  | n + 1 => (Rn mv n).flatMap (Rstep mv)
theorem Rstep_len (mv : List (Int × List Int)) (p : List Int × Int) : (Rstep mv p).length = mv.length := by unfold Rstep; rw [List.length_map, rg_len]; omega
theorem Rn_len (mv : List (Int × List Int)) : ∀ n, (Rn mv n).length = mv.length ^ n
  | 0 => rfl
  | n + 1 => by
    show ((Rn mv n).flatMap (Rstep mv)).length = _
    rw [List.length_flatMap]
    have : (fun p => (Rstep mv p).length) = fun _ => mv.length := funext fun p => Rstep_len mv p
    rw [this, List.map_const', List.sum_replicate_nat, Rn_len mv n, Nat.pow_succ]
theorem Rn_ok {mv : List (Int × List Int)} : ∀ {n : Nat} {p : List Int × Int}, p ∈ Rn mv n → p.1.length = n ∧ ∀ k ∈ p.1, NumOk mv k
  | 0, p, h => by
    rcases List.mem_singleton.mp h with rfl
    exact ⟨rfl, fun k hk => by cases hk⟩
  | n + 1, p, h => by
    obtain ⟨q, hq, hp⟩ := List.mem_flatMap.mp h
    obtain ⟨k, hk, rfl⟩ := List.mem_map.mp hp
    obtain ⟨h1, h2⟩ := Rn_ok hq
    refine ⟨by simp [h1], fun m hm => ?_⟩
    rcases List.mem_append.mp hm with hm | hm
    · exact h2 m hm
    · rw [List.mem_singleton.mp hm]
      have := rg_mem.mp hk
      exact ⟨this.1, this.2⟩
def cmp (many : Int) (mv : List (Int × List Int)) (ns : List Int) : List Int := ends many mv ns ns.length
theorem ends_app {many : Int} {mv : List (Int × List Int)} (ns ms : List Int) {f : Nat} (h : f ≤ ns.length) : ends many mv (ns ++ ms) f = ends many mv ns f := by
  unfold ends
  rw [List.take_append_of_le_length h]
theorem cmp_app {many : Int} {mv : List (Int × List Int)} (c : Ch many mv) {ns : List Int} {k : Int} (hn : ∀ n ∈ ns, NumOk mv n) (hk : NumOk mv k) : cmp many mv (ns ++ [k]) = ff (cmp many mv ns) (rw_ mv k) := by
  unfold cmp
  rw [List.length_append, List.length_singleton, ends_succ c (n := k) (fun n h => by
    rcases List.mem_append.mp h with h | h
    · exact hn n h
    · rw [List.mem_singleton.mp h]; exact hk) (by rw [List.getElem?_append_right (Nat.le_refl _), Nat.sub_self]; rfl), ends_app _ _ (Nat.le_refl _)]
  rfl
theorem ev_app (a b : KI) (g : List Int → Int) : ev (a ++ b) g = ev a g + ev b g := by
  unfold ev; rw [List.map_append, List.sum_append]
theorem ev_cons (p : List Int × Int) (a : KI) (g : List Int → Int) : ev (p :: a) g = g p.1 * p.2 + ev a g := by
  unfold ev; rw [List.map_cons, List.sum_cons]
theorem ev_flat (h : List Int × Int → KI) (g : List Int → Int) (g' : List Int → Int) : ∀ a : KI, (∀ p ∈ a, ev (h p) g = g' p.1 * p.2) → ev (a.flatMap h) g = ev a g'
  | [], _ => rfl
  | p :: a, q => by
    rw [List.flatMap_cons, ev_app, ev_cons, q p (by simp), ev_flat h g g' a fun r hr => q r (by simp [hr])]
theorem ev_congr {g g' : List Int → Int} : ∀ {a : KI}, (∀ p ∈ a, g p.1 = g' p.1) → ev a g = ev a g'
  | [], _ => rfl
  | p :: a, q => by rw [ev_cons, ev_cons, q p (by simp), ev_congr fun r hr => q r (by simp [hr])]
theorem sum_rg (mv : List (Int × List Int)) (h : Int → List Int → Int) : ((rg mv.length).map fun k => h (wgt mv k) (rw_ mv k)).sum = (mv.map fun p => h p.1 p.2).sum := by
  congr 1
  apply List.ext_getElem?
  intro i
  by_cases hi : i < mv.length
  · rw [List.getElem?_map, rg_get (by omega), List.getElem?_map, List.getElem?_eq_getElem hi]
    simp [wgt, rw_, List.getD_eq_getElem?_getD, List.getElem?_eq_getElem hi]
  · rw [List.getElem?_eq_none (by simp [rg_len]; omega), List.getElem?_eq_none (by simp; omega)]
theorem ev_Rn {many : Int} {mv : List (Int × List Int)} (c : Ch many mv) : ∀ (n : Nat) (g : List Int → Int), ev (Rn mv n) (fun ns => g (cmp many mv ns)) = En many mv n g
  | 0, g => by
    show g (cmp many mv []) * 1 + 0 = g (rg many)
    rw [Int.mul_one, Int.add_zero]
    show g (ends many mv [] 0) = _
    rw [ends_zero]
  | n + 1, g => by
    show ev ((Rn mv n).flatMap (Rstep mv)) _ = En many mv n fun f => (mv.map fun p => p.1 * g (ff f p.2)).sum
    rw [← ev_Rn c n]
    refine ev_flat _ _ _ _ fun p hp => ?_
    obtain ⟨h1, h2⟩ := Rn_ok hp
    unfold ev Rstep
    rw [List.map_map, ← sum_rg mv (fun w row => w * g (ff (cmp many mv p.1) row)), Int.mul_comm, ← sum_mul, List.map_map]
    congr 1
    refine List.map_congr_left fun k hk => ?_
    have hk := rg_mem.mp hk
    show g (cmp many mv (p.1 ++ [k])) * (p.2 * wgt mv k) = p.2 * (wgt mv k * g (ff (cmp many mv p.1) (rw_ mv k)))
    rw [cmp_app c h2 ⟨hk.1, hk.2⟩, Int.mul_comm, Int.mul_assoc]
/-! what draws is what leads all to one -/
theorem ends_one {many : Int} {mv : List (Int × List Int)} (c : Ch many mv) {ns : List Int} (hn : ∀ n ∈ ns, NumOk mv n) {f : Nat} (o : One (ends many mv ns f)) : ∀ d : Nat, f + d ≤ ns.length → ends many mv ns (f + d) = List.replicate many.toNat (gI (ends many mv ns f) 0)
  | 0, h => by
    have m1 := c.m1
    refine List.eq_replicate_iff.mpr ⟨ends_len _ _ _ _, fun x hx => o x hx _ (gI_mem (by decide) (by rw [ends_len]; omega))⟩
  | d + 1, h => by
    have ih := ends_one c hn o d (by omega)
    have hg : ns[f + d]? = some ns[f + d] := List.getElem?_eq_getElem (by omega)
    have ok := hn _ (List.mem_of_getElem? hg)
    have e : f + (d + 1) = f + d + 1 := rfl
    rw [e, ends_succ c hn hg, ih]
    refine List.eq_replicate_iff.mpr ⟨by rw [List.length_map]; have := (c.row ok).1; omega, fun x hx => ?_⟩
    obtain ⟨y, hy, rfl⟩ := List.mem_map.mp hx
    have := (c.row ok).2 y hy
    exact List.eq_of_mem_replicate (gI_mem this.1 (by rw [List.length_replicate]; omega))
theorem Dr.full {many : Int} {mv : List (Int × List Int)} (c : Ch many mv) {ns : List Int} (hn : ∀ n ∈ ns, NumOk mv n) {d : D} (h : Dr many mv ns d) : (d = .non ∧ ∀ p, isC many p (cmp many mv ns) = 0) ∨ ∃ (q : Int) (f : Nat), d = .tup [.int q, .int f] ∧ 0 ≤ q ∧ q < many ∧ ∀ p, isC many p (cmp many mv ns) = if p = q then 1 else 0 := by
  have m1 := c.m1
  cases h with
  | none n =>
    refine .inl ⟨rfl, fun p => ?_⟩
    unfold isC
    rw [if_neg]
    intro e
    refine n ns.length (Nat.le_refl _) fun x hx y hy => ?_
    unfold cmp at e
    rw [e] at hx hy
    rw [List.eq_of_mem_replicate hx, List.eq_of_mem_replicate hy]
  | @one f h o n =>
    have e := ends_one c hn o (ns.length - f) (by omega)
    rw [show f + (ns.length - f) = ns.length by omega] at e
    have hm : gI (ends many mv ns f) 0 ∈ ends many mv ns f := gI_mem (by decide) (by rw [ends_len]; omega)
    have hr : 0 ≤ gI (ends many mv ns f) 0 ∧ gI (ends many mv ns f) 0 < many := by
      unfold ends at hm
      obtain ⟨p, hp, e2⟩ := List.mem_map.mp hm
      have := rg_mem.mp hp
      unfold ends
      rw [← e2]
      exact Wk_ok c _ p (fun n h => hn n (List.mem_of_mem_take (List.mem_reverse.mp h))) this.1 this.2
    refine .inr ⟨_, f, rfl, hr.1, hr.2, fun p => ?_⟩
    unfold isC cmp
    rw [e]
    by_cases z : p = gI (ends many mv ns f) 0
    · rw [if_pos z, if_pos (by rw [z])]
    · rw [if_neg z, if_neg]
      intro e2
      obtain ⟨m, hm⟩ : ∃ m, many.toNat = m + 1 := ⟨many.toNat - 1, by omega⟩
      rw [hm, List.replicate_succ, List.replicate_succ] at e2
      exact z (List.cons.inj e2).1.symm
/-! the other way round -/
def gg (f row : List Int) : List Int := f.map (gI row)
def Fn (many : Int) (mv : List (Int × List Int)) : Nat → (List Int → Int) → Int
  | 0, g => g (rg many)
  | n + 1, g => Fn many mv n (fm gg mv g)
theorem En_congr' {many : Int} {mv : List (Int × List Int)} (c : Ch many mv) : ∀ (n : Nat) {g g' : List Int → Int}, (∀ f, MapOk many f → g f = g' f) → En many mv n g = En many mv n g'
  | 0, _, _, h => h _ (rg_ok c.m1)
  | n + 1, g, g', h => En_congr' c n fun f hf => by
    congr 1
    exact List.map_congr_left fun p hp => by
      have := c.mv p hp
      rw [h _ (ff_ok hf this.2.1 this.2.2)]
theorem gg_ok {many : Int} {f row : List Int} (hf : MapOk many f) (hr : (row.length : Int) = many) (h : ∀ x ∈ row, 0 ≤ x ∧ x < many) : MapOk many (gg f row) := by
  refine ⟨by unfold gg; rw [List.length_map]; exact hf.1, fun x hx => ?_⟩
  obtain ⟨y, hy, rfl⟩ := List.mem_map.mp hx
  have := hf.2 y hy
  exact h _ (gI_mem this.1 (by omega))
theorem fg_comm {many : Int} {f r1 r2 : List Int} (hf : MapOk many f) (h2 : ∀ x ∈ r2, 0 ≤ x ∧ x < many) : ff (gg f r1) r2 = gg (ff f r2) r1 := by
  unfold ff gg
  rw [List.map_map]
  refine List.map_congr_left fun x hx => ?_
  have := h2 x hx
  exact gI_map this.1 (by have := hf.1; omega)
theorem fg_id {many : Int} {mv : List (Int × List Int)} (c : Ch many mv) {p : Int × List Int} (hp : p ∈ mv) : ff (rg many) p.2 = gg (rg many) p.2 := by
  obtain ⟨_, h1, h2⟩ := c.mv p hp
  have e1 : ff (rg many) p.2 = p.2 := by
    unfold ff
    refine (List.map_congr_left fun x hx => ?_).trans (List.map_id _)
    have := h2 x hx
    exact gI_rg this.1 this.2
  have e2 : gg (rg many) p.2 = p.2 := by
    unfold gg
    exact (eq_rg (by omega) fun i hi => rfl).symm
  rw [e1, e2]
theorem zsum {α : Type} : ∀ m : List α, (m.map fun _ => (0 : Int)).sum = 0
  | [] => rfl
  | _ :: m => by rw [List.map_cons, List.sum_cons, zsum m]; rfl
theorem fm_comm {many : Int} {mv : List (Int × List Int)} (c : Ch many mv) (g : List Int → Int) {f : List Int} (hf : MapOk many f) : fm ff mv (fm gg mv g) f = fm gg mv (fm ff mv g) f := by
  unfold fm
  have swap : ∀ (l m : List (Int × List Int)), (∀ p ∈ l, p ∈ mv) → (∀ p ∈ m, p ∈ mv) → (l.map fun p => p.1 * (m.map fun q => q.1 * g (gg (ff f p.2) q.2)).sum).sum = (m.map fun q => q.1 * (l.map fun p => p.1 * g (ff (gg f q.2) p.2)).sum).sum := by
    intro l
    induction l with
    | nil =>
      intro m _ _
      have : (m.map fun q => q.1 * (([] : List (Int × List Int)).map fun p => p.1 * g (ff (gg f q.2) p.2)).sum) = m.map fun _ => (0 : Int) := List.map_congr_left fun q _ => Int.mul_zero _
      rw [this, zsum]; rfl
    | cons p l ih =>
      intro m hl hm
      rw [List.map_cons, List.sum_cons, ih m (fun q hq => hl q (by simp [hq])) hm, ← sum_mul, List.map_map, ← sum_add_map]
      congr 1
      refine List.map_congr_left fun q hq => ?_
      rw [List.map_cons, List.sum_cons, Int.mul_add]
      congr 1
      show p.1 * (q.1 * g (gg (ff f p.2) q.2)) = q.1 * (p.1 * g (ff (gg f q.2) p.2))
      rw [fg_comm hf (c.mv p (hl p (by simp))).2.2, ← Int.mul_assoc, ← Int.mul_assoc, Int.mul_comm p.1]
  exact swap mv mv (fun _ h => h) (fun _ h => h)
theorem En_swap {many : Int} {mv : List (Int × List Int)} (c : Ch many mv) : ∀ (n : Nat) (g : List Int → Int), En many mv n (fm gg mv g) = En many mv (n + 1) g
  | 0, g => by
    show fm gg mv g (rg many) = fm ff mv g (rg many)
    unfold fm
    congr 1
    exact List.map_congr_left fun p hp => by rw [fg_id c hp]
  | n + 1, g => by
    show En many mv n (fm ff mv (fm gg mv g)) = En many mv (n + 1) (fm ff mv g)
    rw [← En_swap c n]
    exact En_congr' c n fun f hf => fm_comm c g hf
theorem Fn_eq {many : Int} {mv : List (Int × List Int)} (c : Ch many mv) : ∀ (n : Nat) (g : List Int → Int), Fn many mv n g = En many mv n g
  | 0, _ => rfl
  | n + 1, g => by
    show Fn many mv n (fm gg mv g) = _
    rw [Fn_eq c n, En_swap c n]
theorem Part.turnF {many : Int} {mv : List (Int × List Int)} {ms ms' : KI} {n : Nat} (h : Part many ms (Fn many mv n)) (h' : Part many ms' (S1 gg mv ms ms.length)) : Part many ms' (Fn many mv (n + 1)) :=
  h'.congr fun g => by
    show Fn many mv n (fm gg mv g) = Kz.ev (ms.take ms.length) (fm gg mv g)
    rw [List.take_length, h.ev]
theorem cnt_sum {many : Int} {mv : List (Int × List Int)} (n : Nat) : ((rg many).map (cnt many mv n)).sum = cs many mv n many.toNat := by
  have go : ∀ k : Nat, (((List.range k).map fun i => ((i : Nat) : Int)).map (cnt many mv n)).sum = cs many mv n k := by
    intro k
    induction k with
    | zero => rw [cs_zero]; rfl
    | succ k ih => rw [List.range_succ, List.map_append, List.map_append, List.sum_append, ih, cs_succ]; simp
  exact go many.toNat
theorem mk_nonneg {a : Int} {w : Nat} (h : 0 ≤ a) : 0 ≤ mkRat a w := by
  rw [← Rat.num_nonneg, Rat.num_mkRat]
  split
  · exact Int.le_refl _
  · exact Int.ediv_nonneg h (by omega)
theorem sh_all {many : Int} {mv : List (Int × List Int)} (c : Ch many mv) {n : Nat} (hn : n ≤ 20) : (∀ k ≤ (shL many mv n ++ [rst many mv n]).length, Sm (rsum ((shL many mv n ++ [rst many mv n]).take k))) ∧ (∀ q ∈ shL many mv n ++ [rst many mv n], Sm q ∧ 0 ≤ q) ∧ rsum (shL many mv n ++ [rst many mv n]) = 1 := by
  obtain ⟨h1, h2, h3, h4⟩ := shL_sm c hn
  have e1 : rsum (shL many mv n ++ [rst many mv n]) = 1 := by
    rw [rsum_snoc]
    unfold rst
    rw [Rat.sub_eq_add_neg, Rat.add_comm 1, ← Rat.add_assoc, Rat.add_neg_cancel, Rat.zero_add]
  refine ⟨fun k hk => ?_, fun q hq => ?_, e1⟩
  · by_cases z : k ≤ (shL many mv n).length
    · rw [List.take_append_of_le_length z]; exact h1 k z
    · rw [List.length_append, List.length_singleton] at hk
      rw [List.take_of_length_le (by rw [List.length_append, List.length_singleton]; omega), e1]
      exact ⟨by decide, by decide⟩
  · rcases List.mem_append.mp hq with hq | hq
    · refine ⟨h2 q hq, ?_⟩
      obtain ⟨p, _, rfl⟩ := List.mem_map.mp hq
      exact mk_nonneg (cnt_le c n p).1
    · rw [List.mem_singleton.mp hq]
      refine ⟨h4, ?_⟩
      rw [rst_mk c]
      have := (cs_le c n many.toNat).2
      exact mk_nonneg (by omega)
/-! walks that begin by the own shares -/
def Dn (mv : List (Int × List Int)) (L : KI) (o q : Int) : Int := (L.map fun p => if Wk mv p.1 o = q then p.2 else 0).sum
theorem Dn_cons (mv : List (Int × List Int)) (p : List Int × Int) (L : KI) (o q : Int) : Dn mv (p :: L) o q = (if Wk mv p.1 o = q then p.2 else 0) + Dn mv L o q := rfl
theorem Dn_app (mv : List (Int × List Int)) (a b : KI) (o q : Int) : Dn mv (a ++ b) o q = Dn mv a o q + Dn mv b o q := by
  unfold Dn
  rw [List.map_append, List.sum_append]
theorem Dn_take {mv : List (Int × List Int)} {L : KI} {i : Nat} {p : List Int × Int} (h : L[i]? = some p) (o q : Int) : Dn mv (L.take (i + 1)) o q = Dn mv (L.take i) o q + (if Wk mv p.1 o = q then p.2 else 0) := by
  rw [List.take_add_one, h, Dn_app]
  show _ + Dn mv [p] o q = _
  rw [Dn_cons]
  show _ + (_ + 0) = _
  rw [Int.add_zero]
theorem Dn_Rstep (mv : List (Int × List Int)) (p : List Int × Int) (o q : Int) : Dn mv (Rstep mv p) o q = p.2 * cwt mv (Wk mv p.1 o) q := by
  unfold Dn Rstep cwt
  rw [List.map_map]
  have e : ((rg mv.length).map ((fun r : List Int × Int => if Wk mv r.1 o = q then r.2 else 0) ∘ fun k => (p.1 ++ [k], p.2 * wgt mv k))) = (rg mv.length).map fun k => (fun w row => p.2 * (if gI row (Wk mv p.1 o) = q then w else 0)) (wgt mv k) (rw_ mv k) := by
    refine List.map_congr_left fun k _ => ?_
    show (if Wk mv (p.1 ++ [k]) o = q then p.2 * wgt mv k else 0) = p.2 * (if gI (rw_ mv k) (Wk mv p.1 o) = q then wgt mv k else 0)
    rw [Wk_app]
    show (if gI (rw_ mv k) (Wk mv p.1 o) = q then _ else _) = _
    split
    · rfl
    · rw [Int.mul_zero]
  rw [e, sum_rg mv (fun w row => p.2 * (if gI row (Wk mv p.1 o) = q then w else 0))]
  have h2 := sum_mul p.2 (mv.map fun m => if gI m.2 (Wk mv p.1 o) = q then m.1 else 0)
  rw [List.map_map] at h2
  exact h2
theorem Dn_step {many : Int} {mv : List (Int × List Int)} (c : Ch many mv) {o q : Int} (o0 : 0 ≤ o) (o1 : o < many) : ∀ L : KI, (∀ p ∈ L, ∀ k ∈ p.1, NumOk mv k) → ((Dn mv (L.flatMap (Rstep mv)) o q : Int) : Rat) = rs (fun y => ((Dn mv L o (y : Int) : Int) : Rat) * ((cwt mv (y : Int) q : Int) : Rat)) many.toNat
  | [], _ => by
    refine (rs_zero fun y _ => ?_).symm
    show ((0 : Int) : Rat) * _ = 0
    grind
  | p :: L, h => by
    have hw := Wk_ok c p.1 o (h p (by simp)) o0 o1
    rw [List.flatMap_cons, Dn_app, Dn_Rstep, Rat.intCast_add, Dn_step c o0 o1 L fun r hr => h r (by simp [hr])]
    have e : ∀ y, y < many.toNat → ((Dn mv (p :: L) o (y : Int) : Int) : Rat) * ((cwt mv (y : Int) q : Int) : Rat) = ((p.2 : Int) : Rat) * (((cwt mv (y : Int) q : Int) : Rat) * (if (Wk mv p.1 o).toNat = y then 1 else 0)) + ((Dn mv L o (y : Int) : Int) : Rat) * ((cwt mv (y : Int) q : Int) : Rat) := fun y hy => by
      rw [Dn_cons, Rat.intCast_add]
      by_cases z : Wk mv p.1 o = (y : Int)
      · rw [if_pos z, if_pos (by omega)]; grind
      · rw [if_neg z, if_neg (by omega)]
        show (((0 : Int) : Rat) + _) * _ = _
        grind
    rw [rs_congr e, rs_add, rs_mul, rs_pick (fun y => ((cwt mv (y : Int) q : Int) : Rat)) (by omega), Rat.intCast_mul, show (((Wk mv p.1 o).toNat : Nat) : Int) = Wk mv p.1 o by omega]
theorem Dn_own {many : Int} {mv : List (Int × List Int)} {x : Nat → Rat} (c : Ch many mv) (ow : Own many mv x) : ∀ (n : Nat) {q : Nat}, q < many.toNat → rs (fun o => x o * ((Dn mv (Rn mv n) (o : Int) (q : Int) : Int) : Rat)) many.toNat = ((whl many mv n : Int) : Rat) * x q
  | 0, q, hq => by
    have e : ∀ o, o < many.toNat → x o * ((Dn mv (Rn mv 0) (o : Int) (q : Int) : Int) : Rat) = x o * (if q = o then 1 else 0) := fun o _ => by
      show x o * (((if (o : Int) = (q : Int) then (1 : Int) else 0) + 0 : Int) : Rat) = _
      by_cases z : q = o
      · rw [if_pos z, if_pos (by omega)]; rfl
      · rw [if_neg z, if_neg (by omega)]; rfl
    rw [rs_congr e, rs_pick x hq]
    show x q = ((1 : Int) : Rat) * x q
    grind
  | n + 1, q, hq => by
    have e : ∀ o, o < many.toNat → x o * ((Dn mv (Rn mv (n + 1)) (o : Int) (q : Int) : Int) : Rat) = rs (fun y => ((cwt mv (y : Int) (q : Int) : Int) : Rat) * (x o * ((Dn mv (Rn mv n) (o : Int) (y : Int) : Int) : Rat))) many.toNat := fun o ho => by
      show x o * ((Dn mv ((Rn mv n).flatMap (Rstep mv)) (o : Int) (q : Int) : Int) : Rat) = _
      rw [Dn_step c (by omega) (by omega) _ fun p hp => (Rn_ok hp).2, ← rs_mul]
      exact rs_congr fun y _ => by grind
    rw [rs_congr e, rs_swap (fun o y => ((cwt mv (y : Int) (q : Int) : Int) : Rat) * (x o * ((Dn mv (Rn mv n) (o : Int) (y : Int) : Int) : Rat)))]
    have e2 : ∀ y, y < many.toNat → rs (fun o => ((cwt mv (y : Int) (q : Int) : Int) : Rat) * (x o * ((Dn mv (Rn mv n) (o : Int) (y : Int) : Int) : Rat))) many.toNat = (((whl many mv n : Int) : Rat) * ((wsum mv : Int) : Rat)) * (x y * Pn mv y q) := fun y hy => by
      rw [rs_mul, Dn_own c ow n hy, W_Pn c]; grind
    rw [rs_congr e2, rs_mul, ow.st q hq, whl_pow, whl_pow, Int.pow_succ, Rat.intCast_mul]
/-! sums that are carried along -/
theorem cv_add {x : Nat → Rat} {C : Nat → Int} {w : Int} {W n j : Nat} (hj : j < n) (hW : W ≠ 0) : rs (fun o => x o * mkRat (C o + if j = o then w else 0) W) n = rs (fun o => x o * mkRat (C o) W) n + x j * mkRat w W := by
  have e : ∀ o, o < n → x o * mkRat (C o + if j = o then w else 0) W = x o * mkRat (C o) W + (x o * mkRat w W) * (if j = o then 1 else 0) := fun o _ => by
    rw [← mk_add hW]
    by_cases z : j = o
    · rw [if_pos z, if_pos z]; grind
    · rw [if_neg z, if_neg z, Rat.zero_mkRat]; grind
  rw [rs_congr e, rs_add, rs_pick (fun o => x o * mkRat w W) hj]
theorem mk_le1 {a : Int} {W : Nat} (h0 : 0 ≤ a) (h1 : a ≤ W) (hW : W ≠ 0) : 0 ≤ mkRat a W ∧ mkRat a W ≤ 1 := by
  have e := mk_quo (a := a) (b := (W : Int)) (by omega)
  rw [Int.toNat_natCast] at e
  have hp : (0 : Rat) < ((W : Int) : Rat) := posR (by omega)
  refine ⟨mk_nonneg h0, ?_⟩
  rw [e]
  refine (quo_le hp).mpr ?_
  have : ((a : Int) : Rat) ≤ ((W : Int) : Rat) := by exact_mod_cast h1
  grind
section
variable {many : Int} {mv : List (Int × List Int)} {x : Nat → Rat}
theorem cv1_sm (c : Ch many mv) (hl : (clF many mv).length ≤ 1) (ow : Own many mv x) (hd : ∀ i < many.toNat, (x i).den < 2 ^ 703) {a : Int} {W : Nat} (h0 : 0 ≤ a) (h1 : a ≤ W) (hW : W ≠ 0) (hW2 : W ≤ 2 ^ 40) {j : Nat} (hj : j < many.toNat) : 0 ≤ x j * mkRat a W ∧ x j * mkRat a W ≤ x j ∧ (x j * mkRat a W).den ≤ 2 ^ 743 := by
  have nn := ow.nonneg c hl j hj
  obtain ⟨m0, m1⟩ := mk_le1 h0 h1 hW
  refine ⟨Rat.mul_nonneg nn m0, ?_, Nat.le_trans (den_mulE _ _) ?_⟩
  · have := Rat.mul_nonneg nn (show 0 ≤ 1 - mkRat a W by grind)
    grind
  · rw [show (743 : Nat) = 703 + 40 from rfl, Nat.pow_add]
    exact Nat.mul_le_mul (Nat.le_of_lt (hd j hj)) (Nat.le_trans (den_mkle _ hW) hW2)
theorem cv_sm (c : Ch many mv) (m5 : many ≤ 5) (hl : (clF many mv).length ≤ 1) (ow : Own many mv x) (hd : ∀ i < many.toNat, (x i).den < 2 ^ 703) {C : Nat → Int} {W : Nat} (h : ∀ o, o < many.toNat → 0 ≤ C o ∧ C o ≤ W) (hW : W ≠ 0) (hW2 : W ≤ 2 ^ 40) : Sm (rs (fun o => x o * mkRat (C o) W) many.toNat) := by
  have k : ∀ o, o < many.toNat → _ := fun o ho => cv1_sm c hl ow hd (h o ho).1 (h o ho).2 hW hW2 ho
  refine Sm01 (b := 743 * many.toNat) (by omega) (rs_nonneg fun o ho => (k o ho).1) ?_ (rs_den fun o ho => (k o ho).2.2)
  rw [← ow.one]
  exact rs_le fun o ho => (k o ho).2.1
end
/-! some row draws -/
theorem Rn_w {many : Int} {mv : List (Int × List Int)} (c : Ch many mv) : ∀ {n : Nat} {p : List Int × Int}, p ∈ Rn mv n → 1 ≤ p.2
  | 0, p, h => by rcases List.mem_singleton.mp h with rfl; exact Int.le_refl _
  | n + 1, p, h => by
    obtain ⟨q, hq, hp⟩ := List.mem_flatMap.mp h
    obtain ⟨k, hk, rfl⟩ := List.mem_map.mp hp
    have h1 := Rn_w c hq
    have hk2 := rg_mem.mp hk
    have hlt : k.toNat < mv.length := by omega
    have h2 : 1 ≤ wgt mv k := by
      unfold wgt
      rw [List.getD_eq_getElem?_getD, List.getElem?_eq_getElem hlt]
      exact (c.mv _ (List.getElem_mem hlt)).1.1
    have := Int.mul_le_mul h1 h2 (by decide) (by omega)
    exact this
theorem Rn_all {mv : List (Int × List Int)} : ∀ {n : Nat} {ns : List Int}, ns.length = n → (∀ k ∈ ns, NumOk mv k) → ∃ w, (ns, w) ∈ Rn mv n
  | 0, ns, h, _ => by
    have : ns = [] := List.length_eq_zero_iff.mp h
    subst this
    exact ⟨1, List.mem_singleton.mpr rfl⟩
  | n + 1, ns, h, hk => by
    have hne : ns ≠ [] := fun z => by rw [z] at h; simp at h
    obtain ⟨ns', k, rfl⟩ : ∃ ns' k, ns = ns' ++ [k] := ⟨_, _, (List.dropLast_concat_getLast hne).symm⟩
    rw [List.length_append] at h
    obtain ⟨w, hw⟩ := Rn_all (n := n) (ns := ns') (by simpa using h) fun y hy => hk y (by simp [hy])
    have ok := hk k (by simp)
    exact ⟨w * wgt mv k, List.mem_flatMap.mpr ⟨_, hw, List.mem_map.mpr ⟨k, rg_mem.mpr ⟨ok.1, ok.2⟩, rfl⟩⟩⟩
theorem ev_ge {g : List Int → Int} (hg : ∀ f, 0 ≤ g f) : ∀ {L : KI} {p : List Int × Int}, (∀ r ∈ L, 1 ≤ r.2) → p ∈ L → g p.1 ≤ ev L g
  | [], _, _, h => by cases h
  | r :: L, p, hw, h => by
    have h0 : ∀ L : KI, (∀ r ∈ L, 1 ≤ r.2) → 0 ≤ ev L g := fun L => by
      induction L with
      | nil => intro _; exact Int.le_refl _
      | cons a L ih =>
        intro h
        rw [ev_cons]
        have := Int.mul_nonneg (hg a.1) (by have := h a (by simp); omega : 0 ≤ a.2)
        have := ih fun r hr => h r (by simp [hr])
        omega
    rw [ev_cons]
    rcases List.mem_cons.mp h with rfl | h
    · have h1 := h0 L fun r hr => hw r (by simp [hr])
      have h2 := Int.mul_le_mul_of_nonneg_left (hw p (by simp)) (hg p.1)
      omega
    · have h1 := ev_ge hg (fun r hr => hw r (by simp [hr])) h
      have := Int.mul_nonneg (hg r.1) (by have := hw r (by simp); omega : 0 ≤ r.2)
      omega
theorem cs_pos {many : Int} {mv : List (Int × List Int)} (c : Ch many mv) {ns : List Int} (hn : ∀ n ∈ ns, NumOk mv n) {y : Nat} (hy : y < many.toNat) (h : ∀ q, 0 ≤ q → q < many → Wk mv ns q = (y : Int)) : 0 < cs many mv ns.length many.toNat := by
  unfold cs
  rw [← ev_Rn c]
  obtain ⟨w, hw⟩ := Rn_all (mv := mv) (n := ns.length) (ns := ns.reverse) (by simp) fun k hk => hn k (by simpa using hk)
  have h0 : ∀ f, 0 ≤ (fun ns => isCk many many.toNat (cmp many mv ns)) f := fun f => by
    rcases isCk_one c.m1 (cmp many mv f) many.toNat with h | ⟨h, _⟩
    · show 0 ≤ isCk _ _ _; omega
    · show 0 ≤ isCk _ _ _; omega
  have hge := ev_ge h0 (fun r hr => Rn_w c hr) hw
  have e : cmp many mv ns.reverse = List.replicate many.toNat (y : Int) := by
    unfold cmp ends
    rw [List.take_length, List.reverse_reverse]
    apply List.eq_replicate_iff.mpr
    refine ⟨by rw [List.length_map, rg_len], fun b hb => ?_⟩
    obtain ⟨q, hq, rfl⟩ := List.mem_map.mp hb
    have := rg_mem.mp hq
    exact h q this.1 this.2
  have h1 := isC_le_Ck c.m1 (cmp many mv ns.reverse) (p := y) many.toNat hy
  have h2 : isC many (y : Int) (cmp many mv ns.reverse) = 1 := by unfold isC; rw [if_pos e]
  have h3 : isCk many many.toNat (cmp many mv ns.reverse) ≤ ev (Rn mv ns.length) fun ns => isCk many many.toNat (cmp many mv ns) := hge
  omega
theorem sum_whl {many : Int} {mv : List (Int × List Int)} (c : Ch many mv) (n : Nat) : ((Rn mv n).map (·.2)).sum = whl many mv n := by
  rw [← ev_one]
  exact ev_Rn c n fun _ => 1
theorem Dn_bnd {mv : List (Int × List Int)} {o q : Int} : ∀ {L : KI}, (∀ p ∈ L, 1 ≤ p.2) → 0 ≤ Dn mv L o q ∧ Dn mv L o q ≤ (L.map (·.2)).sum
  | [], _ => ⟨Int.le_refl _, Int.le_refl _⟩
  | p :: L, h => by
    obtain ⟨h1, h2⟩ := Dn_bnd (mv := mv) (o := o) (q := q) fun r hr => h r (List.mem_cons_of_mem _ hr)
    have := h p (by simp)
    rw [Dn_cons, List.map_cons, List.sum_cons]
    split <;> omega
/-- law -/
def rwD (p : List Int × Int) : D := .tup [.lst (p.1.map .int), .int p.2]
theorem flat_rwL (n : Nat) (x : Nat → Rat) : Flat 2 (rwL n x) := .lst fun d hd => by
  obtain ⟨j, _, rfl⟩ := List.mem_map.mp hd
  exact frD_flat _
theorem frD_inj {p q : Rat} (h : frD p = frD q) : p = q := by
  injection h with h
  injection h with h1 h2
  injection h2 with h2 _
  injection h1 with h1
  injection h2 with h2
  exact Rat.ext h1 (by exact_mod_cast h2)
theorem strs_flat : Flat 0 (.str "row") ∧ Flat 0 (.str "apart") := ⟨.str _ (by decide +kernel), .str _ (by decide +kernel)⟩
/-- the counts on the way -/
def cvF (mv : List (Int × List Int)) (x : Nat → Rat) (n W : Nat) (L : KI) (ns : List Int) (w : Int) (j : Nat) : Nat → Rat := fun q => rs (fun o => x o * mkRat (Dn mv L (o : Int) (q : Int) + (if o < j ∧ Wk mv ns (o : Int) = (q : Int) then w else 0)) W) n
theorem cvF_zero (mv : List (Int × List Int)) (x : Nat → Rat) (n W : Nat) (L : KI) (ns : List Int) (w : Int) : cvF mv x n W L ns w 0 = fun q : Nat => rs (fun o => x o * mkRat (Dn mv L (o : Int) (q : Int)) W) n := by
  funext q
  unfold cvF
  refine rs_congr fun o _ => ?_
  rw [if_neg (fun h => absurd h.1 (Nat.not_lt_zero o)), Int.add_zero]
theorem cvF_full {mv : List (Int × List Int)} {x : Nat → Rat} {n W : Nat} {L : KI} {i : Nat} {p : List Int × Int} (h : L[i]? = some p) : cvF mv x n W (L.take i) p.1 p.2 n = fun q : Nat => rs (fun o => x o * mkRat (Dn mv (L.take (i + 1)) (o : Int) (q : Int)) W) n := by
  funext q
  unfold cvF
  refine rs_congr fun o ho => ?_
  rw [Dn_take h]
  congr 3
  by_cases z : Wk mv p.1 (o : Int) = (q : Int)
  · rw [if_pos ⟨ho, z⟩, if_pos z]
  · rw [if_neg (fun h => z h.2), if_neg z]
theorem cvF_step {mv : List (Int × List Int)} {x : Nat → Rat} {n W : Nat} {L : KI} {ns : List Int} {w : Int} {j q : Nat} (hj : j < n) (hW : W ≠ 0) (hq : Wk mv ns (j : Int) = (q : Int)) : cvF mv x n W L ns w (j + 1) q = cvF mv x n W L ns w j q + x j * mkRat w W := by
  unfold cvF
  rw [← cv_add hj hW]
  refine rs_congr fun o _ => ?_
  congr 2
  rw [Int.add_assoc]
  congr 1
  by_cases z : j = o
  · subst z
    rw [if_pos ⟨Nat.lt_succ_self j, hq⟩, if_neg (fun h => absurd h.1 (Nat.lt_irrefl j)), if_pos rfl, Int.zero_add]
  · rw [if_neg z, Int.add_zero]
    by_cases z2 : o < j ∧ Wk mv ns (o : Int) = (q : Int)
    · rw [if_pos z2, if_pos ⟨by omega, z2.2⟩]
    · rw [if_neg z2, if_neg (fun h => z2 ⟨by omega, h.2⟩)]
theorem cvF_other {mv : List (Int × List Int)} {x : Nat → Rat} {n W : Nat} {L : KI} {ns : List Int} {w : Int} {j q : Nat} (hq : Wk mv ns (j : Int) ≠ (q : Int)) : cvF mv x n W L ns w (j + 1) q = cvF mv x n W L ns w j q := by
  unfold cvF
  refine rs_congr fun o _ => ?_
  congr 3
  by_cases z : j = o
  · subst z
    rw [if_neg (fun h => hq h.2), if_neg (fun h => hq h.2)]
  · by_cases z2 : o < j ∧ Wk mv ns (o : Int) = (q : Int)
    · rw [if_pos z2, if_pos ⟨by omega, z2.2⟩]
    · rw [if_neg z2, if_neg (fun h => z2 ⟨by omega, h.2⟩)]
theorem sum_take_le : ∀ {L : KI} (k : Nat), (∀ p ∈ L, 1 ≤ p.2) → ((L.take k).map (·.2)).sum ≤ (L.map (·.2)).sum
  | [], _, _ => by simp
  | p :: L, 0, h => by
    have h0 := sum_take_le (L := L) 0 fun r hr => h r (List.mem_cons_of_mem _ hr)
    have := h p (by simp)
    rw [List.take_zero] at h0 ⊢
    rw [List.map_cons, List.sum_cons]
    have h0 : (0 : Int) ≤ (L.map (·.2)).sum := h0
    show (0 : Int) ≤ _
    omega
  | p :: L, k + 1, h => by
    have h0 := sum_take_le (L := L) k fun r hr => h r (List.mem_cons_of_mem _ hr)
    rw [List.take_succ_cons, List.map_cons, List.map_cons, List.sum_cons, List.sum_cons]
    omega
theorem cvF_bnd {many : Int} {mv : List (Int × List Int)} (c : Ch many mv) {N i : Nat} {p : List Int × Int} (h : (Rn mv N)[i]? = some p) (j o : Nat) (q : Int) : 0 ≤ Dn mv ((Rn mv N).take i) (o : Int) q + (if o < j ∧ Wk mv p.1 (o : Int) = q then p.2 else 0) ∧ Dn mv ((Rn mv N).take i) (o : Int) q + (if o < j ∧ Wk mv p.1 (o : Int) = q then p.2 else 0) ≤ whl many mv N := by
  have hw : ∀ p ∈ Rn mv N, 1 ≤ p.2 := fun p hp => Rn_w c hp
  have h1 := Dn_bnd (mv := mv) (o := (o : Int)) (q := q) (L := (Rn mv N).take i) fun r hr => hw r (List.mem_of_mem_take hr)
  have h2 := Dn_bnd (mv := mv) (o := (o : Int)) (q := q) (L := (Rn mv N).take (i + 1)) fun r hr => hw r (List.mem_of_mem_take hr)
  have h3 := sum_take_le i hw
  have h4 := sum_take_le (i + 1) hw
  rw [sum_whl c] at h3 h4
  rw [Dn_take h] at h2
  have hp := hw p (List.mem_of_getElem? h)
  by_cases z : Wk mv p.1 (o : Int) = q
  · rw [if_pos z] at h2
    split <;> omega
  · rw [if_neg (fun h => z h.2)]
    omega
theorem whl_small {many : Int} {mv : List (Int × List Int)} (c : Ch many mv) {N : Nat} (hN : N ≤ 4) : ∃ W : Nat, whl many mv N = (W : Int) ∧ W ≠ 0 ∧ W ≤ 2 ^ 40 := by
  obtain ⟨w1, w2⟩ := wsum_pos c
  obtain ⟨v, hv⟩ : ∃ v : Nat, wsum mv = v := ⟨(wsum mv).toNat, by omega⟩
  refine ⟨v ^ N, by rw [whl_pow, hv, Int.natCast_pow], ?_, ?_⟩
  · have : 0 < v ^ N := Nat.pow_pos (by omega)
    omega
  · exact Nat.le_trans (Nat.pow_le_pow_left (by omega : v ≤ 792) N) (Nat.le_trans (Nat.pow_le_pow_right (by decide) hN) (by decide))
theorem ok_law (T : Tx K mg) : FnOk P w K mg base (L2.CX P w) 6 T.a_law T.d_law ["_law_script"] (SpJ K spLaw) := by
  refine jfn T.F_law z_law zo_law zf_law spLaw (fun as R RX h => ?_) (fun X B E as R RX cj hE h => ?_)
  · obtain ⟨_, rfl, _⟩ := h; rfl
  obtain ⟨s, rfl, hs, hR⟩ := h
  show JSs X B _ [.fz (.kls (s.map .int)), .no, .no, .no, .no, .no, .no, .no, .no, .no, .no, .no, .no, .no, .no, .no, .no, .no] _
  refine JSs.cons (js_set cj 1 (je_callG cj (ok__law_chain T) (by decide) 0 T.g__law_chain T.F__law_chain.kp T.b__law_chain ?_))
  refine je_call0 cj (ok__law_dice T) (by decide) 1 T.g__law_dice T.F__law_dice.kp T.b__law_dice ?_
  refine JD.cons (jv_name cj 0 (JD.cons (jv_int (JD.nil ⟨s, _, rfl, by decide, hs, fun o ho => ⟨_, rfl, ?_⟩⟩))))
  refine JD.cons (jv_int (JD.nil ⟨s, o, _, rfl, ho, hs, by decide, by decide, fun many mv o' hc _ hm5 => ?_⟩))
  clear ho
  have m1 := hc.m1
  have m2 := hc.m2
  have l1 := hc.l1
  have l2 := hc.l2
  have m5 : many ≤ 5 := by omega
  have cl : (clF many mv).length ≤ 6 := by have := @clTo_len many mv many.toNat; unfold clF; omega
  refine JSs.cons ?_
  refine js_set cj 2 (je_call0 cj (ok__law_made T) (by decide) 2 T.g__law_made T.F__law_made.kp T.b__law_made (JD.cons (jv_name cj 1 (JD.nil ⟨many, mv, rfl, fun _ => ?_, fun h => absurd hc h⟩))))
  refine JSs.freeze 2 rfl rfl ?_
  refine JSs.cons ?_
  refine JS.ite (jt_gt (jv_len cj 3 T.z_len (JE.jv (je_call0 cj (ok_closed T) (by decide) 4 T.g_closed T.F_closed.kp T.b_closed (JD.cons (jv_name cj 2 (JD.nil ⟨many, mv, rfl, hc, _, .lst, jv_int ⟨_, _, rfl, rfl, fun hb => ?_, fun hb => JSs.nil ?_⟩⟩)))))))
  · exact JSs.one (JS.ret (JV.je (jv_bl hR)))
  have hb := of_decide_eq_false hb
  unfold loD at hb
  rw [List.length_map] at hb
  have hl : (clF many mv).length ≤ 1 := by omega
  obtain ⟨n, hn⟩ : ∃ n : Nat, many = (n : Int) := ⟨many.toNat, by omega⟩
  have hnt : many.toNat = n := by omega
  refine JSs.cons ?_
  refine js_set cj 3 (je_call0 cj (ok_own T) (by decide) 5 T.g_own T.F_own.kp T.b_own ?_)
  refine JD.cons (jv_name cj 2 (JD.nil ⟨many, mv, rfl, hc, fun z => absurd z (by omega), fun _ x ow hd hsm => ?_⟩))
  have eqx : rwL many.toNat x = .lst (((List.range many.toNat).map x).map frD) := by unfold rwL; rw [List.map_map]; rfl
  have nn := ow.nonneg hc hl
  show JSs X B _ [.fz (.kls (s.map .int)), .fz (toldD many mv), .fz (chD T.C_Chain many mv), .fz (rwL many.toNat x), .no, .no, .no, .no, .no, .no, .no, .no, .no, .no, .no, .no, .no, .no] _
  refine JSs.cons ?_
  refine JS.ite (jt_not (jt_val (JE.jv (je_call0 cj (ok__law_are_shares T) (by decide) 6 T.g__law_are_shares T.F__law_are_shares.kp T.b__law_are_shares ?_))))
  have er : rsum ((List.range many.toNat).map x) = 1 := by
    have := rsum_range x many.toNat many.toNat (Nat.le_refl _)
    rw [List.take_of_length_le (by rw [List.length_map, List.length_range]; omega)] at this
    rw [this, ow.one]
  refine JD.cons (jv_name cj 3 (JD.cons (jv_ix (jv_name cj 1 (jv_int ⟨_, _, D.int many, .tup, rfl, rfl, JD.nil ⟨(List.range many.toNat).map x, many, by rw [← eqx]; rfl, ?_, ?_, fun k hk => ?_, fun q hq => ?_, er, _, rfl, fun z => absurd z (by decide), fun _ => JSs.nil ?_⟩⟩)))))
  · rw [List.length_map, List.length_range]; omega
  · rw [List.length_map, List.length_range]; omega
  · rw [List.length_map, List.length_range] at hk
    rw [rsum_range x _ k hk]
    exact ow.part hc hl hd hk
  · obtain ⟨j, hj, rfl⟩ := List.mem_map.mp hq
    have := List.mem_range.mp hj
    exact ⟨hsm j this, nn j this⟩
  -- the rows
  refine JSs.cons ?_
  refine js_set cj 4 (je_lst (JD.cons (jv_tup (JD.cons (JE.jv (je_lst (JD.nil ⟨lz rfl, ?_⟩)))))))
  refine JD.cons (jv_int (JD.nil ⟨lz rfl, JD.nil ⟨lz rfl, ?_⟩⟩))
  refine JSs.freeze 4 rfl rfl ?_
  show JSs X B _ [.fz (.kls (s.map .int)), .fz (toldD many mv), .fz (chD T.C_Chain many mv), .fz (rwL many.toNat x), .fz (.lst ((Rn mv 0).map rwD)), .no, .no, .no, .no, .no, .no, .no, .no, .no, .no, .no, .no, .no] _
  refine JSs.mid (fun G => ∃ (N : Nat) (a5 a6 a7 a8 a9 : Ent), N ≤ 4 ∧ mv.length ^ N ≤ 1000 ∧ G = [.fz (.kls (s.map .int)), .fz (toldD many mv), .fz (chD T.C_Chain many mv), .fz (rwL many.toNat x), .fz (.lst ((Rn mv N).map rwD)), a5, a6, a7, a8, a9, .no, .no, .no, .no, .no, .no, .no, .no]) ?_ ?_
  · refine js_for cj (ji_range1 cj 7 T.z_range (jv_mod (jv_abs cj 8 T.z_abs (JE.jv (je_call0 cj (ok__law_cell T) (by decide) 9 T.g__law_cell T.F__law_cell.kp T.b__law_cell ?_)))))
    refine JD.cons (jv_name cj 0 (JD.cons (jv_int (JD.nil ⟨s, _, rfl, by decide, hs, fun r => ⟨_, rfl, jv_ix (JE.jv (je_lst ?_))⟩⟩))))
    refine JD.cons (jv_int (JD.cons (jv_int (JD.cons (jv_int (JD.cons (jv_int (JD.cons (jv_int (JD.cons (jv_int (JD.cons (jv_int (JD.cons (jv_int (JD.cons (jv_int (JD.nil ⟨lz rfl, ?_⟩))))))))))))))))))
    refine jv_len cj 3 T.z_len (jv_ix (jv_name cj 1 (jv_int ⟨_, _, D.lst (mv.map mvD), .tup, rfl, rfl, _, .lst, ?_⟩)))
    rw [List.length_map]
    obtain ⟨b, eb, hb⟩ : ∃ b : Int, atI [D.int 5, .int 5, .int 5, .int 5, .int 5, .int 5, .int 4, .int 4, .int 4] ((mv.length : Nat) : Int) = some (.int b) ∧ b = ([5, 5, 5, 5, 5, 5, 4, 4, 4] : List Int).getD mv.length 0 := by
      have hl : mv.length < 9 := by omega
      refine ⟨_, at_nat (ds := ([5, 5, 5, 5, 5, 5, 4, 4, 4] : List Int).map D.int) (d := .int (([5, 5, 5, 5, 5, 5, 4, 4, 4] : List Int).getD mv.length 0)) ?_, rfl⟩
      rw [List.getElem?_map, List.getD_eq_getElem?_getD, List.getElem?_eq_getElem (by simpa using hl)]; rfl
    have hb2 : 1 ≤ b ∧ b ≤ 5 ∧ ∀ N : Nat, (N : Int) < b → mv.length ^ N ≤ 1000 := by
      have key : ∀ k : Nat, 1 ≤ k → k ≤ 8 → 1 ≤ ([5, 5, 5, 5, 5, 5, 4, 4, 4] : List Int).getD k 0 ∧ ([5, 5, 5, 5, 5, 5, 4, 4, 4] : List Int).getD k 0 ≤ 5 ∧ ∀ N : Nat, (N : Int) < ([5, 5, 5, 5, 5, 5, 4, 4, 4] : List Int).getD k 0 → k ^ N ≤ 1000 := fun k k1 k2 => by
        have h5 : k ≤ 5 → (([5, 5, 5, 5, 5, 5, 4, 4, 4] : List Int).getD k 0 = 5) := fun h => by
          match k, k1, h with
          | 1, _, _ => rfl
          | 2, _, _ => rfl
          | 3, _, _ => rfl
          | 4, _, _ => rfl
          | 5, _, _ => rfl
        have h8 : 6 ≤ k → (([5, 5, 5, 5, 5, 5, 4, 4, 4] : List Int).getD k 0 = 4) := fun h => by
          match k, k2, h with
          | 6, _, _ => rfl
          | 7, _, _ => rfl
          | 8, _, _ => rfl
        by_cases h : k ≤ 5
        · rw [h5 h]
          refine ⟨by decide, by decide, fun N hN => ?_⟩
          exact Nat.le_trans (Nat.pow_le_pow_left h N) (Nat.le_trans (Nat.pow_le_pow_right (by decide) (by omega : N ≤ 4)) (by decide))
        · rw [h8 (by omega)]
          refine ⟨by decide, by decide, fun N hN => ?_⟩
          exact Nat.le_trans (Nat.pow_le_pow_left k2 N) (Nat.le_trans (Nat.pow_le_pow_right (by decide) (by omega : N ≤ 3)) (by decide))
      rw [hb]
      exact key mv.length (by omega) l2
    obtain ⟨b1, b2, b3⟩ := hb2
    refine ⟨_, _, _, .lst, rfl, eb, ?_⟩
    obtain ⟨ar, har⟩ : ∃ ar : Int, (if r < 0 then -r else r) = ar := ⟨_, rfl⟩
    rw [har]
    have r1 := Int.emod_nonneg ar (by omega : b ≠ 0)
    have r2 := Int.emod_lt_of_pos ar (by omega : 0 < b)
    refine ⟨_, _, rfl, rfl, by omega, ar % b, rfl, ?_, ?_, fun t G => ∃ a5 a6 a7 a8 a9, G = [.fz (.kls (s.map .int)), .fz (toldD many mv), .fz (chD T.C_Chain many mv), .fz (rwL many.toNat x), .fz (.lst ((Rn mv t).map rwD)), a5, a6, a7, a8, a9, .no, .no, .no, .no, .no, .no, .no, .no], ⟨_, _, _, _, _, rfl⟩, fun t d G ht hd hI => ?_, fun G hI => ?_⟩
    · omega
    · omega
    · obtain ⟨a5, a6, a7, a8, a9, rfl⟩ := hI
      have hp : mv.length ^ (t + 1) ≤ 1000 := b3 (t + 1) (by omega)
      have htn : t ≤ 4 := by omega
      refine JG.name cj 5 ?_
      refine JSs.cons ?_
      refine js_set cj 6 (je_lst (JD.nil ⟨lz rfl, ?_⟩))
      refine JSs.cons ?_
      refine js_for cj (ji_seq (jv_name cj 4 ⟨_, .inl rfl, fun i G => ∃ a7 a8 a9, G = [.fz (.kls (s.map .int)), .fz (toldD many mv), .fz (chD T.C_Chain many mv), .fz (rwL many.toNat x), .fz (.lst ((Rn mv t).map rwD)), .fz d, .ow (.lst ((((Rn mv t).take i).flatMap (Rstep mv)).map rwD)), a7, a8, a9, .no, .no, .no, .no, .no, .no, .no, .no], ⟨a7, a8, a9, rfl⟩, fun i d2 G hi hd2 hI => ?_, fun G hI => ?_⟩))
      · obtain ⟨a7, a8, a9, rfl⟩ := hI
        obtain ⟨⟨ns, wt⟩, hq, rfl⟩ := map_get hd2
        rw [List.length_map] at hi
        obtain ⟨k1, k2⟩ := Rn_ok (List.mem_of_getElem? hq)
        have k1 : ns.length = t := k1
        have big : (((Rn mv t).take i).flatMap (Rstep mv)).length + mv.length ≤ 100000 := by
          have e : (((Rn mv t).take (i + 1)).flatMap (Rstep mv)).length = (((Rn mv t).take i).flatMap (Rstep mv)).length + mv.length := by
            rw [List.take_add_one, hq, List.flatMap_append, List.length_append]
            simp [Rstep_len]
          have e2 : (((Rn mv t).take (i + 1)).flatMap (Rstep mv)).length ≤ (Rn mv (t + 1)).length := by
            show _ ≤ ((Rn mv t).flatMap (Rstep mv)).length
            conv => rhs; rw [← List.take_append_drop (i + 1) (Rn mv t)]
            rw [List.flatMap_append, List.length_append]; omega
          rw [Rn_len] at e2
          omega
        refine JG.tup cj (JGs.cons (JG.name cj 7 (JGs.cons (JG.name cj 8 (JGs.nil ?_)))))
        refine JSs.one ?_
        refine js_for cj (ji_range1 cj 7 T.z_range (jv_len cj 3 T.z_len (jv_ix (jv_name cj 1 (jv_int ⟨_, _, D.lst (mv.map mvD), .tup, rfl, rfl, _, .lst, _, rfl, ?_, ?_, fun j G => ∃ a9, G = [.fz (.kls (s.map .int)), .fz (toldD many mv), .fz (chD T.C_Chain many mv), .fz (rwL many.toNat x), .fz (.lst ((Rn mv t).map rwD)), .fz d, .ow (.lst ((((Rn mv t).take i).flatMap (Rstep mv) ++ (Rstep mv (ns, wt)).take j).map rwD)), .fz (.lst (ns.map .int)), .fz (.int wt), a9, .no, .no, .no, .no, .no, .no, .no, .no], ⟨a9, ?_⟩, fun j d3 G hj hd3 hI => ?_, fun G hI => ?_⟩)))))
        · rw [List.length_map]; omega
        · rw [List.length_map]; omega
        · rw [List.take_zero, List.append_nil]; rfl
        · obtain ⟨a9, rfl⟩ := hI
          have hd3 : d3 = .int ((j : Nat) : Int) := hd3.trans (by rw [Int.zero_add])
          subst hd3
          have hj : j < mv.length := by rw [List.length_map] at hj; omega
          have hg : mv[j]? = some mv[j] := List.getElem?_eq_getElem hj
          have w1 := (hc.mv _ (List.mem_of_getElem? hg)).1.1
          have w2 := (hc.mv _ (List.mem_of_getElem? hg)).1.2
          refine JG.name cj 9 ?_
          refine JSs.one ?_
          refine js_append cj 6 (jv_tup ?_)
          refine JD.cons (JE.jv (je_cat (jv_name cj 7 (JE.jv (je_lst (JD.cons (jv_name cj 9 (JD.nil ⟨lz rfl, _, _, rfl, rfl, ?_, ?_⟩))))))))
          · rw [List.length_map]; unfold sizeLine; simp; omega
          refine JD.cons (jv_mul (jv_name cj 8 (jv_ix (jv_ix (jv_ix (jv_name cj 1 (jv_int ⟨_, _, D.lst (mv.map mvD), .tup, rfl, rfl, jv_name cj 9 ⟨_, _, _, .lst, rfl, at_mapN hg, jv_int ⟨_, _, D.int mv[j].1, .tup, rfl, rfl, wt, mv[j].1, rfl, rfl, .inr ⟨?_, ?_⟩, ?_⟩⟩⟩)))))))
          · omega
          · omega
          refine JD.nil ⟨lz rfl, _, rfl, ?_, ?_⟩
          · rw [List.length_map, List.length_append, List.length_take, Rstep_len]; unfold sizeLine; omega
          have hs2 : (Rstep mv (ns, wt))[j]? = some (ns ++ [(j : Int)], wt * mv[j].1) := by
            unfold Rstep
            rw [List.getElem?_map, rg_get (by omega)]
            simp [wgt, List.getD_eq_getElem?_getD, hg]
          refine ⟨.fz (.int ((j : Nat) : Int)), ?_⟩
          rw [List.take_add_one, hs2, ← List.append_assoc, List.map_append (l₂ := (some (ns ++ [(j : Int)], wt * mv[j].1)).toList)]
          have er : rwD (ns ++ [(j : Int)], wt * mv[j].1) = .tup [.lst (ns.map .int ++ [.int (j : Int)]), .int (wt * mv[j].1)] := by
            unfold rwD; rw [List.map_append]; rfl
          show _ = [_, _, _, _, _, _, Ent.ow (.lst (_ ++ [rwD (ns ++ [(j : Int)], wt * mv[j].1)])), _, _, _, _, _, _, _, _, _, _, _]
          rw [er]; rfl
        · obtain ⟨a9, rfl⟩ := hI
          refine ⟨.fz (.lst (ns.map .int)), .fz (.int wt), a9, ?_⟩
          have e1 : (Rstep mv (ns, wt)).take ((List.map mvD mv).length : Int).toNat = Rstep mv (ns, wt) := by
            rw [List.length_map, Int.toNat_natCast, ← Rstep_len mv (ns, wt), List.take_length]
          rw [e1, List.take_add_one, hq, List.flatMap_append]
          have e2 : (some (ns, wt)).toList.flatMap (Rstep mv) = Rstep mv (ns, wt) := by simp
          rw [e2]
      · obtain ⟨a7, a8, a9, rfl⟩ := hI
        rw [List.length_map, List.take_length]
        refine JSs.one ?_
        refine js_set cj 4 (JV.je (jv_nameF cj 6 ?_))
        exact ⟨_, _, _, _, _, rfl⟩
    · obtain ⟨a5, a6, a7, a8, a9, rfl⟩ := hI
      exact ⟨_, _, _, _, _, _, by omega, b3 _ (by omega), rfl⟩
  rintro G ⟨N, a5, a6, a7, a8, a9, hN4, hNp, rfl⟩
  refine JSs.forget 5 (JSs.forget 6 (JSs.forget 7 (JSs.forget 8 (JSs.forget 9 ?_))))
  show JSs X B _ [.fz (.kls (s.map .int)), .fz (toldD many mv), .fz (chD T.C_Chain many mv), .fz (rwL many.toNat x), .fz (.lst ((Rn mv N).map rwD)), .no, .no, .no, .no, .no, .no, .no, .no, .no, .no, .no, .no, .no] _
  have RL : (Rn mv N).length ≤ 1000 := by rw [Rn_len]; exact hNp
  refine JSs.cons ?_
  refine js_set cj 10 (JV.je (jv_sum cj 10 T.z_sum (JE.jv ?_)))
  refine je_lcB cj [7, 8] [7, 8] [] [("_law_numbers_here", 7), ("_law_weight", 8)] (ji_seq (jv_name cj 4 ⟨_, .inl rfl, ?_⟩))
  refine LcI.map (fun i d => ∀ p, (Rn mv N)[i]? = some p → d = .int p.2) ?_ (fun G => G = [.fz (.kls (s.map .int)), .fz (toldD many mv), .fz (chD T.C_Chain many mv), .fz (rwL many.toNat x), .fz (.lst ((Rn mv N).map rwD)), .no, .no, .no, .no, .no, .no, .no, .no, .no, .no, .no, .no, .no]) rfl (fun j d G2 hj hd hI X1 c1 => ?_) fun acc G2 hacc hv hI => ?_
  · rw [List.length_map]; unfold sizeLine; omega
  · subst hI
    obtain ⟨p, hp, rfl⟩ := map_get hd
    refine JG.tup c1 (JGs.cons (JG.name c1 7 (JGs.cons (JG.name c1 8 (JGs.nil fun X3 c3 => ?_)))))
    refine jv_name c3 8 ⟨fun q hq => ?_, rfl⟩
    rw [hp] at hq; cases hq; rfl
  subst hI
  rw [List.length_map] at hacc
  have eacc : acc = ((Rn mv N).map (·.2)).map D.int := by
    rw [List.map_map]
    apply List.ext_getElem?
    intro i
    by_cases hi : i < (Rn mv N).length
    · have hlt : i < acc.length := by omega
      rw [List.getElem?_map, List.getElem?_eq_getElem hi, List.getElem?_eq_getElem hlt]
      rw [hv i _ (List.getElem?_eq_getElem hlt) _ (List.getElem?_eq_getElem hi)]; rfl
    · rw [List.getElem?_eq_none (by omega), List.getElem?_eq_none (by simp; omega)]
  subst eacc
  refine ⟨(Rn mv N).map (·.2), rfl, ?_⟩
  rw [sum_whl hc]
  obtain ⟨W, eW, hW, hW2⟩ := whl_small hc hN4
  rw [eW]
  show JSs X B _ [.fz (.kls (s.map .int)), .fz (toldD many mv), .fz (chD T.C_Chain many mv), .fz (rwL many.toNat x), .fz (.lst ((Rn mv N).map rwD)), .no, .no, .no, .no, .no, .fz (.int ((W : Nat) : Int)), .no, .no, .no, .no, .no, .no, .no] _
  refine JSs.cons ?_
  refine js_set cj 11 (je_rep (JE.jv (je_lst (JD.cons (jv_tup (JD.cons (jv_int (JD.cons (jv_int (JD.nil ⟨lz rfl, JD.nil ⟨lz rfl, ?_⟩⟩))))))))))
  refine jv_ix (jv_name cj 1 (jv_int ⟨_, _, D.int many, .tup, rfl, rfl, [frD 0], many, rfl, rfl, ?_, ?_, ?_, ?_⟩))
  · omega
  · omega
  · show 1 * many.toNat ≤ sizeLine
    unfold sizeLine; omega
  have e0 : (List.replicate many.toNat [frD 0]).flatten = (List.range many.toNat).map fun q : Nat => frD (rs (fun o => x o * mkRat (Dn mv ((Rn mv N).take 0) (o : Int) (q : Int)) W) many.toNat) := by
    rw [List.flatten_replicate_singleton]
    symm
    apply List.eq_replicate_iff.mpr
    refine ⟨by rw [List.length_map, List.length_range], fun b hb => ?_⟩
    obtain ⟨q, _, rfl⟩ := List.mem_map.mp hb
    rw [rs_zero fun o _ => ?_]
    show x o * mkRat 0 W = 0
    rw [Rat.zero_mkRat]; grind
  rw [e0]
  show JSs X B _ [.fz (.kls (s.map .int)), .fz (toldD many mv), .fz (chD T.C_Chain many mv), .fz (rwL many.toNat x), .fz (.lst ((Rn mv N).map rwD)), .no, .no, .no, .no, .no, .fz (.int ((W : Nat) : Int)), .ow (.lst ((List.range many.toNat).map fun q : Nat => frD (rs (fun o => x o * mkRat (Dn mv ((Rn mv N).take 0) (o : Int) (q : Int)) W) many.toNat))), .no, .no, .no, .no, .no, .no] _
  refine JSs.cons ?_
  refine js_for cj (ji_seq (jv_name cj 4 ⟨_, .inl rfl, fun i G => ∃ a7 a8 a12 a13 a14, G = [.fz (.kls (s.map .int)), .fz (toldD many mv), .fz (chD T.C_Chain many mv), .fz (rwL many.toNat x), .fz (.lst ((Rn mv N).map rwD)), .no, .no, a7, a8, .no, .fz (.int ((W : Nat) : Int)), .ow (.lst ((List.range many.toNat).map fun q : Nat => frD (rs (fun o => x o * mkRat (Dn mv ((Rn mv N).take i) (o : Int) (q : Int)) W) many.toNat))), a12, a13, a14, .no, .no, .no], ⟨_, _, _, _, _, rfl⟩, fun i d G hi hd1 hI => ?_, fun G hI => ?_⟩))
  · obtain ⟨a7, a8, a12, a13, a14, rfl⟩ := hI
    obtain ⟨⟨ns, wt⟩, hq, rfl⟩ := map_get hd1
    obtain ⟨k1, k2⟩ := Rn_ok (List.mem_of_getElem? hq)
    have k1 : ns.length = N := k1
    have wt1 : 1 ≤ wt := Rn_w hc (List.mem_of_getElem? hq)
    have wtW : wt ≤ (W : Int) := by
      have := (cvF_bnd hc hq 1 0 (Wk mv ns ((0 : Nat) : Int))).2
      have h2 := (Dn_bnd (mv := mv) (o := ((0 : Nat) : Int)) (q := Wk mv ns ((0 : Nat) : Int)) (L := (Rn mv N).take i) fun r hr => Rn_w hc (List.mem_of_mem_take hr)).1
      rw [if_pos ⟨by decide, rfl⟩, eW] at this
      have this : _ + wt ≤ _ := this
      omega
    have smw : Sm (mkRat wt W) := by
      have := SmW (a := wt) (b := (W : Int)) (by omega) (Nat.lt_of_le_of_lt (by omega : ((W : Int)).natAbs ≤ 2 ^ 40) (Nat.pow_lt_pow_right (by decide) (by decide))) (Nat.lt_of_le_of_lt (by omega : wt.natAbs ≤ 2 ^ 40) (Nat.pow_lt_pow_right (by decide) (by decide)))
      rwa [Int.toNat_natCast] at this
    refine JG.tup cj (JGs.cons (JG.name cj 7 (JGs.cons (JG.name cj 8 (JGs.nil ?_)))))
    refine JSs.cons ?_
    refine js_set cj 12 (je_call0 cj (ok__law_ends T) (by decide) 11 T.g__law_ends T.F__law_ends.kp T.b__law_ends (JD.cons (jv_name cj 1 (JD.cons (jv_name cj 7 (JD.nil ⟨many, mv, ns, rfl, hc, k2, by omega, ?_⟩))))))
    have c0 := cvF_zero mv x many.toNat W ((Rn mv N).take i) ns wt
    refine JSs.one ?_
    refine js_for cj (ji_range1 cj 7 T.z_range (jv_ix (jv_name cj 1 (jv_int ⟨_, _, D.int many, .tup, rfl, rfl, many, rfl, ?_, ?_, fun j G => ∃ a13 a14, G = [.fz (.kls (s.map .int)), .fz (toldD many mv), .fz (chD T.C_Chain many mv), .fz (rwL many.toNat x), .fz (.lst ((Rn mv N).map rwD)), .no, .no, .fz (.lst (ns.map .int)), .fz (.int wt), .no, .fz (.int ((W : Nat) : Int)), .ow (.lst ((List.range many.toNat).map fun q => frD (cvF mv x many.toNat W ((Rn mv N).take i) ns wt j q))), .fz (.lst (((rg many).map (Wk mv ns)).map .int)), a13, a14, .no, .no, .no], ⟨a13, a14, ?_⟩, fun j d2 G hj hd2 hI => ?_, fun G hI => ?_⟩))))
    · omega
    · omega
    · rw [c0]; rfl
    · obtain ⟨a13, a14, rfl⟩ := hI
      have hd2 : d2 = .int ((j : Nat) : Int) := hd2.trans (by rw [Int.zero_add])
      subst hd2
      have hj : j < many.toNat := by omega
      have hwk := Wk_ok hc ns (j : Int) k2 (by omega) (by omega)
      obtain ⟨q0, hq0⟩ : ∃ q0 : Nat, Wk mv ns (j : Int) = (q0 : Int) := ⟨(Wk mv ns (j : Int)).toNat, by omega⟩
      have hq0n : q0 < many.toNat := by omega
      have hat : atI (((rg many).map (Wk mv ns)).map D.int) ((j : Nat) : Int) = some (.int ((q0 : Nat) : Int)) := at_nat (by rw [List.getElem?_map, List.getElem?_map, rg_get hj, ← hq0]; rfl)
      have hcb : ∀ q : Nat, Sm (cvF mv x many.toNat W ((Rn mv N).take i) ns wt j q) := fun q => cv_sm hc m5 hl ow hd (fun o _ => by
        have := cvF_bnd hc hq j o (q : Int)
        rw [eW] at this
        exact this) hW hW2
      have hxj := cv1_sm hc hl ow hd (a := wt) (W := W) (by omega) wtW hW hW2 hj
      have smx : Sm (x j * mkRat wt W) := by
        have := ow.le1 hc hl hj
        exact Sm01 (b := 743) (by decide) hxj.1 (by have := hxj.2.1; grind) hxj.2.2
      refine JG.name cj 13 ?_
      refine JSs.cons ?_
      refine js_set cj 14 (je_call0 cj (ok__law_times T) (by decide) 12 T.g__law_times T.F__law_times.kp T.b__law_times ?_)
      refine JD.cons (jv_ix (jv_name cj 3 (jv_name cj 13 ⟨_, _, _, .lst, rfl, at_nat (rwl_get (f := x) hj), ?_⟩)))
      refine JD.cons (JE.jv (je_call0 cj (ok__law_low T) (by decide) 13 T.g__law_low T.F__law_low.kp T.b__law_low ?_))
      refine JD.cons (jv_name cj 8 (JD.cons (jv_name cj 10 (JD.nil ⟨wt, (W : Int), rfl, by omega, Nat.lt_of_le_of_lt (by omega : ((W : Int)).natAbs ≤ 2 ^ 40) (Nat.pow_lt_pow_right (by decide) (by decide)), ?_⟩))))
      rw [Int.toNat_natCast]
      refine JD.nil ⟨x j, mkRat wt W, rfl, hsm j hj, smw, ?_⟩
      refine JSs.one ?_
      refine js_setix cj 11 (JE.jv (je_call0 cj (ok__law_add T) (by decide) 14 T.g__law_add T.F__law_add.kp T.b__law_add ?_))
      refine JD.cons (jv_ixO cj 11 (jv_ix (jv_name cj 12 (jv_name cj 13 ⟨_, _, _, .lst, rfl, hat, _, _, _, rfl, rfl, at_nat (by rw [List.getElem?_map, rng_get hq0n]; rfl), ?_⟩))))
      refine JD.cons (jv_name cj 14 (JD.nil ⟨cvF mv x many.toNat W ((Rn mv N).take i) ns wt j q0, x j * mkRat wt W, rfl, hcb q0, smx, ?_⟩))
      refine jv_ix (jv_name cj 12 (jv_name cj 13 ⟨_, _, _, .lst, rfl, hat, _, _, q0, rfl, rfl, ?_, ?_⟩))
      · rw [List.length_map, List.length_range]; exact (ixN_pos (by omega) (by omega)).trans (by rw [Int.toNat_natCast])
      refine ⟨.fz (.int ((j : Nat) : Int)), .fz (frD (x j * mkRat wt W)), ?_⟩
      have e2 : ((List.range many.toNat).map fun q => frD (cvF mv x many.toNat W ((Rn mv N).take i) ns wt j q)).set q0 (frD (cvF mv x many.toNat W ((Rn mv N).take i) ns wt j q0 + x j * mkRat wt W)) = (List.range many.toNat).map fun q => frD (cvF mv x many.toNat W ((Rn mv N).take i) ns wt (j + 1) q) := by
        have := rng_set (n := many.toNat) (i := q0) (f := fun q => frD (cvF mv x many.toNat W ((Rn mv N).take i) ns wt j q)) (g := fun q => frD (cvF mv x many.toNat W ((Rn mv N).take i) ns wt (j + 1) q)) hq0n fun q hne _ => by
          show frD _ = frD _
          rw [cvF_other]
          rw [hq0]; omega
        rw [← this, cvF_step hj hW hq0]
      rw [← e2]; rfl
    · obtain ⟨a13, a14, rfl⟩ := hI
      have ez : (many - 0).toNat = many.toNat := by rw [Int.sub_zero]
      refine ⟨.fz (.lst (ns.map .int)), .fz (.int wt), .fz (.lst (((rg many).map (Wk mv ns)).map .int)), a13, a14, ?_⟩
      have cf := cvF_full (mv := mv) (x := x) (n := many.toNat) (W := W) hq
      have cf : cvF mv x many.toNat W ((Rn mv N).take i) ns wt many.toNat = _ := cf
      rw [cf]
  obtain ⟨a7, a8, a12, a13, a14, rfl⟩ := hI
  rw [List.length_map, List.take_length]
  refine JSs.forget 7 (JSs.forget 8 (JSs.forget 12 (JSs.forget 13 (JSs.forget 14 ?_))))
  have efin : ((List.range many.toNat).map fun q : Nat => frD (rs (fun o => x o * mkRat (Dn mv (Rn mv N) (o : Int) (q : Int)) W) many.toNat)) = (List.range many.toNat).map fun j => frD (x j) := List.map_congr_left fun q hq => by
    have hq := List.mem_range.mp hq
    have h1 := Dn_own hc ow N hq
    have hp : (0 : Rat) < ((W : Int) : Rat) := posR (by omega)
    have e : rs (fun o => x o * mkRat (Dn mv (Rn mv N) (o : Int) (q : Int)) W) many.toNat = rs (fun o => (1 / ((W : Int) : Rat)) * (x o * ((Dn mv (Rn mv N) (o : Int) (q : Int) : Int) : Rat))) many.toNat := rs_congr fun o _ => by
      have := mk_quo (a := Dn mv (Rn mv N) (o : Int) (q : Int)) (b := (W : Int)) (by omega)
      rw [Int.toNat_natCast] at this
      rw [this]; grind
    rw [e, rs_mul, h1, eW]
    congr 1
    grind
  rw [efin]
  show JSs X B _ [.fz (.kls (s.map .int)), .fz (toldD many mv), .fz (chD T.C_Chain many mv), .fz (rwL many.toNat x), .fz (.lst ((Rn mv N).map rwD)), .no, .no, .no, .no, .no, .fz (.int ((W : Nat) : Int)), .ow (.lst ((List.range many.toNat).map fun j => frD (x j))), .no, .no, .no, .no, .no, .no] _
  refine JSs.cons ?_
  refine JS.ite (jt_neO cj 11 (jv_name cj 3 ⟨_, rfl, ⟨2, flat_rwL many.toNat x, by decide⟩, ⟨2, flat_rwL many.toNat x, by decide⟩, fun z => ?_, fun _ => JSs.nil ?_⟩))
  · have e : deq (.lst ((List.range many.toNat).map fun j => frD (x j))) (rwL many.toNat x) = true := deq_refl (flat_rwL many.toNat x)
    rw [e] at z; cases z
  refine JSs.forget 11 ?_
  refine JSs.mid (fun G => ∃ d, ((∃ l, d = apD l) ∨ ∃ N' p, p ∈ bfs many mv N' ∧ p.1.length = 1 ∧ d = roD p.2) ∧ G = [.fz (.kls (s.map .int)), .fz (toldD many mv), .fz (chD T.C_Chain many mv), .fz (rwL many.toNat x), .fz (.lst ((Rn mv N).map rwD)), .no, .no, .no, .no, .no, .fz (.int ((W : Nat) : Int)), .no, .no, .no, .no, .fz d, .no, .no]) ?_ ?_
  · refine js_set cj 15 (je_call0 cj (ok_meeting T) (by decide) 15 T.g_meeting T.F_meeting.kp T.b_meeting (JD.cons (jv_name cj 2 (JD.nil ⟨many, mv, rfl, hc, fun p0 rest _ => ⟨_, .inl ⟨_, rfl⟩, rfl⟩, fun _ N' _ => ⟨_, ?_, rfl⟩⟩))))
    unfold mtD
    cases hf : (bfs many mv N').find? (fun p => decide (p.1.length = 1)) with
    | none => exact .inl ⟨[], rfl⟩
    | some p =>
      have h1 := List.find?_some hf
      exact .inr ⟨N', p, List.mem_of_find?_eq_some hf, of_decide_eq_true h1, rfl⟩
  rintro G ⟨d, hd2, rfl⟩
  rcases hd2 with ⟨l, rfl⟩ | ⟨N', p, hp, h1, rfl⟩
  · refine JSs.cons ?_
    refine JS.ite (JW.jt (jw_or (jt_eq cj (jv_ix (jv_name cj 15 (jv_int ⟨_, _, D.str "apart", .tup, rfl, rfl, jv_str ⟨⟨0, strs_flat.2, by decide⟩, ⟨0, strs_flat.2, by decide⟩, ?_⟩⟩))))))
    rw [deq_refl strs_flat.2]
    exact ⟨fun z => absurd z (by decide), fun _ => ⟨fun _ => JSs.one (JS.ret (JV.je (jv_bl hR))), fun z => absurd z (by decide)⟩⟩
  have hne : deq (.str "row") (.str "apart") = false := by
    cases h : deq (.str "row") (.str "apart") with
    | false => rfl
    | true =>
      have := (deq_iff strs_flat.1 strs_flat.2).mp h
      injection this with this
      exact absurd this (by decide +kernel)
  obtain ⟨so, rok, rst2⟩ := (bfs_ok hc N').ok p hp
  refine JSs.cons ?_
  refine JS.ite (JW.jt (jw_or (jt_eq cj (jv_ix (jv_name cj 15 (jv_int ⟨_, _, D.str "row", .tup, rfl, rfl, jv_str ⟨⟨0, strs_flat.1, by decide⟩, ⟨0, strs_flat.2, by decide⟩, ?_⟩⟩))))))
  rw [hne]
  refine ⟨fun _ => ?_, fun z => absurd z (by decide)⟩
  refine jw_or1 (jt_gt (jv_len cj 3 T.z_len (jv_ix (jv_name cj 15 (jv_int ⟨_, _, D.lst (p.2.map .int), .tup, rfl, rfl, _, .lst, jv_int ⟨_, _, rfl, rfl, fun hb => ?_, fun hb => JSs.nil ?_⟩⟩)))))
  · exact JSs.one (JS.ret (JV.je (jv_bl hR)))
  have hb2 := of_decide_eq_false hb
  rw [List.length_map] at hb2
  have hL : p.2.length ≤ 20 := by omega
  obtain ⟨y, hy⟩ : ∃ y, p.1 = [y] := by
    match p.1, h1 with
    | [y], _ => exact ⟨y, rfl⟩
  have hyr := so.rg y (by rw [hy]; simp)
  have hwy : ∀ q, 0 ≤ q → q < many → Wk mv p.2 q = ((y.toNat : Nat) : Int) := fun q q0 q1 => by
    have := (rst2 (Wk mv p.2 q)).mpr ⟨q, q0, q1, rfl⟩
    rw [hy] at this
    have := List.mem_singleton.mp this
    omega
  have hcs := cs_pos hc rok (y := y.toNat) (by omega) hwy
  have hwp := whl_pos hc p.2.length
  have hpos : (0 : Rat) < rsum (shL many mv p.2.length) := by
    rw [shL_sum hc, mk_quo hwp]
    have h2 := posR hcs
    have h3 := posR hwp
    have h4 := (le_quo (a := ((cs many mv p.2.length many.toNat : Int) : Rat)) (b := 0) h3).mpr (by grind)
    have h5 : ((cs many mv p.2.length many.toNat : Int) : Rat) / ((whl many mv p.2.length : Int) : Rat) ≠ 0 := fun z => by grind
    grind
  obtain ⟨sm1, sm2, sm3, sm4⟩ := shL_sm hc hL
  refine JSs.cons ?_
  refine JS.asg z_law.li (je_call0 cj (ok_shares T) (by decide) 16 T.g_shares T.F_shares.kp T.b_shares ?_) (hw := by rw [swst_scope (e' := { X.env with scope := z_law.sc }) cj.hsc]; rfl)
  refine JD.cons (jv_name cj 2 (JD.cons (jv_len cj 3 T.z_len (jv_ix (jv_name cj 15 (jv_int ⟨_, _, D.lst (p.2.map .int), .tup, rfl, rfl, _, .lst, JD.nil ⟨many, mv, _, rfl, hc, fun _ => ?_, fun z => absurd ⟨by omega, by rw [List.length_map]; omega⟩ z⟩⟩))))))
  have e2 : ((p.2.map D.int).length : Int).toNat = p.2.length := by rw [List.length_map]; omega
  rw [e2]
  refine JG.tup cj (JGs.cons (JG.name cj 16 (JGs.cons (JG.name cj 17 (JGs.nil ?_)))))
  have n1 : deq (frD (rst many mv p.2.length)) (frD 1) = false := by
    cases h : deq (frD (rst many mv p.2.length)) (frD 1) with
    | false => rfl
    | true =>
      have := frD_inj ((deq_iff (frD_flat _) (frD_flat _)).mp h)
      unfold rst at this
      grind
  have n2 : deq (frD (rsum (shL many mv p.2.length))) (frD 0) = false := by
    cases h : deq (frD (rsum (shL many mv p.2.length))) (frD 0) with
    | false => rfl
    | true =>
      have := frD_inj ((deq_iff (frD_flat _) (frD_flat _)).mp h)
      grind
  refine JSs.one (JS.ret (JV.je (jv_and (jv_ne cj (jv_name cj 17 (jv_tup (JD.cons (jv_int (JD.cons (jv_int (JD.nil ⟨lz rfl, ⟨1, frD_flat _, by decide⟩, ⟨1, frD_flat 1, by decide⟩, _, rfl, fun _ => ?_, fun z => ?_⟩)))))))))))
  rotate_left
  · have z : (!deq (frD (rst many mv p.2.length)) (frD 1)) = false := z
    rw [n1] at z; cases z
  refine jv_one (jv_ne cj (JE.jv (je_call0 cj (ok__law_sum T) (by decide) 17 T.g__law_sum T.F__law_sum.kp T.b__law_sum ?_)))
  refine JD.cons (jv_name cj 16 (JD.nil ⟨shL many mv p.2.length, rfl, sm1, sm2, ?_⟩))
  refine jv_tup (JD.cons (jv_int (JD.cons (jv_int (JD.nil ⟨lz rfl, ⟨1, frD_flat _, by decide⟩, ⟨1, frD_flat 0, by decide⟩, ?_⟩)))))
  have n2 : deq (frD (rsum (shL many mv p.2.length))) (.tup [.int 0, .int 1]) = false := n2
  rw [n2]
  exact hR
end
theorem all_mk {l : PySem.W.OpenLaw} {w : World} {K : PySem.W.Frag} {h : Heap} {mg : Str → Option Value} {fa : Addr} (X : K.In h) (G : h.Ns mainGlobals mg) (hfa : mg "law" = some (.ref fa))
    {C_Chain : Addr} {C_BadChain : Addr} {C_NotOne : Addr} {C_LongError : Addr} {C_NoSuch : Addr} {f1 : Addr} {od1 an1 : Option Addr} {sl1 : Array (Option Value)} {oc1 kV1 dc1 pm1 cd1 ct1 : Value} {f2 : Addr} {od2 an2 : Option Addr} {sl2 : Array (Option Value)} {oc2 kV2 dc2 pm2 cd2 ct2 : Value} {f3 : Addr} {od3 an3 : Option Addr} {sl3 : Array (Option Value)} {oc3 kV3 dc3 pm3 cd3 ct3 : Value} {f4 : Addr} {od4 an4 : Option Addr} {sl4 : Array (Option Value)} {oc4 kV4 dc4 pm4 cd4 ct4 : Value} {f5 : Addr} {od5 an5 : Option Addr} {sl5 : Array (Option Value)} {oc5 kV5 dc5 pm5 cd5 ct5 : Value} {f6 : Addr} {od6 an6 : Option Addr} {sl6 : Array (Option Value)} {oc6 kV6 dc6 pm6 cd6 ct6 : Value} {f7 : Addr} {od7 an7 : Option Addr} {sl7 : Array (Option Value)} {oc7 kV7 dc7 pm7 cd7 ct7 : Value} {f8 : Addr} {od8 an8 : Option Addr} {sl8 : Array (Option Value)} {oc8 kV8 dc8 pm8 cd8 ct8 : Value} {f9 : Addr} {od9 an9 : Option Addr} {sl9 : Array (Option Value)} {oc9 kV9 dc9 pm9 cd9 ct9 : Value} {f10 : Addr} {od10 an10 : Option Addr} {sl10 : Array (Option Value)} {oc10 kV10 dc10 pm10 cd10 ct10 : Value} {f11 : Addr} {od11 an11 : Option Addr} {sl11 : Array (Option Value)} {oc11 kV11 dc11 pm11 cd11 ct11 : Value} {f12 : Addr} {od12 an12 : Option Addr} {sl12 : Array (Option Value)} {oc12 kV12 dc12 pm12 cd12 ct12 : Value} {f13 : Addr} {od13 an13 : Option Addr} {sl13 : Array (Option Value)} {oc13 kV13 dc13 pm13 cd13 ct13 : Value} {f14 : Addr} {od14 an14 : Option Addr} {sl14 : Array (Option Value)} {oc14 kV14 dc14 pm14 cd14 ct14 : Value} {f15 : Addr} {od15 an15 : Option Addr} {sl15 : Array (Option Value)} {oc15 kV15 dc15 pm15 cd15 ct15 : Value} {f16 : Addr} {od16 an16 : Option Addr} {sl16 : Array (Option Value)} {oc16 kV16 dc16 pm16 cd16 ct16 : Value} {f17 : Addr} {od17 an17 : Option Addr} {sl17 : Array (Option Value)} {oc17 kV17 dc17 pm17 cd17 ct17 : Value} {f18 : Addr} {od18 an18 : Option Addr} {sl18 : Array (Option Value)} {oc18 kV18 dc18 pm18 cd18 ct18 : Value} {f19 : Addr} {od19 an19 : Option Addr} {sl19 : Array (Option Value)} {oc19 kV19 dc19 pm19 cd19 ct19 : Value} {f20 : Addr} {od20 an20 : Option Addr} {sl20 : Array (Option Value)} {oc20 kV20 dc20 pm20 cd20 ct20 : Value} {f21 : Addr} {od21 an21 : Option Addr} {sl21 : Array (Option Value)} {oc21 kV21 dc21 pm21 cd21 ct21 : Value} {f22 : Addr} {od22 an22 : Option Addr} {sl22 : Array (Option Value)} {oc22 kV22 dc22 pm22 cd22 ct22 : Value} {f23 : Addr} {od23 an23 : Option Addr} {sl23 : Array (Option Value)} {oc23 kV23 dc23 pm23 cd23 ct23 : Value} {f24 : Addr} {od24 an24 : Option Addr} {sl24 : Array (Option Value)} {oc24 kV24 dc24 pm24 cd24 ct24 : Value} {f25 : Addr} {od25 an25 : Option Addr} {sl25 : Array (Option Value)} {oc25 kV25 dc25 pm25 cd25 ct25 : Value} {f26 : Addr} {od26 an26 : Option Addr} {sl26 : Array (Option Value)} {oc26 kV26 dc26 pm26 cd26 ct26 : Value} {f27 : Addr} {od27 an27 : Option Addr} {sl27 : Array (Option Value)} {oc27 kV27 dc27 pm27 cd27 ct27 : Value} {f28 : Addr} {od28 an28 : Option Addr} {sl28 : Array (Option Value)} {oc28 kV28 dc28 pm28 cd28 ct28 : Value} {f29 : Addr} {od29 an29 : Option Addr} {sl29 : Array (Option Value)} {oc29 kV29 dc29 pm29 cd29 ct29 : Value} {f30 : Addr} {od30 an30 : Option Addr} {sl30 : Array (Option Value)} {oc30 kV30 dc30 pm30 cd30 ct30 : Value} {f31 : Addr} {od31 an31 : Option Addr} {sl31 : Array (Option Value)} {oc31 kV31 dc31 pm31 cd31 ct31 : Value} {f32 : Addr} {od32 an32 : Option Addr} {sl32 : Array (Option Value)} {oc32 kV32 dc32 pm32 cd32 ct32 : Value} {f33 : Addr} {od33 an33 : Option Addr} {sl33 : Array (Option Value)} {oc33 kV33 dc33 pm33 cd33 ct33 : Value} {f34 : Addr} {od34 an34 : Option Addr} {sl34 : Array (Option Value)} {oc34 kV34 dc34 pm34 cd34 ct34 : Value} {f35 : Addr} {od35 an35 : Option Addr} {sl35 : Array (Option Value)} {oc35 kV35 dc35 pm35 cd35 ct35 : Value} {f36 : Addr} {od36 an36 : Option Addr} {sl36 : Array (Option Value)} {oc36 kV36 dc36 pm36 cd36 ct36 : Value} {f37 : Addr} {od37 an37 : Option Addr} {sl37 : Array (Option Value)} {oc37 kV37 dc37 pm37 cd37 ct37 : Value} {f38 : Addr} {od38 an38 : Option Addr} {sl38 : Array (Option Value)} {oc38 kV38 dc38 pm38 cd38 ct38 : Value} {f39 : Addr} {od39 an39 : Option Addr} {sl39 : Array (Option Value)} {oc39 kV39 dc39 pm39 cd39 ct39 : Value} {f40 : Addr} {od40 an40 : Option Addr} {sl40 : Array (Option Value)} {oc40 kV40 dc40 pm40 cd40 ct40 : Value} {tk_MOST_PLACES : Tok} {tk_MOST_MOVES : Tok} {tk_MOST_WEIGHT : Tok} {u_NOUGHT : Addr} {ud_NOUGHT : Option Addr} {us_NOUGHT : Array (Option Value)} {uc_NOUGHT : Nat} {ut0_NOUGHT : Tok} {ut1_NOUGHT : Tok} {u_WHOLE : Addr} {ud_WHOLE : Option Addr} {us_WHOLE : Array (Option Value)} {uc_WHOLE : Nat} {ut0_WHOLE : Tok} {ut1_WHOLE : Tok} {tk_MOST_FAR : Tok}
    (aC_Chain : PySem.W.nsIn K mainGlobals "Chain" = some (some (.ref C_Chain)))
    (pg_Chain : PySem.W.plainGet K C_Chain Str.empty = true)
    (hd_Chain : PySem.W.hasDictIn K C_Chain = true)
    (po_Chain : PySem.W.plainOver K C_Chain = true)
    (sa_Chain : PySem.W.findIn K (.ref C_Chain) "__setattr__" = some (some (.builtin "object.__setattr__")))
    (mm_Chain : PySem.W.makesIn K C_Chain = true)
    (kc_Chain : PySem.W.keepIn K (.ref C_Chain) = true)
    (na_Chain_many : PySem.W.findIn K (.ref C_Chain) "many" = some none)
    (na_Chain_moves : PySem.W.findIn K (.ref C_Chain) "moves" = some none)
    (aC_BadChain : PySem.W.nsIn K mainGlobals "BadChain" = some (some (.ref C_BadChain)))
    (kp_BadChain : PySem.W.keepIn K (.ref C_BadChain) = true)
    (su_BadChain : PySem.W.subIn K (.ref C_BadChain) (.type "BaseException") = some true)
    (ty_BadChain : PySem.W.typeIn K (.ref C_BadChain) = some (.type "type"))
    (xi_BadChain : PySem.W.excIn K C_BadChain [.type "ValueError", .type "Exception", .type "BaseException", .type "object"] "ValueError.__new__" = true)
    (aC_NotOne : PySem.W.nsIn K mainGlobals "NotOne" = some (some (.ref C_NotOne)))
    (kp_NotOne : PySem.W.keepIn K (.ref C_NotOne) = true)
    (su_NotOne : PySem.W.subIn K (.ref C_NotOne) (.type "BaseException") = some true)
    (ty_NotOne : PySem.W.typeIn K (.ref C_NotOne) = some (.type "type"))
    (aC_LongError : PySem.W.nsIn K mainGlobals "LongError" = some (some (.ref C_LongError)))
    (kp_LongError : PySem.W.keepIn K (.ref C_LongError) = true)
    (su_LongError : PySem.W.subIn K (.ref C_LongError) (.type "BaseException") = some true)
    (ty_LongError : PySem.W.typeIn K (.ref C_LongError) = some (.type "type"))
    (xi_LongError : PySem.W.excIn K C_LongError [.type "ValueError", .type "Exception", .type "BaseException", .type "object"] "ValueError.__new__" = true)
    (aC_NoSuch : PySem.W.nsIn K mainGlobals "NoSuch" = some (some (.ref C_NoSuch)))
    (kp_NoSuch : PySem.W.keepIn K (.ref C_NoSuch) = true)
    (su_NoSuch : PySem.W.subIn K (.ref C_NoSuch) (.type "BaseException") = some true)
    (ty_NoSuch : PySem.W.typeIn K (.ref C_NoSuch) = some (.type "type"))
    (xi_NoSuch : PySem.W.excIn K C_NoSuch [.type "ValueError", .type "Exception", .type "BaseException", .type "object"] "ValueError.__new__" = true)
    (a1 : PySem.W.nsIn K mainGlobals "_law_cell" = some (some (.ref f1)))
    (l1 : K.lookup f1 = some ⟨oc1, od1, .func (PySem.W.fnOf "_law_cell" "_law_cell" (defArgs s__law_cell) (defBody s__law_cell) (defScope s__law_cell) .none kV1 dc1 pm1 an1 cd1 ct1), sl1⟩)
    (c1 : PySem.W.codeIn K cd1 "_law_cell" = true)
    (k1 : PySem.W.keepIn K (.ref f1) = true)
    (a2 : PySem.W.nsIn K mainGlobals "_law_off" = some (some (.ref f2)))
    (l2 : K.lookup f2 = some ⟨oc2, od2, .func (PySem.W.fnOf "_law_off" "_law_off" (defArgs s__law_off) (defBody s__law_off) (defScope s__law_off) .none kV2 dc2 pm2 an2 cd2 ct2), sl2⟩)
    (c2 : PySem.W.codeIn K cd2 "_law_off" = true)
    (k2 : PySem.W.keepIn K (.ref f2) = true)
    (a3 : PySem.W.nsIn K mainGlobals "_law_chain" = some (some (.ref f3)))
    (l3 : K.lookup f3 = some ⟨oc3, od3, .func (PySem.W.fnOf "_law_chain" "_law_chain" (defArgs s__law_chain) (defBody s__law_chain) (defScope s__law_chain) .none kV3 dc3 pm3 an3 cd3 ct3), sl3⟩)
    (c3 : PySem.W.codeIn K cd3 "_law_chain" = true)
    (k3 : PySem.W.keepIn K (.ref f3) = true)
    (a4 : PySem.W.nsIn K mainGlobals "_law_dice" = some (some (.ref f4)))
    (l4 : K.lookup f4 = some ⟨oc4, od4, .func (PySem.W.fnOf "_law_dice" "_law_dice" (defArgs s__law_dice) (defBody s__law_dice) (defScope s__law_dice) .none kV4 dc4 pm4 an4 cd4 ct4), sl4⟩)
    (c4 : PySem.W.codeIn K cd4 "_law_dice" = true)
    (k4 : PySem.W.keepIn K (.ref f4) = true)
    (a5 : PySem.W.nsIn K mainGlobals "must" = some (some (.ref f5)))
    (l5 : K.lookup f5 = some ⟨oc5, od5, .func (PySem.W.fnOf "must" "must" (defArgs s_must) (defBody s_must) (defScope s_must) .none kV5 dc5 pm5 an5 cd5 ct5), sl5⟩)
    (c5 : PySem.W.codeIn K cd5 "must" = true)
    (k5 : PySem.W.keepIn K (.ref f5) = true)
    (a6 : PySem.W.findIn K (.ref C_Chain) "__init__" = some (some (.ref f6)))
    (i6 : PySem.W.isFn K (.ref f6) = true)
    (l6 : K.lookup f6 = some ⟨oc6, od6, .func (PySem.W.fnOf "__init__" "Chain.__init__" (defArgs s_Chain___init__) (defBody s_Chain___init__) (defScope s_Chain___init__) .none kV6 dc6 pm6 an6 cd6 ct6), sl6⟩)
    (c6 : PySem.W.codeIn K cd6 "Chain.__init__" = true)
    (k6 : PySem.W.keepIn K (.ref f6) = true)
    (a7 : PySem.W.nsIn K mainGlobals "_law_made" = some (some (.ref f7)))
    (l7 : K.lookup f7 = some ⟨oc7, od7, .func (PySem.W.fnOf "_law_made" "_law_made" (defArgs s__law_made) (defBody s__law_made) (defScope s__law_made) .none kV7 dc7 pm7 an7 cd7 ct7), sl7⟩)
    (c7 : PySem.W.codeIn K cd7 "_law_made" = true)
    (k7 : PySem.W.keepIn K (.ref f7) = true)
    (a8 : PySem.W.nsIn K mainGlobals "reached" = some (some (.ref f8)))
    (l8 : K.lookup f8 = some ⟨oc8, od8, .func (PySem.W.fnOf "reached" "reached" (defArgs s_reached) (defBody s_reached) (defScope s_reached) .none kV8 dc8 pm8 an8 cd8 ct8), sl8⟩)
    (c8 : PySem.W.codeIn K cd8 "reached" = true)
    (k8 : PySem.W.keepIn K (.ref f8) = true)
    (a9 : PySem.W.nsIn K mainGlobals "closed" = some (some (.ref f9)))
    (l9 : K.lookup f9 = some ⟨oc9, od9, .func (PySem.W.fnOf "closed" "closed" (defArgs s_closed) (defBody s_closed) (defScope s_closed) .none kV9 dc9 pm9 an9 cd9 ct9), sl9⟩)
    (c9 : PySem.W.codeIn K cd9 "closed" = true)
    (k9 : PySem.W.keepIn K (.ref f9) = true)
    (a10 : PySem.W.findIn K (.ref C_NotOne) "__init__" = some (some (.ref f10)))
    (i10 : PySem.W.isFn K (.ref f10) = true)
    (l10 : K.lookup f10 = some ⟨oc10, od10, .func (PySem.W.fnOf "__init__" "NotOne.__init__" (defArgs s_NotOne___init__) (defBody s_NotOne___init__) (defScope s_NotOne___init__) .none kV10 dc10 pm10 an10 cd10 ct10), sl10⟩)
    (c10 : PySem.W.codeIn K cd10 "NotOne.__init__" = true)
    (k10 : PySem.W.keepIn K (.ref f10) = true)
    (a11 : PySem.W.findIn K (.ref C_Chain) "weight" = some (some (.ref f11)))
    (i11 : PySem.W.isFn K (.ref f11) = true)
    (l11 : K.lookup f11 = some ⟨oc11, od11, .func (PySem.W.fnOf "weight" "Chain.weight" (defArgs s_Chain_weight) (defBody s_Chain_weight) (defScope s_Chain_weight) .none kV11 dc11 pm11 an11 cd11 ct11), sl11⟩)
    (c11 : PySem.W.codeIn K cd11 "Chain.weight" = true)
    (k11 : PySem.W.keepIn K (.ref f11) = true)
    (a12 : PySem.W.nsIn K mainGlobals "made" = some (some (.ref f12)))
    (l12 : K.lookup f12 = some ⟨oc12, od12, .func (PySem.W.fnOf "made" "made" (defArgs s_made) (defBody s_made) (defScope s_made) .none kV12 dc12 pm12 an12 cd12 ct12), sl12⟩)
    (c12 : PySem.W.codeIn K cd12 "made" = true)
    (k12 : PySem.W.keepIn K (.ref f12) = true)
    (a13 : PySem.W.nsIn K mainGlobals "added" = some (some (.ref f13)))
    (l13 : K.lookup f13 = some ⟨oc13, od13, .func (PySem.W.fnOf "added" "added" (defArgs s_added) (defBody s_added) (defScope s_added) .none kV13 dc13 pm13 an13 cd13 ct13), sl13⟩)
    (c13 : PySem.W.codeIn K cd13 "added" = true)
    (k13 : PySem.W.keepIn K (.ref f13) = true)
    (a14 : PySem.W.nsIn K mainGlobals "chances" = some (some (.ref f14)))
    (l14 : K.lookup f14 = some ⟨oc14, od14, .func (PySem.W.fnOf "chances" "chances" (defArgs s_chances) (defBody s_chances) (defScope s_chances) .none kV14 dc14 pm14 an14 cd14 ct14), sl14⟩)
    (c14 : PySem.W.codeIn K cd14 "chances" = true)
    (k14 : PySem.W.keepIn K (.ref f14) = true)
    (a15 : PySem.W.nsIn K mainGlobals "less" = some (some (.ref f15)))
    (l15 : K.lookup f15 = some ⟨oc15, od15, .func (PySem.W.fnOf "less" "less" (defArgs s_less) (defBody s_less) (defScope s_less) .none kV15 dc15 pm15 an15 cd15 ct15), sl15⟩)
    (c15 : PySem.W.codeIn K cd15 "less" = true)
    (k15 : PySem.W.keepIn K (.ref f15) = true)
    (a16 : PySem.W.nsIn K mainGlobals "over" = some (some (.ref f16)))
    (l16 : K.lookup f16 = some ⟨oc16, od16, .func (PySem.W.fnOf "over" "over" (defArgs s_over) (defBody s_over) (defScope s_over) .none kV16 dc16 pm16 an16 cd16 ct16), sl16⟩)
    (c16 : PySem.W.codeIn K cd16 "over" = true)
    (k16 : PySem.W.keepIn K (.ref f16) = true)
    (a17 : PySem.W.nsIn K mainGlobals "lead_with" = some (some (.ref f17)))
    (l17 : K.lookup f17 = some ⟨oc17, od17, .func (PySem.W.fnOf "lead_with" "lead_with" (defArgs s_lead_with) (defBody s_lead_with) (defScope s_lead_with) .none kV17 dc17 pm17 an17 cd17 ct17), sl17⟩)
    (c17 : PySem.W.codeIn K cd17 "lead_with" = true)
    (k17 : PySem.W.keepIn K (.ref f17) = true)
    (a18 : PySem.W.nsIn K mainGlobals "timed" = some (some (.ref f18)))
    (l18 : K.lookup f18 = some ⟨oc18, od18, .func (PySem.W.fnOf "timed" "timed" (defArgs s_timed) (defBody s_timed) (defScope s_timed) .none kV18 dc18 pm18 an18 cd18 ct18), sl18⟩)
    (c18 : PySem.W.codeIn K cd18 "timed" = true)
    (k18 : PySem.W.keepIn K (.ref f18) = true)
    (a19 : PySem.W.nsIn K mainGlobals "row_less" = some (some (.ref f19)))
    (l19 : K.lookup f19 = some ⟨oc19, od19, .func (PySem.W.fnOf "row_less" "row_less" (defArgs s_row_less) (defBody s_row_less) (defScope s_row_less) .none kV19 dc19 pm19 an19 cd19 ct19), sl19⟩)
    (c19 : PySem.W.codeIn K cd19 "row_less" = true)
    (k19 : PySem.W.keepIn K (.ref f19) = true)
    (a20 : PySem.W.nsIn K mainGlobals "solved" = some (some (.ref f20)))
    (l20 : K.lookup f20 = some ⟨oc20, od20, .func (PySem.W.fnOf "solved" "solved" (defArgs s_solved) (defBody s_solved) (defScope s_solved) .none kV20 dc20 pm20 an20 cd20 ct20), sl20⟩)
    (c20 : PySem.W.codeIn K cd20 "solved" = true)
    (k20 : PySem.W.keepIn K (.ref f20) = true)
    (a21 : PySem.W.nsIn K mainGlobals "own" = some (some (.ref f21)))
    (l21 : K.lookup f21 = some ⟨oc21, od21, .func (PySem.W.fnOf "own" "own" (defArgs s_own) (defBody s_own) (defScope s_own) .none kV21 dc21 pm21 an21 cd21 ct21), sl21⟩)
    (c21 : PySem.W.codeIn K cd21 "own" = true)
    (k21 : PySem.W.keepIn K (.ref f21) = true)
    (a22 : PySem.W.nsIn K mainGlobals "_law_low" = some (some (.ref f22)))
    (l22 : K.lookup f22 = some ⟨oc22, od22, .func (PySem.W.fnOf "_law_low" "_law_low" (defArgs s__law_low) (defBody s__law_low) (defScope s__law_low) .none kV22 dc22 pm22 an22 cd22 ct22), sl22⟩)
    (c22 : PySem.W.codeIn K cd22 "_law_low" = true)
    (k22 : PySem.W.keepIn K (.ref f22) = true)
    (a23 : PySem.W.nsIn K mainGlobals "_law_add" = some (some (.ref f23)))
    (l23 : K.lookup f23 = some ⟨oc23, od23, .func (PySem.W.fnOf "_law_add" "_law_add" (defArgs s__law_add) (defBody s__law_add) (defScope s__law_add) .none kV23 dc23 pm23 an23 cd23 ct23), sl23⟩)
    (c23 : PySem.W.codeIn K cd23 "_law_add" = true)
    (k23 : PySem.W.keepIn K (.ref f23) = true)
    (a24 : PySem.W.nsIn K mainGlobals "_law_sum" = some (some (.ref f24)))
    (l24 : K.lookup f24 = some ⟨oc24, od24, .func (PySem.W.fnOf "_law_sum" "_law_sum" (defArgs s__law_sum) (defBody s__law_sum) (defScope s__law_sum) .none kV24 dc24 pm24 an24 cd24 ct24), sl24⟩)
    (c24 : PySem.W.codeIn K cd24 "_law_sum" = true)
    (k24 : PySem.W.keepIn K (.ref f24) = true)
    (a25 : PySem.W.nsIn K mainGlobals "_law_is_share" = some (some (.ref f25)))
    (l25 : K.lookup f25 = some ⟨oc25, od25, .func (PySem.W.fnOf "_law_is_share" "_law_is_share" (defArgs s__law_is_share) (defBody s__law_is_share) (defScope s__law_is_share) .none kV25 dc25 pm25 an25 cd25 ct25), sl25⟩)
    (c25 : PySem.W.codeIn K cd25 "_law_is_share" = true)
    (k25 : PySem.W.keepIn K (.ref f25) = true)
    (a26 : PySem.W.nsIn K mainGlobals "_law_are_shares" = some (some (.ref f26)))
    (l26 : K.lookup f26 = some ⟨oc26, od26, .func (PySem.W.fnOf "_law_are_shares" "_law_are_shares" (defArgs s__law_are_shares) (defBody s__law_are_shares) (defScope s__law_are_shares) .none kV26 dc26 pm26 an26 cd26 ct26), sl26⟩)
    (c26 : PySem.W.codeIn K cd26 "_law_are_shares" = true)
    (k26 : PySem.W.keepIn K (.ref f26) = true)
    (a27 : PySem.W.nsIn K mainGlobals "_law_ends" = some (some (.ref f27)))
    (l27 : K.lookup f27 = some ⟨oc27, od27, .func (PySem.W.fnOf "_law_ends" "_law_ends" (defArgs s__law_ends) (defBody s__law_ends) (defScope s__law_ends) .none kV27 dc27 pm27 an27 cd27 ct27), sl27⟩)
    (c27 : PySem.W.codeIn K cd27 "_law_ends" = true)
    (k27 : PySem.W.keepIn K (.ref f27) = true)
    (a28 : PySem.W.nsIn K mainGlobals "_law_times" = some (some (.ref f28)))
    (l28 : K.lookup f28 = some ⟨oc28, od28, .func (PySem.W.fnOf "_law_times" "_law_times" (defArgs s__law_times) (defBody s__law_times) (defScope s__law_times) .none kV28 dc28 pm28 an28 cd28 ct28), sl28⟩)
    (c28 : PySem.W.codeIn K cd28 "_law_times" = true)
    (k28 : PySem.W.keepIn K (.ref f28) = true)
    (a29 : PySem.W.nsIn K mainGlobals "pairs_of" = some (some (.ref f29)))
    (l29 : K.lookup f29 = some ⟨oc29, od29, .func (PySem.W.fnOf "pairs_of" "pairs_of" (defArgs s_pairs_of) (defBody s_pairs_of) (defScope s_pairs_of) .none kV29 dc29 pm29 an29 cd29 ct29), sl29⟩)
    (c29 : PySem.W.codeIn K cd29 "pairs_of" = true)
    (k29 : PySem.W.keepIn K (.ref f29) = true)
    (a30 : PySem.W.nsIn K mainGlobals "moved_pair" = some (some (.ref f30)))
    (l30 : K.lookup f30 = some ⟨oc30, od30, .func (PySem.W.fnOf "moved_pair" "moved_pair" (defArgs s_moved_pair) (defBody s_moved_pair) (defScope s_moved_pair) .none kV30 dc30 pm30 an30 cd30 ct30), sl30⟩)
    (c30 : PySem.W.codeIn K cd30 "moved_pair" = true)
    (k30 : PySem.W.keepIn K (.ref f30) = true)
    (a31 : PySem.W.nsIn K mainGlobals "goes" = some (some (.ref f31)))
    (l31 : K.lookup f31 = some ⟨oc31, od31, .func (PySem.W.fnOf "goes" "goes" (defArgs s_goes) (defBody s_goes) (defScope s_goes) .none kV31 dc31 pm31 an31 cd31 ct31), sl31⟩)
    (c31 : PySem.W.codeIn K cd31 "goes" = true)
    (k31 : PySem.W.keepIn K (.ref f31) = true)
    (a32 : PySem.W.nsIn K mainGlobals "meeting_pairs" = some (some (.ref f32)))
    (l32 : K.lookup f32 = some ⟨oc32, od32, .func (PySem.W.fnOf "meeting_pairs" "meeting_pairs" (defArgs s_meeting_pairs) (defBody s_meeting_pairs) (defScope s_meeting_pairs) .none kV32 dc32 pm32 an32 cd32 ct32), sl32⟩)
    (c32 : PySem.W.codeIn K cd32 "meeting_pairs" = true)
    (k32 : PySem.W.keepIn K (.ref f32) = true)
    (a33 : PySem.W.nsIn K mainGlobals "never" = some (some (.ref f33)))
    (l33 : K.lookup f33 = some ⟨oc33, od33, .func (PySem.W.fnOf "never" "never" (defArgs s_never) (defBody s_never) (defScope s_never) .none kV33 dc33 pm33 an33 cd33 ct33), sl33⟩)
    (c33 : PySem.W.codeIn K cd33 "never" = true)
    (k33 : PySem.W.keepIn K (.ref f33) = true)
    (a34 : PySem.W.nsIn K mainGlobals "pairs_behind" = some (some (.ref f34)))
    (l34 : K.lookup f34 = some ⟨oc34, od34, .func (PySem.W.fnOf "pairs_behind" "pairs_behind" (defArgs s_pairs_behind) (defBody s_pairs_behind) (defScope s_pairs_behind) .none kV34 dc34 pm34 an34 cd34 ct34), sl34⟩)
    (c34 : PySem.W.codeIn K cd34 "pairs_behind" = true)
    (k34 : PySem.W.keepIn K (.ref f34) = true)
    (a35 : PySem.W.nsIn K mainGlobals "walking" = some (some (.ref f35)))
    (l35 : K.lookup f35 = some ⟨oc35, od35, .func (PySem.W.fnOf "walking" "walking" (defArgs s_walking) (defBody s_walking) (defScope s_walking) .none kV35 dc35 pm35 an35 cd35 ct35), sl35⟩)
    (c35 : PySem.W.codeIn K cd35 "walking" = true)
    (k35 : PySem.W.keepIn K (.ref f35) = true)
    (a36 : PySem.W.nsIn K mainGlobals "meeting" = some (some (.ref f36)))
    (l36 : K.lookup f36 = some ⟨oc36, od36, .func (PySem.W.fnOf "meeting" "meeting" (defArgs s_meeting) (defBody s_meeting) (defScope s_meeting) .none kV36 dc36 pm36 an36 cd36 ct36), sl36⟩)
    (c36 : PySem.W.codeIn K cd36 "meeting" = true)
    (k36 : PySem.W.keepIn K (.ref f36) = true)
    (a37 : PySem.W.nsIn K mainGlobals "farther" = some (some (.ref f37)))
    (l37 : K.lookup f37 = some ⟨oc37, od37, .func (PySem.W.fnOf "farther" "farther" (defArgs s_farther) (defBody s_farther) (defScope s_farther) .none kV37 dc37 pm37 an37 cd37 ct37), sl37⟩)
    (c37 : PySem.W.codeIn K cd37 "farther" = true)
    (k37 : PySem.W.keepIn K (.ref f37) = true)
    (a38 : PySem.W.nsIn K mainGlobals "summed" = some (some (.ref f38)))
    (l38 : K.lookup f38 = some ⟨oc38, od38, .func (PySem.W.fnOf "summed" "summed" (defArgs s_summed) (defBody s_summed) (defScope s_summed) .none kV38 dc38 pm38 an38 cd38 ct38), sl38⟩)
    (c38 : PySem.W.codeIn K cd38 "summed" = true)
    (k38 : PySem.W.keepIn K (.ref f38) = true)
    (a39 : PySem.W.nsIn K mainGlobals "shares" = some (some (.ref f39)))
    (l39 : K.lookup f39 = some ⟨oc39, od39, .func (PySem.W.fnOf "shares" "shares" (defArgs s_shares) (defBody s_shares) (defScope s_shares) .none kV39 dc39 pm39 an39 cd39 ct39), sl39⟩)
    (c39 : PySem.W.codeIn K cd39 "shares" = true)
    (k39 : PySem.W.keepIn K (.ref f39) = true)
    (a40 : PySem.W.nsIn K mainGlobals "law" = some (some (.ref f40)))
    (l40 : K.lookup f40 = some ⟨oc40, od40, .func (PySem.W.fnOf "law" "law" (defArgs s_law) (defBody s_law) (defScope s_law) .none kV40 dc40 pm40 an40 cd40 ct40), sl40⟩)
    (c40 : PySem.W.codeIn K cd40 "law" = true)
    (k40 : PySem.W.keepIn K (.ref f40) = true)
    (ob_NotOne : J.oexB K C_NotOne = true)
    (xs_NotOne : PySem.W.findIn K (.ref C_NotOne) "__setattr__" = some (some (.builtin "object.__setattr__")))
    (xt_NotOne : PySem.W.typeIn K (.ref f10) = some (.type "function"))
    (xn_NotOne : PySem.W.findIn K (.ref C_NotOne) "groups" = some none)
    (xlg : PySem.W.specialIn K (.ref C_LongError) "__getattribute__" = some (some (.builtin "type.__getattribute__")))
    (xlr : PySem.W.readsIn K C_LongError (.type "type") = true)
    (xli : PySem.W.findCls K (.ref C_LongError) (.type "type") "__init__" = some (.val (.builtin "ValueError.__init__")))
    (gc_MOST_PLACES : PySem.W.nsIn K mainGlobals "MOST_PLACES" = some (some (.int 6 tk_MOST_PLACES)))
    (gc_MOST_MOVES : PySem.W.nsIn K mainGlobals "MOST_MOVES" = some (some (.int 8 tk_MOST_MOVES)))
    (gc_MOST_WEIGHT : PySem.W.nsIn K mainGlobals "MOST_WEIGHT" = some (some (.int 99 tk_MOST_WEIGHT)))
    (gc_NOUGHT : PySem.W.nsIn K mainGlobals "NOUGHT" = some (some (.ref u_NOUGHT)))
    (lc_NOUGHT : K.lookup u_NOUGHT = some ⟨.type "tuple", ud_NOUGHT, .seq #[.int 0 ut0_NOUGHT, .int 1 ut1_NOUGHT] uc_NOUGHT, us_NOUGHT⟩)
    (gc_WHOLE : PySem.W.nsIn K mainGlobals "WHOLE" = some (some (.ref u_WHOLE)))
    (lc_WHOLE : K.lookup u_WHOLE = some ⟨.type "tuple", ud_WHOLE, .seq #[.int 1 ut0_WHOLE, .int 1 ut1_WHOLE] uc_WHOLE, us_WHOLE⟩)
    (gc_MOST_FAR : PySem.W.nsIn K mainGlobals "MOST_FAR" = some (some (.int 20 tk_MOST_FAR)))
    (z_abs : PySem.W.nsIn K mainGlobals "abs" = some none)
    (z_len : PySem.W.nsIn K mainGlobals "len" = some none)
    (z_max : PySem.W.nsIn K mainGlobals "max" = some none)
    (z_range : PySem.W.nsIn K mainGlobals "range" = some none)
    (z_sorted : PySem.W.nsIn K mainGlobals "sorted" = some none)
    (z_tuple : PySem.W.nsIn K mainGlobals "tuple" = some none)
    (z_min : PySem.W.nsIn K mainGlobals "min" = some none)
    (z_int : PySem.W.nsIn K mainGlobals "int" = some none)
    (z_list : PySem.W.nsIn K mainGlobals "list" = some none)
    (z_sum : PySem.W.nsIn K mainGlobals "sum" = some none)
    (z_isinstance : PySem.W.nsIn K mainGlobals "isinstance" = some none)
    (z_bool : PySem.W.nsIn K mainGlobals "bool" = some none)
    (z_set : PySem.W.nsIn K mainGlobals "set" = some none)
    : ∃ fd : FuncData, (∀ (s : Shared) (v : Value), BindsTo s fd ⟨[v], []⟩ [("_law_script", v)]) ∧ ∀ base : Heap, K.In base → base.Ns mainGlobals mg → FnOk l.prog w K mg base (L2.CX l.prog w) 6 fa fd ["_law_script"] (SpJ K J.spLaw) := by
  have e := hfa.symm.trans (PySem.W.mg_of X G a40)
  cases e
  have F1 := fun_mk (st := s__law_cell) l1 c1 k1
  have b1 := F1.binds (ps := ["_law_script", "_law_k"]) fun _ _ _ _ _ _ us hl => match us, hl with | [_, _], _ => rfl
  have F2 := fun_mk (st := s__law_off) l2 c2 k2
  have b2 := F2.binds (ps := ["_law_d", "_law_most"]) fun _ _ _ _ _ _ us hl => match us, hl with | [_, _], _ => rfl
  have F3 := fun_mk (st := s__law_chain) l3 c3 k3
  have b3 := F3.binds (ps := ["_law_d", "_law_most"]) fun _ _ _ _ _ _ us hl => match us, hl with | [_, _], _ => rfl
  have F4 := fun_mk (st := s__law_dice) l4 c4 k4
  have b4 := F4.binds (ps := ["_law_script", "_law_k"]) fun _ _ _ _ _ _ us hl => match us, hl with | [_, _], _ => rfl
  have F5 := fun_mk (st := s_must) l5 c5 k5
  have b5 := F5.binds (ps := ["good"]) fun _ _ _ _ _ _ us hl => match us, hl with | [_], _ => rfl
  have F6 := fun_mk (st := s_Chain___init__) l6 c6 k6
  have b6 := F6.binds (ps := ["self", "many", "moves"]) fun _ _ _ _ _ _ us hl => match us, hl with | [_, _, _], _ => rfl
  have F7 := fun_mk (st := s__law_made) l7 c7 k7
  have b7 := F7.binds (ps := ["_law_told"]) fun _ _ _ _ _ _ us hl => match us, hl with | [_], _ => rfl
  have F8 := fun_mk (st := s_reached) l8 c8 k8
  have b8 := F8.binds (ps := ["chain", "place"]) fun _ _ _ _ _ _ us hl => match us, hl with | [_, _], _ => rfl
  have F9 := fun_mk (st := s_closed) l9 c9 k9
  have b9 := F9.binds (ps := ["chain"]) fun _ _ _ _ _ _ us hl => match us, hl with | [_], _ => rfl
  have F10 := fun_mk (st := s_NotOne___init__) l10 c10 k10
  have b10 := F10.binds (ps := ["self", "groups"]) fun _ _ _ _ _ _ us hl => match us, hl with | [_, _], _ => rfl
  have F11 := fun_mk (st := s_Chain_weight) l11 c11 k11
  have b11 := F11.binds (ps := ["self"]) fun _ _ _ _ _ _ us hl => match us, hl with | [_], _ => rfl
  have F12 := fun_mk (st := s_made) l12 c12 k12
  have b12 := F12.binds (ps := ["top", "bottom"]) fun _ _ _ _ _ _ us hl => match us, hl with | [_, _], _ => rfl
  have F13 := fun_mk (st := s_added) l13 c13 k13
  have b13 := F13.binds (ps := ["one", "other"]) fun _ _ _ _ _ _ us hl => match us, hl with | [_, _], _ => rfl
  have F14 := fun_mk (st := s_chances) l14 c14 k14
  have b14 := F14.binds (ps := ["chain"]) fun _ _ _ _ _ _ us hl => match us, hl with | [_], _ => rfl
  have F15 := fun_mk (st := s_less) l15 c15 k15
  have b15 := F15.binds (ps := ["one", "other"]) fun _ _ _ _ _ _ us hl => match us, hl with | [_, _], _ => rfl
  have F16 := fun_mk (st := s_over) l16 c16 k16
  have b16 := F16.binds (ps := ["one", "other"]) fun _ _ _ _ _ _ us hl => match us, hl with | [_, _], _ => rfl
  have F17 := fun_mk (st := s_lead_with) l17 c17 k17
  have b17 := F17.binds (ps := ["rows", "at"]) fun _ _ _ _ _ _ us hl => match us, hl with | [_, _], _ => rfl
  have F18 := fun_mk (st := s_timed) l18 c18 k18
  have b18 := F18.binds (ps := ["one", "other"]) fun _ _ _ _ _ _ us hl => match us, hl with | [_, _], _ => rfl
  have F19 := fun_mk (st := s_row_less) l19 c19 k19
  have b19 := F19.binds (ps := ["row", "lead", "share", "at"]) fun _ _ _ _ _ _ us hl => match us, hl with | [_, _, _, _], _ => rfl
  have F20 := fun_mk (st := s_solved) l20 c20 k20
  have b20 := F20.binds (ps := ["rows"]) fun _ _ _ _ _ _ us hl => match us, hl with | [_], _ => rfl
  have F21 := fun_mk (st := s_own) l21 c21 k21
  have b21 := F21.binds (ps := ["chain"]) fun _ _ _ _ _ _ us hl => match us, hl with | [_], _ => rfl
  have F22 := fun_mk (st := s__law_low) l22 c22 k22
  have b22 := F22.binds (ps := ["_law_top", "_law_bottom"]) fun _ _ _ _ _ _ us hl => match us, hl with | [_, _], _ => rfl
  have F23 := fun_mk (st := s__law_add) l23 c23 k23
  have b23 := F23.binds (ps := ["_law_one", "_law_other"]) fun _ _ _ _ _ _ us hl => match us, hl with | [_, _], _ => rfl
  have F24 := fun_mk (st := s__law_sum) l24 c24 k24
  have b24 := F24.binds (ps := ["_law_some"]) fun _ _ _ _ _ _ us hl => match us, hl with | [_], _ => rfl
  have F25 := fun_mk (st := s__law_is_share) l25 c25 k25
  have b25 := F25.binds (ps := ["_law_found"]) fun _ _ _ _ _ _ us hl => match us, hl with | [_], _ => rfl
  have F26 := fun_mk (st := s__law_are_shares) l26 c26 k26
  have b26 := F26.binds (ps := ["_law_found", "_law_many"]) fun _ _ _ _ _ _ us hl => match us, hl with | [_, _], _ => rfl
  have F27 := fun_mk (st := s__law_ends) l27 c27 k27
  have b27 := F27.binds (ps := ["_law_told", "_law_numbers_here"]) fun _ _ _ _ _ _ us hl => match us, hl with | [_, _], _ => rfl
  have F28 := fun_mk (st := s__law_times) l28 c28 k28
  have b28 := F28.binds (ps := ["_law_one", "_law_other"]) fun _ _ _ _ _ _ us hl => match us, hl with | [_, _], _ => rfl
  have F29 := fun_mk (st := s_pairs_of) l29 c29 k29
  have b29 := F29.binds (ps := ["chain"]) fun _ _ _ _ _ _ us hl => match us, hl with | [_], _ => rfl
  have F30 := fun_mk (st := s_moved_pair) l30 c30 k30
  have b30 := F30.binds (ps := ["row", "pair"]) fun _ _ _ _ _ _ us hl => match us, hl with | [_, _], _ => rfl
  have F31 := fun_mk (st := s_goes) l31 c31 k31
  have b31 := F31.binds (ps := ["chain", "pair", "known"]) fun _ _ _ _ _ _ us hl => match us, hl with | [_, _, _], _ => rfl
  have F32 := fun_mk (st := s_meeting_pairs) l32 c32 k32
  have b32 := F32.binds (ps := ["chain"]) fun _ _ _ _ _ _ us hl => match us, hl with | [_], _ => rfl
  have F33 := fun_mk (st := s_never) l33 c33 k33
  have b33 := F33.binds (ps := ["chain"]) fun _ _ _ _ _ _ us hl => match us, hl with | [_], _ => rfl
  have F34 := fun_mk (st := s_pairs_behind) l34 c34 k34
  have b34 := F34.binds (ps := ["chain", "pair"]) fun _ _ _ _ _ _ us hl => match us, hl with | [_, _], _ => rfl
  have F35 := fun_mk (st := s_walking) l35 c35 k35
  have b35 := F35.binds (ps := ["chain", "rows", "waiting"]) fun _ _ _ _ _ _ us hl => match us, hl with | [_, _, _], _ => rfl
  have F36 := fun_mk (st := s_meeting) l36 c36 k36
  have b36 := F36.binds (ps := ["chain"]) fun _ _ _ _ _ _ us hl => match us, hl with | [_], _ => rfl
  have F37 := fun_mk (st := s_farther) l37 c37 k37
  have b37 := F37.binds (ps := ["ends", "row"]) fun _ _ _ _ _ _ us hl => match us, hl with | [_, _], _ => rfl
  have F38 := fun_mk (st := s_summed) l38 c38 k38
  have b38 := F38.binds (ps := ["some"]) fun _ _ _ _ _ _ us hl => match us, hl with | [_], _ => rfl
  have F39 := fun_mk (st := s_shares) l39 c39 k39
  have b39 := F39.binds (ps := ["chain", "far"]) fun _ _ _ _ _ _ us hl => match us, hl with | [_, _], _ => rfl
  have F40 := fun_mk (st := s_law) l40 c40 k40
  have b40 := F40.binds (ps := ["_law_script"]) fun _ _ _ _ _ _ us hl => match us, hl with | [_], _ => rfl
  exact ⟨PySem.W.fnOf "law" "law" (defArgs s_law) (defBody s_law) (defScope s_law) .none kV40 dc40 pm40 an40 cd40 ct40, fun s v => .of_eq rfl,
    fun base _ _ => ok_law (P := l.prog) (w := w) (base := base) ({ C_Chain := C_Chain, cl_Chain := ⟨pg_Chain, hd_Chain, po_Chain, sa_Chain⟩, g_Chain := PySem.W.mg_of X G aC_Chain, na_Chain_many := na_Chain_many, na_Chain_moves := na_Chain_moves, C_BadChain := C_BadChain, g_BadChain := PySem.W.mg_of X G aC_BadChain, kp_BadChain := kp_BadChain, su_BadChain := su_BadChain, ty_BadChain := ty_BadChain, xi_BadChain := xi_BadChain, C_NotOne := C_NotOne, g_NotOne := PySem.W.mg_of X G aC_NotOne, kp_NotOne := kp_NotOne, su_NotOne := su_NotOne, ty_NotOne := ty_NotOne, C_LongError := C_LongError, g_LongError := PySem.W.mg_of X G aC_LongError, kp_LongError := kp_LongError, su_LongError := su_LongError, ty_LongError := ty_LongError, xi_LongError := xi_LongError, C_NoSuch := C_NoSuch, g_NoSuch := PySem.W.mg_of X G aC_NoSuch, kp_NoSuch := kp_NoSuch, su_NoSuch := su_NoSuch, ty_NoSuch := ty_NoSuch, xi_NoSuch := xi_NoSuch, a__law_cell := f1, d__law_cell := _, F__law_cell := F1, b__law_cell := b1, g__law_cell := PySem.W.mg_of X G a1, a__law_off := f2, d__law_off := _, F__law_off := F2, b__law_off := b2, g__law_off := PySem.W.mg_of X G a2, a__law_chain := f3, d__law_chain := _, F__law_chain := F3, b__law_chain := b3, g__law_chain := PySem.W.mg_of X G a3, a__law_dice := f4, d__law_dice := _, F__law_dice := F4, b__law_dice := b4, g__law_dice := PySem.W.mg_of X G a4, a_must := f5, d_must := _, F_must := F5, b_must := b5, g_must := PySem.W.mg_of X G a5, a_Chain___init__ := f6, d_Chain___init__ := _, F_Chain___init__ := F6, b_Chain___init__ := b6, mk_Chain := ⟨mm_Chain, a6, i6, kc_Chain⟩, a__law_made := f7, d__law_made := _, F__law_made := F7, b__law_made := b7, g__law_made := PySem.W.mg_of X G a7, a_reached := f8, d_reached := _, F_reached := F8, b_reached := b8, g_reached := PySem.W.mg_of X G a8, a_closed := f9, d_closed := _, F_closed := F9, b_closed := b9, g_closed := PySem.W.mg_of X G a9, a_NotOne___init__ := f10, d_NotOne___init__ := _, F_NotOne___init__ := F10, b_NotOne___init__ := b10, a_Chain_weight := f11, d_Chain_weight := _, F_Chain_weight := F11, b_Chain_weight := b11, M_Chain_weight := ⟨a11, i11, k11⟩, a_made := f12, d_made := _, F_made := F12, b_made := b12, g_made := PySem.W.mg_of X G a12, a_added := f13, d_added := _, F_added := F13, b_added := b13, g_added := PySem.W.mg_of X G a13, a_chances := f14, d_chances := _, F_chances := F14, b_chances := b14, g_chances := PySem.W.mg_of X G a14, a_less := f15, d_less := _, F_less := F15, b_less := b15, g_less := PySem.W.mg_of X G a15, a_over := f16, d_over := _, F_over := F16, b_over := b16, g_over := PySem.W.mg_of X G a16, a_lead_with := f17, d_lead_with := _, F_lead_with := F17, b_lead_with := b17, g_lead_with := PySem.W.mg_of X G a17, a_timed := f18, d_timed := _, F_timed := F18, b_timed := b18, g_timed := PySem.W.mg_of X G a18, a_row_less := f19, d_row_less := _, F_row_less := F19, b_row_less := b19, g_row_less := PySem.W.mg_of X G a19, a_solved := f20, d_solved := _, F_solved := F20, b_solved := b20, g_solved := PySem.W.mg_of X G a20, a_own := f21, d_own := _, F_own := F21, b_own := b21, g_own := PySem.W.mg_of X G a21, a__law_low := f22, d__law_low := _, F__law_low := F22, b__law_low := b22, g__law_low := PySem.W.mg_of X G a22, a__law_add := f23, d__law_add := _, F__law_add := F23, b__law_add := b23, g__law_add := PySem.W.mg_of X G a23, a__law_sum := f24, d__law_sum := _, F__law_sum := F24, b__law_sum := b24, g__law_sum := PySem.W.mg_of X G a24, a__law_is_share := f25, d__law_is_share := _, F__law_is_share := F25, b__law_is_share := b25, g__law_is_share := PySem.W.mg_of X G a25, a__law_are_shares := f26, d__law_are_shares := _, F__law_are_shares := F26, b__law_are_shares := b26, g__law_are_shares := PySem.W.mg_of X G a26, a__law_ends := f27, d__law_ends := _, F__law_ends := F27, b__law_ends := b27, g__law_ends := PySem.W.mg_of X G a27, a__law_times := f28, d__law_times := _, F__law_times := F28, b__law_times := b28, g__law_times := PySem.W.mg_of X G a28, a_pairs_of := f29, d_pairs_of := _, F_pairs_of := F29, b_pairs_of := b29, g_pairs_of := PySem.W.mg_of X G a29, a_moved_pair := f30, d_moved_pair := _, F_moved_pair := F30, b_moved_pair := b30, g_moved_pair := PySem.W.mg_of X G a30, a_goes := f31, d_goes := _, F_goes := F31, b_goes := b31, g_goes := PySem.W.mg_of X G a31, a_meeting_pairs := f32, d_meeting_pairs := _, F_meeting_pairs := F32, b_meeting_pairs := b32, g_meeting_pairs := PySem.W.mg_of X G a32, a_never := f33, d_never := _, F_never := F33, b_never := b33, g_never := PySem.W.mg_of X G a33, a_pairs_behind := f34, d_pairs_behind := _, F_pairs_behind := F34, b_pairs_behind := b34, g_pairs_behind := PySem.W.mg_of X G a34, a_walking := f35, d_walking := _, F_walking := F35, b_walking := b35, g_walking := PySem.W.mg_of X G a35, a_meeting := f36, d_meeting := _, F_meeting := F36, b_meeting := b36, g_meeting := PySem.W.mg_of X G a36, a_farther := f37, d_farther := _, F_farther := F37, b_farther := b37, g_farther := PySem.W.mg_of X G a37, a_summed := f38, d_summed := _, F_summed := F38, b_summed := b38, g_summed := PySem.W.mg_of X G a38, a_shares := f39, d_shares := _, F_shares := F39, b_shares := b39, g_shares := PySem.W.mg_of X G a39, a_law := fa, d_law := _, F_law := F40, b_law := b40, g_law := PySem.W.mg_of X G a40, X_NotOne := ⟨ob_NotOne, xs_NotOne, su_NotOne, ty_NotOne, kp_NotOne, a10, xt_NotOne, xn_NotOne⟩, xb_LongError := ⟨xlg, xlr, xli⟩, g_MOST_PLACES := ⟨_, PySem.W.mg_of X G gc_MOST_PLACES⟩, g_MOST_MOVES := ⟨_, PySem.W.mg_of X G gc_MOST_MOVES⟩, g_MOST_WEIGHT := ⟨_, PySem.W.mg_of X G gc_MOST_WEIGHT⟩, u_NOUGHT := u_NOUGHT, g_NOUGHT := PySem.W.mg_of X G gc_NOUGHT, p_NOUGHT := fun F => J.dp_const (ns := [0, 1]) lc_NOUGHT (.cons ⟨_, rfl⟩ (.cons ⟨_, rfl⟩ .nil)) (J.lz rfl), u_WHOLE := u_WHOLE, g_WHOLE := PySem.W.mg_of X G gc_WHOLE, p_WHOLE := fun F => J.dp_const (ns := [1, 1]) lc_WHOLE (.cons ⟨_, rfl⟩ (.cons ⟨_, rfl⟩ .nil)) (J.lz rfl), g_MOST_FAR := ⟨_, PySem.W.mg_of X G gc_MOST_FAR⟩, z_abs := PySem.W.mg_none_of X G z_abs, z_len := PySem.W.mg_none_of X G z_len, z_max := PySem.W.mg_none_of X G z_max, z_range := PySem.W.mg_none_of X G z_range, z_sorted := PySem.W.mg_none_of X G z_sorted, z_tuple := PySem.W.mg_none_of X G z_tuple, z_min := PySem.W.mg_none_of X G z_min, z_int := PySem.W.mg_none_of X G z_int, z_list := PySem.W.mg_none_of X G z_list, z_sum := PySem.W.mg_none_of X G z_sum, z_isinstance := PySem.W.mg_none_of X G z_isinstance, z_bool := PySem.W.mg_none_of X G z_bool, z_set := PySem.W.mg_none_of X G z_set } : Tx K mg)⟩
end Kz
open PySem PySem.W PyProof.Rows in
set_option maxRecDepth 100000 in
set_option maxHeartbeats 0 in
theorem PySem.Challenge.cw_longago_k15_whole_begun_by_own_shares_holds : PySem.Challenge.rw_longago_k15_whole_begun_by_own_shares.Holds := by
  w_on; o_law; k_head; (case hw => w_witness2)
  k_fill
  refine L2.walk_of (l := PySem.Challenge.rw_longago_k15_whole_begun_by_own_shares) (n := 63) (k := 6) (x := "_law_script") (CX := fun w => L2.CX (PySem.Challenge.rw_longago_k15_whole_begun_by_own_shares).prog w) (sp := fun w => J.SpJ _ J.spLaw) rfl (by decide) rfl ⟨rfl, by decide, by decide⟩ (fun w h Y => PySem.W.kIn_of Y) ?F (fun _ H a ns hl _ hS => J.spLaw_start hS hl) J.cx_none
  case F =>
    intro w mg fa h KX G hmg
    refine' Kz.all_mk KX G hmg ?aC_Chain ?pg_Chain ?hd_Chain ?po_Chain ?sa_Chain ?mm_Chain ?kc_Chain ?na_Chain_many ?na_Chain_moves ?aC_BadChain ?kp_BadChain ?su_BadChain ?ty_BadChain ?xi_BadChain ?aC_NotOne ?kp_NotOne ?su_NotOne ?ty_NotOne ?aC_LongError ?kp_LongError ?su_LongError ?ty_LongError ?xi_LongError ?aC_NoSuch ?kp_NoSuch ?su_NoSuch ?ty_NoSuch ?xi_NoSuch ?a1 ?l1 ?c1 ?k1 ?a2 ?l2 ?c2 ?k2 ?a3 ?l3 ?c3 ?k3 ?a4 ?l4 ?c4 ?k4 ?a5 ?l5 ?c5 ?k5 ?a6 ?i6 ?l6 ?c6 ?k6 ?a7 ?l7 ?c7 ?k7 ?a8 ?l8 ?c8 ?k8 ?a9 ?l9 ?c9 ?k9 ?a10 ?i10 ?l10 ?c10 ?k10 ?a11 ?i11 ?l11 ?c11 ?k11 ?a12 ?l12 ?c12 ?k12 ?a13 ?l13 ?c13 ?k13 ?a14 ?l14 ?c14 ?k14 ?a15 ?l15 ?c15 ?k15 ?a16 ?l16 ?c16 ?k16 ?a17 ?l17 ?c17 ?k17 ?a18 ?l18 ?c18 ?k18 ?a19 ?l19 ?c19 ?k19 ?a20 ?l20 ?c20 ?k20 ?a21 ?l21 ?c21 ?k21 ?a22 ?l22 ?c22 ?k22 ?a23 ?l23 ?c23 ?k23 ?a24 ?l24 ?c24 ?k24 ?a25 ?l25 ?c25 ?k25 ?a26 ?l26 ?c26 ?k26 ?a27 ?l27 ?c27 ?k27 ?a28 ?l28 ?c28 ?k28 ?a29 ?l29 ?c29 ?k29 ?a30 ?l30 ?c30 ?k30 ?a31 ?l31 ?c31 ?k31 ?a32 ?l32 ?c32 ?k32 ?a33 ?l33 ?c33 ?k33 ?a34 ?l34 ?c34 ?k34 ?a35 ?l35 ?c35 ?k35 ?a36 ?l36 ?c36 ?k36 ?a37 ?l37 ?c37 ?k37 ?a38 ?l38 ?c38 ?k38 ?a39 ?l39 ?c39 ?k39 ?a40 ?l40 ?c40 ?k40 ?ob_NotOne ?xs_NotOne ?xt_NotOne ?xn_NotOne ?xlg ?xlr ?xli ?gc_MOST_PLACES ?gc_MOST_MOVES ?gc_MOST_WEIGHT ?gc_NOUGHT ?lc_NOUGHT ?gc_WHOLE ?lc_WHOLE ?gc_MOST_FAR ?z_abs ?z_len ?z_max ?z_range ?z_sorted ?z_tuple ?z_min ?z_int ?z_list ?z_sum ?z_isinstance ?z_bool ?z_set
    (case aC_Chain => k_is)
    (case pg_Chain => k_is)
    (case hd_Chain => k_is)
    (case po_Chain => k_is)
    (case sa_Chain => k_is)
    (case mm_Chain => k_is)
    (case kc_Chain => k_is)
    (case na_Chain_many => k_is)
    (case na_Chain_moves => k_is)
    (case aC_BadChain => k_is)
    (case kp_BadChain => k_is)
    (case su_BadChain => k_is)
    (case ty_BadChain => k_is)
    (case xi_BadChain => kernel_rfl)
    (case aC_NotOne => k_is)
    (case kp_NotOne => k_is)
    (case su_NotOne => k_is)
    (case ty_NotOne => k_is)
    (case aC_LongError => k_is)
    (case kp_LongError => k_is)
    (case su_LongError => k_is)
    (case ty_LongError => k_is)
    (case xi_LongError => kernel_rfl)
    (case aC_NoSuch => k_is)
    (case kp_NoSuch => k_is)
    (case su_NoSuch => k_is)
    (case ty_NoSuch => k_is)
    (case xi_NoSuch => kernel_rfl)
    (case a1 => k_is)
    (case l1 => k_is)
    (case c1 => k_is)
    (case k1 => k_is)
    (case a2 => k_is)
    (case l2 => k_is)
    (case c2 => k_is)
    (case k2 => k_is)
    (case a3 => k_is)
    (case l3 => k_is)
    (case c3 => k_is)
    (case k3 => k_is)
    (case a4 => k_is)
    (case l4 => k_is)
    (case c4 => k_is)
    (case k4 => k_is)
    (case a5 => k_is)
    (case l5 => k_is)
    (case c5 => k_is)
    (case k5 => k_is)
    (case a6 => k_is)
    (case i6 => k_is)
    (case l6 => k_is)
    (case c6 => k_is)
    (case k6 => k_is)
    (case a7 => k_is)
    (case l7 => k_is)
    (case c7 => k_is)
    (case k7 => k_is)
    (case a8 => k_is)
    (case l8 => k_is)
    (case c8 => k_is)
    (case k8 => k_is)
    (case a9 => k_is)
    (case l9 => k_is)
    (case c9 => k_is)
    (case k9 => k_is)
    (case a10 => k_is)
    (case i10 => k_is)
    (case l10 => k_is)
    (case c10 => k_is)
    (case k10 => k_is)
    (case a11 => k_is)
    (case i11 => k_is)
    (case l11 => k_is)
    (case c11 => k_is)
    (case k11 => k_is)
    (case a12 => k_is)
    (case l12 => k_is)
    (case c12 => k_is)
    (case k12 => k_is)
    (case a13 => k_is)
    (case l13 => k_is)
    (case c13 => k_is)
    (case k13 => k_is)
    (case a14 => k_is)
    (case l14 => k_is)
    (case c14 => k_is)
    (case k14 => k_is)
    (case a15 => k_is)
    (case l15 => k_is)
    (case c15 => k_is)
    (case k15 => k_is)
    (case a16 => k_is)
    (case l16 => k_is)
    (case c16 => k_is)
    (case k16 => k_is)
    (case a17 => k_is)
    (case l17 => k_is)
    (case c17 => k_is)
    (case k17 => k_is)
    (case a18 => k_is)
    (case l18 => k_is)
    (case c18 => k_is)
    (case k18 => k_is)
    (case a19 => k_is)
    (case l19 => k_is)
    (case c19 => k_is)
    (case k19 => k_is)
    (case a20 => k_is)
    (case l20 => k_is)
    (case c20 => k_is)
    (case k20 => k_is)
    (case a21 => k_is)
    (case l21 => k_is)
    (case c21 => k_is)
    (case k21 => k_is)
    (case a22 => k_is)
    (case l22 => k_is)
    (case c22 => k_is)
    (case k22 => k_is)
    (case a23 => k_is)
    (case l23 => k_is)
    (case c23 => k_is)
    (case k23 => k_is)
    (case a24 => k_is)
    (case l24 => k_is)
    (case c24 => k_is)
    (case k24 => k_is)
    (case a25 => k_is)
    (case l25 => k_is)
    (case c25 => k_is)
    (case k25 => k_is)
    (case a26 => k_is)
    (case l26 => k_is)
    (case c26 => k_is)
    (case k26 => k_is)
    (case a27 => k_is)
    (case l27 => k_is)
    (case c27 => k_is)
    (case k27 => k_is)
    (case a28 => k_is)
    (case l28 => k_is)
    (case c28 => k_is)
    (case k28 => k_is)
    (case a29 => k_is)
    (case l29 => k_is)
    (case c29 => k_is)
    (case k29 => k_is)
    (case a30 => k_is)
    (case l30 => k_is)
    (case c30 => k_is)
    (case k30 => k_is)
    (case a31 => k_is)
    (case l31 => k_is)
    (case c31 => k_is)
    (case k31 => k_is)
    (case a32 => k_is)
    (case l32 => k_is)
    (case c32 => k_is)
    (case k32 => k_is)
    (case a33 => k_is)
    (case l33 => k_is)
    (case c33 => k_is)
    (case k33 => k_is)
    (case a34 => k_is)
    (case l34 => k_is)
    (case c34 => k_is)
    (case k34 => k_is)
    (case a35 => k_is)
    (case l35 => k_is)
    (case c35 => k_is)
    (case k35 => k_is)
    (case a36 => k_is)
    (case l36 => k_is)
    (case c36 => k_is)
    (case k36 => k_is)
    (case a37 => k_is)
    (case l37 => k_is)
    (case c37 => k_is)
    (case k37 => k_is)
    (case a38 => k_is)
    (case l38 => k_is)
    (case c38 => k_is)
    (case k38 => k_is)
    (case a39 => k_is)
    (case l39 => k_is)
    (case c39 => k_is)
    (case k39 => k_is)
    (case a40 => k_is)
    (case l40 => k_is)
    (case c40 => k_is)
    (case k40 => k_is)
    (case ob_NotOne => kernel_rfl)
    (case xs_NotOne => first | k_is | kernel_rfl)
    (case xt_NotOne => first | k_is | kernel_rfl)
    (case xn_NotOne => first | k_is | kernel_rfl)
    (case xlg => first | k_is | kernel_rfl)
    (case xlr => first | k_is | kernel_rfl)
    (case xli => first | k_is | kernel_rfl)
    (case gc_MOST_PLACES => k_is)
    (case gc_MOST_MOVES => k_is)
    (case gc_MOST_WEIGHT => k_is)
    (case gc_NOUGHT => k_is)
    (case lc_NOUGHT => k_is)
    (case gc_WHOLE => k_is)
    (case lc_WHOLE => k_is)
    (case gc_MOST_FAR => k_is)
    (case z_abs => k_is)
    (case z_len => k_is)
    (case z_max => k_is)
    (case z_range => k_is)
    (case z_sorted => k_is)
    (case z_tuple => k_is)
    (case z_min => k_is)
    (case z_int => k_is)
    (case z_list => k_is)
    (case z_sum => k_is)
    (case z_isinstance => k_is)
    (case z_bool => k_is)
    (case z_set => k_is)
