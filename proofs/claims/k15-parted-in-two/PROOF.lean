import PyProof.Rows.All
import Wide.All
import OpenK.AllK
import Wide.FinOn
import HandS.ForMost
import HandS.TupSets
import KE.SortData
import HandS.Rev
import KE.KDictList
import HandS.IsInst
import HandS.Deep
import HandS.TupLe
import HandS.Style
import HandS.More
import HandS.Conv
import HandS.DictTup
import HandS.Walk
import HandS.Text
import KE.KDictDisplayH
import HandS.ExcOwn
import HandS.ExcIs
import HandS.WordsExc
import HandS.HotCalls
import KE.IntTextLaws
import PyProof.StrLawsChain
import PySem.Challenge.RW_roundsum_k15_parted_in_two
set_option Elab.async false
set_option linter.all false
set_option maxRecDepth 100000
set_option maxHeartbeats 8000000

/-! # Rs: symbolic walking over data. Slots of a frame are told by data (flat values, standing lists, own lists); every rule is a rule upon data alone. -/
namespace Rs
open PySem PySem.Spec PyProof.Rows L2

/-! ## flat data -/
def flat0 : PyData → Bool
  | .none => true
  | .bool _ => true
  | .int _ => true
  | .str _ => true
  | _ => false
def flat : PyData → Bool
  | .tuple ds => ds.all flat0
  | d => flat0 d
/-- an object that may change -/
def Mu : HO → Prop
  | .tup _ => False
  | .frz _ _ => False
  | _ => True
def SameT (H H' : Hp) : Prop := ∀ b u, H b = some u → ¬ Mu u → H' b = some u
theorem SameT.of {H H' : Hp} (e : Same H H') : SameT H H' := fun b u h _ => e b u h
theorem SameT.refl (H : Hp) : SameT H H := fun _ _ h _ => h
theorem SameT.trans {H H1 H2 : Hp} (a : SameT H H1) (b : SameT H1 H2) : SameT H H2 := fun x u h n => b x u (a x u h n) n
theorem SameT.upd {H : Hp} {p : Addr} {o o' : HO} (h : H p = some o) (m : Mu o) : SameT H (upd H p o') := fun b u e n => by
  have hb : b ≠ p := fun z => by
    subst z
    rw [h] at e
    cases e
    exact n m
  rw [upd_ne hb]
  exact e
theorem same_mut {H H' : Hp} {p : Addr} {o : HO} (e : Same H H') (h : H p = none) : Same H (upd H' p o) := fun a u ha => by
  rw [upd_ne (ne_of_none ha h)]
  exact e a u ha
theorem same_new {H : Hp} {p : Addr} {o : HO} (h : H p = none) : Same H (upd H p o) := same_mut (Same.refl H) h

section
variable {K : PySem.W.Frag} {H H' : Hp}
theorem sqT_keep {a : Addr} {xs : List V} (e : SameT H H') (h : SqT K H a xs) : SqT K H' a xs := by
  rcases h with (h | ⟨o, h⟩) | h
  · exact .inl (.inl (e _ _ h id))
  · exact .inl (.inr ⟨o, e _ _ h id⟩)
  · exact .inr h
theorem sqT_same {a : Addr} {xs : List V} (e : Same H H') (h : SqT K H a xs) : SqT K H' a xs := sqT_keep (.of e) h
mutual
theorem dp_mono (e : Same H H') : ∀ (d : PyData) {v : V}, Dp K H v d → Dp K H' v d
  | .none, _, h => by cases h; exact .non
  | .bool b, _, h => by cases h; exact .bl b
  | .int i, _, h => by cases h; exact .int i
  | .str x, _, h => by cases h; exact .str x
  | .list ds, _, h => by
    cases h with
    | lst hs ha => exact .lst (e.seq hs) (dpa_mono e ds ha)
  | .tuple ds, _, h => by
    cases h with
    | tup hs ha => exact .tup (sqT_same e hs) (dpa_mono e ds ha)
  | .dict _, _, h => by cases h
theorem dpa_mono (e : Same H H') : ∀ (ds : List PyData) {vs : List V}, DpAll K H vs ds → DpAll K H' vs ds
  | [], _, h => by cases h; exact .nil
  | d :: ds, _, h => by
    cases h with
    | cons h1 h2 => exact .cons (dp_mono e d h1) (dpa_mono e ds h2)
end
theorem dp_flat0 : ∀ {d : PyData} {v : V}, flat0 d = true → Dp K H v d → Dp K H' v d
  | .none, _, _, h => by cases h; exact .non
  | .bool b, _, _, h => by cases h; exact .bl b
  | .int i, _, _, h => by cases h; exact .int i
  | .str x, _, _, h => by cases h; exact .str x
  | .list ds, _, f, _ => by cases f
  | .tuple ds, _, f, _ => by cases f
  | .dict _, _, f, _ => by cases f
theorem dpa_flat0 : ∀ {ds : List PyData} {vs : List V}, ds.all flat0 = true → DpAll K H vs ds → DpAll K H' vs ds
  | [], _, _, h => by cases h; exact .nil
  | d :: ds, _, f, h => by
    rw [List.all_cons, Bool.and_eq_true] at f
    cases h with
    | cons h1 h2 => exact .cons (dp_flat0 f.1 h1) (dpa_flat0 f.2 h2)
theorem dp_flat (e : SameT H H') : ∀ {d : PyData} {v : V}, flat d = true → Dp K H v d → Dp K H' v d
  | .none, _, _, h => by cases h; exact .non
  | .bool b, _, _, h => by cases h; exact .bl b
  | .int i, _, _, h => by cases h; exact .int i
  | .str x, _, _, h => by cases h; exact .str x
  | .list ds, _, f, _ => by cases f
  | .tuple ds, _, f, h => by
    cases h with
    | tup hs ha => exact .tup (sqT_keep e hs) (dpa_flat0 f ha)
  | .dict _, _, f, _ => by cases f
theorem dpa_flat (e : SameT H H') : ∀ {ds : List PyData} {vs : List V}, ds.all flat = true → DpAll K H vs ds → DpAll K H' vs ds
  | [], _, _, h => by cases h; exact .nil
  | d :: ds, _, f, h => by
    rw [List.all_cons, Bool.and_eq_true] at f
    cases h with
    | cons h1 h2 => exact .cons (dp_flat e f.1 h1) (dpa_flat e f.2 h2)
theorem dpa_len : ∀ {ds : List PyData} {vs : List V}, DpAll K H vs ds → vs.length = ds.length
  | _, _, .nil => rfl
  | _, _, .cons _ t => by rw [List.length_cons, List.length_cons, dpa_len t]
theorem dpa_get : ∀ {ds : List PyData} {vs : List V} {i : Nat} {d : PyData}, DpAll K H vs ds → ds[i]? = some d → ∃ v, vs[i]? = some v ∧ Dp K H v d
  | _, _, _, _, .nil, e => by simp at e
  | _, _, 0, _, .cons h _, e => by
    simp at e
    subst e
    exact ⟨_, rfl, h⟩
  | _, _, i + 1, d, .cons _ t, e => by
    obtain ⟨v, h1, h2⟩ := dpa_get (i := i) (d := d) t (by simpa using e)
    exact ⟨v, by simpa using h1, h2⟩
theorem dpa_get' : ∀ {ds : List PyData} {vs : List V} {i : Nat} {v : V}, DpAll K H vs ds → vs[i]? = some v → ∃ d, ds[i]? = some d ∧ Dp K H v d
  | _, _, _, _, .nil, e => by simp at e
  | _, _, 0, _, .cons h _, e => by
    simp at e
    subst e
    exact ⟨_, rfl, h⟩
  | _, _, i + 1, d, .cons _ t, e => by
    obtain ⟨v, h1, h2⟩ := dpa_get' (i := i) (v := d) t (by simpa using e)
    exact ⟨v, by simpa using h1, h2⟩
theorem dpa_append : ∀ {ds es : List PyData} {vs ws : List V}, DpAll K H vs ds → DpAll K H ws es → DpAll K H (vs ++ ws) (ds ++ es)
  | _, _, _, _, .nil, h => h
  | _, _, _, _, .cons h t, g => .cons h (dpa_append t g)
theorem dpa_take : ∀ {ds : List PyData} {vs : List V} (n : Nat), DpAll K H vs ds → DpAll K H (vs.take n) (ds.take n)
  | _, _, 0, _ => .nil
  | _, _, _ + 1, .nil => .nil
  | _, _, n + 1, .cons h t => .cons h (dpa_take n t)
theorem dpa_drop : ∀ {ds : List PyData} {vs : List V} (n : Nat), DpAll K H vs ds → DpAll K H (vs.drop n) (ds.drop n)
  | _, _, 0, h => h
  | _, _, _ + 1, .nil => .nil
  | _, _, n + 1, .cons _ t => dpa_drop n t
theorem dpa_set : ∀ {ds : List PyData} {vs : List V} {d : PyData} {v : V} (i : Nat), DpAll K H vs ds → Dp K H v d → DpAll K H (vs.set i v) (ds.set i d)
  | _, _, _, _, _, .nil, _ => .nil
  | _, _, _, _, 0, .cons _ t, g => .cons g t
  | _, _, _, _, i + 1, .cons h t, g => .cons h (dpa_set i t g)
theorem dpa_reverse : ∀ {ds : List PyData} {vs : List V}, DpAll K H vs ds → DpAll K H vs.reverse ds.reverse
  | _, _, .nil => .nil
  | _, _, .cons h t => by
    rw [List.reverse_cons, List.reverse_cons]
    exact dpa_append (dpa_reverse t) (.cons h .nil)
theorem dpa_eraseIdx : ∀ {ds : List PyData} {vs : List V} (i : Nat), DpAll K H vs ds → DpAll K H (vs.eraseIdx i) (ds.eraseIdx i)
  | _, _, _, .nil => .nil
  | _, _, 0, .cons _ t => t
  | _, _, i + 1, .cons h t => .cons h (dpa_eraseIdx i t)
theorem dpa_replicate {d : PyData} {v : V} (h : Dp K H v d) : ∀ n : Nat, DpAll K H (List.replicate n v) (List.replicate n d)
  | 0 => .nil
  | n + 1 => .cons h (dpa_replicate h n)
theorem dp_int {v : V} {i : Int} (h : Dp K H v (.int i)) : v = .int i := by cases h; rfl
theorem dp_bool {v : V} {b : Bool} (h : Dp K H v (.bool b)) : v = .bl b := by cases h; rfl
theorem dp_str {v : V} {x : Str} (h : Dp K H v (.str x)) : v = .str x := by cases h; rfl
theorem dp_none {v : V} (h : Dp K H v .none) : v = .non := by cases h; rfl
theorem dp_list {v : V} {ds : List PyData} (h : Dp K H v (.list ds)) : ∃ a xs, v = .ref a ∧ SqL K H a xs ∧ DpAll K H xs ds := by
  cases h with
  | lst hs ha => exact ⟨_, _, rfl, hs, ha⟩
theorem dp_tup {v : V} {ds : List PyData} (h : Dp K H v (.tuple ds)) : ∃ a xs, v = .ref a ∧ SqT K H a xs ∧ DpAll K H xs ds := by
  cases h with
  | tup hs ha => exact ⟨_, _, rfl, hs, ha⟩
theorem dp_own {l : Addr} {vs : List V} {ds : List PyData} (h : H l = some (.lst vs)) (a : DpAll K H vs ds) : Dp K H (.ref l) (.list ds) := .lst (SqL.of h) a
theorem atI_dpa {ds : List PyData} {vs : List V} {i : Int} {d : PyData} (h : DpAll K H vs ds) (e : atI ds i = some d) : ∃ v, atI vs i = some v ∧ Dp K H v d := by
  unfold atI at e ⊢
  rw [dpa_len h]
  cases c : ixN ds.length i with
  | none => rw [c] at e; cases e
  | some j =>
    rw [c] at e
    exact dpa_get h e
end

/-! ## slots -/
structure Sl (K : PySem.W.Frag) where
  R : Hp → Hp → Option V → Prop
  as : List Addr
  st : ∀ {H0 H0' H H' : Hp} {o : Option V}, Same H0 H0' → Same H0' H' → SameT H H' → (∀ a ∈ as, ∀ u, H a = some u → H' a = some u) → R H0 H o → R H0' H' o
  mu : ∀ {H0 H : Hp} {o : Option V}, R H0 H o → ∀ a ∈ as, ∃ u, H a = some u ∧ Mu u

section
variable {K : PySem.W.Frag}
/-- nothing is known -/
def un : Sl K := ⟨fun _ _ _ => True, [], fun _ _ _ _ _ => trivial, fun _ _ h => nomatch h⟩
/-- flat data -/
def fl (d : PyData) : Sl K := ⟨fun _ H o => flat d = true ∧ ∃ v, o = some v ∧ Dp K H v d, [], fun _ _ e _ ⟨f, v, h1, h2⟩ => ⟨f, v, h1, dp_flat e f h2⟩, fun _ _ h => nomatch h⟩
/-- data of the base, that stands -/
def par (d : PyData) : Sl K := ⟨fun H0 _ o => ∃ v, o = some v ∧ Dp K H0 v d, [], fun e _ _ _ ⟨v, h1, h2⟩ => ⟨v, h1, dp_mono e d h2⟩, fun _ _ h => nomatch h⟩
/-- a list of the frame's own at l, of flat data -/
def own (l : Addr) (ds : List PyData) : Sl K := ⟨fun _ H o => o = some (.ref l) ∧ ds.all flat = true ∧ ∃ vs, H l = some (.lst vs) ∧ DpAll K H vs ds, [l],
  fun _ _ e k ⟨h1, f, vs, h2, h3⟩ => ⟨h1, f, vs, k l (List.mem_singleton.mpr rfl) _ h2, dpa_flat e f h3⟩,
  fun ⟨_, _, vs, h2, _⟩ a ha => ⟨.lst vs, (List.mem_singleton.mp ha) ▸ h2, True.intro⟩⟩
def owns (env : List (Sl K)) : List Addr := env.flatMap (·.as)
structure En (K : PySem.W.Frag) (H0 : Hp) (σ : L2.St) (H : Hp) (env : List (Sl K)) : Prop where
  sm : Same H0 H
  sl : Paired (fun o (s : Sl K) => s.R H0 H o) σ env
  nd : (owns env).Nodup
  fr : ∀ a ∈ owns env, H0 a = none

variable {H0 H H' H1 H2 : Hp} {σ : L2.St} {env : List (Sl K)}
theorem owns_cons (s : Sl K) (env : List (Sl K)) : owns (s :: env) = s.as ++ owns env := by unfold owns; rw [List.flatMap_cons]
theorem paired_get {α β : Type} {F : α → β → Prop} : ∀ {l₁ : List α} {l₂ : List β} {i : Nat} {b : β}, Paired F l₁ l₂ → l₂[i]? = some b → ∃ a, l₁[i]? = some a ∧ F a b
  | _, _, _, _, .nil, e => by simp at e
  | _, _, 0, _, .cons h _, e => by
    simp at e
    subst e
    exact ⟨_, rfl, h⟩
  | _, _, i + 1, b, .cons _ t, e => by
    obtain ⟨a, h1, h2⟩ := paired_get (i := i) (b := b) t (by simpa using e)
    exact ⟨a, by simpa using h1, h2⟩
theorem paired_set {α β : Type} {F : α → β → Prop} {a : α} {b : β} (h : F a b) : ∀ {l₁ : List α} {l₂ : List β} (i : Nat), Paired F l₁ l₂ → Paired F (l₁.set i a) (l₂.set i b)
  | _, _, _, .nil => .nil
  | _, _, 0, .cons _ t => .cons h t
  | _, _, i + 1, .cons g t => .cons g (paired_set h i t)
theorem paired_mono {α β : Type} {F G : α → β → Prop} : ∀ {l₁ : List α} {l₂ : List β}, Paired F l₁ l₂ → (∀ a b, b ∈ l₂ → F a b → G a b) → Paired G l₁ l₂
  | _, _, .nil, _ => .nil
  | _, _, .cons h t, k => .cons (k _ _ List.mem_cons_self h) (paired_mono t fun a b m => k a b (List.mem_cons_of_mem _ m))
theorem mem_owns {s : Sl K} {a : Addr} (h : s ∈ env) (ha : a ∈ s.as) : a ∈ owns env := List.mem_flatMap.mpr ⟨s, h, ha⟩
theorem En.step (e : En K H0 σ H env) {H0' : Hp} (b : Same H0 H0') (h1 : Same H0' H') (h2 : SameT H H') (h3 : ∀ a ∈ owns env, ∀ u, H a = some u → H' a = some u) (fr : ∀ a ∈ owns env, H0' a = none) : En K H0' σ H' env :=
  ⟨h1, paired_mono e.sl fun o s m r => s.st b h1 h2 (fun a ha => h3 a (mem_owns m ha)) r, e.nd, fr⟩
theorem En.same (e : En K H0 σ H env) (k : Same H H') : En K H0 σ H' env := e.step (Same.refl _) (e.sm.trans k) (.of k) (fun a _ u h => k a u h) e.fr
theorem owns_sub_set (s : Sl K) (hs : s.as = []) : ∀ (env : List (Sl K)) (i : Nat), (owns (env.set i s)).Sublist (owns env)
  | [], _ => List.Sublist.refl _
  | t :: env, 0 => by
    rw [List.set_cons_zero, owns_cons, owns_cons, hs]
    exact List.sublist_append_right _ _
  | t :: env, i + 1 => by
    rw [List.set_cons_succ, owns_cons, owns_cons]
    exact List.Sublist.append (List.Sublist.refl _) (owns_sub_set s hs env i)
theorem En.set (e : En K H0 σ H env) {s : Sl K} {o : Option V} (hs : s.as = []) (r : s.R H0 H o) (i : Nat) : En K H0 (σ.set i o) H (env.set i s) :=
  ⟨e.sm, paired_set (F := fun o (s : Sl K) => s.R H0 H o) r i e.sl, (owns_sub_set s hs env i).nodup e.nd, fun a ha => e.fr a ((owns_sub_set s hs env i).subset ha)⟩
theorem owns_set_one (s : Sl K) (p : Addr) (hs : s.as = [p]) : ∀ (env : List (Sl K)) (i : Nat), p ∉ owns env → (owns env).Nodup → (owns (env.set i s)).Nodup ∧ ∀ a ∈ owns (env.set i s), a = p ∨ a ∈ owns env
  | [], _, _, _ => ⟨List.nodup_nil, fun a h => nomatch h⟩
  | t :: env, 0, hp, nd => by
    rw [List.set_cons_zero, owns_cons, hs]
    rw [owns_cons] at hp nd
    refine ⟨?_, fun a ha => ?_⟩
    · rw [List.singleton_append, List.nodup_cons]
      exact ⟨fun z => hp (List.mem_append_right _ z), (List.sublist_append_right _ _).nodup nd⟩
    · rcases List.mem_append.mp ha with h | h
      · exact .inl (List.mem_singleton.mp h)
      · rw [owns_cons]
        exact .inr (List.mem_append_right _ h)
  | t :: env, i + 1, hp, nd => by
    rw [List.set_cons_succ, owns_cons]
    rw [owns_cons] at hp nd
    obtain ⟨n1, n2, n3⟩ := List.nodup_append.mp nd
    obtain ⟨q1, q2⟩ := owns_set_one s p hs env i (fun z => hp (List.mem_append_right _ z)) n2
    refine ⟨List.nodup_append.mpr ⟨n1, q1, fun a ha b hb => ?_⟩, fun a ha => ?_⟩
    · rcases q2 b hb with z | z
      · subst z
        exact fun z => hp (List.mem_append_left _ (z ▸ ha))
      · exact n3 a ha b z
    · rw [owns_cons]
      rcases List.mem_append.mp ha with h | h
      · exact .inr (List.mem_append_left _ h)
      · rcases q2 a h with z | z
        · exact .inl z
        · exact .inr (List.mem_append_right _ z)
theorem En.owns_some (e : En K H0 σ H env) : ∀ a ∈ owns env, ∃ u, H a = some u ∧ Mu u := by
  intro a ha
  obtain ⟨s, hs, h⟩ := List.mem_flatMap.mp ha
  obtain ⟨i, hi⟩ := List.getElem?_of_mem hs
  obtain ⟨o, _, r⟩ := paired_get e.sl hi
  exact s.mu r a h
theorem En.not_own (e : En K H0 σ H env) {p : Addr} (hp : H p = none) : p ∉ owns env := fun h => by
  obtain ⟨u, hu, _⟩ := e.owns_some p h
  rw [hp] at hu
  cases hu
/-- a new own thing at p -/
theorem En.setO (e : En K H0 σ H env) (k : Same H H1) {s : Sl K} {p : Addr} {o : Option V} (hp : H p = none) (hs : s.as = [p]) (r : s.R H0 H1 o) (i : Nat) : En K H0 (σ.set i o) H1 (env.set i s) := by
  obtain ⟨h1, h2⟩ := owns_set_one s p hs env i (e.not_own hp) e.nd
  refine ⟨e.sm.trans k, paired_set (F := fun o (s : Sl K) => s.R H0 H1 o) r i (e.same k).sl, h1, fun a ha => ?_⟩
  rcases h2 a ha with z | z
  · subst z
    exact e.sm.free hp
  · exact e.fr a z
theorem owns_set_same (s s' : Sl K) (hs : s'.as = s.as) : ∀ (env : List (Sl K)) (i : Nat), env[i]? = some s → owns (env.set i s') = owns env
  | [], _, h => by simp at h
  | t :: env, 0, h => by
    simp at h
    subst h
    rw [List.set_cons_zero, owns_cons, owns_cons, hs]
  | t :: env, i + 1, h => by
    rw [List.set_cons_succ, owns_cons, owns_cons, owns_set_same s s' hs env i (by simpa using h)]
theorem paired_upd {s s' : Sl K} {l : Addr} {o' : HO} (hl : s.as = [l]) (hm : ∃ u, H l = some u ∧ Mu u) (sm : Same H0 (upd H l o')) : ∀ {σ : L2.St} {env : List (Sl K)} (i : Nat), Paired (fun o (s : Sl K) => s.R H0 H o) σ env → env[i]? = some s → (owns env).Nodup →
    (∀ o, σ[i]? = some o → s'.R H0 (upd H l o') o) → Paired (fun o (s : Sl K) => s.R H0 (upd H l o') o) σ (env.set i s')
  | _, _, _, .nil, h, _, _ => by simp at h
  | o :: σ, t :: env, 0, .cons g r, h, nd, k => by
    simp at h
    subst h
    rw [List.set_cons_zero]
    refine .cons (k o rfl) (paired_mono r fun o2 s2 m2 r2 => s2.st (Same.refl _) sm (by obtain ⟨u, hu, hm⟩ := hm; exact SameT.upd hu hm) (fun a ha u hu => ?_) r2)
    have ne : a ≠ l := fun z => by
      subst z
      rw [owns_cons, hl] at nd
      exact (List.nodup_cons.mp nd).1 (mem_owns m2 ha)
    rw [upd_ne ne]
    exact hu
  | o :: σ, t :: env, i + 1, .cons g r, h, nd, k => by
    rw [List.set_cons_succ]
    have h' : env[i]? = some s := by simpa using h
    rw [owns_cons] at nd
    obtain ⟨n1, n2, n3⟩ := List.nodup_append.mp nd
    refine .cons (t.st (Same.refl _) sm (by obtain ⟨u, hu, hm⟩ := hm; exact SameT.upd hu hm) (fun a ha u hu => ?_) g) (paired_upd hl hm sm i r h' n2 fun o2 e2 => k o2 (by simpa using e2))
    have ne : a ≠ l := fun z => by
      subst z
      exact n3 a ha a (mem_owns (List.mem_of_getElem? h') (by rw [hl]; exact List.mem_singleton.mpr rfl)) rfl
    rw [upd_ne ne]
    exact hu
/-- an own thing changes -/
theorem En.upd (e : En K H0 σ H env) {s s' : Sl K} {l : Addr} {o' : HO} {i : Nat} (hi : env[i]? = some s) (hl : s.as = [l]) (hl' : s'.as = [l]) (r : ∀ o, σ[i]? = some o → s'.R H0 (L2.upd H l o') o) : En K H0 σ (L2.upd H l o') (env.set i s') := by
  have hm : l ∈ owns env := mem_owns (List.mem_of_getElem? hi) (by rw [hl]; exact List.mem_singleton.mpr rfl)
  have sm : Same H0 (L2.upd H l o') := same_mut e.sm (e.fr l hm)
  have ow : owns (env.set i s') = owns env := owns_set_same s s' (by rw [hl, hl']) env i hi
  refine ⟨sm, paired_upd hl (e.owns_some l hm) sm i e.sl hi e.nd r, by rw [ow]; exact e.nd, by rw [ow]; exact e.fr⟩
/-- the base grows: all but the own things -/
def bas (H : Hp) (as : List Addr) : Hp := fun a => if a ∈ as then none else H a
theorem bas_in {as : List Addr} {a : Addr} (h : a ∈ as) : bas H as a = none := if_pos h
theorem bas_out {as : List Addr} {a : Addr} (h : a ∉ as) : bas H as a = H a := if_neg h
theorem bas_same (H : Hp) (as : List Addr) : Same (bas H as) H := fun b o e => by
  by_cases h : b ∈ as
  · rw [bas_in h] at e
    cases e
  · rw [bas_out h] at e
    exact e
theorem En.base_same (e : En K H0 σ H env) : Same H0 (bas H (owns env)) := fun b o h => by
  have hb : b ∉ owns env := fun z => by
    rw [e.fr b z] at h
    cases h
  rw [bas_out hb]
  exact e.sm b o h
theorem En.base (e : En K H0 σ H env) : En K (bas H (owns env)) σ H env :=
  e.step e.base_same (bas_same _ _) (.refl _) (fun _ _ _ h => h) fun a ha => bas_in ha
theorem En.base_T (e : En K H0 σ H env) : SameT H (bas H (owns env)) := fun b u h n => by
  have hb : b ∉ owns env := fun z => by
    obtain ⟨u', hu, m⟩ := e.owns_some b z
    rw [h] at hu
    cases hu
    exact n m
  rw [bas_out hb]
  exact h
theorem En.get (e : En K H0 σ H env) {i : Nat} {s : Sl K} (h : env[i]? = some s) : ∃ o, σ[i]? = some o ∧ s.R H0 H o := paired_get e.sl h

/-! what a slot tells -/
def Tells (s : Sl K) (d : PyData) : Prop := ∀ {H0 H : Hp} {o : Option V}, Same H0 H → s.R H0 H o → ∃ v, o = some v ∧ Dp K H v d
theorem tells_fl {d : PyData} : Tells (fl d : Sl K) d := fun _ ⟨_, v, h1, h2⟩ => ⟨v, h1, h2⟩
theorem tells_par {d : PyData} : Tells (par d : Sl K) d := fun e ⟨v, h1, h2⟩ => ⟨v, h1, dp_mono e d h2⟩
theorem tells_own {l : Addr} {ds : List PyData} : Tells (own l ds : Sl K) (.list ds) := fun _ ⟨h1, _, _, h2, h3⟩ => ⟨_, h1, dp_own h2 h3⟩

/-! the start -/
theorem en_start_aux : ∀ {vs : List V} {ds : List PyData}, DpAll K H vs ds → Paired (fun o (s : Sl K) => s.R H H o) (vs.map some) (ds.map par)
  | _, _, .nil => .nil
  | _, _, .cons h t => .cons ⟨_, rfl, h⟩ (en_start_aux t)
theorem owns_par (ds : List PyData) (n : Nat) : owns (ds.map par ++ List.replicate n un : List (Sl K)) = [] := by
  unfold owns
  rw [List.flatMap_eq_nil_iff]
  intro s hs
  rcases List.mem_append.mp hs with h | h
  · obtain ⟨d, _, rfl⟩ := List.mem_map.mp h
    rfl
  · rw [(List.mem_replicate.mp h).2] <;> rfl
theorem paired_app {α β : Type} {F : α → β → Prop} : ∀ {l₁ m₁ : List α} {l₂ m₂ : List β}, Paired F l₁ l₂ → Paired F m₁ m₂ → Paired F (l₁ ++ m₁) (l₂ ++ m₂)
  | _, _, _, _, .nil, h => h
  | _, _, _, _, .cons g t, h => .cons g (paired_app t h)
theorem paired_rep {α β : Type} {F : α → β → Prop} {a : α} {b : β} (h : F a b) : ∀ n : Nat, Paired F (List.replicate n a) (List.replicate n b)
  | 0 => .nil
  | n + 1 => .cons h (paired_rep h n)
theorem en_start {N : List Str} {vs : List V} {ds : List PyData} (h : DpAll K H vs ds) : En K H (L2.start N vs) H (ds.map par ++ List.replicate (N.length - ds.length) un) := by
  refine ⟨Same.refl H, ?_, ?_, ?_⟩
  · unfold L2.start
    rw [dpa_len h]
    exact paired_app (en_start_aux h) (paired_rep trivial _)
  · rw [owns_par]
    exact List.nodup_nil
  · rw [owns_par]
    intro a ha
    cases ha
/-! forgetting -/
def wipeE (env : List (Sl K)) : List Nat → List (Sl K)
  | [] => env
  | v :: vs => (wipeE env vs).set v un
theorem En.wipe (e : En K H0 σ H env) : ∀ vs : List Nat, En K H0 (L2.wipe σ vs) H (wipeE env vs)
  | [] => e
  | v :: vs => (e.wipe vs).set (s := un) (o := none) rfl trivial v
theorem paired_un : ∀ {σ : L2.St} {env : List (Sl K)} (i : Nat), Paired (fun o (s : Sl K) => s.R H0 H o) σ env → Paired (fun o (s : Sl K) => s.R H0 H o) σ (env.set i un)
  | _, _, _, .nil => .nil
  | _, _, 0, .cons _ t => .cons trivial t
  | _, _, i + 1, .cons g t => .cons g (paired_un i t)
theorem En.kill1 (e : En K H0 σ H env) (i : Nat) : En K H0 σ H (env.set i un) :=
  ⟨e.sm, paired_un i e.sl, (owns_sub_set un rfl env i).nodup e.nd, fun a ha => e.fr a ((owns_sub_set un rfl env i).subset ha)⟩
/-- slots forgotten, the frame as it is -/
theorem En.kill (e : En K H0 σ H env) : ∀ vs : List Nat, En K H0 σ H (wipeE env vs)
  | [] => e
  | v :: vs => (e.kill vs).kill1 v
end
end Rs

namespace Rs
open PySem PySem.Spec PyProof.Rows L2

section
variable {K : PySem.W.Frag}
/-! ## expressions -/
def Ed (te : TE) (env : List (Sl K)) (d : PyData) : Prop := ∀ (H0 : Hp) (σ : L2.St) (H : Hp), En K H0 σ H env → ∀ Q : VK, (∀ v H2, Same H H2 → Dp K H2 v d → Q v H2) → te σ H Q
/-- a list that is tracked | a new list -/
def EdK (te : TE) (env : List (Sl K)) (ds : List PyData) : Prop := ∀ (H0 : Hp) (σ : L2.St) (H : Hp), En K H0 σ H env → ∀ Q : VK, (∀ p vs H2, Same H H2 → H2 p = some (.lst vs) → DpAll K H2 vs ds → Q (.ref p) H2) → te σ H Q
def EdL (te : TE) (env : List (Sl K)) (ds : List PyData) : Prop := ∀ (H0 : Hp) (σ : L2.St) (H : Hp), En K H0 σ H env → ∀ Q : VK, (∀ p vs H2, H p = none → Same H H2 → H2 p = some (.lst vs) → DpAll K H2 vs ds → Q (.ref p) H2) → te σ H Q
def EdA (ta : TA) (env : List (Sl K)) (ds : List PyData) : Prop := ∀ (H0 : Hp) (σ : L2.St) (H : Hp), En K H0 σ H env → ∀ Q : List V → Hp → Prop, (∀ vs H2, Same H H2 → DpAll K H2 vs ds → Q vs H2) → ta σ H Q
def EdT (tt : TT) (env : List (Sl K)) (b : Bool) : Prop := ∀ (H0 : Hp) (σ : L2.St) (H : Hp), En K H0 σ H env → ∀ Q : Bool → Hp → Prop, (∀ H2, Same H H2 → Q b H2) → tt σ H Q
def EdO (to : TO) (env : List (Sl K)) (o : Option Int) : Prop := ∀ (H0 : Hp) (σ : L2.St) (H : Hp), En K H0 σ H env → ∀ Q : Option Int → Hp → Prop, (∀ H2, Same H H2 → Q o H2) → to σ H Q
/-- operators upon data -/
def RV (K : PySem.W.Frag) (r : R2) (x y z : PyData) : Prop := ∀ v w H, Dp K H v x → Dp K H w y → ∀ Q : VK, (∀ u H3, Same H H3 → Dp K H3 u z → Q u H3) → r v w H Q
def RVL (K : PySem.W.Frag) (r : R2) (x y : PyData) (zs : List PyData) : Prop := ∀ v w H, Dp K H v x → Dp K H w y → ∀ Q : VK, (∀ p vs H3, H p = none → Same H H3 → H3 p = some (.lst vs) → DpAll K H3 vs zs → Q (.ref p) H3) → r v w H Q
def RU (K : PySem.W.Frag) (r : V → Hp → VK → Prop) (x z : PyData) : Prop := ∀ v H, Dp K H v x → ∀ Q : VK, (∀ u H3, Same H H3 → Dp K H3 u z → Q u H3) → r v H Q
def RC (K : PySem.W.Frag) (r : List V → Hp → VK → Prop) (xs : List PyData) (z : PyData) : Prop := ∀ vs H, DpAll K H vs xs → ∀ Q : VK, (∀ u H3, Same H H3 → Dp K H3 u z → Q u H3) → r vs H Q
def RCL (K : PySem.W.Frag) (r : List V → Hp → VK → Prop) (xs zs : List PyData) : Prop := ∀ vs H, DpAll K H vs xs → ∀ Q : VK, (∀ p us H3, H p = none → Same H H3 → H3 p = some (.lst us) → DpAll K H3 us zs → Q (.ref p) H3) → r vs H Q

variable {env : List (Sl K)} {ta tb te tc : TE} {t u : TT} {x y z d : PyData} {ds es xs zs : List PyData} {r : R2} {i j : Int} {b : Bool}
theorem ed_is (h : Ed te env d) (e : d = z) : Ed te env z := e ▸ h
theorem edl_is (h : EdL te env ds) (e : ds = es) : EdL te env es := e ▸ h
theorem edt_is {a : Bool} (h : EdT t env a) (e : a = b) : EdT t env b := e ▸ h
theorem ed_var {k : Nat} {s : Sl K} (h : env[k]? = some s) (t : Tells s d) : Ed (tVar k) env d := fun H0 σ H e Q q => by
  obtain ⟨o, h1, h2⟩ := e.get h
  obtain ⟨v, rfl, h3⟩ := t e.sm h2
  exact ⟨v, h1, q v H (Same.refl H) h3⟩
theorem ed_fl {k : Nat} (h : env[k]? = some (fl d)) : Ed (tVar k) env d := ed_var h tells_fl
theorem ed_par {k : Nat} (h : env[k]? = some (par d)) : Ed (tVar k) env d := ed_var h tells_par
theorem ed_own {k : Nat} {l : Addr} (h : env[k]? = some (own l ds)) : Ed (tVar k) env (.list ds) := ed_var h tells_own
theorem edk_own {k : Nat} {l : Addr} (h : env[k]? = some (own l ds)) : EdK (tVar k) env ds := fun H0 σ H e Q q => by
  obtain ⟨o, h1, h2, _, vs, h3, h4⟩ := e.get h
  subst h2
  exact ⟨_, h1, q l vs H (Same.refl H) h3 h4⟩
theorem edk_of (h : EdL te env ds) : EdK te env ds := fun H0 σ H e Q q => h H0 σ H e Q fun p vs H2 _ => q p vs H2
theorem ed_ofK (h : EdK te env ds) : Ed te env (.list ds) := fun H0 σ H e Q q => h H0 σ H e Q fun p vs H2 k h1 h2 => q _ H2 k (dp_own h1 h2)
theorem ed_ofL (h : EdL te env ds) : Ed te env (.list ds) := ed_ofK (edk_of h)
theorem ed_int : Ed (tC (.int i)) env (.int i) := fun _ _ H _ _ q => q _ H (Same.refl H) (.int i)
theorem ed_bl : Ed (tC (.bl b)) env (.bool b) := fun _ _ H _ _ q => q _ H (Same.refl H) (.bl b)
theorem ed_non : Ed (tC .non) env .none := fun _ _ H _ _ q => q _ H (Same.refl H) .non
theorem ed_str {s : Str} : Ed (tC (.str s)) env (.str s) := fun _ _ H _ _ q => q _ H (Same.refl H) (.str s)
theorem ed_op (ha : Ed ta env x) (hb : Ed tb env y) (hr : RV K r x y z) : Ed (tOp r ta tb) env z := fun H0 σ H e Q q =>
  ha H0 σ H e _ fun v H2 e2 dv => hb H0 σ H2 (e.same e2) _ fun w H3 e3 dw => hr v w H3 (dp_mono e3 x dv) dw Q fun u H4 e4 du => q u H4 ((e2.trans e3).trans e4) du
theorem edl_op (ha : Ed ta env x) (hb : Ed tb env y) (hr : RVL K r x y zs) : EdL (tOp r ta tb) env zs := fun H0 σ H e Q q =>
  ha H0 σ H e _ fun v H2 e2 dv => hb H0 σ H2 (e.same e2) _ fun w H3 e3 dw => hr v w H3 (dp_mono e3 x dv) dw Q fun p us H4 hp e4 h1 h2 => q p us H4 ((e2.trans e3).free hp) ((e2.trans e3).trans e4) h1 h2
theorem ed_un {r : V → Hp → VK → Prop} (ha : Ed ta env x) (hr : RU K r x z) : Ed (tUn r ta) env z := fun H0 σ H e Q q =>
  ha H0 σ H e _ fun v H2 e2 dv => hr v H2 dv Q fun u H3 e3 du => q u H3 (e2.trans e3) du
theorem eda_nil : EdA tNil env [] := fun _ _ H _ _ q => q [] H (Same.refl H) .nil
theorem eda_cons {tr : TA} (ha : Ed ta env x) (hr : EdA tr env xs) : EdA (tCons ta tr) env (x :: xs) := fun H0 σ H e Q q =>
  ha H0 σ H e _ fun v H2 e2 dv => hr H0 σ H2 (e.same e2) _ fun vs H3 e3 dvs => q (v :: vs) H3 (e2.trans e3) (.cons (dp_mono e3 x dv) dvs)
theorem ed_cb {r : List V → Hp → VK → Prop} {ta : TA} (ha : EdA ta env xs) (hr : RC K r xs z) : Ed (tCB r ta) env z := fun H0 σ H e Q q =>
  ha H0 σ H e _ fun vs H2 e2 dv => hr vs H2 dv Q fun u H3 e3 du => q u H3 (e2.trans e3) du
theorem edl_cb {r : List V → Hp → VK → Prop} {ta : TA} (ha : EdA ta env xs) (hr : RCL K r xs zs) : EdL (tCB r ta) env zs := fun H0 σ H e Q q =>
  ha H0 σ H e _ fun vs H2 e2 dv => hr vs H2 dv Q fun p us H3 hp e3 h1 h2 => q p us H3 (e2.free hp) (e2.trans e3) h1 h2

/-! ints -/
theorem rv_I0 {g : Int → Int → V} (h : ∀ H, Dp K H (g i j) z) : RV K (rI0 g) (.int i) (.int j) z := fun v w H hv hw Q q => by
  cases dp_int hv
  cases dp_int hw
  exact ⟨i, j, rfl, rfl, q _ H (Same.refl H) (h H)⟩
theorem rv_I {C : Int → Int → Prop} {g : Int → Int → V} (c : C i j) (h : ∀ H, Dp K H (g i j) z) : RV K (rI C g) (.int i) (.int j) z := fun v w H hv hw Q q => by
  cases dp_int hv
  cases dp_int hw
  exact ⟨i, j, rfl, rfl, c, q _ H (Same.refl H) (h H)⟩
theorem ed_add (ha : Ed ta env (.int i)) (hb : Ed tb env (.int j)) : Ed (tOp (rI0 fun i j => .int (i + j)) ta tb) env (.int (i + j)) := ed_op ha hb (rv_I0 fun _ => .int _)
theorem ed_sub (ha : Ed ta env (.int i)) (hb : Ed tb env (.int j)) : Ed (tOp (rI0 fun i j => .int (i - j)) ta tb) env (.int (i - j)) := ed_op ha hb (rv_I0 fun _ => .int _)
theorem ed_mul (ha : Ed ta env (.int i)) (hb : Ed tb env (.int j)) (c : CMul i j) : Ed (tOp (rI CMul fun i j => .int (i * j)) ta tb) env (.int (i * j)) := ed_op ha hb (rv_I c fun _ => .int _)
theorem ed_fdiv (ha : Ed ta env (.int i)) (hb : Ed tb env (.int j)) (c : CDiv i j) : Ed (tOp (rI CDiv fun i j => .int (i / j)) ta tb) env (.int (i / j)) := ed_op ha hb (rv_I c fun _ => .int _)
theorem ed_mod (ha : Ed ta env (.int i)) (hb : Ed tb env (.int j)) (c : 0 < j) : Ed (tOp (rI (fun _ j => 0 < j) fun i j => .int (i % j)) ta tb) env (.int (i % j)) := ed_op ha hb (rv_I c fun _ => .int _)
theorem ed_pow (ha : Ed ta env (.int i)) (hb : Ed tb env (.int j)) (c : CPow i j) : Ed (tOp (rI CPow fun i j => .int (i ^ j.toNat)) ta tb) env (.int (i ^ j.toNat)) := ed_op ha hb (rv_I c fun _ => .int _)
theorem ed_lt (ha : Ed ta env (.int i)) (hb : Ed tb env (.int j)) : Ed (tOp (rI0 fun i j => .bl (decide (i < j))) ta tb) env (.bool (decide (i < j))) := ed_op ha hb (rv_I0 fun _ => .bl _)
theorem ed_le (ha : Ed ta env (.int i)) (hb : Ed tb env (.int j)) : Ed (tOp (rI0 fun i j => .bl (decide (i ≤ j))) ta tb) env (.bool (decide (i ≤ j))) := ed_op ha hb (rv_I0 fun _ => .bl _)
theorem ed_gt (ha : Ed ta env (.int i)) (hb : Ed tb env (.int j)) : Ed (tOp (rI0 fun i j => .bl (decide (j < i))) ta tb) env (.bool (decide (j < i))) := ed_op ha hb (rv_I0 fun _ => .bl _)
theorem ed_ge (ha : Ed ta env (.int i)) (hb : Ed tb env (.int j)) : Ed (tOp (rI0 fun i j => .bl (decide (j ≤ i))) ta tb) env (.bool (decide (j ≤ i))) := ed_op ha hb (rv_I0 fun _ => .bl _)
theorem ed_neg (ha : Ed ta env (.int i)) : Ed (tUn (rU fun i => .int (-i)) ta) env (.int (-i)) := ed_un ha fun v H hv Q q => by
  cases dp_int hv
  exact ⟨i, rfl, q _ H (Same.refl H) (.int _)⟩
/-! == of plain values -/
theorem ed_eqI (ha : Ed ta env (.int i)) (hb : Ed tb env (.int j)) : Ed (tOp rEq ta tb) env (.bool (decide (i = j))) := ed_op ha hb fun v w H hv hw Q q => by
  cases dp_int hv
  cases dp_int hw
  refine ⟨rfl, q _ H (Same.refl H) ?_⟩
  rw [show decide (V.int i = V.int j) = decide (i = j) from by simp]
  exact .bl _
theorem ed_neI (ha : Ed ta env (.int i)) (hb : Ed tb env (.int j)) : Ed (tOp rNe ta tb) env (.bool (!decide (i = j))) := ed_op ha hb fun v w H hv hw Q q => by
  cases dp_int hv
  cases dp_int hw
  refine ⟨rfl, q _ H (Same.refl H) ?_⟩
  rw [show decide (V.int i = V.int j) = decide (i = j) from by simp]
  exact .bl _
theorem ed_eqB {a c : Bool} (ha : Ed ta env (.bool a)) (hb : Ed tb env (.bool c)) : Ed (tOp rEq ta tb) env (.bool (decide (a = c))) := ed_op ha hb fun v w H hv hw Q q => by
  cases dp_bool hv
  cases dp_bool hw
  refine ⟨rfl, q _ H (Same.refl H) ?_⟩
  rw [show decide (V.bl a = V.bl c) = decide (a = c) from by simp]
  exact .bl _
theorem ed_neB {a c : Bool} (ha : Ed ta env (.bool a)) (hb : Ed tb env (.bool c)) : Ed (tOp rNe ta tb) env (.bool (!decide (a = c))) := ed_op ha hb fun v w H hv hw Q q => by
  cases dp_bool hv
  cases dp_bool hw
  refine ⟨rfl, q _ H (Same.refl H) ?_⟩
  rw [show decide (V.bl a = V.bl c) = decide (a = c) from by simp]
  exact .bl _
theorem ed_eqS {a c : Str} (ha : Ed ta env (.str a)) (hb : Ed tb env (.str c)) : Ed (tOp rEq ta tb) env (.bool (decide (a = c))) := ed_op ha hb fun v w H hv hw Q q => by
  cases dp_str hv
  cases dp_str hw
  refine ⟨rfl, q _ H (Same.refl H) ?_⟩
  rw [show decide (V.str a = V.str c) = decide (a = c) from by simp]
  exact .bl _
theorem ed_neS {a c : Str} (ha : Ed ta env (.str a)) (hb : Ed tb env (.str c)) : Ed (tOp rNe ta tb) env (.bool (!decide (a = c))) := ed_op ha hb fun v w H hv hw Q q => by
  cases dp_str hv
  cases dp_str hw
  refine ⟨rfl, q _ H (Same.refl H) ?_⟩
  rw [show decide (V.str a = V.str c) = decide (a = c) from by simp]
  exact .bl _
/-! == of data -/
theorem ed_eqD (ha : Ed ta env x) (hb : Ed tb env y) (sx : SeqAt.shaped x = true) (sy : SeqAt.shaped y = true) : Ed (tOp (rEqD K) ta tb) env (.bool (PyData.eqv x y)) := ed_op ha hb fun v w H hv hw Q q =>
  ⟨x, y, hv, hw, sx, sy, q _ H (Same.refl H) (.bl _)⟩
theorem ed_neD (ha : Ed ta env x) (hb : Ed tb env y) (sx : SeqAt.shaped x = true) (sy : SeqAt.shaped y = true) : Ed (tOp (rNeD K) ta tb) env (.bool (!PyData.eqv x y)) := ed_op ha hb fun v w H hv hw Q q =>
  ⟨x, y, hv, hw, sx, sy, q _ H (Same.refl H) (.bl _)⟩
/-! subscripts -/
theorem ed_ixT (ha : Ed ta env (.tuple ds)) (hb : Ed tb env (.int i)) (e : atI ds i = some d) : Ed (tOp (rIxT K) ta tb) env d := ed_op ha hb fun v w H hv hw Q q => by
  cases dp_int hw
  obtain ⟨a, vs, rfl, h1, h2⟩ := dp_tup hv
  obtain ⟨v, e1, e2⟩ := atI_dpa h2 e
  exact ⟨a, vs, i, v, rfl, rfl, h1, e1, q v H (Same.refl H) e2⟩
theorem ed_ixL (ha : Ed ta env (.list ds)) (hb : Ed tb env (.int i)) (e : atI ds i = some d) : Ed (tOp (rIxL K) ta tb) env d := ed_op ha hb fun v w H hv hw Q q => by
  cases dp_int hw
  obtain ⟨a, vs, rfl, h1, h2⟩ := dp_list hv
  obtain ⟨v, e1, e2⟩ := atI_dpa h2 e
  exact ⟨a, vs, i, v, rfl, rfl, h1, e1, q v H (Same.refl H) e2⟩
theorem ed_ixS {s : Str} {c : Nat} (ha : Ed ta env (.str s)) (hb : Ed tb env (.int i)) (hl : s.length ≤ 100000) (e : atI s.cps.toList i = some c) : Ed (tOp rIxS ta tb) env (.str ⟨#[c]⟩) := ed_op ha hb fun v w H hv hw Q q => by
  cases dp_int hw
  cases dp_str hv
  exact ⟨s, i, c, rfl, rfl, Nat.le_trans hl (by decide), e, q _ H (Same.refl H) (.str _)⟩
/-! displays -/
theorem ed_tup {ta : TA} (ha : EdA ta env ds) (hl : ds.length ≤ 100000) : Ed (tTup ta) env (.tuple ds) := fun H0 σ H e Q q =>
  ha H0 σ H e _ fun vs H2 e2 dv => ⟨by rw [dpa_len dv]; exact Nat.le_trans hl (by decide), fun p hp => q _ _ (e2.trans (same_new hp)) (.tup (SqT.of upd_same) (dpa_mono (same_new hp) ds dv))⟩
theorem edl_lst {ta : TA} (ha : EdA ta env ds) (hl : ds.length ≤ 100000) : EdL (tLst ta) env ds := fun H0 σ H e Q q =>
  ha H0 σ H e _ fun vs H2 e2 dv => ⟨by rw [dpa_len dv]; exact Nat.le_trans hl (by decide), fun p hp => q p vs _ (e2.free hp) (e2.trans (same_new hp)) upd_same (dpa_mono (same_new hp) ds dv)⟩
/-! truth values -/
theorem ed_andV {a c : Bool} (h1 : Ed ta env (.bool a)) (h2 : a = true → Ed tb env (.bool c)) : Ed (tAndV ta tb) env (.bool (a && c)) := fun H0 σ H e Q q =>
  h1 H0 σ H e _ fun v H2 e2 dv => ⟨a, dp_bool dv, by
    cases a with
    | true =>
      rw [if_pos rfl]
      exact h2 rfl H0 σ H2 (e.same e2) Q fun u H3 e3 du => q u H3 (e2.trans e3) du
    | false =>
      rw [if_neg Bool.false_ne_true]
      exact q _ H2 e2 (.bl false)⟩
theorem ed_orV {a c : Bool} (h1 : Ed ta env (.bool a)) (h2 : a = false → Ed tb env (.bool c)) : Ed (tOrV ta tb) env (.bool (a || c)) := fun H0 σ H e Q q =>
  h1 H0 σ H e _ fun v H2 e2 dv => ⟨a, dp_bool dv, by
    cases a with
    | true =>
      rw [if_pos rfl]
      exact q _ H2 e2 (.bl true)
    | false =>
      rw [if_neg Bool.false_ne_true]
      exact h2 rfl H0 σ H2 (e.same e2) Q fun u H3 e3 du => q u H3 (e2.trans e3) du⟩
theorem ed_notV {a : Bool} (h : Ed ta env (.bool a)) : Ed (tNotV ta) env (.bool (!a)) := fun H0 σ H e Q q =>
  h H0 σ H e _ fun v H2 e2 dv => ⟨a, dp_bool dv, q _ H2 e2 (.bl _)⟩
theorem ed_ifE (h : EdT t env b) (h1 : b = true → Ed ta env d) (h2 : b = false → Ed tb env d) : Ed (tIf t ta tb) env d := fun H0 σ H e Q q =>
  h H0 σ H e _ fun H2 e2 => by
    cases b with
    | true =>
      rw [if_pos rfl]
      exact h1 rfl H0 σ H2 (e.same e2) Q fun u H3 e3 du => q u H3 (e2.trans e3) du
    | false =>
      rw [if_neg Bool.false_ne_true]
      exact h2 rfl H0 σ H2 (e.same e2) Q fun u H3 e3 du => q u H3 (e2.trans e3) du
theorem ed_chain {r r' : R2} {k : Bool} {w : PyData} (ha : Ed ta env x) (hb : Ed tb env y) (hr : RV K r x y (.bool k)) (hc : k = true → Ed tc env w) (hr' : k = true → RV K r' y w z) (hf : k = false → z = .bool false) : Ed (tChain r r' ta tb tc) env z := fun H0 σ H e Q q =>
  ha H0 σ H e _ fun v H2 e2 dv => hb H0 σ H2 (e.same e2) _ fun w1 H3 e3 dw => hr v w1 H3 (dp_mono e3 x dv) dw _ fun u H4 e4 du => ⟨k, dp_bool du, by
    cases k with
    | true =>
      rw [if_pos rfl]
      exact hc rfl H0 σ H4 (((e.same e2).same e3).same e4) _ fun w2 H5 e5 dw2 => hr' rfl w1 w2 H5 (dp_mono (e4.trans e5) y dw) dw2 Q fun u2 H6 e6 du2 => q u2 H6 ((((e2.trans e3).trans e4).trans e5).trans e6) du2
    | false =>
      rw [if_neg Bool.false_ne_true]
      refine q _ H4 ((e2.trans e3).trans e4) ?_
      rw [hf rfl]
      exact .bl false⟩
theorem ed_chainLe {k : Int} (ha : Ed ta env (.int i)) (hb : Ed tb env (.int j)) (hc : Ed tc env (.int k)) :
    Ed (tChain (rI0 fun i j => .bl (decide (i ≤ j))) (rI0 fun i j => .bl (decide (i ≤ j))) ta tb tc) env (.bool (decide (i ≤ j) && decide (j ≤ k))) :=
  ed_chain ha hb (rv_I0 fun _ => .bl _) (fun _ => hc) (fun h => by rw [h, Bool.true_and]; exact rv_I0 fun _ => .bl _) (fun h => by rw [h, Bool.false_and])
/-! tests -/
theorem edt_test (h : Ed te env (.bool b)) : EdT (tTest te) env b := fun H0 σ H e Q q => h H0 σ H e _ fun v H2 e2 dv => ⟨b, dp_bool dv, q H2 e2⟩
theorem edt_B (h : Ed te env (.bool b)) : EdT (tB te) env b := fun H0 σ H e Q q => h H0 σ H e _ fun v H2 e2 dv => ⟨b, dp_bool dv, q H2 e2⟩
theorem edt_and {a c : Bool} (h1 : EdT t env a) (h2 : a = true → EdT u env c) : EdT (tAnd t u) env (a && c) := fun H0 σ H e Q q => h1 H0 σ H e _ fun H2 e2 => by
  cases a with
  | true =>
    rw [if_pos rfl]
    exact h2 rfl H0 σ H2 (e.same e2) Q fun H3 e3 => q H3 (e2.trans e3)
  | false =>
    rw [if_neg Bool.false_ne_true]
    exact q H2 e2
theorem edt_or {a c : Bool} (h1 : EdT t env a) (h2 : a = false → EdT u env c) : EdT (tOr t u) env (a || c) := fun H0 σ H e Q q => h1 H0 σ H e _ fun H2 e2 => by
  cases a with
  | true =>
    rw [if_pos rfl]
    exact q H2 e2
  | false =>
    rw [if_neg Bool.false_ne_true]
    exact h2 rfl H0 σ H2 (e.same e2) Q fun H3 e3 => q H3 (e2.trans e3)
theorem edt_not {a : Bool} (h : EdT t env a) : EdT (tNot t) env (!a) := fun H0 σ H e Q q => h H0 σ H e _ fun H2 e2 => q H2 e2
/-- a list's truth -/
abbrev tTru (K : PySem.W.Frag) (ta : TE) : TT := fun σ H Q => ta σ H fun x H' => ∃ k, TruV K x H' k ∧ Q k H'
theorem edt_list (h : Ed te env (.list ds)) : EdT (tTru K te) env (!ds.isEmpty) := fun H0 σ H e Q q => h H0 σ H e _ fun v H2 e2 dv => by
  obtain ⟨a, xs, rfl, h1, h2⟩ := dp_list dv
  refine ⟨_, .inl ⟨xs, h1, rfl⟩, ?_⟩
  have e3 : xs.isEmpty = ds.isEmpty := by
    have := dpa_len h2
    cases xs <;> cases ds <;> simp_all
  rw [e3]
  exact q H2 e2
/-! len, list -/
abbrev rLen (K : PySem.W.Frag) : List V → Hp → VK → Prop := fun xs H Q => ∃ x n, xs = [x] ∧ LenV K x H n ∧ Q (.int (n : Nat)) H
theorem dpa_one {H : Hp} {vs : List V} (h : DpAll K H vs [x]) : ∃ v, vs = [v] ∧ Dp K H v x := by
  cases h with
  | cons a t =>
    cases t
    exact ⟨_, rfl, a⟩
theorem dpa_two {H : Hp} {vs : List V} (h : DpAll K H vs [x, y]) : ∃ v w, vs = [v, w] ∧ Dp K H v x ∧ Dp K H w y := by
  cases h with
  | cons a t =>
    obtain ⟨w, rfl, hw⟩ := dpa_one t
    exact ⟨_, _, rfl, a, hw⟩
theorem ed_lenL (h : Ed ta env (.list ds)) : Ed (tCB (rLen K) (tCons ta tNil)) env (.int (ds.length : Int)) := ed_cb (eda_cons h eda_nil) fun vs H hv Q q => by
  obtain ⟨v, rfl, hd⟩ := dpa_one hv
  obtain ⟨a, xs, rfl, h1, h2⟩ := dp_list hd
  refine ⟨_, xs.length, rfl, .inl ⟨xs, h1, rfl⟩, q _ H (Same.refl H) ?_⟩
  rw [dpa_len h2]
  exact .int _
theorem ed_lenT (h : Ed ta env (.tuple ds)) : Ed (tCB (rLen K) (tCons ta tNil)) env (.int (ds.length : Int)) := ed_cb (eda_cons h eda_nil) fun vs H hv Q q => by
  obtain ⟨v, rfl, hd⟩ := dpa_one hv
  obtain ⟨a, xs, rfl, h1, h2⟩ := dp_tup hd
  refine ⟨_, xs.length, rfl, .inr ⟨xs, h1, rfl⟩, q _ H (Same.refl H) ?_⟩
  rw [dpa_len h2]
  exact .int _
theorem ed_lenS {s : Str} (h : Ed ta env (.str s)) (hl : s.length ≤ 100000) : Ed (tCB (rLen K) (tCons ta tNil)) env (.int (s.length : Int)) := ed_cb (eda_cons h eda_nil) fun vs H hv Q q => by
  obtain ⟨v, rfl, hd⟩ := dpa_one hv
  cases dp_str hd
  exact ⟨_, s.length, rfl, ⟨Nat.le_trans hl (by decide), rfl⟩, q _ H (Same.refl H) (.int _)⟩
abbrev rListOf (K : PySem.W.Frag) : List V → Hp → VK → Prop := fun xs H Q => ∃ p ys, xs = [.ref p] ∧ (SqL K H p ys ∨ SqT K H p ys) ∧ ∀ l, H l = none → Q (.ref l) (upd H l (.lst ys))
theorem edl_list (h : Ed ta env (.list ds)) : EdL (tCB (rListOf K) (tCons ta tNil)) env ds := edl_cb (eda_cons h eda_nil) fun vs H hv Q q => by
  obtain ⟨v, rfl, hd⟩ := dpa_one hv
  obtain ⟨a, xs, rfl, h1, h2⟩ := dp_list hd
  exact ⟨a, xs, rfl, .inl h1, fun l hl => q l xs _ hl (same_new hl) upd_same (dpa_mono (same_new hl) ds h2)⟩
abbrev rInt1 : List V → Hp → VK → Prop := fun xs H Q => (∃ i, xs = [V.int i] ∧ Q (.int i) H) ∨ ∃ k, xs = [V.bl k] ∧ Q (.int (if k then 1 else 0)) H
theorem ed_intB (h : Ed ta env (.bool b)) : Ed (tCB rInt1 (tCons ta tNil)) env (.int (if b then 1 else 0)) := ed_cb (eda_cons h eda_nil) fun vs H hv Q q => by
  obtain ⟨v, rfl, hd⟩ := dpa_one hv
  cases dp_bool hd
  exact .inr ⟨b, rfl, q _ H (Same.refl H) (.int _)⟩
abbrev rAbs : List V → Hp → VK → Prop := fun xs H Q => ∃ i, xs = [V.int i] ∧ Q (.int (if i < 0 then -i else i)) H
theorem ed_abs (h : Ed ta env (.int i)) : Ed (tCB rAbs (tCons ta tNil)) env (.int (if i < 0 then -i else i)) := ed_cb (eda_cons h eda_nil) fun vs H hv Q q => by
  obtain ⟨v, rfl, hd⟩ := dpa_one hv
  cases dp_int hd
  exact ⟨i, rfl, q _ H (Same.refl H) (.int _)⟩
/-! slices of lists -/
def cutD (xs : List PyData) (lo hi : Option Int) : List PyData := (xs.drop (HT.sIx xs.length 0 lo)).take (HT.sIx xs.length xs.length hi - HT.sIx xs.length 0 lo)
theorem edo_none : EdO tNoPart env none := fun _ _ H _ _ q => q H (Same.refl H)
theorem edo_some (h : Ed te env (.int i)) : EdO (tPart te) env (some i) := fun H0 σ H e Q q => h H0 σ H e _ fun v H2 e2 dv => ⟨i, dp_int dv, q H2 e2⟩
theorem edl_slice {tl th : TO} {lo hi : Option Int} (h : Ed te env (.list ds)) (hl : EdO tl env lo) (hh : EdO th env hi) : EdL (tSl (rSlL K) te tl th) env (cutD ds lo hi) := fun H0 σ H e Q q =>
  h H0 σ H e _ fun v H2 e2 dv => hl H0 σ H2 (e.same e2) _ fun H3 e3 => hh H0 σ H3 ((e.same e2).same e3) _ fun H4 e4 => by
    obtain ⟨a, xs, rfl, h1, h2⟩ := dp_list (dp_mono (e3.trans e4) _ dv)
    refine ⟨a, xs, rfl, h1, fun p hp => q p _ _ (((e2.trans e3).trans e4).free hp) (((e2.trans e3).trans e4).trans (same_new hp)) upd_same ?_⟩
    unfold cutV cutD
    rw [dpa_len h2]
    exact dpa_mono (same_new hp) _ (dpa_take _ (dpa_drop _ h2))
theorem edl_cat (ha : EdK ta env ds) (hb : EdK tb env es) (hl : ds.length + es.length ≤ 100000) : EdL (tOp rCat ta tb) env (ds ++ es) := fun H0 σ H e Q q =>
  ha H0 σ H e _ fun p vs H2 e2 h1 h2 => hb H0 σ H2 (e.same e2) _ fun p' ws H3 e3 h3 h4 =>
    ⟨p, p', vs, ws, rfl, rfl, e3 _ _ h1, h3, by rw [dpa_len h2, dpa_len h4]; exact Nat.le_trans hl (by decide), fun l hl => q l _ _ ((e2.trans e3).free hl) ((e2.trans e3).trans (same_new hl)) upd_same
      (dpa_mono (same_new hl) _ (dpa_append (dpa_mono e3 _ h2) h4))⟩
/-! calls of defs -/
def spD (K : PySem.W.Frag) (R : List PyData → PyData → Prop) : Sp := fun vs H Q _ => ∃ ds d, R ds d ∧ DpAll K H vs ds ∧ ∀ v H', Same H H' → Dp K H' v d → Q v H'
def spL (K : PySem.W.Frag) (R : List PyData → List PyData → Prop) : Sp := fun vs H Q _ => ∃ ds out, R ds out ∧ DpAll K H vs ds ∧ ∀ p us H', H p = none → Same H H' → H' p = some (.lst us) → DpAll K H' us out → Q (.ref p) H'
theorem ed_call {R : List PyData → PyData → Prop} {E : XK} {ta : TA} (ha : EdA ta env ds) (hR : R ds d) : Ed (tCall (spD K R) [] E ta) env d := fun H0 σ H e Q q =>
  ha H0 σ H e _ fun vs H2 e2 dv => by
    rw [List.append_nil]
    exact ⟨ds, d, hR, dv, fun v H' e3 h => q v H' (e2.trans e3) h⟩
theorem edl_call {R : List PyData → List PyData → Prop} {E : XK} {ta : TA} (ha : EdA ta env ds) (hR : R ds zs) : EdL (tCall (spL K R) [] E ta) env zs := fun H0 σ H e Q q =>
  ha H0 σ H e _ fun vs H2 e2 dv => by
    rw [List.append_nil]
    exact ⟨ds, zs, hR, dv, fun p us H' hp e3 h1 h2 => q p us H' (e2.free hp) (e2.trans e3) h1 h2⟩
/-! ## targets -/
theorem wipe_get (σ : L2.St) (k : Nat) : ∀ vs : List Nat, (L2.wipe σ vs)[k]? = if k ∈ vs then (σ[k]?).map (fun _ => none) else σ[k]?
  | [] => by simp [L2.wipe]
  | v :: vs => by
    show ((L2.wipe σ vs).set v none)[k]? = _
    by_cases h : v = k
    · subst h
      rw [if_pos List.mem_cons_self, List.getElem?_set_self']
      rw [wipe_get σ v vs]
      by_cases m : v ∈ vs
      · rw [if_pos m]
        cases σ[v]? <;> rfl
      · rw [if_neg m] <;> rfl
    · rw [List.getElem?_set_ne h, wipe_get σ k vs]
      have e : (k ∈ v :: vs) ↔ (k ∈ vs) := by simp [List.mem_cons, Ne.symm h]
      by_cases m : k ∈ vs
      · rw [if_pos m, if_pos (e.mpr m)]
      · rw [if_neg m, if_neg (fun z => m (e.mp z))]
theorem wipe_set {σ : L2.St} {k : Nat} {o : Option V} {vs : List Nat} (h : k ∈ vs) : L2.wipe (σ.set k o) vs = L2.wipe σ vs := by
  apply List.ext_getElem?
  intro n
  rw [wipe_get, wipe_get]
  by_cases m : n ∈ vs
  · rw [if_pos m, if_pos m]
    by_cases e : k = n
    · subst e
      rw [List.getElem?_set_self']
      cases σ[k]? <;> rfl
    · rw [List.getElem?_set_ne e]
  · rw [if_neg m, if_neg m, List.getElem?_set_ne (fun e => m (by rw [← e]; exact h))]
theorem wipe_wipe (σ : L2.St) (vs : List Nat) : L2.wipe (L2.wipe σ vs) vs = L2.wipe σ vs := by
  apply List.ext_getElem?
  intro n
  rw [wipe_get, wipe_get]
  by_cases m : n ∈ vs
  · rw [if_pos m, if_pos m]
    cases σ[n]? <;> rfl
  · rw [if_neg m, if_neg m]
/-- a target takes data of d: the slots js are stored -/
def Gd (g : TG) (d : PyData) (env env' : List (Sl K)) (js : List Nat) : Prop := ∀ (H0 : Hp) (σ : L2.St) (H : Hp) (x : V), En K H0 σ H env → Dp K H x d → ∀ Q : L2.St → Hp → Prop,
  (∀ σ', En K H0 σ' H env' → (∀ vs : List Nat, (∀ j ∈ js, j ∈ vs) → L2.wipe σ' vs = L2.wipe σ vs) → Q σ' H) → g x σ H Q
theorem gd_name {k : Nat} (f : flat d = true) : Gd (gName k) d env (env.set k (fl d)) [k] := fun H0 σ H x e hx Q q =>
  q _ (e.set (s := fl d) rfl ⟨f, x, rfl, hx⟩ k) fun vs h => wipe_set (h k (List.mem_singleton.mpr rfl))
theorem gd_tup2 {k l : Nat} (fx : flat0 x = true) (fy : flat0 y = true) : Gd (gTup K 2 (gCons (gName k) (gCons (gName l) gNil))) (.tuple [x, y]) env ((env.set k (fl x)).set l (fl y)) [k, l] := fun H0 σ H v e hv Q q => by
  obtain ⟨a, xs, rfl, h1, h2⟩ := dp_tup hv
  obtain ⟨v1, v2, rfl, g1, g2⟩ := dpa_two h2
  have f1 : flat x = true := by cases x <;> first | rfl | cases fx
  have f2 : flat y = true := by cases y <;> first | rfl | cases fy
  refine ⟨a, _, rfl, h1, rfl, v1, [v2], rfl, v2, [], rfl, rfl, ?_⟩
  refine q _ ((e.set (s := fl x) rfl ⟨f1, v1, rfl, g1⟩ k).set (s := fl y) rfl ⟨f2, v2, rfl, g2⟩ l) fun vs h => ?_
  rw [wipe_set (h l (by simp)), wipe_set (h k (by simp))]
end

/-! ## comprehensions -/
section
variable {K : PySem.W.Frag} {env : List (Sl K)} {te : TE} {tt : TT}
/-- what is kept of the first n -/
def kept (os : List (Option PyData)) : List PyData := os.filterMap id
theorem kept_some (outs : List PyData) : kept (outs.map some) = outs := by
  unfold kept
  induction outs with
  | nil => rfl
  | cons x xs ih => rw [List.map_cons, List.filterMap_cons_some (b := x) (by rfl), ih]
/-- the new list at D holds what is kept of the first n of os -/
def Cw (K : PySem.W.Frag) (H : Hp) (os : List (Option PyData)) (D : Addr) (n : Nat) (H' : Hp) : Prop := H D = none ∧ Same H H' ∧ ∃ vs, H' D = some (.lst vs) ∧ DpAll K H' vs (kept (os.take n))
theorem cw_zero {H : Hp} {os : List (Option PyData)} {D : Addr} (h : H D = none) : Cw K H os D 0 (upd H D (.lst [])) := ⟨h, same_new h, [], upd_same, .nil⟩
theorem kept_len (os : List (Option PyData)) : (kept os).length ≤ os.length := List.length_filterMap_le _ _
theorem kept_flat {os : List (Option PyData)} (h : (kept os).all flat = true) (n : Nat) : (kept (os.take n)).all flat = true := by
  rw [List.all_eq_true] at h ⊢
  intro x hx
  refine h x ?_
  unfold kept at hx ⊢
  rw [List.mem_filterMap] at hx ⊢
  obtain ⟨a, ha, e⟩ := hx
  exact ⟨a, List.mem_of_mem_take ha, e⟩
theorem kept_next {os : List (Option PyData)} {n : Nat} {oo : Option PyData} (h : os[n]? = some oo) : kept (os.take (n + 1)) = kept (os.take n) ++ oo.toList := by
  unfold kept
  rw [List.take_add_one, h, List.filterMap_append]
  cases oo <;> rfl
theorem cw_turn {H : Hp} {os : List (Option PyData)} {D : Addr} {n : Nat} {H' : Hp} {oo : Option PyData} {σ2 : L2.St} {H0 : Hp} {env2 : List (Sl K)} (hf : (kept os).all flat = true) (hz : os.length ≤ 100000) (ho : os[n]? = some oo) (c : Cw K H os D n H')
    (en : En K H0 σ2 H' env2) (ht : EdT tt env2 oo.isSome) (he : ∀ o, oo = some o → Ed te env2 o) :
    tt σ2 H' fun b H3 => if b = true then te σ2 H3 fun y H4 => ∃ acc, H4 D = some (.lst acc) ∧ acc.length < sizeLine ∧ Cw K H os D (n + 1) (upd H4 D (.lst (acc ++ [y]))) else Cw K H os D (n + 1) H3 := by
  obtain ⟨c1, c2, vs, c3, c4⟩ := c
  have hn : n < os.length := (List.getElem?_eq_some_iff.mp ho).1
  have kn := kept_next ho
  refine ht H0 σ2 H' en _ fun H3 e3 => ?_
  cases oo with
  | none =>
    rw [if_neg (by simp)]
    refine ⟨c1, c2.trans e3, vs, e3 _ _ c3, ?_⟩
    rw [kn, Option.toList_none, List.append_nil]
    exact dpa_mono e3 _ c4
  | some o =>
    rw [if_pos (by rfl)]
    refine he o rfl H0 σ2 H3 (en.same e3) _ fun v H4 e4 dv => ⟨vs, e4 _ _ (e3 _ _ c3), ?_, c1, same_mut ((c2.trans e3).trans e4) c1, _, upd_same, ?_⟩
    · rw [dpa_len c4]
      have q := kept_len (os.take n)
      rw [List.length_take] at q
      exact Nat.lt_of_le_of_lt (Nat.le_trans q (Nat.min_le_left _ _)) (Nat.lt_of_lt_of_le (Nat.lt_of_lt_of_le hn hz) (by decide))
    · have st : SameT H4 (upd H4 D (.lst (vs ++ [v]))) := SameT.upd (e4 _ _ (e3 _ _ c3)) trivial
      rw [kn]
      refine dpa_append (dpa_flat (K := K) st (kept_flat hf n) (dpa_mono (e3.trans e4) _ c4)) (.cons (dp_flat st ?_ dv) .nil)
      refine (List.all_eq_true.mp hf) o ?_
      unfold kept
      exact List.mem_filterMap.mpr ⟨some o, List.mem_of_getElem? ho, rfl⟩
/-- over a list -/
theorem edl_lcT {tl : TE} {ds : List PyData} {os : List (Option PyData)} {g : TG} {vs : List Nat} {js : List Nat} (env2 : Nat → List (Sl K)) (hs : Ed tl env (.list ds)) (hf : (kept os).all flat = true) (hz : os.length ≤ 100000) (hl : os.length = ds.length)
    (hj : ∀ j ∈ js, j ∈ vs) (hg : ∀ n d, ds[n]? = some d → Gd g d (wipeE env vs) (env2 n) js) (ht : ∀ n d oo, ds[n]? = some d → os[n]? = some oo → EdT tt (env2 n) oo.isSome) (he : ∀ n d o, ds[n]? = some d → os[n]? = some (some o) → Ed te (env2 n) o) :
    EdL (tLc (iList K tl) g tt te vs) env (kept os) := fun H0 σ H e Q q => by
  refine hs H0 σ H e _ fun v H1 e1 dv => ?_
  obtain ⟨a, xs, rfl, h4, h5⟩ := dp_list dv
  refine ⟨a, rfl, ⟨xs, h4⟩, fun D hD => lc_list (K := K) (a := a) (xs := xs) (Cw K H1 os D) (cw_zero hD) (fun i H' _ c => c.2.1.seq h4) (fun i x H' hi c => ?_) (fun H' c => ?_)⟩
  · obtain ⟨d, hd, hx⟩ := dpa_get' h5 hi
    have hlt : i < os.length := by
      rw [hl]
      exact (List.getElem?_eq_some_iff.mp hd).1
    refine hg i d hd H0 _ H' x (((e.same e1).same c.2.1).wipe vs) (dp_mono c.2.1 d hx) _ fun σ2 en2 hw => ⟨?_, ?_⟩
    · rw [hw vs hj, wipe_wipe]
    · obtain ⟨oo, ho⟩ : ∃ oo, os[i]? = some oo := ⟨_, List.getElem?_eq_getElem hlt⟩
      exact cw_turn hf hz ho c en2 (ht i d oo hd ho) (fun o eo => he i d o hd (by rw [ho, eo]))
  · obtain ⟨c1, c2, us, c3, c4⟩ := c
    rw [dpa_len h5, ← hl, List.take_length] at c4
    exact q D us H' (e1.free c1) (e1.trans c2) c3 c4
/-- over a range -/
theorem edl_lcRT {ta : TA} {os : List (Option PyData)} {k : Nat} {vs : List Nat} {n : Int} (ha : EdA ta env [.int n]) (hf : (kept os).all flat = true) (hz : os.length ≤ 100000) (hl : os.length = n.toNat)
    (hj : k ∈ vs) (ht : ∀ (i : Nat) oo, os[i]? = some oo → EdT tt ((wipeE env vs).set k (fl (.int (i : Int)))) oo.isSome) (he : ∀ (i : Nat) o, os[i]? = some (some o) → Ed te ((wipeE env vs).set k (fl (.int (i : Int)))) o) (hn : n ≤ 100000 ∧ -100000 ≤ n) :
    EdL (tLc (iRng1 ta) (gName k) tt te vs) env (kept os) := fun H0 σ H e Q q => by
  refine ha H0 σ H e _ fun us H1 e1 dv => ?_
  obtain ⟨v, rfl, hv⟩ := dpa_one dv
  cases dp_int hv
  refine ⟨n, rfl, by omega, by omega, fun D hD => lc_range (lo := 0) (n := n.toNat) (Cw K H1 os D) (cw_zero hD) (fun i H' hi c => ?_) (fun H' c => ?_)⟩
  · have e0 : (0 : Int) + (i : Int) = (i : Int) := Int.zero_add _
    rw [e0]
    have hlt : i < os.length := by omega
    obtain ⟨oo, ho⟩ : ∃ oo, os[i]? = some oo := ⟨_, List.getElem?_eq_getElem hlt⟩
    refine ⟨by rw [wipe_set hj, wipe_wipe], ?_⟩
    have en2 : En K H0 ((L2.wipe σ vs).set k (some (.int (i : Int)))) H' ((wipeE env vs).set k (fl (.int (i : Int)))) := (((e.same e1).same c.2.1).wipe vs).set (s := fl (.int (i : Int))) rfl ⟨rfl, _, rfl, .int _⟩ k
    exact cw_turn hf hz ho c en2 (ht i oo ho) (fun o eo => he i o (by rw [ho, eo]))
  · obtain ⟨c1, c2, us, c3, c4⟩ := c
    rw [← hl, List.take_length] at c4
    exact q D us H' (e1.free c1) (e1.trans c2) c3 c4
theorem edt_yes : EdT tYes env true := fun _ _ H _ _ q => q H (Same.refl H)
theorem some_map {outs : List PyData} {i : Nat} {oo : Option PyData} (h : (outs.map some)[i]? = some oo) : ∃ o, oo = some o ∧ outs[i]? = some o := by
  rw [List.getElem?_map] at h
  cases e : outs[i]? with
  | none => rw [e] at h; cases h
  | some o =>
    rw [e] at h
    exact ⟨o, (Option.some.inj h).symm, rfl⟩
/-- without tests -/
theorem edl_lc {tl : TE} {ds outs : List PyData} {g : TG} {vs : List Nat} {js : List Nat} (env2 : Nat → List (Sl K)) (hs : Ed tl env (.list ds)) (hf : outs.all flat = true) (hz : outs.length ≤ 100000) (hl : outs.length = ds.length)
    (hj : ∀ j ∈ js, j ∈ vs) (hg : ∀ n d, ds[n]? = some d → Gd g d (wipeE env vs) (env2 n) js) (he : ∀ n d o, ds[n]? = some d → outs[n]? = some o → Ed te (env2 n) o) :
    EdL (tLc (iList K tl) g tYes te vs) env outs := by
  have h := edl_lcT (K := K) (env := env) (te := te) (tt := tYes) (tl := tl) (ds := ds) (os := outs.map some) (g := g) (vs := vs) (js := js) env2 hs (by rw [kept_some]; exact hf) (by rw [List.length_map]; exact hz) (by rw [List.length_map]; exact hl) hj hg
    (fun n d oo hd ho => by obtain ⟨o, rfl, _⟩ := some_map ho; exact edt_yes) (fun n d o hd ho => by
      obtain ⟨o', e, h'⟩ := some_map ho
      cases e
      exact he n d o hd h')
  rw [kept_some] at h
  exact h
theorem edl_lcR {ta : TA} {outs : List PyData} {k : Nat} {vs : List Nat} {n : Int} (ha : EdA ta env [.int n]) (hf : outs.all flat = true) (hl : outs.length = n.toNat)
    (hj : k ∈ vs) (he : ∀ (i : Nat) o, outs[i]? = some o → Ed te ((wipeE env vs).set k (fl (.int (i : Int)))) o) (hn : n ≤ 100000 ∧ -100000 ≤ n) :
    EdL (tLc (iRng1 ta) (gName k) tYes te vs) env outs := by
  have h := edl_lcRT (K := K) (env := env) (te := te) (tt := tYes) (ta := ta) (os := outs.map some) (k := k) (vs := vs) (n := n) ha (by rw [kept_some]; exact hf) (by rw [List.length_map]; omega) (by rw [List.length_map]; exact hl) hj
    (fun i oo ho => by obtain ⟨o, rfl, _⟩ := some_map ho; exact edt_yes) (fun i o ho => by
      obtain ⟨o', e, h'⟩ := some_map ho
      cases e
      exact he i o h') hn
  rw [kept_some] at h
  exact h
end

/-! ## statements -/
section
variable {K : PySem.W.Frag} {He : Hp} {env : List (Sl K)} {te ta tb : TE} {tt : TT} {t u : TS} {D : Ends} {d x y : PyData} {ds : List PyData} {b : Bool}
/-- from such slots P is reached; the base has grown from He -/
def Sk (K : PySem.W.Frag) (He : Hp) (env : List (Sl K)) (P : L2.St → Hp → Prop) : Prop := ∀ (H0 : Hp) (σ : L2.St) (H : Hp), Same He H0 → En K H0 σ H env → P σ H
/-- what a loop's turn is to reach -/
def Nx (K : PySem.W.Frag) (He : Hp) (P : List (Sl K) → Prop) : L2.St → Hp → Prop := fun σ H => ∃ (H0 : Hp) (env : List (Sl K)), Same He H0 ∧ P env ∧ En K H0 σ H env
theorem sk_seq (h : Sk K He env (t { D with nx := u D })) : Sk K He env (tSeq t u D) := h
theorem sk_of (h : Sk K He env D.nx) : Sk K He env (tNext D) := h
theorem sk_asg {k : Nat} (h : Ed te env d) (f : flat d = true) (q : Sk K He (env.set k (fl d)) D.nx) : Sk K He env (tAsg te (gName k) D) := fun H0 σ H b e =>
  h H0 σ H e _ fun v H2 e2 dv => q H0 _ H2 b ((e.same e2).set (s := fl d) rfl ⟨f, v, rfl, dv⟩ k)
/-- an own list -/
theorem sk_asgL {k : Nat} (h : EdL te env ds) (f : ds.all flat = true) (q : ∀ l, Sk K He (env.set k (own l ds)) D.nx) : Sk K He env (tAsg te (gName k) D) := fun H0 σ H b e =>
  h H0 σ H e _ fun p vs H2 hp e2 h1 h2 => q p H0 _ H2 b (e.setO e2 (s := own p ds) hp rfl ⟨rfl, f, vs, h1, h2⟩ k)
/-- a list that will stand -/
theorem dpa_bas {H H' : Hp} {env : List (Sl K)} {σ : L2.St} {H0 : Hp} (e : En K H0 σ H env) {vs : List V} (f : ds.all flat = true) (h : DpAll K H vs ds) : DpAll K (bas H (owns env)) vs ds := dpa_flat e.base_T f h
theorem sk_asgP {k : Nat} (h : EdL te env ds) (f : ds.all flat = true) (q : Sk K He (env.set k (par (.list ds))) D.nx) : Sk K He env (tAsg te (gName k) D) := fun H0 σ H b e =>
  h H0 σ H e _ fun p vs H2 hp e2 h1 h2 => by
    have e' := e.same e2
    refine q _ _ H2 (b.trans e'.base_same) (e'.base.set (s := par (.list ds)) rfl ⟨_, rfl, .lst (.inl (.inl ?_)) (dpa_flat e'.base_T f h2)⟩ k)
    rw [bas_out (e.not_own hp)]
    exact h1
theorem sk_if (h : EdT tt env b) (h1 : b = true → Sk K He env (t D)) (h2 : b = false → Sk K He env (u D)) : Sk K He env (tIfS tt t u D) := fun H0 σ H q e =>
  h H0 σ H e _ fun H2 e2 => by
    cases b with
    | true =>
      rw [if_pos rfl]
      exact h1 rfl H0 σ H2 q (e.same e2)
    | false =>
      rw [if_neg Bool.false_ne_true]
      exact h2 rfl H0 σ H2 q (e.same e2)
theorem sk_ret (h : Ed te env d) (q : ∀ v H, Same He H → Dp K H v d → D.rt v H) : Sk K He env (tRet te D) := fun H0 σ H b e =>
  h H0 σ H e _ fun v H2 e2 dv => q v H2 ((b.trans e.sm).trans e2) dv
theorem sk_retL (h : EdL te env ds) (q : ∀ p vs H, He p = none → Same He H → H p = some (.lst vs) → DpAll K H vs ds → D.rt (.ref p) H) : Sk K He env (tRet te D) := fun H0 σ H b e =>
  h H0 σ H e _ fun p vs H2 hp e2 h1 h2 => q p vs H2 ((b.trans e.sm).free hp) ((b.trans e.sm).trans e2) h1 h2
theorem sk_retO {k : Nat} {l : Addr} (h : env[k]? = some (own l ds)) (q : ∀ p vs H, He p = none → Same He H → H p = some (.lst vs) → DpAll K H vs ds → D.rt (.ref p) H) : Sk K He env (tRet (tVar k) D) := fun H0 σ H b e => by
  obtain ⟨o, h1, h2, _, vs, h3, h4⟩ := e.get h
  subst h2
  exact ⟨_, h1, q l vs H (b.free (e.fr l (mem_owns (List.mem_of_getElem? h) (List.mem_singleton.mpr rfl)))) (b.trans e.sm) h3 h4⟩
theorem sk_drop (h : Ed te env d) (q : Sk K He env D.nx) : Sk K He env (tDrop te D) := fun H0 σ H b e =>
  h H0 σ H e _ fun v H2 e2 dv => q H0 σ H2 b (e.same e2)
/-- l.append(e) -/
theorem sk_append {k : Nat} {l : Addr} (hk : env[k]? = some (own l ds)) (h : Ed te env d) (f : flat d = true) (hz : ds.length < 100000) (q : Sk K He (env.set k (own l (ds ++ [d]))) D.nx) : Sk K He env (tDrop (tBM K "list" rAppend (tVar k) (tCons te tNil)) D) := fun H0 σ H b e => by
  obtain ⟨o, h1, h2, fl1, vs, h3, h4⟩ := e.get hk
  subst h2
  refine ⟨_, h1, .inl ⟨rfl, vs, SqL.of h3⟩, h H0 σ H e _ fun v H2 e2 dv => ?_⟩
  have h3' := e2 _ _ h3
  have st : SameT H2 (upd H2 l (.lst (vs ++ [v]))) := SameT.upd h3' trivial
  refine ⟨l, vs, v, rfl, rfl, h3', by rw [dpa_len h4]; exact Nat.lt_of_lt_of_le hz (by decide), ?_⟩
  refine q H0 σ _ b ((e.same e2).upd (s' := own l (ds ++ [d])) hk rfl rfl fun o ho => ?_)
  rw [h1] at ho
  cases ho
  refine ⟨rfl, by rw [List.all_append, fl1, List.all_cons, f] <;> rfl, _, upd_same, ?_⟩
  exact dpa_append (dpa_flat st fl1 (dpa_mono e2 _ h4)) (.cons (dp_flat st f dv) .nil)
/-- l.pop(), dropped -/
theorem sk_pop {k : Nat} {l : Addr} (hk : env[k]? = some (own l ds)) (hn : ds ≠ []) (q : Sk K He (env.set k (own l ds.dropLast)) D.nx) : Sk K He env (tDrop (tBM0 K "list" rPop (tVar k)) D) := fun H0 σ H b e => by
  obtain ⟨o, h1, h2, fl1, vs, h3, h4⟩ := e.get hk
  subst h2
  have hl := dpa_len h4
  have hp : 0 < vs.length := by
    rw [hl]
    exact List.length_pos_iff.mpr hn
  have st : SameT H (upd H l (.lst vs.dropLast)) := SameT.upd h3 trivial
  refine ⟨_, h1, .inl ⟨rfl, vs, SqL.of h3⟩, l, vs, vs[vs.length - 1]'(by omega), rfl, rfl, h3, List.getElem?_eq_getElem (by omega), ?_⟩
  refine q H0 σ _ b (e.upd (s' := own l ds.dropLast) hk rfl rfl fun o ho => ?_)
  rw [h1] at ho
  cases ho
  refine ⟨rfl, ?_, _, upd_same, ?_⟩
  · rw [List.all_eq_true] at fl1 ⊢
    exact fun x hx => fl1 x (List.dropLast_subset _ hx)
  · have e1 : vs.dropLast = vs.take (ds.length - 1) := by rw [List.dropLast_eq_take, hl]
    rw [e1, List.dropLast_eq_take]
    have st' := st
    rw [e1] at st'
    exact dpa_take _ (dpa_flat st' fl1 h4)
/-- l[i] = e -/
theorem sk_setL {k : Nat} {l : Addr} {i : Int} {j : Nat} (hk : env[k]? = some (own l ds)) (h : Ed te env d) (f : flat d = true) (hi : Ed tb env (.int i)) (hj : ixN ds.length i = some j) (q : Sk K He (env.set k (own l (ds.set j d))) D.nx) : Sk K He env (tAsg te (gSub (tVar k) tb rSetL) D) := fun H0 σ H b e =>
  h H0 σ H e _ fun v H2 e2 dv => by
    obtain ⟨o, h1, h2, fl1, vs, h3, h4⟩ := (e.same e2).get hk
    subst h2
    refine ⟨_, h1, hi H0 σ H2 (e.same e2) _ fun w H3 e3 dw => ?_⟩
    have h3' := e3 _ _ h3
    have st : SameT H3 (upd H3 l (.lst (vs.set j v))) := SameT.upd h3' trivial
    refine ⟨l, vs, i, j, rfl, dp_int dw, h3', by rw [dpa_len h4]; exact hj, ?_⟩
    refine q H0 σ _ b (((e.same e2).same e3).upd (s' := own l (ds.set j d)) hk rfl rfl fun o ho => ?_)
    rw [h1] at ho
    cases ho
    refine ⟨rfl, ?_, _, upd_same, ?_⟩
    · rw [List.all_eq_true] at fl1 ⊢
      intro x hx
      rcases List.mem_or_eq_of_mem_set hx with z | z
      · exact fl1 x z
      · rw [z]
        exact f
    · exact dpa_set j (dpa_flat st fl1 (dpa_mono e3 _ h4)) (dp_flat st f (dp_mono e3 _ dv))
theorem sk_nx {P : List (Sl K) → Prop} (h : P env) : Sk K He env (Nx K He P) := fun H0 σ H b e => ⟨H0, env, b, h, e⟩
theorem sk_nxK {P : List (Sl K) → Prop} (vs : List Nat) (h : P (wipeE env vs)) : Sk K He env (Nx K He P) := fun H0 σ H b e => ⟨H0, _, b, h, e.kill vs⟩
theorem sk_kill {P : L2.St → Hp → Prop} (vs : List Nat) (h : Sk K He (wipeE env vs) P) : Sk K He env P := fun H0 σ H b e => h H0 σ H b (e.kill vs)
theorem sk_env {env' : List (Sl K)} {P : L2.St → Hp → Prop} (e : env = env') (h : Sk K He env' P) : Sk K He env P := e ▸ h
theorem sk_brk (h : Sk K He env D.bk) : Sk K He env (tBreak D) := h
theorem sk_cont (h : Sk K He env D.ct) : Sk K He env (tCont D) := h
/-- for over range(n) -/
theorem sk_forR1 {ta : TA} {k : Nat} {n : Int} (ha : EdA ta env [.int n]) (hn : -100000 ≤ n ∧ n ≤ 100000) (I : Nat → List (Sl K)) (P : Nat → Prop) (h0 : env = I 0) (p0 : P 0)
    (hs : ∀ i : Nat, (i : Int) < n → P i → Sk K He ((I i).set k (fl (.int (i : Int)))) (t { D with nx := Nx K He (fun e => e = I (i + 1) ∧ P (i + 1)), ct := Nx K He (fun e => e = I (i + 1) ∧ P (i + 1)), bk := D.nx })) (hd : P n.toNat → Sk K He (I n.toNat) D.nx) : Sk K He env (tFor (iRng1 ta) (gName k) t D) := fun H0 σ H b e =>
  ha H0 σ H e _ fun us H1 e1 dv => by
    obtain ⟨v, rfl, hv⟩ := dpa_one dv
    cases dp_int hv
    refine ⟨n, rfl, by omega, by omega, for_range (lo := 0) (n := n.toNat) (fun i => Nx K He (fun e => e = I i ∧ P i)) ⟨H0, env, b, ⟨h0, p0⟩, e.same e1⟩ (fun i σ' H' hi p => ?_) (fun σ' H' p => ?_)⟩
    · obtain ⟨H0', env', b', ⟨rfl, pi⟩, e'⟩ := p
      rw [Int.zero_add]
      exact hs i (by omega) pi H0' _ H' b' (e'.set (s := fl (.int (i : Int))) rfl ⟨rfl, _, rfl, .int _⟩ k)
    · obtain ⟨H0', env', b', ⟨rfl, pi⟩, e'⟩ := p
      exact hd pi H0' σ' H' b' e'
/-- for over range(lo, hi) -/
theorem sk_forR2 {ta : TA} {k : Nat} {lo n : Int} (ha : EdA ta env [.int lo, .int n]) (hn : -100000 ≤ lo ∧ lo ≤ 100000 ∧ -100000 ≤ n ∧ n ≤ 100000) (I : Nat → List (Sl K)) (P : Nat → Prop) (h0 : env = I 0) (p0 : P 0)
    (hs : ∀ i : Nat, lo + (i : Int) < n → P i → Sk K He ((I i).set k (fl (.int (lo + (i : Int))))) (t { D with nx := Nx K He (fun e => e = I (i + 1) ∧ P (i + 1)), ct := Nx K He (fun e => e = I (i + 1) ∧ P (i + 1)), bk := D.nx })) (hd : P (n - lo).toNat → Sk K He (I (n - lo).toNat) D.nx) : Sk K He env (tFor (iRng2 ta) (gName k) t D) := fun H0 σ H b e =>
  ha H0 σ H e _ fun us H1 e1 dv => by
    obtain ⟨v, w, rfl, hv, hw⟩ := dpa_two dv
    cases dp_int hv
    cases dp_int hw
    refine ⟨lo, n, rfl, by omega, for_range (lo := lo) (n := (n - lo).toNat) (fun i => Nx K He (fun e => e = I i ∧ P i)) ⟨H0, env, b, ⟨h0, p0⟩, e.same e1⟩ (fun i σ' H' hi p => ?_) (fun σ' H' p => ?_)⟩
    · obtain ⟨H0', env', b', ⟨rfl, pi⟩, e'⟩ := p
      exact hs i (by omega) pi H0' _ H' b' (e'.set (s := fl (.int (lo + (i : Int)))) rfl ⟨rfl, _, rfl, .int _⟩ k)
    · obtain ⟨H0', env', b', ⟨rfl, pi⟩, e'⟩ := p
      exact hd pi H0' σ' H' b' e'
/-- for over a list that stands in the base, by a slot -/
theorem sk_forP {k : Nat} {g : TG} {js : List Nat} (hk : env[k]? = some (par (.list ds))) (I : Nat → List (Sl K)) (P : Nat → Prop) (env2 : Nat → List (Sl K)) (h0 : env = I 0) (p0 : P 0) (hg : ∀ i d, ds[i]? = some d → P i → Gd g d (I i) (env2 i) js)
    (hs : ∀ (He' : Hp), Same He He' → ∀ i d, ds[i]? = some d → P i → Sk K He' (env2 i) (t { D with nx := Nx K He' (fun e => e = I (i + 1) ∧ P (i + 1)), ct := Nx K He' (fun e => e = I (i + 1) ∧ P (i + 1)), bk := D.nx })) (hd : P ds.length → Sk K He (I ds.length) D.nx) : Sk K He env (tFor (iList K (tVar k)) g t D) := fun H0 σ H b e => by
  obtain ⟨o, h1, v, h2, h3⟩ := e.get hk
  subst h2
  obtain ⟨a, xs, rfl, h4, h5⟩ := dp_list h3
  refine ⟨_, h1, a, rfl, ⟨xs, e.sm.seq h4⟩, for_list (K := K) (a := a) (xs := xs) (fun i => Nx K H0 (fun e => e = I i ∧ P i)) ⟨H0, env, Same.refl _, ⟨h0, p0⟩, e⟩ (fun i σ' H' _ p => ?_) (fun i x σ' H' hi p => ?_) (fun σ' H' p => ?_)⟩
  · obtain ⟨H0', env', s0, ⟨rfl, pi⟩, e'⟩ := p
    exact (s0.trans e'.sm).seq h4
  · obtain ⟨H0', env', s0, ⟨rfl, pi⟩, e'⟩ := p
    obtain ⟨d, hd', hx⟩ := dpa_get' h5 hi
    refine hg i d hd' pi H0' σ' H' x e' (dp_mono (s0.trans e'.sm) d hx) _ fun σ2 en2 _ => ?_
    exact hs H0 b i d hd' pi H0' σ2 H' s0 en2
  · obtain ⟨H0', env', s0, ⟨rfl, pi⟩, e'⟩ := p
    have e2 := dpa_len h5
    rw [e2] at e' pi
    exact hd pi H0' σ' H' (b.trans s0) e'
/-- for over a new list -/
theorem sk_forN {tl : TE} {g : TG} {js : List Nat} (hl : EdL tl env ds) (f : ds.all flat = true) (I : Nat → List (Sl K)) (P : Nat → Prop) (env2 : Nat → List (Sl K)) (h0 : env = I 0) (p0 : P 0) (hg : ∀ i d, ds[i]? = some d → P i → Gd g d (I i) (env2 i) js)
    (hs : ∀ (He' : Hp), Same He He' → ∀ i d, ds[i]? = some d → P i → Sk K He' (env2 i) (t { D with nx := Nx K He' (fun e => e = I (i + 1) ∧ P (i + 1)), ct := Nx K He' (fun e => e = I (i + 1) ∧ P (i + 1)), bk := D.nx })) (hd : P ds.length → Sk K He (I ds.length) D.nx) : Sk K He env (tFor (iList K tl) g t D) := fun H0 σ H b e =>
  hl H0 σ H e _ fun p xs H2 hp e2 h1 h2 => by
    have e' := e.same e2
    have bb := b.trans e'.base_same
    have hpb : (bas H2 (owns env)) p = some (.lst xs) := by
      rw [bas_out (e.not_own hp)]
      exact h1
    have hdb : DpAll K (bas H2 (owns env)) xs ds := dpa_flat e'.base_T f h2
    subst h0
    refine ⟨p, rfl, ⟨xs, SqL.of h1⟩, for_list (K := K) (a := p) (xs := xs) (fun i => Nx K (bas H2 (owns (I 0))) (fun e => e = I i ∧ P i)) ⟨_, _, Same.refl _, ⟨rfl, p0⟩, e'.base⟩ (fun i σ' H' _ q => ?_) (fun i x σ' H' hi q => ?_) (fun σ' H' q => ?_)⟩
    · obtain ⟨H0', env', s0, ⟨rfl, pi⟩, e3⟩ := q
      exact (s0.trans e3.sm).seq (SqL.of hpb)
    · obtain ⟨H0', env', s0, ⟨rfl, pi⟩, e3⟩ := q
      obtain ⟨d, hd', hx⟩ := dpa_get' hdb hi
      exact hg i d hd' pi H0' σ' H' x e3 (dp_mono (s0.trans e3.sm) d hx) _ fun σ2 en2 _ => hs _ bb i d hd' pi H0' σ2 H' s0 en2
    · obtain ⟨H0', env', s0, ⟨rfl, pi⟩, e3⟩ := q
      have e4 := dpa_len hdb
      rw [e4] at e3 pi
      exact hd pi H0' σ' H' (bb.trans s0) e3
/-- for over an own list that stays -/
theorem sk_forO {k : Nat} {l : Addr} {g : TG} {js : List Nat} (I : Nat → List (Sl K)) (P : Nat → Prop) (hk : ∀ i, i ≤ ds.length → (I i)[k]? = some (own l ds)) (env2 : Nat → List (Sl K)) (h0 : env = I 0) (p0 : P 0) (hg : ∀ i d, ds[i]? = some d → P i → Gd g d (I i) (env2 i) js)
    (hs : ∀ i d, ds[i]? = some d → P i → Sk K He (env2 i) (t { D with nx := Nx K He (fun e => e = I (i + 1) ∧ P (i + 1)), ct := Nx K He (fun e => e = I (i + 1) ∧ P (i + 1)), bk := D.nx })) (hd : P ds.length → Sk K He (I ds.length) D.nx) : Sk K He env (tFor (iList K (tVar k)) g t D) := fun H0 σ H b e => by
  subst h0
  obtain ⟨o, h1, h2, fl1, xs, h4, h5⟩ := e.get (hk 0 (Nat.zero_le _))
  subst h2
  refine ⟨_, h1, l, rfl, ⟨xs, SqL.of h4⟩, fun i m σ' H' => m = ds.length - i ∧ i ≤ ds.length ∧ Nx K He (fun e => e = I i ∧ P i) σ' H', ⟨ds.length, by simp, Nat.zero_le _, H0, _, b, ⟨rfl, p0⟩, e⟩, ?_⟩
  rintro i m σ' H' ⟨rfl, hi, H0', env', b', ⟨rfl, pi⟩, e'⟩
  obtain ⟨o', g1, g2, _, xs', g4, g5⟩ := e'.get (hk i hi)
  have el := dpa_len g5
  by_cases hlt : i < ds.length
  · have hx : xs'[i]? = some (xs'[i]'(by omega)) := List.getElem?_eq_getElem (by omega)
    refine .inr ⟨⟨xs', _, SqL.of g4, hx⟩, Nx K He (fun e => e = I (i + 1) ∧ P (i + 1)), fun σ3 H3 p => ⟨ds.length - (i + 1), by omega, rfl, hlt, p⟩, fun x H3 y => ?_⟩
    obtain ⟨rfl, y⟩ := y
    obtain ⟨d, hd', hx'⟩ := dpa_get' g5 (y xs' (SqL.of g4))
    exact hg i d hd' pi H0' σ' H3 x e' hx' _ fun σ2 en2 _ => hs i d hd' pi H0' σ2 H3 b' en2
  · have ei : i = ds.length := by omega
    subst ei
    exact .inl ⟨⟨xs', SqL.of g4, by omega⟩, hd pi H0' σ' H' b' e'⟩
/-- while: a state of one's own, a measure -/
theorem sk_while {α : Type} (I : α → List (Sl K)) (P : α → Prop) (μ : α → Nat) (a0 : α) (h0 : env = I a0) (p0 : P a0)
    (hs : ∀ a, P a → ∃ b, EdT tt (I a) b ∧ (b = true → Sk K He (I a) (t { D with nx := Nx K He (fun e => ∃ a', P a' ∧ μ a' < μ a ∧ e = I a'), ct := Nx K He (fun e => ∃ a', P a' ∧ μ a' < μ a ∧ e = I a'), bk := D.nx })) ∧ (b = false → Sk K He (I a) D.nx)) :
    Sk K He env (tWhile tt t D) := fun H0 σ H b e => by
  refine ⟨fun m σ' H' => ∃ a, P a ∧ m = μ a ∧ Nx K He (fun e => e = I a) σ' H', ⟨μ a0, a0, p0, rfl, H0, env, b, h0, e⟩, ?_⟩
  rintro m σ' H' ⟨a, pa, rfl, H0', env', b', rfl, e'⟩
  obtain ⟨k, hk, h1, h2⟩ := hs a pa
  refine hk H0' σ' H' e' _ fun H2 e2 => ?_
  cases k with
  | true =>
    rw [if_pos rfl]
    refine ⟨Nx K He (fun e => ∃ a', P a' ∧ μ a' < μ a ∧ e = I a'), fun σ3 H3 ⟨H03, env3, b3, ⟨a', pa', l, e3⟩, en3⟩ => ⟨μ a', l, a', pa', rfl, H03, env3, b3, e3, en3⟩, h1 rfl H0' σ' H2 b' (e'.same e2)⟩
  | false =>
    rw [if_neg Bool.false_ne_true]
    exact h2 rfl H0' σ' H2 b' (e'.same e2)
end
end Rs

/-! # What the defs compute, as plain functions -/
namespace Rm
abbrev Pt := Int × Int
def cross (a b : Pt) : Int := a.1 * b.2 - a.2 * b.1
def btw (a b : Pt) : Pt := (b.1 - a.1, b.2 - a.2)
def half (a : Pt) : Bool := decide (a.2 < 0) || (decide (a.2 = 0) && decide (a.1 < 0))
def halfI (a : Pt) : Int := if half a then 1 else 0
def ahead (a b : Pt) : Bool := if (!decide (halfI a = halfI b)) = true then decide (halfI a < halfI b) else decide (0 < cross a b)
def pt0 : Pt := (0, 0)
def at_ (cs : List Pt) (k : Nat) : Pt := cs.getD k pt0
def sidesBy (cs : List Pt) : List Pt := if cs.length < 2 then [] else (List.range cs.length).map fun k => btw (at_ cs k) (at_ cs ((k + 1) % cs.length))
/-- a shape: looked at side by side -/
def IsShape (cs : List Pt) : Prop := cs ≠ [] ∧ (sidesBy cs ≠ [] → half (at_ (sidesBy cs) 0) = false) ∧ (∀ k, k + 1 < (sidesBy cs).length → ahead (at_ (sidesBy cs) k) (at_ (sidesBy cs) (k + 1)) = true) ∧ pt0 ∉ sidesBy cs
/-- numbers within n -/
def Sm (n : Int) (p : Pt) : Prop := -n ≤ p.1 ∧ p.1 ≤ n ∧ -n ≤ p.2 ∧ p.2 ≤ n
def Sms (n : Int) (ps : List Pt) : Prop := ∀ p ∈ ps, Sm n p
theorem Sm.mono {n m : Int} {p : Pt} (h : Sm n p) (l : n ≤ m) : Sm m p := by
  unfold Sm at *
  omega
theorem sms_at {n : Int} {ps : List Pt} (h : Sms n ps) (h0 : 0 ≤ n) (k : Nat) : Sm n (at_ ps k) := by
  unfold at_
  rw [List.getD_eq_getElem?_getD]
  cases e : ps[k]? with
  | none =>
    show Sm n pt0
    unfold Sm pt0
    omega
  | some p => exact h p (List.mem_of_getElem? e)
theorem sm_btw {n : Int} {a b : Pt} (ha : Sm n a) (hb : Sm n b) : Sm (2 * n) (btw a b) := by
  unfold Sm btw at *
  simp only
  omega
theorem sms_sides {n : Int} {cs : List Pt} (h : Sms n cs) (h0 : 0 ≤ n) : Sms (2 * n) (sidesBy cs) := by
  unfold sidesBy
  split
  · intro p hp
    cases hp
  · intro p hp
    obtain ⟨k, _, rfl⟩ := List.mem_map.mp hp
    exact sm_btw (sms_at h h0 _) (sms_at h h0 _)
theorem sides_len (cs : List Pt) : (sidesBy cs).length = if cs.length < 2 then 0 else cs.length := by
  unfold sidesBy
  split
  · rfl
  · rw [List.length_map, List.length_range]
/-! the stack of a chain, the top first -/
def popW (p : Pt) : List Pt → List Pt
  | b :: a :: r => if 0 < cross (btw a b) (btw b p) then b :: a :: r else popW p (a :: r)
  | s => s
def chainR (st ps : List Pt) : List Pt := ps.foldl (fun st p => p :: popW p st) st
def chain (ps : List Pt) : List Pt := (chainR [] ps).reverse
def swap (p : Pt) : Pt := (p.2, p.1)
def lexlt (p q : Pt) : Prop := p.1 < q.1 ∨ p.1 = q.1 ∧ p.2 < q.2
instance (p q : Pt) : Decidable (lexlt p q) := by unfold lexlt; infer_instance
def ins (p : Pt) : List Pt → List Pt
  | [] => [p]
  | q :: r => if lexlt p q then p :: q :: r else if p = q then q :: r else q :: ins p r
def sortU (l : List Pt) : List Pt := l.foldr ins []
/-- the points of a list by height, then from left to right, each once -/
def order (ps : List Pt) : List Pt := (sortU (ps.map swap)).map swap
def hull (ps : List Pt) : List Pt := if (order ps).length = 1 then order ps else (chain (order ps)).dropLast ++ (chain (order ps).reverse).dropLast
/-! the law's drawn points -/
def cellAt (ns : List Int) (k : Nat) : Int := ns.getD k 0
def stir (z : Int) : Int := let s := (z + 7919) % 2147483647; (s * s + 48271 * s + 12345) % 2147483629
def spanOf (c : Int) : Int := if c / 16 % 4 = 0 then 3 else if c / 16 % 4 = 1 then 1 else if c / 16 % 4 = 2 then 8 else 1000
def drawn1 (ns : List Int) (at' : Nat) (span : Int) (k : Nat) : Pt :=
  let seed := stir (cellAt ns (at' + 1 + k % 3) + 5003 * (k : Int))
  (seed / 7 % (2 * span + 1) - span, seed / 7 / (2 * span + 1) % (2 * span + 1) - span)
def drawn (ns : List Int) (at' : Nat) (most : Int) : List Pt := (List.range (1 + cellAt ns at' % most).toNat).map (drawn1 ns at' (spanOf (cellAt ns at')))
def lawPoints (ns : List Int) (at' : Nat) (most : Int) : List Pt :=
  if cellAt ns at' / 64 % 5 = 1 then (drawn ns at' most).map fun p => (p.1, (cellAt ns at' / 320 % 5 - 2) * p.1) else drawn ns at' most
def lawShape (ns : List Int) (at' : Nat) (most : Int) : List Pt := hull (lawPoints ns at' most)

theorem modc (k n : Nat) : ((k : Int) + 1) % (n : Int) = (((k + 1) % n : Nat) : Int) := by
  rw [Int.natCast_emod]
  rfl
theorem at_get {cs : List Pt} {k : Nat} (h : k < cs.length) : cs[k]? = some (at_ cs k) := by
  unfold at_
  rw [List.getD_eq_getElem?_getD, List.getElem?_eq_getElem h] <;> rfl
theorem sides_at {c : List Pt} {i : Nat} (h : 2 ≤ c.length) (hi : i < c.length) : at_ (sidesBy c) i = btw (at_ c i) (at_ c ((i + 1) % c.length)) := by
  unfold sidesBy
  rw [if_neg (by omega)]
  show ((List.range c.length).map fun k => btw (at_ c k) (at_ c ((k + 1) % c.length))).getD i pt0 = _
  rw [List.getD_eq_getElem?_getD, List.getElem?_map, List.getElem?_range hi] <;> rfl
/-! ## bounds -/
theorem spanOf_bd (c : Int) : 1 ≤ spanOf c ∧ spanOf c ≤ 1000 := by
  unfold spanOf
  repeat' split
  all_goals omega
theorem drawn1_sm (ns : List Int) (a : Nat) {span : Int} (h : 1 ≤ span ∧ span ≤ 1000) (k : Nat) : Sm 1000 (drawn1 ns a span k) := by
  unfold drawn1 Sm
  simp only
  have h1 := Int.emod_nonneg (stir (cellAt ns (a + 1 + k % 3) + 5003 * (k : Int)) / 7) (show (2 * span + 1) ≠ 0 by omega)
  have h2 := Int.emod_lt_of_pos (stir (cellAt ns (a + 1 + k % 3) + 5003 * (k : Int)) / 7) (show 0 < (2 * span + 1) by omega)
  have h3 := Int.emod_nonneg (stir (cellAt ns (a + 1 + k % 3) + 5003 * (k : Int)) / 7 / (2 * span + 1)) (show (2 * span + 1) ≠ 0 by omega)
  have h4 := Int.emod_lt_of_pos (stir (cellAt ns (a + 1 + k % 3) + 5003 * (k : Int)) / 7 / (2 * span + 1)) (show 0 < (2 * span + 1) by omega)
  omega
theorem drawn_sm (ns : List Int) (a : Nat) (m : Int) : Sms 1000 (drawn ns a m) := by
  intro p hp
  unfold drawn at hp
  obtain ⟨k, _, rfl⟩ := List.mem_map.mp hp
  exact drawn1_sm ns a (spanOf_bd _) k
theorem drawn_len (ns : List Int) (a : Nat) {m : Int} (hm : 0 < m) : 1 ≤ (drawn ns a m).length ∧ ((drawn ns a m).length : Int) ≤ m := by
  unfold drawn
  rw [List.length_map, List.length_range]
  have h1 := Int.emod_nonneg (cellAt ns a) (show m ≠ 0 by omega)
  have h2 := Int.emod_lt_of_pos (cellAt ns a) hm
  omega
theorem lawPoints_len (ns : List Int) (a : Nat) {m : Int} (hm : 0 < m) : 1 ≤ (lawPoints ns a m).length ∧ ((lawPoints ns a m).length : Int) ≤ m := by
  unfold lawPoints
  split
  · rw [List.length_map]
    exact drawn_len ns a hm
  · exact drawn_len ns a hm
theorem lawPoints_sm (ns : List Int) (a : Nat) (m : Int) : Sms 2000 (lawPoints ns a m) := by
  unfold lawPoints
  split
  · intro p hp
    obtain ⟨q, hq, rfl⟩ := List.mem_map.mp hp
    have h := drawn_sm ns a m q hq
    have h1 := Int.emod_nonneg (cellAt ns a / 320) (show (5 : Int) ≠ 0 by omega)
    have h2 := Int.emod_lt_of_pos (cellAt ns a / 320) (show (0 : Int) < 5 by omega)
    generalize cellAt ns a / 320 % 5 = c at *
    unfold Sm at *
    simp only
    have : c = 0 ∨ c = 1 ∨ c = 2 ∨ c = 3 ∨ c = 4 := by omega
    rcases this with rfl | rfl | rfl | rfl | rfl <;> omega
  · exact fun p hp => (drawn_sm ns a m p hp).mono (by omega)
/-! ## sortU, order -/
theorem mem_ins {p x : Pt} : ∀ {l : List Pt}, x ∈ ins p l ↔ x = p ∨ x ∈ l
  | [] => by simp [ins]
  | q :: r => by
    unfold ins
    split
    · simp
    · split
      · rename_i h
        subst h
        simp
      · rw [List.mem_cons, mem_ins, List.mem_cons]
        constructor
        · rintro (h | h | h)
          · exact .inr (.inl h)
          · exact .inl h
          · exact .inr (.inr h)
        · rintro (h | h | h)
          · exact .inr (.inl h)
          · exact .inl h
          · exact .inr (.inr h)
theorem mem_sortU {x : Pt} : ∀ {l : List Pt}, x ∈ sortU l ↔ x ∈ l
  | [] => by simp [sortU]
  | p :: l => by
    show x ∈ ins p (sortU l) ↔ _
    rw [mem_ins, mem_sortU, List.mem_cons]
theorem lex_trans {p q r : Pt} (h1 : lexlt p q) (h2 : lexlt q r) : lexlt p r := by
  unfold lexlt at *
  omega
theorem lex_tri (p q : Pt) (h1 : ¬ lexlt p q) (h2 : p ≠ q) : lexlt q p := by
  unfold lexlt at *
  by_cases h : p.1 = q.1
  · have : p.2 ≠ q.2 := fun e => h2 (Prod.ext h e)
    omega
  · omega
theorem ins_pw {p : Pt} : ∀ {l : List Pt}, l.Pairwise lexlt → (ins p l).Pairwise lexlt
  | [], _ => List.pairwise_singleton _ _
  | q :: r, h => by
    have h' := List.pairwise_cons.mp h
    unfold ins
    split
    · rename_i hp
      refine List.pairwise_cons.mpr ⟨fun x hx => ?_, h⟩
      rcases List.mem_cons.mp hx with e | hx
      · exact e ▸ hp
      · exact lex_trans hp (h'.1 x hx)
    · split
      · exact h
      · rename_i h1 h2
        refine List.pairwise_cons.mpr ⟨fun x hx => ?_, ins_pw h'.2⟩
        rcases mem_ins.mp hx with e | hx
        · rw [e]
          exact lex_tri p q h1 h2
        · exact h'.1 x hx
theorem sortU_pw : ∀ l : List Pt, (sortU l).Pairwise lexlt
  | [] => List.Pairwise.nil
  | p :: l => ins_pw (sortU_pw l)
theorem swap_swap (p : Pt) : swap (swap p) = p := rfl
theorem mem_order {x : Pt} {ps : List Pt} : x ∈ order ps ↔ x ∈ ps := by
  unfold order
  rw [List.mem_map]
  constructor
  · rintro ⟨a, ha, rfl⟩
    rw [mem_sortU, List.mem_map] at ha
    obtain ⟨b, hb, rfl⟩ := ha
    exact hb
  · intro h
    refine ⟨swap x, ?_, rfl⟩
    rw [mem_sortU, List.mem_map]
    exact ⟨x, h, rfl⟩
/-- the order of points -/
def ltp (p q : Pt) : Prop := lexlt (swap p) (swap q)
theorem order_pw (ps : List Pt) : (order ps).Pairwise ltp := List.pairwise_map.mpr (sortU_pw _)
theorem ins_len (p : Pt) : ∀ l : List Pt, (ins p l).length ≤ l.length + 1
  | [] => Nat.le_refl _
  | q :: r => by
    unfold ins
    split
    · exact Nat.le_refl _
    · split
      · exact Nat.le_succ _
      · rw [List.length_cons, List.length_cons]
        have := ins_len p r
        omega
theorem sortU_len : ∀ l : List Pt, (sortU l).length ≤ l.length
  | [] => Nat.le_refl _
  | p :: l => by
    have h1 := ins_len p (sortU l)
    have h2 := sortU_len l
    show (ins p (sortU l)).length ≤ l.length + 1
    omega
theorem order_len (ps : List Pt) : (order ps).length ≤ ps.length := by
  unfold order
  rw [List.length_map]
  have := sortU_len (ps.map swap)
  rwa [List.length_map] at this
theorem order_ne {ps : List Pt} (h : ps ≠ []) : order ps ≠ [] := by
  obtain ⟨x, hx⟩ := List.exists_mem_of_ne_nil ps h
  intro e
  have := mem_order.mpr hx
  rw [e] at this
  cases this
/-! ## chain: members -/
theorem popW_sub (p : Pt) : ∀ (n : Nat) (st : List Pt), st.length = n → ∀ x ∈ popW p st, x ∈ st
  | 0, st, hn, x, h => by
    have : st = [] := List.length_eq_zero_iff.mp hn
    subst this
    exact h
  | 1, st, hn, x, h => by
    obtain ⟨a, rfl⟩ := List.length_eq_one_iff.mp hn
    exact h
  | n + 2, b :: a :: r, hn, x, h => by
    unfold popW at h
    split at h
    · exact h
    · exact List.mem_cons_of_mem _ (popW_sub p (n + 1) (a :: r) (by simpa using hn) x h)
theorem popW_len (p : Pt) : ∀ (n : Nat) (st : List Pt), st.length = n → (popW p st).length ≤ st.length
  | 0, st, hn => by
    have : st = [] := List.length_eq_zero_iff.mp hn
    subst this
    exact Nat.le_refl _
  | 1, st, hn => by
    obtain ⟨a, rfl⟩ := List.length_eq_one_iff.mp hn
    exact Nat.le_refl _
  | n + 2, b :: a :: r, hn => by
    unfold popW
    split
    · exact Nat.le_refl _
    · have := popW_len p (n + 1) (a :: r) (by simpa using hn)
      rw [List.length_cons]
      omega
theorem chainR_sub : ∀ (ps st : List Pt) (x : Pt), x ∈ chainR st ps → x ∈ st ∨ x ∈ ps
  | [], st, x, h => .inl h
  | p :: ps, st, x, h => by
    rcases chainR_sub ps (p :: popW p st) x h with h | h
    · rcases List.mem_cons.mp h with e | h
      · exact .inr (e ▸ List.mem_cons_self)
      · exact .inl (popW_sub p _ st rfl x h)
    · exact .inr (List.mem_cons_of_mem _ h)
theorem chainR_len : ∀ (ps st : List Pt), (chainR st ps).length ≤ st.length + ps.length
  | [], st => Nat.le_refl _
  | p :: ps, st => by
    have h1 := chainR_len ps (p :: popW p st)
    have h2 := popW_len p _ st rfl
    show (chainR (p :: popW p st) ps).length ≤ _
    rw [List.length_cons] at h1 ⊢
    omega
theorem chain_sub {ps : List Pt} {x : Pt} (h : x ∈ chain ps) : x ∈ ps := by
  unfold chain at h
  rw [List.mem_reverse] at h
  rcases chainR_sub ps [] x h with h | h
  · cases h
  · exact h
theorem chain_len (ps : List Pt) : (chain ps).length ≤ ps.length := by
  unfold chain
  rw [List.length_reverse]
  have := chainR_len ps []
  simpa using this
theorem hull_sub {ps : List Pt} {x : Pt} (h : x ∈ hull ps) : x ∈ ps := by
  unfold hull at h
  split at h
  · exact mem_order.mp h
  · rcases List.mem_append.mp h with h | h
    · exact mem_order.mp (chain_sub (List.dropLast_subset _ h))
    · exact mem_order.mp (List.mem_reverse.mp (chain_sub (List.dropLast_subset _ h)))
theorem hull_len (ps : List Pt) : (hull ps).length ≤ 2 * ps.length := by
  have h0 := order_len ps
  unfold hull
  split
  · omega
  · rw [List.length_append, List.length_dropLast, List.length_dropLast]
    have h1 := chain_len (order ps)
    have h2 := chain_len (order ps).reverse
    rw [List.length_reverse] at h2
    omega
theorem lawShape_sm (ns : List Int) (a : Nat) (m : Int) : Sms 2000 (lawShape ns a m) := fun p hp => lawPoints_sm ns a m p (hull_sub hp)
theorem lawShape_len (ns : List Int) (a : Nat) {m : Int} (hm : 0 < m) : ((lawShape ns a m).length : Int) ≤ 2 * m := by
  have h1 := hull_len (lawPoints ns a m)
  have h2 := (lawPoints_len ns a hm).2
  unfold lawShape
  omega
/-! ## k01: a list spoilt -/
def midp (p q : Pt) : Pt := ((p.1 + q.1) / 2, (p.2 + q.2) / 2)
def spoilt (c : List Pt) (way cell : Int) : List Pt :=
  if c.length = 0 then [(cell % 3, 0)]
  else
    let a := (cell % (c.length : Int)).toNat
    let o := (cell / 16 % (c.length : Int)).toNat
    if way = 0 then c.drop a ++ c.take a
    else if way = 1 then c.reverse
    else if way = 2 then c.take a ++ [midp (at_ c (if a = 0 then c.length - 1 else a - 1)) (at_ c a)] ++ c.drop a
    else if way = 3 then c.take a ++ [at_ c o] ++ c.drop a
    else if way = 4 then c.eraseIdx a
    else if way = 5 then c.set a ((at_ c a).1 + cell / 256 % 7 - 3, (at_ c a).2 + cell / 2048 % 7 - 3)
    else if way = 6 then (c.set a (at_ c o)).set o (at_ c a)
    else if way = 7 ∧ cell % 4 = 1 then []
    else c
theorem spoilt_len (c : List Pt) (way cell : Int) : (spoilt c way cell).length ≤ c.length + 1 := by
  unfold spoilt
  split
  · simp
  · simp only
    repeat' split
    all_goals try simp only [List.length_append, List.length_drop, List.length_take, List.length_reverse, List.length_set, List.length_eraseIdx, List.length_singleton, List.length_nil]
    all_goals (try split)
    all_goals omega
theorem spoilt_sm {n : Int} {c : List Pt} (h : Sms n c) (h0 : 2 ≤ n) (way cell : Int) : Sms (n + 3) (spoilt c way cell) := by
  have h' : ∀ p ∈ c, Sm (n + 3) p := fun p hp => (h p hp).mono (by omega)
  have hat : ∀ k, Sm n (at_ c k) := sms_at h (by omega)
  unfold spoilt
  split
  · intro p hp
    rw [List.mem_singleton.mp hp]
    unfold Sm
    simp only
    omega
  · simp only
    generalize (cell % (c.length : Int)).toNat = a
    generalize (cell / 16 % (c.length : Int)).toNat = o
    intro p hp
    split at hp
    · rcases List.mem_append.mp hp with q | q
      · exact h' p (List.mem_of_mem_drop q)
      · exact h' p (List.mem_of_mem_take q)
    split at hp
    · exact h' p (List.mem_reverse.mp hp)
    split at hp
    · rcases List.mem_append.mp hp with q | q
      · rcases List.mem_append.mp q with q | q
        · exact h' p (List.mem_of_mem_take q)
        · rw [List.mem_singleton.mp q]
          have h1 := hat (if a = 0 then c.length - 1 else a - 1)
          have h2 := hat a
          unfold midp Sm at *
          simp only
          omega
      · exact h' p (List.mem_of_mem_drop q)
    split at hp
    · rcases List.mem_append.mp hp with q | q
      · rcases List.mem_append.mp q with q | q
        · exact h' p (List.mem_of_mem_take q)
        · rw [List.mem_singleton.mp q]
          exact (hat o).mono (by omega)
      · exact h' p (List.mem_of_mem_drop q)
    split at hp
    · exact h' p (List.eraseIdx_subset hp)
    split at hp
    · rcases List.mem_or_eq_of_mem_set hp with q | q
      · exact h' p q
      · rw [q]
        have h2 := hat a
        unfold Sm at *
        simp only
        omega
    split at hp
    · rcases List.mem_or_eq_of_mem_set hp with q | q
      · rcases List.mem_or_eq_of_mem_set q with q | q
        · exact h' p q
        · rw [q]
          exact (hat o).mono (by omega)
      · rw [q]
        exact (hat a).mono (by omega)
    split at hp
    · cases hp
    · exact h' p hp
def spIter (ns : List Int) : Nat → List Pt
  | 0 => lawShape ns 0 10
  | i + 1 => spoilt (spIter ns i) (cellAt ns 4 / (4 * (1 + 7 * (i : Int))) % 8) (cellAt ns (5 + i) % 1000000000)
theorem spIter_ok (ns : List Int) : ∀ i, (spIter ns i).length ≤ 20 + i ∧ Sms (2000 + 3 * (i : Int)) (spIter ns i)
  | 0 => ⟨by
      have := lawShape_len ns 0 (m := 10) (by decide)
      show (lawShape ns 0 10).length ≤ _
      omega, fun p hp => (lawShape_sm ns 0 10 p hp).mono (by omega)⟩
  | i + 1 => by
    obtain ⟨h1, h2⟩ := spIter_ok ns i
    have h3 := spoilt_len (spIter ns i) (cellAt ns 4 / (4 * (1 + 7 * (i : Int))) % 8) (cellAt ns (5 + i) % 1000000000)
    have h4 := spoilt_sm h2 (by omega) (cellAt ns 4 / (4 * (1 + 7 * (i : Int))) % 8) (cellAt ns (5 + i) % 1000000000)
    refine ⟨?_, fun p hp => (h4 p hp).mono (by omega)⟩
    show (spoilt (spIter ns i) _ _).length ≤ _
    omega
end Rm

/-! # Shapes: the hull of points is one -/
namespace Rm
/-- the arrows of a path -/
def steps : List Pt → List Pt
  | a :: b :: r => btw a b :: steps (b :: r)
  | _ => []
def AdjR (R : Pt → Pt → Prop) : List Pt → Prop
  | a :: b :: r => R a b ∧ AdjR R (b :: r)
  | _ => True
theorem steps_len : ∀ l : List Pt, (steps l).length = l.length - 1
  | [] => rfl
  | [_] => rfl
  | a :: b :: r => by
    show (steps (b :: r)).length + 1 = _
    rw [steps_len (b :: r)]
    rfl
theorem at_cons (a : Pt) (l : List Pt) (k : Nat) : at_ (a :: l) (k + 1) = at_ l k := rfl
theorem at_zero (a : Pt) (l : List Pt) : at_ (a :: l) 0 = a := rfl
theorem steps_at : ∀ (l : List Pt) (k : Nat), k + 1 < l.length → at_ (steps l) k = btw (at_ l k) (at_ l (k + 1))
  | [], k, h => absurd h (by simp)
  | [_], k, h => absurd h (by simp)
  | a :: b :: r, 0, _ => rfl
  | a :: b :: r, k + 1, h => by
    show at_ (steps (b :: r)) k = btw (at_ (b :: r) k) (at_ (b :: r) (k + 1))
    exact steps_at (b :: r) k (by simp at h ⊢; omega)
theorem at_mem {l : List Pt} {k : Nat} (h : k < l.length) : at_ l k ∈ l := List.mem_of_getElem? (at_get h)
theorem ext_at {l m : List Pt} (h : l.length = m.length) (e : ∀ k, k < l.length → at_ l k = at_ m k) : l = m := by
  apply List.ext_getElem?
  intro k
  by_cases hk : k < l.length
  · rw [at_get hk, at_get (h ▸ hk), e k hk]
  · rw [List.getElem?_eq_none (by omega), List.getElem?_eq_none (by omega)]
theorem at_append {l m : List Pt} {k : Nat} (h : k < l.length) : at_ (l ++ m) k = at_ l k := by
  unfold at_
  rw [List.getD_eq_getElem?_getD, List.getD_eq_getElem?_getD, List.getElem?_append_left h]
theorem at_append_right (l m : List Pt) (k : Nat) : at_ (l ++ m) (l.length + k) = at_ m k := by
  unfold at_
  rw [List.getD_eq_getElem?_getD, List.getD_eq_getElem?_getD, List.getElem?_append_right (by omega), Nat.add_sub_cancel_left]
theorem sidesBy_eq {s : Pt} {r : List Pt} (h : r ≠ []) : sidesBy (s :: r) = steps (s :: r ++ [s]) := by
  have h2 : 2 ≤ (s :: r).length := by
    cases r with
    | nil => exact absurd rfl h
    | cons a r => simp
  have hl : (sidesBy (s :: r)).length = (s :: r).length := by
    rw [sides_len, if_neg (by omega)]
  refine ext_at ?_ fun k hk => ?_
  · rw [hl, steps_len, List.length_append, List.length_singleton, Nat.add_sub_cancel]
  · rw [hl] at hk
    rw [sides_at h2 hk, steps_at _ _ (by rw [List.length_append, List.length_singleton]; omega), at_append hk]
    by_cases hk2 : k + 1 < (s :: r).length
    · rw [Nat.mod_eq_of_lt hk2, at_append hk2]
    · have e : k + 1 = (s :: r).length := by omega
      rw [e, Nat.mod_self]
      have := at_append_right (s :: r) [s] 0
      rw [Nat.add_zero] at this
      rw [this]
      rfl
theorem adj_at {R : Pt → Pt → Prop} : ∀ {l : List Pt}, AdjR R l → ∀ k, k + 1 < l.length → R (at_ l k) (at_ l (k + 1))
  | [], _, k, h => absurd h (by simp)
  | [_], _, k, h => absurd h (by simp)
  | a :: b :: r, hl, 0, _ => hl.1
  | a :: b :: r, hl, k + 1, h => adj_at hl.2 k (by simp at h ⊢; omega)
theorem adj_of {R : Pt → Pt → Prop} : ∀ {l : List Pt}, (∀ k, k + 1 < l.length → R (at_ l k) (at_ l (k + 1))) → AdjR R l
  | [], _ => trivial
  | [_], _ => trivial
  | a :: b :: r, h => ⟨h 0 (by simp), adj_of fun k hk => h (k + 1) (by simp at hk ⊢; omega)⟩
abbrev Ah (a b : Pt) : Prop := ahead a b = true
theorem shape_of {cs : List Pt} (h0 : cs ≠ []) (h1 : ∀ a, (sidesBy cs).head? = some a → half a = false) (h2 : AdjR Ah (sidesBy cs)) (h3 : pt0 ∉ sidesBy cs) : IsShape cs := by
  refine ⟨h0, fun hn => ?_, fun k hk => adj_at h2 k hk, h3⟩
  cases e : sidesBy cs with
  | nil => exact absurd e hn
  | cons a r => exact h1 a (by rw [e]; rfl)
theorem IsShape.adj {cs : List Pt} (h : IsShape cs) : AdjR Ah (sidesBy cs) := adj_of h.2.2.1
theorem IsShape.first {cs : List Pt} (h : IsShape cs) : ∀ a, (sidesBy cs).head? = some a → half a = false := by
  intro a ha
  have := h.2.1
  cases e : sidesBy cs with
  | nil => rw [e] at ha; cases ha
  | cons b r =>
    rw [e] at ha this
    cases ha
    exact this (fun z => nomatch z)
/-! ## chains -/
theorem ltp_half {a b : Pt} (h : ltp a b) : half (btw a b) = false ∧ half (btw b a) = true := by
  unfold ltp lexlt swap at h
  unfold half btw
  simp only [Bool.or_eq_false_iff, decide_eq_false_iff_not, Bool.and_eq_false_iff, Bool.or_eq_true, decide_eq_true_iff, Bool.and_eq_true] at h ⊢
  omega
theorem ltp_ne {a b : Pt} (h : ltp a b) : btw a b ≠ pt0 ∧ btw b a ≠ pt0 := by
  unfold ltp lexlt swap at h
  simp only at h
  constructor <;> intro e <;> unfold btw pt0 at e <;> rw [Prod.mk.injEq] at e <;> omega
theorem ltp_trans {a b c : Pt} (h1 : ltp a b) (h2 : ltp b c) : ltp a c := lex_trans h1 h2
/-- left turns all along, the stack's top first -/
def TurnR : List Pt → Prop
  | c :: b :: a :: r => 0 < cross (btw a b) (btw b c) ∧ TurnR (b :: a :: r)
  | _ => True
theorem TurnR.tail {a : Pt} : ∀ {r : List Pt}, TurnR (a :: r) → TurnR r
  | [], _ => trivial
  | [_], _ => trivial
  | _ :: _ :: _, h => h.2
theorem popW_inv (p : Pt) : ∀ (st : List Pt), TurnR st → TurnR (p :: popW p st) ∧ (∃ t, st = t ++ popW p st) ∧ (st ≠ [] → popW p st ≠ [])
  | [], _ => ⟨trivial, ⟨[], rfl⟩, fun h => h⟩
  | [b], _ => ⟨trivial, ⟨[], rfl⟩, fun h => h⟩
  | b :: a :: r, h => by
    show TurnR (p :: (if 0 < cross (btw a b) (btw b p) then b :: a :: r else popW p (a :: r))) ∧ (∃ t, b :: a :: r = t ++ (if 0 < cross (btw a b) (btw b p) then b :: a :: r else popW p (a :: r))) ∧ (_ → (if 0 < cross (btw a b) (btw b p) then b :: a :: r else popW p (a :: r)) ≠ [])
    by_cases hc : 0 < cross (btw a b) (btw b p)
    · rw [if_pos hc]
      exact ⟨⟨hc, h⟩, ⟨[], rfl⟩, fun _ z => nomatch z⟩
    · rw [if_neg hc]
      obtain ⟨h1, ⟨t, h2⟩, h3⟩ := popW_inv p (a :: r) h.tail
      refine ⟨h1, ⟨b :: t, ?_⟩, fun _ => h3 (fun z => nomatch z)⟩
      rw [List.cons_append, ← h2]
theorem chainR_inv (D : Pt → Pt → Prop) : ∀ (ps st : List Pt), TurnR st → (ps.reverse ++ st).Pairwise (fun x y => D y x) →
    TurnR (chainR st ps) ∧ (chainR st ps).Pairwise (fun x y => D y x) ∧ (st ≠ [] → (chainR st ps).getLast? = st.getLast?) ∧ (∀ q, ps.getLast? = some q → (chainR st ps).head? = some q)
  | [], st, h, hp => ⟨h, hp, fun _ => rfl, fun q hq => nomatch hq⟩
  | p :: ps, st, h, hp => by
    obtain ⟨h1, ⟨t, h2⟩, h3⟩ := popW_inv p st h
    have hp2 : (ps.reverse ++ (p :: popW p st)).Pairwise (fun x y => D y x) := by
      rw [List.reverse_cons, List.append_assoc, List.singleton_append] at hp
      refine hp.sublist (List.Sublist.append_left (List.Sublist.cons_cons p ?_) _)
      rw (occs := [2]) [h2]
      exact List.sublist_append_right _ _
    obtain ⟨g1, g2, g3, g4⟩ := chainR_inv D ps (p :: popW p st) h1 hp2
    refine ⟨g1, g2, fun hs => ?_, fun q hq => ?_⟩
    · have e := g3 (fun z => nomatch z)
      show (chainR (p :: popW p st) ps).getLast? = _
      rw [e]
      have hn := h3 hs
      rw (occs := [2]) [h2]
      rw [List.getLast?_append]
      cases e2 : popW p st with
      | nil => exact absurd e2 hn
      | cons x xs =>
        rw [List.getLast?_cons_cons]
        simp [List.getLast?_cons]
    · cases ps with
      | nil => exact hq
      | cons p2 ps => exact g4 q (by rw [List.getLast?_cons_cons] at hq; exact hq)
/-- a chain over points in order: in order, left turns, with both ends -/
theorem chain_ok {D : Pt → Pt → Prop} {a : Pt} {L : List Pt} (h : (a :: L).Pairwise D) :
    (chain (a :: L)).Pairwise D ∧ TurnR (chain (a :: L)).reverse ∧ (chain (a :: L)).head? = some a ∧ (chain (a :: L)).getLast? = (a :: L).getLast? := by
  have h' : (L.reverse ++ [a]).Pairwise (fun x y => D y x) := by
    rw [← List.reverse_cons, List.pairwise_reverse]
    exact h
  obtain ⟨g1, g2, g3, g4⟩ := chainR_inv D L [a] trivial h'
  have e : chainR [] (a :: L) = chainR [a] L := rfl
  unfold chain
  rw [e, List.reverse_reverse]
  refine ⟨List.pairwise_reverse.mpr g2, g1, ?_, ?_⟩
  · rw [List.head?_reverse, g3 (fun z => nomatch z)]
    rfl
  · rw [List.getLast?_reverse]
    cases L with
    | nil => rfl
    | cons b L =>
      rw [List.getLast?_cons_cons]
      obtain ⟨q, hq⟩ : ∃ q, (b :: L).getLast? = some q := ⟨_, List.getLast?_eq_some_getLast (List.cons_ne_nil _ _)⟩
      rw [g4 q hq, hq]
/-! the arrows of a chain -/
theorem turn_steps : ∀ (l : List Pt), TurnR l → AdjR (fun a b => 0 < cross a b) (steps l.reverse) := by
  intro l h
  apply adj_of
  intro k hk
  rw [steps_len, List.length_reverse] at hk
  have key : ∀ (l : List Pt), TurnR l → ∀ j, j + 2 < l.length → 0 < cross (btw (at_ l (j + 2)) (at_ l (j + 1))) (btw (at_ l (j + 1)) (at_ l j)) := by
    intro l
    induction l with
    | nil => intro _ j hj; simp at hj
    | cons c l ih =>
      intro h j hj
      match j, l, h, hj with
      | 0, b :: a :: r, h, _ => exact h.1
      | 0, [b], _, hj => simp at hj
      | 0, [], _, hj => simp at hj
      | j + 1, l, h, hj => exact ih h.tail j (by simp at hj; omega)
  have rev : ∀ j, j < l.length → at_ l.reverse j = at_ l (l.length - 1 - j) := by
    intro j hj
    unfold at_
    rw [List.getD_eq_getElem?_getD, List.getD_eq_getElem?_getD, List.getElem?_reverse hj]
  rw [steps_at _ _ (by rw [List.length_reverse]; omega), steps_at _ _ (by rw [List.length_reverse]; omega), rev k (by omega), rev (k + 1) (by omega), rev (k + 1 + 1) (by omega)]
  have := key l h (l.length - 1 - (k + 2)) (by omega)
  rw [show l.length - 1 - (k + 2) + 2 = l.length - 1 - k by omega, show l.length - 1 - (k + 2) + 1 = l.length - 1 - (k + 1) by omega] at this
  exact this
theorem steps_pw {D R : Pt → Pt → Prop} (hD : ∀ a b, D a b → R a b) : ∀ {l : List Pt}, l.Pairwise D → ∀ x ∈ steps l, ∃ a b, R a b ∧ x = btw a b
  | [], _, x, hx => nomatch hx
  | [_], _, x, hx => nomatch hx
  | a :: b :: r, h, x, hx => by
    rcases List.mem_cons.mp hx with rfl | hx
    · exact ⟨a, b, hD a b ((List.pairwise_cons.mp h).1 b (List.mem_cons_self ..)), rfl⟩
    · exact steps_pw hD (List.pairwise_cons.mp h).2 x hx
theorem steps_append : ∀ (l : List Pt) (t : Pt) (m : List Pt), steps (l ++ t :: m) = steps (l ++ [t]) ++ steps (t :: m)
  | [], t, m => rfl
  | [a], t, m => rfl
  | a :: b :: l, t, m => by
    show btw a b :: steps (b :: l ++ t :: m) = btw a b :: (steps (b :: l ++ [t]) ++ steps (t :: m))
    rw [steps_append (b :: l) t m]
theorem adj_append {R : Pt → Pt → Prop} : ∀ {l m : List Pt}, AdjR R l → AdjR R m → (∀ a b, l.getLast? = some a → m.head? = some b → R a b) → AdjR R (l ++ m)
  | [], m, _, h, _ => h
  | [a], [], _, _, _ => trivial
  | [a], b :: m, _, h, j => ⟨j a b rfl rfl, h⟩
  | a :: b :: l, m, h1, h2, j => ⟨h1.1, adj_append (l := b :: l) h1.2 h2 fun x y hx hy => j x y (by rw [List.getLast?_cons_cons]; exact hx) hy⟩
theorem ahead_same {a b : Pt} (h : half a = half b) (c : 0 < cross a b) : Ah a b := by
  unfold Ah ahead halfI
  rw [h]
  simp [c]
theorem ahead_diff {a b : Pt} (h1 : half a = false) (h2 : half b = true) : Ah a b := by
  unfold Ah ahead halfI
  rw [h1, h2]
  rfl
theorem adj_mono {R S : Pt → Pt → Prop} : ∀ {l : List Pt}, AdjR R l → (∀ a ∈ l, ∀ b ∈ l, R a b → S a b) → AdjR S l
  | [], _, _ => trivial
  | [_], _, _ => trivial
  | a :: b :: r, h, i => ⟨i a (by simp) b (by simp) h.1, adj_mono h.2 fun x hx y hy => i x (List.mem_cons_of_mem _ hx) y (List.mem_cons_of_mem _ hy)⟩
/-- two chains, up and down again, make a shape -/
theorem two_chains {s t : Pt} {U V : List Pt} (hne : s ≠ t) (h1 : (s :: U ++ [t]).Pairwise ltp) (h2 : TurnR (s :: U ++ [t]).reverse) (h3 : (t :: V ++ [s]).Pairwise (fun a b => ltp b a)) (h4 : TurnR (t :: V ++ [s]).reverse) :
    sidesBy (s :: U ++ t :: V) = steps (s :: U ++ [t]) ++ steps (t :: V ++ [s]) ∧ IsShape (s :: U ++ t :: V) := by
  have e : sidesBy (s :: U ++ t :: V) = steps (s :: U ++ [t]) ++ steps (t :: V ++ [s]) := by
    rw [List.cons_append, sidesBy_eq (by simp), ← List.cons_append, List.append_assoc, List.cons_append (as := V), steps_append (s :: U) t (V ++ [s])] <;> rfl
  have g1 : ∀ x ∈ steps (s :: U ++ [t]), half x = false ∧ x ≠ pt0 := fun x hx => by
    obtain ⟨a, b, hab, rfl⟩ := steps_pw (R := ltp) (fun _ _ h => h) h1 x hx
    exact ⟨(ltp_half hab).1, (ltp_ne hab).1⟩
  have g2 : ∀ x ∈ steps (t :: V ++ [s]), half x = true ∧ x ≠ pt0 := fun x hx => by
    obtain ⟨a, b, hab, rfl⟩ := steps_pw (R := fun a b => ltp b a) (fun _ _ h => h) h3 x hx
    exact ⟨(ltp_half hab).2, (ltp_ne hab).2⟩
  have a1 := turn_steps _ h2
  have a2 := turn_steps _ h4
  rw [List.reverse_reverse] at a1 a2
  refine ⟨e, shape_of (by simp) ?_ ?_ ?_⟩
  · rw [e]
    intro a ha
    refine (g1 a ?_).1
    have hl : steps (s :: U ++ [t]) ≠ [] := fun z => by
      have := steps_len (s :: U ++ [t])
      rw [z] at this
      simp at this
    cases e2 : steps (s :: U ++ [t]) with
    | nil => exact absurd e2 hl
    | cons b r =>
      rw [e2] at ha
      cases ha
      exact List.mem_cons_self ..
  · rw [e]
    refine adj_append (adj_mono a1 fun a ha b hb h => ahead_same ((g1 a ha).1.trans (g1 b hb).1.symm) h) (adj_mono a2 fun a ha b hb h => ahead_same ((g2 a ha).1.trans (g2 b hb).1.symm) h) fun a b ha hb => ahead_diff (g1 a (List.mem_of_getLast? ha)).1 (g2 b (List.mem_of_head? hb)).1
  · rw [e]
    intro hm
    rcases List.mem_append.mp hm with hm | hm
    · exact (g1 _ hm).2 rfl
    · exact (g2 _ hm).2 rfl
theorem ends_split {l : List Pt} {s t : Pt} (h1 : l.head? = some s) (h2 : l.getLast? = some t) (hne : s ≠ t) : ∃ U, l = s :: U ++ [t] := by
  cases l with
  | nil => cases h1
  | cons a r =>
    cases h1
    cases r with
    | nil =>
      cases h2
      exact absurd rfl hne
    | cons b r =>
      rw [List.getLast?_cons_cons] at h2
      refine ⟨(b :: r).dropLast, ?_⟩
      have := List.dropLast_concat_getLast (l := b :: r) (List.cons_ne_nil _ _)
      rw [List.getLast?_eq_some_getLast (List.cons_ne_nil _ _)] at h2
      cases h2
      rw [List.cons_append, this]
/-- what the hull of points with more than one place is made of -/
theorem hull_parts {ps : List Pt} (h : 1 < (order ps).length) : ∃ s t U V, hull ps = s :: U ++ t :: V ∧ s ≠ t ∧ (order ps).head? = some s ∧ (order ps).getLast? = some t ∧ chain (order ps) = s :: U ++ [t] ∧ chain (order ps).reverse = t :: V ++ [s] ∧
    (s :: U ++ [t]).Pairwise ltp ∧ TurnR (s :: U ++ [t]).reverse ∧ (t :: V ++ [s]).Pairwise (fun a b => ltp b a) ∧ TurnR (t :: V ++ [s]).reverse := by
  have hp := order_pw ps
  have hu : hull ps = (chain (order ps)).dropLast ++ (chain (order ps).reverse).dropLast := by
    unfold hull
    rw [if_neg (by omega)]
  rw [hu]
  generalize order ps = L at *
  cases L with
  | nil => simp at h
  | cons s L =>
    cases L with
    | nil => simp at h
    | cons b L =>
      obtain ⟨t, ht⟩ : ∃ t, (s :: b :: L).getLast? = some t := ⟨_, List.getLast?_eq_some_getLast (List.cons_ne_nil _ _)⟩
      have hst : ltp s t := by
        refine (List.pairwise_cons.mp hp).1 t ?_
        rw [List.getLast?_cons_cons] at ht
        exact List.mem_of_getLast? ht
      have hne : s ≠ t := fun z => (ltp_ne hst).1 (by rw [z]; unfold btw pt0; simp)
      obtain ⟨c1, c2, c3, c4⟩ := chain_ok hp
      obtain ⟨U, eU⟩ := ends_split c3 (c4.trans ht) hne
      obtain ⟨x, M, hM⟩ : ∃ x M, (s :: b :: L).reverse = x :: M := by
        cases e : (s :: b :: L).reverse with
        | nil => simp at e
        | cons x M => exact ⟨x, M, rfl⟩
      have hx : x = t := by
        have : (s :: b :: L).reverse.head? = some x := by rw [hM]; rfl
        rw [List.head?_reverse, ht] at this
        exact (Option.some.inj this).symm
      subst hx
      have hp2 : (x :: M).Pairwise (fun a b => ltp b a) := by
        rw [← hM, List.pairwise_reverse]
        exact hp
      obtain ⟨d1, d2, d3, d4⟩ := chain_ok hp2
      have hl : (x :: M).getLast? = some s := by
        rw [← hM, List.getLast?_reverse]
        rfl
      obtain ⟨V, eV⟩ := ends_split d3 (d4.trans hl) hne.symm
      rw [← hM] at eV d1 d2
      refine ⟨s, x, U, V, ?_, hne, rfl, ht, eU, eV, eU ▸ c1, eU ▸ c2, eV ▸ d1, eV ▸ d2⟩
      rw [eU, eV, List.dropLast_concat, List.dropLast_concat]
theorem shape_one (p : Pt) : IsShape [p] := by
  refine ⟨List.cons_ne_nil _ _, fun h => absurd rfl h, fun k hk => absurd hk ?_, ?_⟩
  · show ¬ k + 1 < 0
    omega
  · exact List.not_mem_nil
theorem hull_shape {ps : List Pt} (h : ps ≠ []) : IsShape (hull ps) := by
  by_cases h1 : (order ps).length = 1
  · unfold hull
    rw [if_pos h1]
    match e : order ps, h1 with
    | [p], _ => exact shape_one p
  · have h0 : (order ps).length ≠ 0 := fun z => order_ne h (List.length_eq_zero_iff.mp z)
    obtain ⟨s, t, U, V, e, hne, _, _, _, _, p1, p2, p3, p4⟩ := hull_parts (ps := ps) (by omega)
    rw [e]
    exact (two_chains hne p1 p2 p3 p4).2
theorem lawShape_shape (ns : List Int) (a : Nat) {m : Int} (hm : 0 < m) : IsShape (lawShape ns a m) := hull_shape (fun e => by
  have := lawPoints_len ns a hm
  rw [e] at this
  exact absurd this.1 (by decide))
end Rm

/-! # Shapes put together: what is computed -/
namespace Rm
def addp (a b : Pt) : Pt := (a.1 + b.1, a.2 + b.2)
def pathF (s : Pt) : List Pt → List Pt
  | [] => [s]
  | a :: r => s :: pathF (addp s a) r
def endF (s : Pt) (l : List Pt) : Pt := l.foldl addp s
theorem pathF_snoc : ∀ (l : List Pt) (s a : Pt), pathF s (l ++ [a]) = pathF s l ++ [addp (endF s l) a]
  | [], s, a => rfl
  | b :: l, s, a => by
    show s :: pathF (addp s b) (l ++ [a]) = s :: (pathF (addp s b) l ++ [addp (endF (addp s b) l) a])
    rw [pathF_snoc l]
theorem pathF_last : ∀ (l : List Pt) (s : Pt), ∃ r, pathF s l = (endF s l :: r).reverse
  | [], s => ⟨[], rfl⟩
  | b :: l, s => by
    obtain ⟨r, hr⟩ := pathF_last l (addp s b)
    refine ⟨r ++ [s], ?_⟩
    show s :: pathF (addp s b) l = (endF (addp s b) l :: (r ++ [s])).reverse
    rw [hr, ← List.cons_append, List.reverse_append] <;> rfl
theorem pathF_len : ∀ (l : List Pt) (s : Pt), (pathF s l).length = l.length + 1
  | [], _ => rfl
  | _ :: l, s => by
    show (pathF _ l).length + 1 = _
    rw [pathF_len l]
    rfl
def shapeBy (s : Pt) (as : List Pt) : List Pt := pathF s as.dropLast
/-- two rows of arrows, one row -/
def mergeL : List Pt → List Pt → List Pt
  | [], r => r
  | l, [] => l
  | a :: l, b :: r => if ahead a b then a :: mergeL l (b :: r) else b :: mergeL (a :: l) r
termination_by l r => l.length + r.length
theorem mergeL_nil (r : List Pt) : mergeL [] r = r := by rw [mergeL]
theorem mergeL_nil' (l : List Pt) : mergeL l [] = l := by
  cases l with
  | nil => rw [mergeL]
  | cons a l => rw [mergeL]; exact fun h => nomatch h
theorem mergeL_cons (a b : Pt) (l r : List Pt) : mergeL (a :: l) (b :: r) = if ahead a b then a :: mergeL l (b :: r) else b :: mergeL (a :: l) r := by rw [mergeL]
def pushR (st : List Pt) (a : Pt) : List Pt :=
  match st with
  | t :: r => if halfI t = halfI a ∧ cross t a = 0 then addp t a :: r else a :: t :: r
  | [] => [a]
def merged (l r : List Pt) : List Pt := ((mergeL l r).foldl pushR []).reverse
def together (c d : List Pt) : List Pt := shapeBy (addp (at_ c 0) (at_ d 0)) (merged (sidesBy c) (sidesBy d))
/-! bounds -/
theorem sm_add {n m : Int} {a b : Pt} (ha : Sm n a) (hb : Sm m b) : Sm (n + m) (addp a b) := by
  unfold Sm addp at *
  simp only
  omega
theorem pushR_sm {n m : Int} {st : List Pt} {a : Pt} (h : Sms n st) (ha : Sm m a) (h0 : 0 ≤ n) (h1 : 0 ≤ m) : Sms (n + m) (pushR st a) := by
  intro p hp
  cases st with
  | nil =>
    rw [show pushR [] a = [a] from rfl, List.mem_singleton] at hp
    subst hp
    exact ha.mono (by omega)
  | cons t r =>
    have e : pushR (t :: r) a = if halfI t = halfI a ∧ cross t a = 0 then addp t a :: r else a :: t :: r := rfl
    rw [e] at hp
    by_cases hc : halfI t = halfI a ∧ cross t a = 0
    · rw [if_pos hc] at hp
      rcases List.mem_cons.mp hp with rfl | hp
      · exact sm_add (h t List.mem_cons_self) ha
      · exact (h p (List.mem_cons_of_mem _ hp)).mono (by omega)
    · rw [if_neg hc] at hp
      rcases List.mem_cons.mp hp with rfl | hp
      · exact ha.mono (by omega)
      · exact (h p hp).mono (by omega)
theorem pushR_len (st : List Pt) (a : Pt) : (pushR st a).length ≤ st.length + 1 := by
  cases st with
  | nil => exact Nat.le_refl _
  | cons t r =>
    have e : pushR (t :: r) a = if halfI t = halfI a ∧ cross t a = 0 then addp t a :: r else a :: t :: r := rfl
    rw [e]
    split
    · simp
    · simp
theorem foldR_sm {m : Int} (h1 : 0 ≤ m) : ∀ (as st : List Pt) (n : Int), Sms n st → Sms m as → 0 ≤ n → Sms (n + m * (as.length : Int)) (as.foldl pushR st)
  | [], st, n, h, _, _ => fun p hp => (h p hp).mono (by simp)
  | a :: as, st, n, h, ha, h0 => by
    intro p hp
    have := foldR_sm h1 as (pushR st a) (n + m) (pushR_sm h (ha a List.mem_cons_self) h0 h1) (fun x hx => ha x (List.mem_cons_of_mem _ hx)) (by omega) p hp
    refine this.mono ?_
    rw [List.length_cons, Int.natCast_add, Int.mul_add]
    omega
theorem foldR_len : ∀ (as st : List Pt), (as.foldl pushR st).length ≤ st.length + as.length
  | [], st => Nat.le_refl _
  | a :: as, st => by
    have h1 := foldR_len as (pushR st a)
    have h2 := pushR_len st a
    show (as.foldl pushR (pushR st a)).length ≤ _
    rw [List.length_cons]
    omega
theorem mergeL_mem {x : Pt} : ∀ (n : Nat) (l r : List Pt), l.length + r.length = n → (x ∈ mergeL l r ↔ x ∈ l ∨ x ∈ r)
  | n, [], r, _ => by rw [mergeL_nil]; simp
  | n, a :: l, [], _ => by rw [mergeL_nil']; simp
  | 0, a :: l, b :: r, h => by simp at h
  | n + 1, a :: l, b :: r, h => by
    rw [mergeL_cons]
    split
    · rw [List.mem_cons, mergeL_mem n l (b :: r) (by simp at h ⊢; omega), List.mem_cons (b := a), or_assoc]
    · rw [List.mem_cons, mergeL_mem n (a :: l) r (by simp at h ⊢; omega), List.mem_cons, List.mem_cons]
      constructor
      · rintro (h | (h | h) | h)
        · exact .inr (.inl h)
        · exact .inl (.inl h)
        · exact .inl (.inr h)
        · exact .inr (.inr h)
      · rintro ((h | h) | h | h)
        · exact .inr (.inl (.inl h))
        · exact .inr (.inl (.inr h))
        · exact .inl h
        · exact .inr (.inr h)
theorem mergeL_len : ∀ (n : Nat) (l r : List Pt), l.length + r.length = n → (mergeL l r).length = n
  | n, [], r, h => by rw [mergeL_nil]; simpa using h
  | n, a :: l, [], h => by rw [mergeL_nil']; simpa using h
  | 0, a :: l, b :: r, h => by simp at h
  | n + 1, a :: l, b :: r, h => by
    rw [mergeL_cons]
    split
    · rw [List.length_cons, mergeL_len n l (b :: r) (by simp at h ⊢; omega)]
    · rw [List.length_cons, mergeL_len n (a :: l) r (by simp at h ⊢; omega)]
theorem merged_len (l r : List Pt) : (merged l r).length ≤ l.length + r.length := by
  unfold merged
  have h := foldR_len (mergeL l r) []
  rw [mergeL_len _ l r rfl] at h
  rw [List.length_reverse]
  simpa using h
theorem merged_sm {m : Int} {l r : List Pt} (h0 : 0 ≤ m) (hl : Sms m l) (hr : Sms m r) : Sms (m * ((l.length + r.length : Nat) : Int)) (merged l r) := by
  intro p hp
  unfold merged at hp
  rw [List.mem_reverse] at hp
  have := foldR_sm h0 (mergeL l r) [] 0 (fun x hx => nomatch hx) (fun x hx => (mergeL_mem _ l r rfl).mp hx |>.elim (hl x) (hr x)) (by decide) p hp
  rw [mergeL_len _ l r rfl] at this
  exact this.mono (by omega)
theorem pathF_sm {m : Int} (h0 : 0 ≤ m) : ∀ (as : List Pt) (s : Pt) (n : Int), Sm n s → Sms m as → 0 ≤ n → Sms (n + m * (as.length : Int)) (pathF s as)
  | [], s, n, h, _, _ => fun p hp => by
    rw [show pathF s [] = [s] from rfl, List.mem_singleton] at hp
    subst hp
    exact h.mono (by simp)
  | a :: as, s, n, h, ha, hn => by
    have h2 : 0 ≤ m * (as.length : Int) := Int.mul_nonneg h0 (by omega)
    intro p hp
    rw [List.length_cons, Int.natCast_add, Int.mul_add]
    rcases List.mem_cons.mp hp with rfl | hp
    · exact h.mono (by omega)
    · exact (pathF_sm h0 as (addp s a) (n + m) (sm_add h (ha a List.mem_cons_self)) (fun x hx => ha x (List.mem_cons_of_mem _ hx)) (by omega) p hp).mono (by omega)
theorem together_len (c d : List Pt) : (together c d).length ≤ c.length + d.length + 1 := by
  unfold together shapeBy
  rw [pathF_len, List.length_dropLast]
  have h := merged_len (sidesBy c) (sidesBy d)
  rw [sides_len, sides_len] at h
  split at h <;> split at h <;> omega
theorem together_sm {n m : Int} {c d : List Pt} (hc : Sms n c) (hd : Sms m d) (h0 : 0 ≤ n) (h1 : 0 ≤ m) (hl : c.length + d.length ≤ 2000) : Sms ((n + m) * 16000000) (together c d) := by
  have e1 : Sms (2 * (n + m)) (sidesBy c) := fun p hp => (sms_sides hc h0 p hp).mono (by omega)
  have e2 : Sms (2 * (n + m)) (sidesBy d) := fun p hp => (sms_sides hd h1 p hp).mono (by omega)
  have hl2 : (sidesBy c).length + (sidesBy d).length ≤ 2000 := by
    rw [sides_len, sides_len]
    split <;> split <;> omega
  have hk := merged_len (sidesBy c) (sidesBy d)
  have e3 : Sms (2 * (n + m) * 2000) (merged (sidesBy c) (sidesBy d)) := fun p hp => (merged_sm (by omega) e1 e2 p hp).mono (Int.mul_le_mul_of_nonneg_left (by omega) (by omega))
  intro p hp
  refine (pathF_sm (m := 2 * (n + m) * 2000) (by omega) (merged (sidesBy c) (sidesBy d)).dropLast _ (n + m) (sm_add (sms_at hc h0 0) (sms_at hd h1 0)) (fun x hx => e3 x (List.dropLast_subset _ hx)) (by omega) p hp).mono ?_
  rw [List.length_dropLast]
  have : 2 * (n + m) * 2000 * (((merged (sidesBy c) (sidesBy d)).length - 1 : Nat) : Int) ≤ 2 * (n + m) * 2000 * 1999 := Int.mul_le_mul_of_nonneg_left (by omega) (by omega)
  omega
end Rm

/-! # Arrows by their turn; areas -/
namespace Rm
/-- the upper half, with the way to the right -/
def Up (a : Pt) : Prop := 0 < a.2 ∨ a.2 = 0 ∧ 0 < a.1
def neg (a : Pt) : Pt := (-a.1, -a.2)
theorem up_of {a : Pt} (h : half a = false) (n : a ≠ pt0) : Up a := by
  unfold half at h
  simp only [Bool.or_eq_false_iff, decide_eq_false_iff_not, Bool.and_eq_false_iff] at h
  unfold Up
  by_cases h1 : a.2 = 0
  · by_cases h2 : a.1 = 0
    · exact absurd (Prod.ext h2 h1 : a = pt0) n
    · right
      omega
  · left
    omega
theorem down_of {a : Pt} (h : half a = true) : Up (neg a) := by
  unfold half at h
  simp only [Bool.or_eq_true, decide_eq_true_iff, Bool.and_eq_true] at h
  unfold Up neg
  simp only
  omega
theorem half_up {a : Pt} (h : Up a) : half a = false ∧ a ≠ pt0 := by
  unfold Up at h
  constructor
  · unfold half
    simp only [Bool.or_eq_false_iff, decide_eq_false_iff_not, Bool.and_eq_false_iff]
    omega
  · intro e
    rw [e] at h
    unfold pt0 at h
    simp at h
theorem half_down {a : Pt} (h : Up (neg a)) : half a = true ∧ a ≠ pt0 := by
  unfold Up neg at h
  simp only at h
  constructor
  · unfold half
    simp only [Bool.or_eq_true, decide_eq_true_iff, Bool.and_eq_true]
    omega
  · intro e
    rw [e] at h
    unfold pt0 at h
    simp at h
theorem cross_neg_neg (a b : Pt) : cross (neg a) (neg b) = cross a b := by
  unfold cross neg
  grind
theorem cross_neg_left (a b : Pt) : cross (neg a) b = - cross a b := by
  unfold cross neg
  grind
theorem cross_neg_right (a b : Pt) : cross a (neg b) = - cross a b := by
  unfold cross neg
  grind
theorem cross_swap (a b : Pt) : cross b a = - cross a b := by
  unfold cross
  grind
theorem cross_self (a : Pt) : cross a a = 0 := by
  unfold cross
  grind
theorem cross_addl (a b c : Pt) : cross (addp a b) c = cross a c + cross b c := by
  unfold cross addp
  grind
theorem cross_addr (a b c : Pt) : cross a (addp b c) = cross a b + cross a c := by
  unfold cross addp
  grind
theorem cross_zero (a : Pt) : cross pt0 a = 0 := by
  unfold cross pt0
  simp
theorem cross_zero' (a : Pt) : cross a pt0 = 0 := by
  unfold cross pt0
  simp
theorem nonneg_of_mul {a b : Int} (h : 0 < a) (k : 0 ≤ a * b) : 0 ≤ b := by
  rcases Int.lt_or_le b 0 with h1 | h1
  · have := Int.mul_neg_of_pos_of_neg h h1
    omega
  · exact h1
theorem pos_of_mul {a b : Int} (h : 0 < a) (k : 0 < a * b) : 0 < b := by
  rcases Int.lt_or_le 0 b with h1 | h1
  · exact h1
  · have := Int.mul_nonneg (Int.le_of_lt h) (show 0 ≤ -b by omega)
    rw [Int.mul_neg] at this
    omega
/-- weakly ahead, twice -/
theorem up_trans {e u v : Pt} (he : Up e) (hu : Up u) (hv : Up v) (h1 : 0 ≤ cross u e) (h2 : 0 ≤ cross e v) : 0 ≤ cross u v := by
  have id1 : e.2 * cross u v = u.2 * cross e v + v.2 * cross u e := by
    unfold cross
    grind
  have hu2 : 0 ≤ u.2 := by unfold Up at hu; omega
  have hv2 : 0 ≤ v.2 := by unfold Up at hv; omega
  rcases he with he | ⟨he1, he2⟩
  · have a1 := Int.mul_nonneg hu2 h2
    have a2 := Int.mul_nonneg hv2 h1
    exact nonneg_of_mul he (by omega)
  · have c1 : cross u e = - (u.2 * e.1) := by
      unfold cross
      rw [he1]
      grind
    have z : u.2 = 0 := by
      rcases Int.lt_or_le 0 u.2 with h | h
      · have := Int.mul_pos h he2
        omega
      · omega
    have c2 : cross u v = u.1 * v.2 := by
      unfold cross
      rw [z]
      grind
    rw [c2]
    have : 0 < u.1 := by unfold Up at hu; omega
    exact Int.mul_nonneg (by omega) hv2
theorem up_trans_l {e u v : Pt} (he : Up e) (hu : Up u) (hv : Up v) (h1 : 0 < cross u e) (h2 : 0 ≤ cross e v) : 0 < cross u v := by
  have id1 : e.2 * cross u v = u.2 * cross e v + v.2 * cross u e := by
    unfold cross
    grind
  have hu2 : 0 ≤ u.2 := by unfold Up at hu; omega
  have hv2 : 0 ≤ v.2 := by unfold Up at hv; omega
  rcases he with he | ⟨he1, he2⟩
  · have a1 := Int.mul_nonneg hu2 h2
    rcases hv with hv | ⟨hv0, hv1⟩
    · have a2 := Int.mul_pos hv h1
      exact pos_of_mul he (by omega)
    · exfalso
      have c : cross e v = - (e.2 * v.1) := by
        unfold cross
        rw [hv0]
        grind
      have := Int.mul_pos he hv1
      omega
  · have c1 : cross u e = - (u.2 * e.1) := by
      unfold cross
      rw [he1]
      grind
    have := Int.mul_nonneg hu2 (Int.le_of_lt he2)
    omega
theorem up_trans_r {e u v : Pt} (he : Up e) (hu : Up u) (hv : Up v) (h1 : 0 ≤ cross u e) (h2 : 0 < cross e v) : 0 < cross u v := by
  have id1 : e.2 * cross u v = u.2 * cross e v + v.2 * cross u e := by
    unfold cross
    grind
  have hu2 : 0 ≤ u.2 := by unfold Up at hu; omega
  have hv2 : 0 ≤ v.2 := by unfold Up at hv; omega
  rcases he with he | ⟨he1, he2⟩
  · have a2 := Int.mul_nonneg hv2 h1
    rcases hu with hu | ⟨hu0, hu1⟩
    · have a1 := Int.mul_pos hu h2
      exact pos_of_mul he (by omega)
    · have c : cross u v = u.1 * v.2 := by
        unfold cross
        rw [hu0]
        grind
      rw [c]
      rcases hv with hv | ⟨hv0, hv1⟩
      · exact Int.mul_pos hu1 hv
      · exfalso
        have c3 : cross e v = - (e.2 * v.1) := by
          unfold cross
          rw [hv0]
          grind
        have := Int.mul_pos he hv1
        omega
  · have c1 : cross u e = - (u.2 * e.1) := by
      unfold cross
      rw [he1]
      grind
    have z : u.2 = 0 := by
      rcases Int.lt_or_le 0 u.2 with h | h
      · have := Int.mul_pos h he2
        omega
      · omega
    have c2 : cross u v = u.1 * v.2 := by
      unfold cross
      rw [z]
      grind
    have c3 : cross e v = e.1 * v.2 := by
      unfold cross
      rw [he1]
      grind
    rw [c2]
    rw [c3] at h2
    have hv3 : 0 < v.2 := pos_of_mul he2 h2
    have : 0 < u.1 := by unfold Up at hu; omega
    exact Int.mul_pos this hv3
/-- the order of arrows -/
theorem ah_iff {a b : Pt} : Ah a b ↔ (half a = false ∧ half b = true) ∨ (half a = half b ∧ 0 < cross a b) := by
  unfold Ah ahead halfI
  cases h1 : half a <;> cases h2 : half b <;> simp
theorem half_cases {a : Pt} (n : a ≠ pt0) : (half a = false ∧ Up a) ∨ (half a = true ∧ Up (neg a)) := by
  cases h : half a with
  | false => exact .inl ⟨rfl, up_of h n⟩
  | true => exact .inr ⟨rfl, down_of h⟩
theorem ah_trans {a b c : Pt} (na : a ≠ pt0) (nb : b ≠ pt0) (nc : c ≠ pt0) (h1 : Ah a b) (h2 : Ah b c) : Ah a c := by
  rw [ah_iff] at h1 h2 ⊢
  rcases half_cases na with ⟨ha, ua⟩ | ⟨ha, ua⟩ <;> rcases half_cases nb with ⟨hb, ub⟩ | ⟨hb, ub⟩ <;> rcases half_cases nc with ⟨hc, uc⟩ | ⟨hc, uc⟩ <;> rw [ha, hb] at h1 <;> rw [hb, hc] at h2 <;> rw [ha, hc] <;> simp at h1 h2 ⊢
  · exact up_trans_l ub ua uc h1 (Int.le_of_lt h2)
  · have := up_trans_l ub ua uc (by rw [cross_neg_neg]; exact h1) (by rw [cross_neg_neg]; exact Int.le_of_lt h2)
    rw [cross_neg_neg] at this
    exact this
theorem adj_pw {R : Pt → Pt → Prop} {P : Pt → Prop} (ht : ∀ a b c, P a → P b → P c → R a b → R b c → R a c) : ∀ {l : List Pt}, (∀ a ∈ l, P a) → AdjR R l → l.Pairwise R
  | [], _, _ => .nil
  | [a], _, _ => List.pairwise_singleton ..
  | a :: b :: r, hp, h => by
    have ih := adj_pw ht (fun x hx => hp x (List.mem_cons_of_mem _ hx)) h.2
    refine List.pairwise_cons.mpr ⟨fun x hx => ?_, ih⟩
    rcases List.mem_cons.mp hx with rfl | hx
    · exact h.1
    · exact ht a b x (hp a (by simp)) (hp b (by simp)) (hp x (by simp [hx])) h.1 ((List.pairwise_cons.mp ih).1 x hx)
theorem pw_adj {R : Pt → Pt → Prop} : ∀ {l : List Pt}, l.Pairwise R → AdjR R l
  | [], _ => trivial
  | [_], _ => trivial
  | a :: b :: r, h => ⟨(List.pairwise_cons.mp h).1 b List.mem_cons_self, pw_adj (List.pairwise_cons.mp h).2⟩
/-- arrows in order, none of them nought, that come to nought -/
def sumP (l : List Pt) : Pt := l.foldr addp pt0
structure Ang (A : List Pt) : Prop where
  pw : A.Pairwise Ah
  nz : pt0 ∉ A
  sm : sumP A = pt0
theorem addp_assoc (a b c : Pt) : addp (addp a b) c = addp a (addp b c) := by
  unfold addp
  simp only [Prod.mk.injEq]
  omega
theorem addp_comm (a b : Pt) : addp a b = addp b a := by
  unfold addp
  simp only [Prod.mk.injEq]
  omega
theorem addp_zero (a : Pt) : addp a pt0 = a := by
  unfold addp pt0
  simp
theorem zero_addp (a : Pt) : addp pt0 a = a := by
  unfold addp pt0
  simp
theorem sumP_cons (a : Pt) (l : List Pt) : sumP (a :: l) = addp a (sumP l) := rfl
theorem sumP_append : ∀ (l m : List Pt), sumP (l ++ m) = addp (sumP l) (sumP m)
  | [], m => (zero_addp _).symm
  | a :: l, m => by rw [List.cons_append, sumP_cons, sumP_append l m, sumP_cons, addp_assoc]
theorem steps_sum : ∀ (a : Pt) (l : List Pt), sumP (steps (a :: l)) = btw a ((a :: l).getLast (List.cons_ne_nil _ _))
  | a, [] => by
    show pt0 = btw a a
    unfold btw pt0
    simp
  | a, b :: l => by
    show addp (btw a b) (sumP (steps (b :: l))) = _
    rw [steps_sum b l, List.getLast_cons (List.cons_ne_nil _ _)]
    generalize (b :: l).getLast _ = z
    unfold addp btw
    simp only [Prod.mk.injEq]
    omega
theorem sides_sum (c : List Pt) : sumP (sidesBy c) = pt0 := by
  match c with
  | [] => rfl
  | [_] => rfl
  | s :: b :: r =>
    rw [sidesBy_eq (List.cons_ne_nil _ _), List.cons_append, steps_sum, List.getLast_cons (by simp)]
    have : ∀ (l : List Pt) (h : l ++ [s] ≠ []), (l ++ [s]).getLast h = s := fun l h => by simp
    rw [this (b :: r)]
    unfold btw pt0
    simp
theorem IsShape.ang {c : List Pt} (h : IsShape c) : Ang (sidesBy c) := by
  refine ⟨adj_pw (P := (· ≠ pt0)) (fun a b c na nb nc h1 h2 => ah_trans na nb nc h1 h2) (fun a ha z => h.2.2.2 (z ▸ ha)) h.adj, h.2.2.2, sides_sum c⟩
/-! ## the area -/
def prevI (n k : Nat) : Nat := if k = 0 then n - 1 else k - 1
def areaTo (c : List Pt) : Nat → Int
  | 0 => 0
  | k + 1 => areaTo c k + cross (at_ c (prevI c.length k)) (at_ c k)
def area (c : List Pt) : Int := areaTo c c.length
def tri (V : Pt) : List Pt → Int
  | [] => 0
  | a :: r => cross V a + tri (addp V a) r
def dbl (A : List Pt) : Int := tri pt0 A
theorem tri_shift : ∀ (A : List Pt) (V s : Pt), tri (addp s V) A = tri V A + cross s (sumP A)
  | [], V, s => by
    show (0 : Int) = 0 + cross s pt0
    rw [cross_zero']
    rfl
  | a :: r, V, s => by
    show cross (addp s V) a + tri (addp (addp s V) a) r = cross V a + tri (addp V a) r + cross s (addp a (sumP r))
    rw [addp_assoc, tri_shift r, cross_addl, cross_addr]
    omega
theorem areaTo_path : ∀ (l : List Pt) (x : Pt) (pre : List Pt), areaTo (pre ++ x :: l) (pre.length + 1 + l.length) = areaTo (pre ++ x :: l) (pre.length + 1) + tri x (steps (x :: l))
  | [], x, pre => by
    show _ = _ + 0
    simp
  | y :: l, x, pre => by
    have h := areaTo_path l y (pre ++ [x])
    rw [List.append_assoc, List.singleton_append, List.length_append, List.length_singleton] at h
    rw [List.length_cons, show pre.length + 1 + (l.length + 1) = pre.length + 1 + 1 + l.length by omega, h]
    show areaTo (pre ++ x :: y :: l) (pre.length + 1) + cross (at_ (pre ++ x :: y :: l) (prevI (pre ++ x :: y :: l).length (pre.length + 1))) (at_ (pre ++ x :: y :: l) (pre.length + 1)) + tri y (steps (y :: l)) = _ + (cross x (btw x y) + tri (addp x (btw x y)) (steps (y :: l)))
    have e1 : at_ (pre ++ x :: y :: l) (pre.length + 1) = y := by
      rw [at_append_right]
      rfl
    have e2 : at_ (pre ++ x :: y :: l) (prevI (pre ++ x :: y :: l).length (pre.length + 1)) = x := by
      unfold prevI
      rw [if_neg (by omega), Nat.add_sub_cancel]
      have := at_append_right pre (x :: y :: l) 0
      rw [Nat.add_zero] at this
      rw [this]
      rfl
    have e3 : addp x (btw x y) = y := by
      unfold addp btw
      ext <;> simp <;> omega
    have e4 : cross x (btw x y) = cross x y := by
      unfold cross btw
      grind
    rw [e1, e2, e3, e4]
    omega
theorem area_dbl (c : List Pt) (h : c ≠ []) : area c = dbl (sidesBy c) := by
  match c, h with
  | s :: r, _ =>
    have h1 := areaTo_path r s []
    simp only [List.nil_append, List.length_nil, Nat.zero_add] at h1
    unfold area
    rw [List.length_cons, Nat.add_comm, h1]
    have e0 : areaTo (s :: r) 1 = cross ((s :: r).getLast (List.cons_ne_nil _ _)) s := by
      show 0 + cross (at_ (s :: r) (prevI (s :: r).length 0)) s = _
      have : at_ (s :: r) (prevI (s :: r).length 0) = (s :: r).getLast (List.cons_ne_nil _ _) := by
        unfold prevI at_
        rw [if_pos rfl, List.getD_eq_getElem?_getD, ← List.getLast?_eq_getElem?, List.getLast?_eq_some_getLast (List.cons_ne_nil _ _)]
        rfl
      rw [this]
      omega
    rw [e0]
    cases r with
    | nil =>
      show cross s s + 0 = 0
      rw [cross_self]
      rfl
    | cons b r =>
      rw [sidesBy_eq (List.cons_ne_nil _ _)]
      have key : ∀ (l : List Pt) (x : Pt), tri x (steps (x :: l ++ [s])) = tri x (steps (x :: l)) + cross ((x :: l).getLast (List.cons_ne_nil _ _)) s := by
        intro l
        induction l with
        | nil =>
          intro x
          show cross x (btw x s) + 0 = 0 + cross x s
          unfold cross btw
          grind
        | cons y l ih =>
          intro x
          show cross x (btw x y) + tri (addp x (btw x y)) (steps (y :: l ++ [s])) = cross x (btw x y) + tri (addp x (btw x y)) (steps (y :: l)) + _
          have e3 : addp x (btw x y) = y := by
            unfold addp btw
            ext <;> simp <;> omega
          rw [e3, ih, List.getLast_cons (List.cons_ne_nil _ _)]
          omega
      have hk := key (b :: r) s
      have hs := tri_shift (steps (s :: b :: r ++ [s])) pt0 s
      have hz : sumP (steps (s :: b :: r ++ [s])) = pt0 := by
        rw [← sidesBy_eq (List.cons_ne_nil _ _)]
        exact sides_sum _
      rw [hz, cross_zero', addp_zero] at hs
      unfold dbl
      omega
end Rm

/-! # The area of a shape is above nought just with three corners and more; moved shapes -/
namespace Rm
/-- all of the same half ahead: the cross of their sum -/
theorem cross_sum_pos : ∀ {l : List Pt} {w : Pt}, (∀ a ∈ l, 0 ≤ cross a w) → 0 ≤ cross (sumP l) w
  | [], w, _ => by
    show 0 ≤ cross pt0 w
    rw [cross_zero]
    exact Int.le_refl _
  | a :: l, w, h => by
    rw [sumP_cons, cross_addl]
    have h1 := h a List.mem_cons_self
    have h2 := cross_sum_pos (fun x hx => h x (List.mem_cons_of_mem _ hx)) (l := l) (w := w)
    omega
theorem cross_sum_pos' {l : List Pt} {w : Pt} (h : ∀ a ∈ l, 0 < cross a w) (n : l ≠ []) : 0 < cross (sumP l) w := by
  cases l with
  | nil => exact absurd rfl n
  | cons a l =>
    rw [sumP_cons, cross_addl]
    have h1 := h a List.mem_cons_self
    have h2 := cross_sum_pos (l := l) (w := w) (fun x hx => Int.le_of_lt (h x (List.mem_cons_of_mem _ hx)))
    omega
/-- each corner's triangle -/
theorem part_nonneg {X Y : List Pt} {a : Pt} (h : Ang (X ++ a :: Y)) : 0 ≤ cross (sumP X) a ∧ (half a = false → X ≠ [] → 0 < cross (sumP X) a) ∧ (half a = true → Y ≠ [] → 0 < cross (sumP X) a) := by
  have hp := List.pairwise_append.mp h.pw
  have hy := List.pairwise_cons.mp hp.2.1
  have na : a ≠ pt0 := fun z => h.nz (by rw [z]; simp)
  cases hh : half a with
  | false =>
    have k : ∀ x ∈ X, 0 < cross x a := fun x hx => by
      have := ah_iff.mp (hp.2.2 x hx a List.mem_cons_self)
      rw [hh] at this
      rcases this with ⟨_, z⟩ | ⟨_, z⟩
      · cases z
      · exact z
    exact ⟨cross_sum_pos fun x hx => Int.le_of_lt (k x hx), fun _ n => cross_sum_pos' k n, fun z => nomatch z⟩
  | true =>
    have e : sumP X = neg (addp a (sumP Y)) := by
      have := h.sm
      rw [sumP_append, sumP_cons] at this
      generalize sumP X = s at *
      generalize addp a (sumP Y) = t at *
      unfold addp pt0 at this
      unfold neg
      rw [Prod.mk.injEq] at this
      ext <;> simp <;> omega
    have e2 : cross (sumP X) a = cross (sumP (Y.map neg)) a := by
      have : sumP (Y.map neg) = neg (sumP Y) := by
        clear e hy hp h
        induction Y with
        | nil => rfl
        | cons y Y ih =>
          rw [List.map_cons, sumP_cons, sumP_cons, ih]
          unfold neg addp
          ext <;> simp <;> omega
      rw [e, this, cross_neg_left, cross_addl, cross_self, cross_neg_left]
      omega
    have k : ∀ x ∈ Y.map neg, 0 < cross x a := fun x hx => by
      obtain ⟨y, hy1, rfl⟩ := List.mem_map.mp hx
      have := ah_iff.mp (hy.1 y hy1)
      rw [hh] at this
      rcases this with ⟨z, _⟩ | ⟨_, z⟩
      · cases z
      · rw [cross_neg_left, cross_swap]
        omega
    rw [e2]
    refine ⟨cross_sum_pos fun x hx => Int.le_of_lt (k x hx), ?_, fun _ n => cross_sum_pos' k (fun z => n (List.map_eq_nil_iff.mp z))⟩
    intro z
    cases z
theorem tri_nonneg : ∀ (A X : List Pt), Ang (X ++ A) → 0 ≤ tri (sumP X) A
  | [], X, _ => Int.le_refl _
  | a :: A, X, h => by
    have h1 := (part_nonneg h).1
    have h2 := tri_nonneg A (X ++ [a]) (by rw [List.append_assoc]; exact h)
    have e : addp (sumP X) a = sumP (X ++ [a]) := by
      rw [sumP_append, sumP_cons]
      show _ = addp (sumP X) (addp a pt0)
      rw [addp_zero]
    show 0 ≤ cross (sumP X) a + tri (addp (sumP X) a) A
    rw [e]
    omega
theorem dbl_nonneg {A : List Pt} (h : Ang A) : 0 ≤ dbl A := tri_nonneg A [] h
theorem dbl_pos {A : List Pt} (h : Ang A) : 0 < dbl A ↔ 2 < A.length := by
  have n0 := h.nz
  match A, h with
  | [], _ => exact ⟨fun z => absurd z (by decide), fun z => absurd z (by decide)⟩
  | [a], h =>
    exfalso
    have := h.sm
    rw [sumP_cons] at this
    rw [show sumP [] = pt0 from rfl, addp_zero] at this
    exact h.nz (by rw [this]; simp)
  | [a, b], h =>
    refine ⟨fun z => ?_, fun z => absurd z (by simp)⟩
    exfalso
    have := h.sm
    rw [sumP_cons, sumP_cons, show sumP [] = pt0 from rfl, addp_zero] at this
    have e : dbl [a, b] = cross a b := by
      show cross pt0 a + (cross (addp pt0 a) b + 0) = _
      rw [cross_zero, zero_addp]
      omega
    rw [e] at z
    have : b = neg a := by
      unfold addp pt0 at this
      rw [Prod.mk.injEq] at this
      unfold neg
      ext <;> simp <;> omega
    rw [this, cross_neg_right, cross_self] at z
    exact absurd z (by decide)
  | a :: b :: c :: r, h =>
    refine ⟨fun _ => by simp, fun _ => ?_⟩
    have h1 := part_nonneg (X := [a]) (a := b) (Y := c :: r) h
    have h2 := tri_nonneg (c :: r) [a, b] h
    have e : dbl (a :: b :: c :: r) = cross (sumP [a]) b + tri (sumP [a, b]) (c :: r) := by
      show cross pt0 a + (cross (addp pt0 a) b + tri (addp (addp pt0 a) b) (c :: r)) = cross (addp a pt0) b + tri (addp a (addp b pt0)) (c :: r)
      rw [cross_zero, zero_addp, addp_zero, addp_zero]
      omega
    rw [e]
    have : 0 < cross (sumP [a]) b := by
      cases hb : half b with
      | false => exact h1.2.1 hb (by simp)
      | true => exact h1.2.2 hb (by simp)
    omega
theorem area_pos {c : List Pt} (h : IsShape c) : 0 < area c ↔ 2 < c.length := by
  rw [area_dbl c h.1, dbl_pos h.ang, sides_len]
  split
  · constructor <;> intro z <;> omega
  · rfl
/-! ## rows of arrows in order are pushed as they are -/
theorem ah_apart {a b : Pt} (h : Ah a b) : ¬ (halfI a = halfI b ∧ cross a b = 0) := by
  rintro ⟨h1, h2⟩
  rw [ah_iff] at h
  unfold halfI at h1
  rcases h with ⟨z1, z2⟩ | ⟨_, z⟩
  · rw [z1, z2] at h1
    exact absurd h1 (by decide)
  · omega
theorem push_adj : ∀ (A : List Pt) (t : Pt) (st : List Pt), AdjR Ah (t :: A) → A.foldl pushR (t :: st) = A.reverse ++ t :: st
  | [], t, st, _ => rfl
  | a :: A, t, st, h => by
    show A.foldl pushR (if halfI t = halfI a ∧ cross t a = 0 then addp t a :: st else a :: t :: st) = _
    rw [if_neg (ah_apart h.1), push_adj A a (t :: st) h.2, List.reverse_cons, List.append_assoc] <;> rfl
theorem push_adj0 {A : List Pt} (h : AdjR Ah A) : A.foldl pushR [] = A.reverse := by
  cases A with
  | nil => rfl
  | cons a A =>
    show A.foldl pushR [a] = _
    rw [push_adj A a [] h, List.reverse_cons]
theorem merged_nil {A : List Pt} (h : AdjR Ah A) : Rm.merged A [] = A ∧ Rm.merged [] A = A := by
  unfold Rm.merged
  rw [mergeL_nil', mergeL_nil, push_adj0 h, List.reverse_reverse]
  exact ⟨rfl, rfl⟩
/-! ## a path of its sides is the shape, moved -/
def moved (p : Pt) (c : List Pt) : List Pt := c.map fun q => addp q p
theorem at_moved {p : Pt} {c : List Pt} {k : Nat} (h : k < c.length) : at_ (moved p c) k = addp (at_ c k) p := by
  unfold at_ moved
  rw [List.getD_eq_getElem?_getD, List.getElem?_map, List.getD_eq_getElem?_getD, List.getElem?_eq_getElem h]
  rfl
theorem moved_len (p : Pt) (c : List Pt) : (moved p c).length = c.length := List.length_map ..
theorem sides_moved (p : Pt) (c : List Pt) : sidesBy (moved p c) = sidesBy c := by
  refine ext_at (by rw [sides_len, sides_len, moved_len]) fun k hk => ?_
  rw [sides_len, moved_len] at hk
  by_cases h2 : c.length < 2
  · rw [if_pos h2] at hk
    omega
  · rw [if_neg h2] at hk
    rw [sides_at (by rw [moved_len]; omega) (by rw [moved_len]; exact hk), sides_at (by omega) hk, moved_len, at_moved hk, at_moved (Nat.mod_lt _ (by omega))]
    unfold btw addp
    ext <;> simp <;> omega
theorem IsShape.of_sides {c d : List Pt} (h : IsShape c) (e : sidesBy d = sidesBy c) (n : d ≠ []) : IsShape d := by
  unfold IsShape
  rw [e]
  exact ⟨n, h.2⟩
theorem IsShape.moved {c : List Pt} (h : IsShape c) (p : Pt) : IsShape (moved p c) := h.of_sides (sides_moved p c) (fun z => h.1 (List.map_eq_nil_iff.mp z))
theorem area_moved {c : List Pt} (h : c ≠ []) (p : Pt) : area (moved p c) = area c := by
  rw [area_dbl c h, area_dbl (moved p c) (fun z => h (List.map_eq_nil_iff.mp z)), sides_moved]
theorem pathF_steps (p : Pt) : ∀ (l : List Pt) (s : Pt), pathF (addp s p) (steps (s :: l)) = moved p (s :: l)
  | [], s => rfl
  | b :: l, s => by
    show addp s p :: pathF (addp (addp s p) (btw s b)) (steps (b :: l)) = addp s p :: moved p (b :: l)
    have : addp (addp s p) (btw s b) = addp b p := by
      unfold addp btw
      ext <;> simp <;> omega
    rw [this, pathF_steps p l b]
theorem shapeBy_sides (p : Pt) {c : List Pt} (h : c ≠ []) : shapeBy (addp (at_ c 0) p) (sidesBy c) = moved p c := by
  match c, h with
  | [s], _ => rfl
  | s :: b :: r, _ =>
    unfold shapeBy
    rw [sidesBy_eq (List.cons_ne_nil _ _)]
    have : ∀ (l : List Pt) (x y : Pt), (steps (x :: l ++ [y])).dropLast = steps (x :: l) := by
      intro l
      induction l with
      | nil => intro x y; rfl
      | cons z l ih =>
        intro x y
        show (btw x z :: steps (z :: l ++ [y])).dropLast = btw x z :: steps (z :: l)
        rw [List.dropLast_cons_of_ne_nil, ih]
        intro e
        have := steps_len (z :: l ++ [y])
        rw [e] at this
        simp at this
    rw [this]
    exact pathF_steps p _ s
theorem together_pt {c : List Pt} (h : IsShape c) (p : Pt) : together c [p] = moved p c := by
  unfold together
  rw [show sidesBy [p] = [] from rfl, (merged_nil h.adj).1]
  exact shapeBy_sides p h.1
theorem pt_together {c : List Pt} (h : IsShape c) (p : Pt) : together [p] c = moved p c := by
  unfold together
  rw [show sidesBy [p] = [] from rfl, (merged_nil h.adj).2, addp_comm]
  exact shapeBy_sides p h.1
theorem moved_sm {n m : Int} {c : List Pt} {p : Pt} (h : Sms n c) (hp : Sm m p) : Sms (n + m) (moved p c) := by
  intro q hq
  obtain ⟨x, hx, rfl⟩ := List.mem_map.mp hq
  exact sm_add (h x hx) hp
end Rm

/-! # So many times a shape -/
namespace Rm
def mulp (t : Int) (a : Pt) : Pt := (t * a.1, t * a.2)
def scaled (t : Int) (c : List Pt) : List Pt := c.map (mulp t)
def greaterP (c : List Pt) (t : Int) : List Pt := if t = 0 then [pt0] else scaled t c
theorem cross_mull (t : Int) (a b : Pt) : cross (mulp t a) b = t * cross a b := by
  unfold cross mulp
  grind
theorem cross_mulr (t : Int) (a b : Pt) : cross a (mulp t b) = t * cross a b := by
  unfold cross mulp
  grind
theorem mul_sign {t x : Int} (h : 0 < t) : (t * x < 0 ↔ x < 0) ∧ (t * x = 0 ↔ x = 0) ∧ (0 < t * x ↔ 0 < x) := by
  rcases Int.lt_trichotomy x 0 with h1 | h1 | h1
  · have := Int.mul_neg_of_pos_of_neg h h1
    omega
  · subst h1
    rw [Int.mul_zero]
    omega
  · have := Int.mul_pos h h1
    omega
theorem half_mul {t : Int} (h : 0 < t) (a : Pt) : half (mulp t a) = half a := by
  have h1 := mul_sign (x := a.1) h
  have h2 := mul_sign (x := a.2) h
  unfold half mulp
  simp only
  rw [decide_eq_decide.mpr h2.1, decide_eq_decide.mpr h2.2.1, decide_eq_decide.mpr h1.1]
theorem halfI_mul {t : Int} (h : 0 < t) (a : Pt) : halfI (mulp t a) = halfI a := by
  unfold halfI
  rw [half_mul h]
theorem ah_mull {t : Int} (h : 0 < t) {a b : Pt} : Ah (mulp t a) b ↔ Ah a b := by
  rw [ah_iff, ah_iff, half_mul h, cross_mull, (mul_sign h).2.2]
theorem ah_mulr {t : Int} (h : 0 < t) {a b : Pt} : Ah a (mulp t b) ↔ Ah a b := by
  rw [ah_iff, ah_iff, half_mul h, cross_mulr, (mul_sign h).2.2]
theorem mulp_ne {t : Int} (h : 0 < t) {a : Pt} (n : a ≠ pt0) : mulp t a ≠ pt0 := by
  intro e
  unfold mulp pt0 at e
  rw [Prod.mk.injEq, (mul_sign h).2.1, (mul_sign h).2.1] at e
  exact n (Prod.ext e.1 e.2)
theorem scaled_len (t : Int) (c : List Pt) : (scaled t c).length = c.length := List.length_map ..
theorem at_scaled {t : Int} {c : List Pt} {k : Nat} (h : k < c.length) : at_ (scaled t c) k = mulp t (at_ c k) := by
  unfold at_ scaled
  rw [List.getD_eq_getElem?_getD, List.getElem?_map, List.getD_eq_getElem?_getD, List.getElem?_eq_getElem h]
  rfl
theorem sides_scaled (t : Int) (c : List Pt) : sidesBy (scaled t c) = scaled t (sidesBy c) := by
  refine ext_at (by rw [scaled_len, sides_len, sides_len, scaled_len]) fun k hk => ?_
  rw [sides_len, scaled_len] at hk
  by_cases h2 : c.length < 2
  · rw [if_pos h2] at hk
    omega
  · rw [if_neg h2] at hk
    rw [sides_at (by rw [scaled_len]; omega) (by rw [scaled_len]; exact hk), scaled_len, at_scaled hk, at_scaled (Nat.mod_lt _ (by omega)), at_scaled (by rw [sides_len, if_neg h2]; exact hk), sides_at (by omega) hk]
    unfold btw mulp
    ext <;> simp only <;> rw [Int.mul_sub]
theorem adj_scaled {t : Int} (h : 0 < t) : ∀ {A : List Pt}, AdjR Ah A → AdjR Ah (scaled t A)
  | [], _ => trivial
  | [_], _ => trivial
  | a :: b :: r, k => ⟨(ah_mull h).mpr ((ah_mulr h).mpr k.1), adj_scaled h (A := b :: r) k.2⟩
theorem IsShape.scaled {c : List Pt} (h : IsShape c) {t : Int} (ht : 0 < t) : IsShape (scaled t c) := by
  refine shape_of (fun z => h.1 (List.map_eq_nil_iff.mp z)) ?_ ?_ ?_
  · rw [sides_scaled]
    intro a ha
    unfold Rm.scaled at ha
    rw [List.head?_map] at ha
    cases e : (sidesBy c).head? with
    | none => rw [e] at ha; cases ha
    | some b =>
      rw [e] at ha
      cases ha
      rw [half_mul ht]
      exact h.first b e
  · rw [sides_scaled]
    exact adj_scaled ht h.adj
  · rw [sides_scaled]
    intro hm
    obtain ⟨a, ha, e⟩ := List.mem_map.mp hm
    exact mulp_ne ht (fun z => h.2.2.2 (z ▸ ha)) e
theorem shape_greater {c : List Pt} (h : IsShape c) {t : Int} (ht : 0 ≤ t) : IsShape (greaterP c t) := by
  unfold greaterP
  split
  · exact shape_one _
  · exact h.scaled (by omega)
theorem merge_scaled {t : Int} (h : 0 < t) : ∀ {A : List Pt}, AdjR Ah A → mergeL (scaled t A) A = (A.map fun a => [a, mulp t a]).flatten
  | [], _ => by
    show mergeL [] [] = []
    rw [mergeL_nil]
  | a :: A, k => by
    show mergeL (mulp t a :: scaled t A) (a :: A) = a :: mulp t a :: (A.map fun a => [a, mulp t a]).flatten
    have e1 : ¬ ahead (mulp t a) a = true := by
      intro z
      have z' : Ah (mulp t a) a := z
      rw [ah_mull h, ah_iff] at z'
      rcases z' with ⟨z1, z2⟩ | ⟨_, z2⟩
      · rw [z1] at z2
        cases z2
      · rw [cross_self] at z2
        omega
    rw [mergeL_cons, if_neg e1]
    match A, k with
    | [], _ =>
      rw [mergeL_nil']
      rfl
    | b :: A, k =>
      have e2 : ahead (mulp t a) b = true := (ah_mull h).mpr k.1
      rw [mergeL_cons, if_pos e2, merge_scaled h k.2]
theorem push_scaled {t : Int} (h : 0 < t) : ∀ (A : List Pt) (x : Pt) (st : List Pt), AdjR Ah (x :: A) → (A.map fun a => [a, mulp t a]).flatten.foldl pushR (mulp (t + 1) x :: st) = (scaled (t + 1) A).reverse ++ mulp (t + 1) x :: st
  | [], x, st, _ => rfl
  | a :: A, x, st, k => by
    have h1 : 0 < t + 1 := by omega
    have e1 : ¬ (halfI (mulp (t + 1) x) = halfI a ∧ cross (mulp (t + 1) x) a = 0) := ah_apart ((ah_mull h1).mpr k.1)
    have e2 : halfI a = halfI (mulp t a) ∧ cross a (mulp t a) = 0 := ⟨(halfI_mul h a).symm, by rw [cross_mulr, cross_self, Int.mul_zero]⟩
    have e3 : addp a (mulp t a) = mulp (t + 1) a := by
      unfold addp mulp
      ext <;> simp only <;> grind
    show (A.map fun a => [a, mulp t a]).flatten.foldl pushR (pushR (pushR (mulp (t + 1) x :: st) a) (mulp t a)) = _
    have p1 : pushR (mulp (t + 1) x :: st) a = a :: mulp (t + 1) x :: st := if_neg e1
    have p2 : pushR (a :: mulp (t + 1) x :: st) (mulp t a) = mulp (t + 1) a :: mulp (t + 1) x :: st := by
      rw [← e3]
      exact if_pos e2
    rw [p1, p2, push_scaled h A a _ k.2]
    show _ = (mulp (t + 1) a :: scaled (t + 1) A).reverse ++ _
    rw [List.reverse_cons, List.append_assoc] <;> rfl
theorem merged_scaled {t : Int} (h : 0 < t) {A : List Pt} (k : AdjR Ah A) : Rm.merged (scaled t A) A = scaled (t + 1) A := by
  unfold Rm.merged
  rw [merge_scaled h k]
  match A, k with
  | [], _ => rfl
  | a :: A, k =>
    have e2 : halfI a = halfI (mulp t a) ∧ cross a (mulp t a) = 0 := ⟨(halfI_mul h a).symm, by rw [cross_mulr, cross_self, Int.mul_zero]⟩
    have e3 : addp a (mulp t a) = mulp (t + 1) a := by
      unfold addp mulp
      ext <;> simp only <;> grind
    show ((A.map fun a => [a, mulp t a]).flatten.foldl pushR (pushR (pushR [] a) (mulp t a))).reverse = _
    have p2 : pushR (pushR [] a) (mulp t a) = [mulp (t + 1) a] := by
      rw [← e3]
      exact if_pos e2
    rw [p2, push_scaled h A a [] k, List.reverse_append, List.reverse_reverse] <;> rfl
theorem moved_zero (c : List Pt) : moved pt0 c = c := by
  unfold moved
  have : (fun q : Pt => addp q pt0) = id := funext addp_zero
  rw [this, List.map_id]
theorem scaled_one (c : List Pt) : scaled 1 c = c := by
  unfold scaled
  have : mulp 1 = id := funext fun a => by
    unfold mulp
    simp
  rw [this, List.map_id]
theorem together_greater {c : List Pt} (h : IsShape c) {t : Int} (ht : 0 ≤ t) : together (greaterP c t) c = greaterP c (t + 1) := by
  unfold greaterP
  rw [if_neg (show t + 1 ≠ 0 by omega)]
  split
  · next e =>
    subst e
    rw [pt_together h, moved_zero, Int.zero_add, scaled_one]
  · have h0 : 0 < t := by omega
    have hc : 0 < c.length := List.length_pos_iff.mpr h.1
    unfold together
    rw [sides_scaled, merged_scaled h0 h.adj, ← sides_scaled, at_scaled hc]
    have e : addp (mulp t (at_ c 0)) (at_ c 0) = addp (at_ (scaled (t + 1) c) 0) pt0 := by
      rw [at_scaled hc, addp_zero]
      unfold addp mulp
      ext <;> simp only <;> grind
    rw [e, shapeBy_sides pt0 (c := scaled (t + 1) c) (fun z => h.1 (List.map_eq_nil_iff.mp z)), moved_zero]
theorem mulp_sm {n t m : Int} {p : Pt} (h : Sm n p) (h0 : 0 ≤ t) (hm : t ≤ m) (hn : 0 ≤ n) : Sm (m * n) (mulp t p) := by
  unfold Sm mulp at *
  simp only
  have a1 := Int.mul_le_mul_of_nonneg_left h.1 h0
  have a2 := Int.mul_le_mul_of_nonneg_left h.2.1 h0
  have a3 := Int.mul_le_mul_of_nonneg_left h.2.2.1 h0
  have a4 := Int.mul_le_mul_of_nonneg_left h.2.2.2 h0
  rw [Int.mul_neg] at a1 a3
  have b := Int.mul_le_mul_of_nonneg_right hm hn
  omega
theorem greater_sm {n t m : Int} {c : List Pt} (h : Sms n c) (h0 : 0 ≤ t) (hm : t ≤ m) (hn : 0 ≤ n) : Sms (m * n) (greaterP c t) := by
  have hmn : 0 ≤ m * n := Int.mul_nonneg (by omega) hn
  unfold greaterP
  split
  · intro p hp
    rw [List.mem_singleton.mp hp]
    unfold Sm pt0
    simp only
    omega
  · intro p hp
    obtain ⟨x, hx, rfl⟩ := List.mem_map.mp hp
    exact mulp_sm (h x hx) h0 hm hn
theorem greater_len {c : List Pt} (h : c ≠ []) (t : Int) : (greaterP c t).length ≤ c.length := by
  have : 0 < c.length := List.length_pos_iff.mpr h
  unfold greaterP
  split
  · exact this
  · rw [scaled_len]
    exact Nat.le_refl _
def times (c : List Pt) : Nat → List Pt
  | 0 => [pt0]
  | k + 1 => together (times c k) c
theorem times_eq {c : List Pt} (h : IsShape c) : ∀ k : Nat, times c k = greaterP c (k : Int)
  | 0 => rfl
  | k + 1 => by
    show together (times c k) c = _
    rw [times_eq h k, together_greater h (by omega)]
    rfl
end Rm

/-! # The hull holds all points; a shape is the hull of all that lies in it -/
namespace Rm
/-- a lies below b, by the way up U (the upper half or the lower one) -/
theorem ltp_up {a b : Pt} (h : ltp a b) : Up (btw a b) := up_of (ltp_half h).1 (ltp_ne h).1
theorem ltp_up' {a b : Pt} (h : ltp a b) : Up (neg (btw b a)) := by
  have := ltp_up h
  unfold btw neg at *
  simp only at *
  rw [show -(a.1 - b.1) = b.1 - a.1 by omega, show -(a.2 - b.2) = b.2 - a.2 by omega]
  exact this
theorem up_ltp {a b : Pt} (h : Up (btw a b)) : ltp a b := by
  unfold Up btw at h
  unfold ltp lexlt swap
  simp only at *
  omega
theorem btw_self (a : Pt) : btw a a = pt0 := by
  unfold btw pt0
  simp
theorem btw_add (a b c : Pt) : addp (btw a b) (btw b c) = btw a c := by
  unfold addp btw
  ext <;> simp only <;> omega
theorem neg_btw (a b : Pt) : neg (btw a b) = btw b a := by
  unfold neg btw
  ext <;> simp only <;> omega
/-- left of the way from a to b, or on it -/
def Lf (a b q : Pt) : Prop := 0 ≤ cross (btw a b) (btw a q)
theorem lf_to (a b q : Pt) : cross (btw a b) (btw b q) = cross (btw a b) (btw a q) := by
  unfold cross btw
  grind
theorem lf_a (a b : Pt) : Lf a b a := by
  unfold Lf
  rw [btw_self, cross_zero']
  exact Int.le_refl _
theorem lf_b (a b : Pt) : Lf a b b := by
  unfold Lf
  rw [cross_self]
  exact Int.le_refl _
/-- q is left of each way of the row (the top first) -/
def AllL (q : Pt) : List Pt → Prop
  | b :: a :: r => Lf a b q ∧ AllL q (a :: r)
  | _ => True
theorem AllL.tail {q b : Pt} : ∀ {r : List Pt}, AllL q (b :: r) → AllL q r
  | [], _ => trivial
  | _ :: _, h => h.2
/-- the row goes down -/
abbrev Dn (st : List Pt) : Prop := st.Pairwise (fun x y => ltp y x)
/-- the next point lies left of all ways when left of the last -/
theorem next_left {p : Pt} : ∀ (st : List Pt), TurnR (p :: st) → Dn (p :: st) → AllL p st
  | [], _, _ => trivial
  | [_], _, _ => trivial
  | b :: a :: r, ht, hd => by
    have h1 : 0 < cross (btw a b) (btw b p) := ht.1
    have hab : ltp a b := (List.pairwise_cons.mp (List.pairwise_cons.mp hd).2).1 a List.mem_cons_self
    have hbp : ltp b p := (List.pairwise_cons.mp hd).1 b List.mem_cons_self
    have hap : ltp a p := (List.pairwise_cons.mp hd).1 a (by simp)
    refine ⟨by unfold Lf; rw [← lf_to]; omega, ?_⟩
    -- p lies left of the way into a, too
    have ht2 : TurnR (p :: a :: r) := by
      match r, ht, hd with
      | [], _, _ => trivial
      | z :: r, ht, hd =>
        have h2 : 0 < cross (btw z a) (btw a b) := ht.2.1
        have hza : ltp z a := (List.pairwise_cons.mp (List.pairwise_cons.mp (List.pairwise_cons.mp hd).2).2).1 z List.mem_cons_self
        refine ⟨?_, ht.2.2⟩
        have h3 : 0 < cross (btw z a) (btw b p) := up_trans_l (ltp_up hab) (ltp_up hza) (ltp_up hbp) h2 (Int.le_of_lt h1)
        rw [← btw_add a b p, cross_addr]
        omega
    exact next_left (a :: r) ht2 (hd.sublist (List.Sublist.cons_cons p (List.sublist_cons_self b _)))
/-- one point more: popped, all that lay left of all ways lies left of all ways -/
theorem pop_left {p : Pt} : ∀ (st : List Pt), TurnR st → Dn (p :: st) → ∀ (q : Pt), AllL q st → (∀ m, st.getLast? = some m → q = m ∨ ltp m q) → (∀ t, st.head? = some t → q = t ∨ ltp q t) → AllL q (p :: popW p st)
  | [], _, _, _, _, _, _ => trivial
  | [a], _, hd, q, _, hm, ht => by
    show Lf a p q ∧ True
    refine ⟨?_, trivial⟩
    have e : q = a := by
      rcases hm a rfl with h | h
      · exact h
      · rcases ht a rfl with h2 | h2
        · exact h2
        · exact absurd (ltp_trans h h2) (fun z => (ltp_ne z).1 (btw_self a))
    rw [e]
    exact lf_a a p
  | b :: a :: r, hturn, hd, q, hq, hm, ht => by
    have hab : ltp a b := (List.pairwise_cons.mp (List.pairwise_cons.mp hd).2).1 a List.mem_cons_self
    have hbp : ltp b p := (List.pairwise_cons.mp hd).1 b List.mem_cons_self
    have hap : ltp a p := (List.pairwise_cons.mp hd).1 a (by simp)
    show AllL q (p :: (if 0 < cross (btw a b) (btw b p) then b :: a :: r else popW p (a :: r)))
    by_cases hc : 0 < cross (btw a b) (btw b p)
    · rw [if_pos hc]
      refine ⟨?_, hq⟩
      rcases ht b rfl with h | h
      · rw [h]
        exact lf_a b p
      · -- q lies below b
        have hv : Up (btw q b) := ltp_up h
        have h1 : 0 ≤ cross (btw q b) (btw a b) := by
          have := hq.1
          unfold Lf at this
          rw [← lf_to] at this
          rw [← neg_btw b q, cross_neg_left, cross_swap]
          omega
        have h2 := up_trans (ltp_up hab) hv (ltp_up hbp) h1 (Int.le_of_lt hc)
        unfold Lf
        rw [cross_swap, ← neg_btw q b, cross_neg_left]
        omega
    · rw [if_neg hc]
      have hd' : Dn (p :: a :: r) := hd.sublist (List.Sublist.cons_cons p (List.sublist_cons_self b _))
      have hm' : ∀ m, (a :: r).getLast? = some m → q = m ∨ ltp m q := fun m hm1 => hm m (by rw [List.getLast?_cons_cons]; exact hm1)
      by_cases hqa : q = a ∨ ltp q a
      · exact pop_left (a :: r) hturn.tail hd' q hq.2 hm' (fun t e => by cases e; exact hqa)
      · -- q lies above a
        have haq : ltp a q := by
          rcases Classical.em (ltp a q) with h | h
          · exact h
          · exact absurd (lex_tri (swap a) (swap q) h (fun e => hqa (.inl (by
              have := congrArg swap e
              rw [swap_swap, swap_swap] at this
              exact this.symm)))) (fun z => hqa (.inr z))
        -- left of the way to the popped one, that lies left of the way to p
        have h1 : 0 ≤ cross (btw a p) (btw a b) := by
          have : cross (btw a b) (btw b p) ≤ 0 := by omega
          rw [lf_to] at this
          rw [cross_swap]
          omega
        have h2 : Lf a p q := up_trans (ltp_up hab) (ltp_up hap) (ltp_up haq) h1 hq.1
        exact pop_left' (a :: r) hturn.tail hd' q a rfl hq.2 haq h2
where
  /-- the top may be popped, too: q above it, left of the way from it to p -/
  pop_left' {p : Pt} : ∀ (st : List Pt), TurnR st → Dn (p :: st) → ∀ (q a : Pt), st.head? = some a → AllL q st → ltp a q → Lf a p q → AllL q (p :: popW p st)
    | [], _, _, _, _, e, _, _, _ => nomatch e
    | [a], _, _, q, a', e, _, _, h => by
      cases e
      exact ⟨h, trivial⟩
    | b :: a :: r, hturn, hd, q, a', e, hq, hbq, h => by
      cases e
      have hab : ltp a b := (List.pairwise_cons.mp (List.pairwise_cons.mp hd).2).1 a List.mem_cons_self
      have hbp : ltp b p := (List.pairwise_cons.mp hd).1 b List.mem_cons_self
      have hap : ltp a p := (List.pairwise_cons.mp hd).1 a (by simp)
      show AllL q (p :: (if 0 < cross (btw a b) (btw b p) then b :: a :: r else popW p (a :: r)))
      by_cases hc : 0 < cross (btw a b) (btw b p)
      · rw [if_pos hc]
        exact ⟨h, hq⟩
      · rw [if_neg hc]
        have hd' : Dn (p :: a :: r) := hd.sublist (List.Sublist.cons_cons p (List.sublist_cons_self b _))
        have haq : ltp a q := ltp_trans hab hbq
        have h1 : 0 ≤ cross (btw a p) (btw a b) := by
          have : cross (btw a b) (btw b p) ≤ 0 := by omega
          rw [lf_to] at this
          rw [cross_swap]
          omega
        have h2 : Lf a p q := up_trans (ltp_up hab) (ltp_up hap) (ltp_up haq) h1 hq.1
        exact pop_left' (a :: r) hturn.tail hd' q a rfl hq.2 haq h2
theorem chainR_left : ∀ (ps st seen : List Pt), TurnR st → st ≠ [] → (ps.reverse ++ st).Pairwise (fun x y => ltp y x) → (∀ q ∈ seen, AllL q st ∧ (∀ m, st.getLast? = some m → q = m ∨ ltp m q) ∧ (∀ t, st.head? = some t → q = t ∨ ltp q t)) → ∀ q, q ∈ seen ∨ q ∈ ps → AllL q (chainR st ps)
  | [], st, seen, _, _, _, hs, q, hq => (hs q (by simpa using hq)).1
  | p :: ps, st, seen, ht, hn, hd, hs, q, hq => by
    obtain ⟨h1, ⟨t, h2⟩, h3⟩ := popW_inv p st ht
    have hd0 : Dn (p :: st) := hd.sublist (by
      rw [List.reverse_cons, List.append_assoc, List.singleton_append]
      exact List.sublist_append_right _ _)
    have hsub : (p :: popW p st).Sublist (p :: st) := by
      refine List.Sublist.cons_cons p ?_
      rw (occs := [2]) [h2]
      exact List.sublist_append_right _ _
    have hd1 : Dn (p :: popW p st) := hd0.sublist hsub
    have hp2 : (ps.reverse ++ (p :: popW p st)).Pairwise (fun x y => ltp y x) := by
      rw [List.reverse_cons, List.append_assoc, List.singleton_append] at hd
      exact hd.sublist (List.Sublist.append_left hsub _)
    have hlast : ∀ m, (p :: popW p st).getLast? = some m → st.getLast? = some m := fun m hm => by
      have hne := h3 hn
      rw [h2, List.getLast?_append]
      cases e : popW p st with
      | nil => exact absurd e hne
      | cons x xs =>
        rw [e, List.getLast?_cons_cons] at hm
        rw [hm]
        rfl
    refine chainR_left ps (p :: popW p st) (p :: seen) h1 (List.cons_ne_nil _ _) hp2 (fun x hx => ?_) q ?_
    · rcases List.mem_cons.mp hx with rfl | hx
      · refine ⟨?_, fun m hm => ?_, fun t e => by cases e; exact .inl rfl⟩
        · have := next_left (popW x st) h1 hd1
          match hpp : popW x st, this, h3 hn with
          | [], _, hne => exact absurd rfl hne
          | b :: r, this, _ => exact ⟨lf_b b x, this⟩
        · exact .inr ((List.pairwise_cons.mp hd0).1 m (List.mem_of_getLast? (hlast m hm)))
      · obtain ⟨g1, g2, g3⟩ := hs x hx
        refine ⟨pop_left st ht hd0 x g1 g2 g3, fun m hm => g2 m (hlast m hm), fun t e => ?_⟩
        cases e
        right
        match st, hn, g3, hd0 with
        | t :: st, _, g3, hd0 =>
          have htp : ltp t p := (List.pairwise_cons.mp hd0).1 t List.mem_cons_self
          rcases g3 t rfl with h | h
          · rw [h]
            exact htp
          · exact ltp_trans h htp
    · rcases hq with h | h
      · exact .inl (List.mem_cons_of_mem _ h)
      · rcases List.mem_cons.mp h with h | h
        · exact .inl (by rw [h]; exact List.mem_cons_self)
        · exact .inr h
/-- all points lie left of the chain -/
theorem chain_left {L : List Pt} (h : L.Pairwise ltp) : ∀ q ∈ L, AllL q (chain L).reverse := by
  intro q hq
  unfold chain
  rw [List.reverse_reverse]
  cases L with
  | nil => cases hq
  | cons a L =>
    show AllL q (chainR [a] L)
    refine chainR_left L [a] [a] trivial (List.cons_ne_nil _ _) ?_ (fun x hx => ?_) q ?_
    · rw [← List.reverse_cons, List.pairwise_reverse]
      exact h
    · rw [List.mem_singleton.mp hx]
      exact ⟨trivial, fun m hm => by cases hm; exact .inl rfl, fun m hm => by cases hm; exact .inl rfl⟩
    · rcases List.mem_cons.mp hq with h | h
      · exact .inl (by rw [h]; exact List.mem_singleton.mpr rfl)
      · exact .inr h
end Rm

/-! # A shape is the hull of all that lies in it -/
namespace Rm
theorem at_rev {l : List Pt} {j : Nat} (hj : j < l.length) : at_ l.reverse j = at_ l (l.length - 1 - j) := by
  unfold at_
  rw [List.getD_eq_getElem?_getD, List.getD_eq_getElem?_getD, List.getElem?_reverse hj]
/-- q is left of each way of the row (forward) -/
def AllF (q : Pt) (l : List Pt) : Prop := ∀ k, k + 1 < l.length → Lf (at_ l k) (at_ l (k + 1)) q
theorem allF_cons {q a b : Pt} {r : List Pt} : AllF q (a :: b :: r) ↔ Lf a b q ∧ AllF q (b :: r) := by
  constructor
  · intro h
    refine ⟨h 0 (by simp), fun k hk => h (k + 1) (by simp at hk ⊢; omega)⟩
  · rintro ⟨h1, h2⟩ k hk
    cases k with
    | zero => exact h1
    | succ k => exact h2 k (by simp at hk ⊢; omega)
theorem allF_nil {q : Pt} : AllF q [] := fun k hk => absurd hk (by simp)
theorem allF_one {q a : Pt} : AllF q [a] := fun k hk => absurd hk (by simp)
theorem allL_at {q : Pt} : ∀ {l : List Pt}, AllL q l → ∀ k, k + 1 < l.length → Lf (at_ l (k + 1)) (at_ l k) q
  | [], _, k, h => absurd h (by simp)
  | [_], _, k, h => absurd h (by simp)
  | b :: a :: r, h, 0, _ => h.1
  | b :: a :: r, h, k + 1, hk => allL_at h.2 k (by simp at hk ⊢; omega)
theorem allL_rev {q : Pt} {l : List Pt} (h : AllL q l.reverse) : AllF q l := by
  intro k hk
  have := allL_at h (l.length - 2 - k) (by rw [List.length_reverse]; omega)
  rw [at_rev (by omega), at_rev (by omega), show l.length - 1 - (l.length - 2 - k + 1) = k by omega, show l.length - 1 - (l.length - 2 - k) = k + 1 by omega] at this
  exact this
theorem allF_append {q t : Pt} : ∀ {l m : List Pt}, AllF q (l ++ t :: m) ↔ AllF q (l ++ [t]) ∧ AllF q (t :: m)
  | [], m => ⟨fun h => ⟨allF_one, h⟩, fun h => h.2⟩
  | [a], m => by
    show AllF q (a :: t :: m) ↔ AllF q (a :: [t]) ∧ _
    rw [allF_cons, allF_cons]
    exact ⟨fun h => ⟨⟨h.1, allF_one⟩, h.2⟩, fun h => ⟨h.1.1, h.2⟩⟩
  | a :: b :: l, m => by
    show AllF q (a :: b :: (l ++ t :: m)) ↔ AllF q (a :: b :: (l ++ [t])) ∧ _
    rw [allF_cons, allF_cons]
    have := allF_append (q := q) (t := t) (l := b :: l) (m := m)
    rw [List.cons_append, List.cons_append] at this
    rw [this, and_assoc]
/-! turns, forward -/
abbrev Pos (a b : Pt) : Prop := 0 < cross a b
theorem turn_rev {l : List Pt} (h : TurnR l.reverse) : AdjR Pos (steps l) := by
  have := turn_steps _ h
  rw [List.reverse_reverse] at this
  exact this
theorem turn_of : ∀ {l : List Pt}, (∀ j, j + 2 < l.length → 0 < cross (btw (at_ l (j + 2)) (at_ l (j + 1))) (btw (at_ l (j + 1)) (at_ l j))) → TurnR l
  | [], _ => trivial
  | [_], _ => trivial
  | [_, _], _ => trivial
  | c :: b :: a :: r, h => ⟨h 0 (by simp), turn_of (l := b :: a :: r) fun j hj => h (j + 1) (by simp at hj ⊢; omega)⟩
theorem turn_of_steps {l : List Pt} (h : AdjR Pos (steps l)) : TurnR l.reverse := by
  refine turn_of fun j hj => ?_
  rw [List.length_reverse] at hj
  have := adj_at h (l.length - 3 - j) (by rw [steps_len]; omega)
  rw [steps_at _ _ (by omega), steps_at _ _ (by omega)] at this
  rw [at_rev (by omega), at_rev (by omega), at_rev (by omega), show l.length - 1 - (j + 2) = l.length - 3 - j by omega, show l.length - 1 - (j + 1) = l.length - 3 - j + 1 by omega, show l.length - 1 - j = l.length - 3 - j + 1 + 1 by omega]
  exact this
/-! ## two rows that lie left of one another are one -/
theorem uniq_step {x y y' : Pt} {r1 : List Pt} (h : (x :: y :: r1).Pairwise ltp) (ht : AdjR Pos (steps (x :: y :: r1))) (hy : ltp y y') (c0 : cross (btw x y) (btw x y') = 0) (hq : AllF y' (x :: y :: r1)) (hl : ∀ t, (x :: y :: r1).getLast? = some t → y' = t ∨ ltp y' t) : False := by
  have hxy : ltp x y := (List.pairwise_cons.mp h).1 y List.mem_cons_self
  cases r1 with
  | nil =>
    rcases hl y rfl with e | e
    · rw [e] at hy
      exact (ltp_ne hy).1 (btw_self y)
    · exact (ltp_ne (ltp_trans hy e)).1 (btw_self y)
  | cons z r2 =>
    have hyz : ltp y z := (List.pairwise_cons.mp (List.pairwise_cons.mp h).2).1 z List.mem_cons_self
    have h1 : 0 < cross (btw x y) (btw y z) := ht.1
    have h2 : Lf y z y' := (allF_cons.mp (allF_cons.mp hq).2).1
    have c1 : cross (btw x y) (btw y y') = 0 := by
      rw [lf_to]
      exact c0
    have h3 := up_trans_r (ltp_up hxy) (ltp_up hy) (ltp_up hyz) (by rw [cross_swap]; omega) h1
    unfold Lf at h2
    rw [cross_swap] at h2
    omega
theorem lt_total (a b : Pt) : a = b ∨ ltp a b ∨ ltp b a := by
  rcases Classical.em (a = b) with h | h
  · exact .inl h
  · rcases Classical.em (ltp a b) with h2 | h2
    · exact .inr (.inl h2)
    · refine .inr (.inr (lex_tri (swap a) (swap b) h2 fun e => h ?_))
      have := congrArg swap e
      rw [swap_swap, swap_swap] at this
      exact this
theorem last_ge {l : List Pt} (h : l.Pairwise ltp) {t y : Pt} (ht : l.getLast? = some t) (hy : y ∈ l) : y = t ∨ ltp y t := by
  induction l with
  | nil => cases hy
  | cons a l ih =>
    cases l with
    | nil =>
      cases ht
      exact .inl (List.mem_singleton.mp hy)
    | cons b l =>
      rw [List.getLast?_cons_cons] at ht
      rcases List.mem_cons.mp hy with rfl | hy
      · exact .inr ((List.pairwise_cons.mp h).1 t (List.mem_of_getLast? ht))
      · exact ih (List.pairwise_cons.mp h).2 ht hy
theorem uniq : ∀ {r r' : List Pt} {x t : Pt}, (x :: r).Pairwise ltp → (x :: r').Pairwise ltp → AdjR Pos (steps (x :: r)) → AdjR Pos (steps (x :: r')) → (x :: r).getLast? = some t → (x :: r').getLast? = some t →
    (∀ q ∈ x :: r', AllF q (x :: r)) → (∀ q ∈ x :: r, AllF q (x :: r')) → r = r'
  | [], [], _, _, _, _, _, _, _, _, _, _ => rfl
  | [], y :: r', x, t, _, h', _, _, l1, l2, _, _ => by
    cases l1
    rw [List.getLast?_cons_cons] at l2
    exact absurd (btw_self x) (ltp_ne ((List.pairwise_cons.mp h').1 x (List.mem_of_getLast? l2))).1
  | y :: r, [], x, t, h, _, _, _, l1, l2, _, _ => by
    cases l2
    rw [List.getLast?_cons_cons] at l1
    exact absurd (btw_self x) (ltp_ne ((List.pairwise_cons.mp h).1 x (List.mem_of_getLast? l1))).1
  | y :: r, y' :: r', x, t, h, h', s1, s2, l1, l2, a1, a2 => by
    have c1 : 0 ≤ cross (btw x y) (btw x y') := (allF_cons.mp (a1 y' (by simp))).1
    have c2 : 0 ≤ cross (btw x y') (btw x y) := (allF_cons.mp (a2 y (by simp))).1
    have c3 := c2
    rw [cross_swap] at c3
    have e : y = y' := by
      rcases lt_total y y' with e | e | e
      · exact e
      · exact (uniq_step h s1 e (by omega) (a1 y' (by simp)) fun t' ht' => by
          rw [l1] at ht'
          cases ht'
          exact last_ge h' l2 (by simp)).elim
      · refine (uniq_step h' s2 e ?_ (a2 y (by simp)) fun t' ht' => by
          rw [l2] at ht'
          cases ht'
          exact last_ge h l1 (by simp)).elim
        rw [cross_swap]
        omega
    subst e
    rw [uniq (List.pairwise_cons.mp h).2 (List.pairwise_cons.mp h').2 (by cases r with | nil => trivial | cons z r => exact s1.2) (by cases r' with | nil => trivial | cons z r => exact s2.2) (by rw [List.getLast?_cons_cons] at l1; exact l1) (by rw [List.getLast?_cons_cons] at l2; exact l2)
      (fun q hq => (allF_cons.mp (a1 q (List.mem_cons_of_mem _ hq))).2) (fun q hq => (allF_cons.mp (a2 q (List.mem_cons_of_mem _ hq))).2)]
/-! ## all turned round -/
theorem btw_neg (a b : Pt) : btw (neg a) (neg b) = neg (btw a b) := by
  unfold btw neg
  ext <;> simp only <;> omega
theorem neg_neg (a : Pt) : neg (neg a) = a := by
  unfold neg
  ext <;> simp
theorem neg_inj {a b : Pt} (h : neg a = neg b) : a = b := by
  rw [← neg_neg a, h, neg_neg]
theorem popW_neg (p : Pt) : ∀ (st : List Pt), popW (neg p) (st.map neg) = (popW p st).map neg
  | [] => rfl
  | [_] => rfl
  | b :: a :: r => by
    show (if 0 < cross (btw (neg a) (neg b)) (btw (neg b) (neg p)) then neg b :: neg a :: r.map neg else popW (neg p) ((a :: r).map neg)) = (if 0 < cross (btw a b) (btw b p) then b :: a :: r else popW p (a :: r)).map neg
    rw [btw_neg, btw_neg, cross_neg_neg]
    split
    · rfl
    · exact popW_neg p (a :: r)
theorem chainR_neg : ∀ (ps st : List Pt), chainR (st.map neg) (ps.map neg) = (chainR st ps).map neg
  | [], st => rfl
  | p :: ps, st => by
    show chainR (neg p :: popW (neg p) (st.map neg)) (ps.map neg) = (chainR (p :: popW p st) ps).map neg
    rw [popW_neg]
    exact chainR_neg ps (p :: popW p st)
theorem chain_neg (ps : List Pt) : chain (ps.map neg) = (chain ps).map neg := by
  unfold chain
  rw [List.map_reverse, ← chainR_neg ps []]
  rfl
theorem at_neg (l : List Pt) (k : Nat) : at_ (l.map neg) k = neg (at_ l k) := by
  unfold at_
  rw [List.getD_eq_getElem?_getD, List.getElem?_map, List.getD_eq_getElem?_getD]
  cases l[k]? <;> rfl
theorem lf_neg (a b q : Pt) : Lf (neg a) (neg b) (neg q) ↔ Lf a b q := by
  unfold Lf
  rw [btw_neg, btw_neg, cross_neg_neg]
theorem allF_neg {q : Pt} {l : List Pt} : AllF (neg q) (l.map neg) ↔ AllF q l := by
  unfold AllF
  constructor
  · intro h k hk
    have := h k (by rw [List.length_map]; exact hk)
    rw [at_neg, at_neg, lf_neg] at this
    exact this
  · intro h k hk
    rw [at_neg, at_neg, lf_neg]
    exact h k (by rw [List.length_map] at hk; exact hk)
theorem ltp_neg {a b : Pt} : ltp (neg a) (neg b) ↔ ltp b a := by
  unfold ltp lexlt swap neg
  simp only
  omega
theorem pw_neg {l : List Pt} : (l.map neg).Pairwise ltp ↔ l.Pairwise (fun a b => ltp b a) := by
  rw [List.pairwise_map]
  constructor <;> intro h <;> refine h.imp fun {a b} k => ?_
  · exact ltp_neg.mp k
  · exact ltp_neg.mpr k
theorem steps_neg : ∀ l : List Pt, steps (l.map neg) = (steps l).map neg
  | [] => rfl
  | [_] => rfl
  | a :: b :: r => by
    show btw (neg a) (neg b) :: steps ((b :: r).map neg) = neg (btw a b) :: (steps (b :: r)).map neg
    rw [btw_neg, steps_neg (b :: r)]
theorem adj_neg : ∀ {l : List Pt}, AdjR Pos l → AdjR Pos (l.map neg)
  | [], _ => trivial
  | [_], _ => trivial
  | a :: b :: r, h => ⟨by rw [show Pos (neg a) (neg b) = (0 < cross (neg a) (neg b)) from rfl, cross_neg_neg]; exact h.1, adj_neg (l := b :: r) h.2⟩
/-- the same of rows down -/
theorem uniq_dn {r r' : List Pt} {x t : Pt} (h1 : (x :: r).Pairwise (fun a b => ltp b a)) (h2 : (x :: r').Pairwise (fun a b => ltp b a)) (h3 : AdjR Pos (steps (x :: r))) (h4 : AdjR Pos (steps (x :: r'))) (h5 : (x :: r).getLast? = some t) (h6 : (x :: r').getLast? = some t)
    (h7 : ∀ q ∈ x :: r', AllF q (x :: r)) (h8 : ∀ q ∈ x :: r, AllF q (x :: r')) : r = r' := by
  have inj : ∀ {l m : List Pt}, l.map neg = m.map neg → l = m := fun {l m} e => by
    have := congrArg (List.map neg) e
    rw [List.map_map, List.map_map, show neg ∘ neg = id from funext neg_neg, List.map_id, List.map_id] at this
    exact this
  refine inj (uniq (x := neg x) (t := neg t) (pw_neg.mpr h1) (pw_neg.mpr h2) ?_ ?_ ?_ ?_ ?_ ?_)
  · have := adj_neg h3
    rw [← steps_neg] at this
    exact this
  · have := adj_neg h4
    rw [← steps_neg] at this
    exact this
  · show ((x :: r).map neg).getLast? = _
    rw [List.getLast?_map, h5] <;> rfl
  · show ((x :: r').map neg).getLast? = _
    rw [List.getLast?_map, h6] <;> rfl
  · intro q hq
    obtain ⟨p, hp, rfl⟩ := List.mem_map.mp (show q ∈ (x :: r').map neg from hq)
    exact allF_neg.mpr (h7 p hp)
  · intro q hq
    obtain ⟨p, hp, rfl⟩ := List.mem_map.mp (show q ∈ (x :: r).map neg from hq)
    exact allF_neg.mpr (h8 p hp)
/-- all points lie left of the chain down -/
theorem chain_left_dn {L : List Pt} (h : L.Pairwise (fun a b => ltp b a)) : ∀ q ∈ L, AllF q (chain L) := by
  intro q hq
  have := chain_left (pw_neg.mpr h) (neg q) (List.mem_map.mpr ⟨q, hq, rfl⟩)
  rw [chain_neg] at this
  exact allF_neg.mp (allL_rev this)
/-! ## a shape's two rows -/
theorem steps_pathF : ∀ (A : List Pt) (s : Pt), steps (pathF s A) = A
  | [], _ => rfl
  | [a], s => by
    show [btw s (addp s a)] = [a]
    congr 1
    unfold btw addp
    ext <;> simp only <;> omega
  | a :: b :: A, s => by
    show btw s (addp s a) :: steps (pathF (addp s a) (b :: A)) = a :: b :: A
    rw [steps_pathF (b :: A)]
    congr 1
    unfold btw addp
    ext <;> simp only <;> omega
theorem pathF_append : ∀ (A B : List Pt) (s : Pt), pathF s (A ++ B) = pathF s A ++ (pathF (endF s A) B).tail
  | [], B, s => by
    cases B <;> rfl
  | a :: A, B, s => by
    show s :: pathF (addp s a) (A ++ B) = s :: (pathF (addp s a) A ++ (pathF (endF (addp s a) A) B).tail)
    rw [pathF_append A B]
theorem pathF_up : ∀ (A : List Pt) (s : Pt), (∀ a ∈ A, Up a) → (pathF s A).Pairwise ltp ∧ ∀ x ∈ pathF s A, x = s ∨ ltp s x
  | [], s, _ => ⟨List.pairwise_singleton .., fun x hx => .inl (List.mem_singleton.mp hx)⟩
  | a :: A, s, h => by
    obtain ⟨h1, h2⟩ := pathF_up A (addp s a) (fun x hx => h x (List.mem_cons_of_mem _ hx))
    have h3 : ltp s (addp s a) := up_ltp (by
      have : btw s (addp s a) = a := by
        unfold btw addp
        ext <;> simp only <;> omega
      rw [this]
      exact h a List.mem_cons_self)
    have h4 : ∀ x ∈ pathF (addp s a) A, ltp s x := fun x hx => by
      rcases h2 x hx with rfl | h
      · exact h3
      · exact ltp_trans h3 h
    refine ⟨List.pairwise_cons.mpr ⟨h4, h1⟩, fun x hx => ?_⟩
    rcases List.mem_cons.mp hx with h | h
    · exact .inl h
    · exact .inr (h4 x h)
theorem pathF_neg : ∀ (A : List Pt) (s : Pt), (pathF s A).map neg = pathF (neg s) (A.map neg)
  | [], _ => rfl
  | a :: A, s => by
    show neg s :: (pathF (addp s a) A).map neg = neg s :: pathF (addp (neg s) (neg a)) (A.map neg)
    rw [pathF_neg A]
    congr 2
    unfold neg addp
    ext <;> simp only <;> omega
theorem split_half : ∀ {A : List Pt}, AdjR Ah A → ∃ A1 A2, A = A1 ++ A2 ∧ (∀ a ∈ A1, half a = false) ∧ ∀ a ∈ A2, half a = true
  | [], _ => ⟨[], [], rfl, (fun _ h => nomatch h), (fun _ h => nomatch h)⟩
  | [a], _ => by
    cases h : half a with
    | false => exact ⟨[a], [], rfl, (fun x hx => by rw [List.mem_singleton.mp hx]; exact h), (fun _ h => nomatch h)⟩
    | true => exact ⟨[], [a], rfl, (fun _ h => nomatch h), fun x hx => by rw [List.mem_singleton.mp hx]; exact h⟩
  | a :: b :: r, k => by
    obtain ⟨A1, A2, e, h1, h2⟩ := split_half (A := b :: r) k.2
    cases h : half a with
    | false =>
      refine ⟨a :: A1, A2, by rw [e] <;> rfl, fun x hx => ?_, h2⟩
      rcases List.mem_cons.mp hx with rfl | hx
      · exact h
      · exact h1 x hx
    | true =>
      have hb : half b = true := by
        rcases ah_iff.mp k.1 with ⟨z, _⟩ | ⟨z, _⟩
        · rw [h] at z
          cases z
        · rw [← z]
          exact h
      cases A1 with
      | cons c A1 =>
        have : c = b := by
          rw [List.cons_append] at e
          exact (List.cons.inj e).1.symm
        rw [this] at h1
        rw [h1 b List.mem_cons_self] at hb
        cases hb
      | nil =>
        refine ⟨[], a :: A2, by rw [e] <;> rfl, h1, fun x hx => ?_⟩
        rcases List.mem_cons.mp hx with rfl | hx
        · exact h
        · exact h2 x hx
theorem adj_left {R : Pt → Pt → Prop} : ∀ {l m : List Pt}, AdjR R (l ++ m) → AdjR R l ∧ AdjR R m
  | [], m, h => ⟨trivial, h⟩
  | [a], [], _ => ⟨trivial, trivial⟩
  | [a], b :: m, h => ⟨trivial, h.2⟩
  | a :: b :: l, m, h => ⟨⟨h.1, (adj_left (l := b :: l) h.2).1⟩, (adj_left (l := b :: l) h.2).2⟩
theorem adj_pos {A : List Pt} {c : Bool} (h : AdjR Ah A) (k : ∀ a ∈ A, half a = c) : AdjR Pos A := adj_mono h fun a ha b hb z => by
  rcases ah_iff.mp z with ⟨z1, z2⟩ | ⟨_, z⟩
  · rw [k a ha] at z1
    rw [k b hb, z1] at z2
    cases z2
  · exact z
theorem endF_sum : ∀ (A : List Pt) (s : Pt), endF s A = addp s (sumP A)
  | [], s => (addp_zero s).symm
  | a :: A, s => by
    show endF (addp s a) A = _
    rw [endF_sum A, sumP_cons, addp_assoc]
theorem sumP_up : ∀ {A : List Pt}, (∀ a ∈ A, Up a) → A ≠ [] → Up (sumP A)
  | [], _, n => absurd rfl n
  | a :: A, h, _ => by
    have h1 := h a List.mem_cons_self
    cases A with
    | nil =>
      rw [sumP_cons, show sumP [] = pt0 from rfl, addp_zero]
      exact h1
    | cons b A =>
      have h2 := sumP_up (A := b :: A) (fun x hx => h x (List.mem_cons_of_mem _ hx)) (List.cons_ne_nil _ _)
      rw [sumP_cons]
      unfold Up addp at *
      simp only
      omega
theorem sumP_neg : ∀ A : List Pt, sumP (A.map neg) = neg (sumP A)
  | [] => rfl
  | a :: A => by
    rw [List.map_cons, sumP_cons, sumP_cons, sumP_neg A]
    unfold neg addp
    ext <;> simp only <;> omega
theorem shape_parts {c : List Pt} (h : IsShape c) (h2 : 2 ≤ c.length) : ∃ s t U V, c = s :: U ++ t :: V ∧ s ≠ t ∧ (s :: U ++ [t]).Pairwise ltp ∧ AdjR Pos (steps (s :: U ++ [t])) ∧ (t :: V ++ [s]).Pairwise (fun a b => ltp b a) ∧ AdjR Pos (steps (t :: V ++ [s])) := by
  match c, h, h2 with
  | s :: b :: r, h, _ =>
    have eA : sidesBy (s :: b :: r) = steps (s :: b :: r ++ [s]) := sidesBy_eq (List.cons_ne_nil _ _)
    obtain ⟨A1, A2, e, k1, k2⟩ := split_half h.adj
    have hz := h.2.2.2
    have hs := sides_sum (s :: b :: r)
    have ha := h.adj
    have hf := h.first
    rw [e] at hz hs ha
    have u1 : ∀ a ∈ A1, Up a := fun a ha => up_of (k1 a ha) (fun z => hz (List.mem_append_left _ (z ▸ ha)))
    have u2 : ∀ a ∈ A2.map neg, Up a := fun a ha => by
      obtain ⟨x, hx, rfl⟩ := List.mem_map.mp ha
      exact down_of (k2 x hx)
    -- neither is empty
    have n1 : A1 ≠ [] := fun z => by
      subst z
      have hl : (sidesBy (s :: b :: r)).length = (s :: b :: r).length := by
        rw [sides_len, if_neg (by simp)]
      rw [List.nil_append] at e
      cases A2 with
      | nil =>
        rw [e] at hl
        simp at hl
      | cons x A2 =>
        have := hf x (by rw [e] <;> rfl)
        rw [k2 x List.mem_cons_self] at this
        cases this
    have n2 : A2 ≠ [] := fun z => by
      subst z
      rw [List.append_nil] at hs
      have := half_up (sumP_up u1 n1)
      exact this.2 hs
    -- the path
    have hpath : s :: b :: r ++ [s] = pathF s (A1 ++ A2) := by
      have p0 := pathF_steps pt0 (b :: r ++ [s]) s
      rw [addp_zero, moved_zero] at p0
      rw [← e, eA]
      exact p0.symm
    rw [pathF_append] at hpath
    generalize ht : endF s A1 = t at hpath
    have hts : endF t A2 = s := by
      rw [endF_sum, ← ht, endF_sum, addp_assoc, ← sumP_append, hs, addp_zero]
    have hne : s ≠ t := fun z => by
      rw [endF_sum] at ht
      have h3 := (half_up (sumP_up u1 n1)).2
      refine h3 ?_
      rw [← z] at ht
      unfold addp at ht
      unfold pt0
      have q1 := congrArg Prod.fst ht
      have q2 := congrArg Prod.snd ht
      simp only at q1 q2
      ext <;> simp only <;> omega
    obtain ⟨U, eU⟩ : ∃ U, pathF s A1 = s :: U ++ [t] := ends_split (by cases A1 <;> rfl) (by
      obtain ⟨x, hx⟩ := pathF_last A1 s
      rw [hx, List.getLast?_reverse, ht] <;> rfl) hne
    obtain ⟨V, eV⟩ : ∃ V, pathF t A2 = t :: V ++ [s] := ends_split (by cases A2 <;> rfl) (by
      obtain ⟨x, hx⟩ := pathF_last A2 t
      rw [hx, List.getLast?_reverse, hts] <;> rfl) hne.symm
    refine ⟨s, t, U, V, ?_, hne, ?_, ?_, ?_, ?_⟩
    · rw [eU, eV] at hpath
      have : s :: b :: r ++ [s] = (s :: U ++ t :: V) ++ [s] := by
        rw [hpath]
        simp
      exact List.append_cancel_right this
    · rw [← eU]
      exact (pathF_up A1 s u1).1
    · rw [← eU, steps_pathF]
      exact adj_pos (adj_left ha).1 k1
    · rw [← eV, ← pw_neg, pathF_neg]
      exact (pathF_up _ _ u2).1
    · rw [← eV, steps_pathF]
      exact adj_pos (adj_left ha).2 k2
/-! ## the hull of all that lies in a shape -/
def Le (a b : Pt) : Prop := a = b ∨ ltp a b
theorem Le.trans {a b c : Pt} (h1 : Le a b) (h2 : Le b c) : Le a c := by
  rcases h1 with rfl | h1
  · exact h2
  · rcases h2 with rfl | h2
    · exact .inr h1
    · exact .inr (ltp_trans h1 h2)
theorem Le.antisymm {a b : Pt} (h1 : Le a b) (h2 : Le b a) : a = b := by
  rcases h1 with h | h1
  · exact h
  · rcases h2 with h | h2
    · exact h.symm
    · exact absurd (btw_self a) (ltp_ne (ltp_trans h1 h2)).1
theorem parts_min {s t : Pt} {U V : List Pt} (h1 : (s :: U ++ [t]).Pairwise ltp) (h3 : (t :: V ++ [s]).Pairwise (fun a b => ltp b a)) : ∀ x ∈ s :: U ++ t :: V, Le s x ∧ Le x t := by
  have hst : ltp s t := (List.pairwise_cons.mp h1).1 t (by simp)
  have a1 : ∀ x ∈ U, ltp s x ∧ ltp x t := fun x hx => by
    have := List.pairwise_append.mp (List.pairwise_cons.mp h1).2
    exact ⟨(List.pairwise_cons.mp h1).1 x (by simp [hx]), this.2.2 x hx t (by simp)⟩
  have a2 : ∀ x ∈ V, ltp s x ∧ ltp x t := fun x hx => by
    have := List.pairwise_append.mp (List.pairwise_cons.mp h3).2
    exact ⟨this.2.2 x hx s (by simp), (List.pairwise_cons.mp h3).1 x (by simp [hx])⟩
  intro x hx
  simp only [List.cons_append, List.mem_cons, List.mem_append] at hx
  rcases hx with rfl | hx | rfl | hx
  · exact ⟨.inl rfl, .inr hst⟩
  · exact ⟨.inr (a1 x hx).1, .inr (a1 x hx).2⟩
  · exact ⟨.inr hst, .inl rfl⟩
  · exact ⟨.inr (a2 x hx).1, .inr (a2 x hx).2⟩
theorem head_of_min {L : List Pt} (h : L.Pairwise ltp) {s : Pt} (hs : s ∈ L) (hm : ∀ x ∈ L, Le s x) : L.head? = some s := by
  cases L with
  | nil => cases hs
  | cons a L =>
    rcases List.mem_cons.mp hs with rfl | hs
    · rfl
    · have h1 : Le a s := .inr ((List.pairwise_cons.mp h).1 s hs)
      rw [h1.antisymm (hm a List.mem_cons_self)] <;> rfl
theorem last_of_max {L : List Pt} (h : L.Pairwise ltp) {t : Pt} (ht : t ∈ L) (hm : ∀ x ∈ L, Le x t) : L.getLast? = some t := by
  cases e : L.getLast? with
  | none =>
    rw [List.getLast?_eq_none_iff] at e
    rw [e] at ht
    cases ht
  | some u =>
    have h1 : Le t u := last_ge h e ht
    rw [h1.antisymm (hm u (List.mem_of_getLast? e))]
theorem chain_mem_ends {L : List Pt} (h : L.Pairwise ltp) {s t : Pt} (hs : L.head? = some s) (ht : L.getLast? = some t) : (chain L).Pairwise ltp ∧ AdjR Pos (steps (chain L)) ∧ (chain L).head? = some s ∧ (chain L).getLast? = some t := by
  cases L with
  | nil => cases hs
  | cons a L =>
    cases hs
    obtain ⟨h1, h2, h3, h4⟩ := chain_ok h
    exact ⟨h1, turn_rev h2, h3, h4.trans ht⟩
theorem chain_mem_ends_dn {L : List Pt} (h : L.Pairwise (fun a b => ltp b a)) {s t : Pt} (hs : L.head? = some s) (ht : L.getLast? = some t) : (chain L).Pairwise (fun a b => ltp b a) ∧ AdjR Pos (steps (chain L)) ∧ (chain L).head? = some s ∧ (chain L).getLast? = some t := by
  cases L with
  | nil => cases hs
  | cons a L =>
    cases hs
    obtain ⟨h1, h2, h3, h4⟩ := chain_ok h
    exact ⟨h1, turn_rev h2, h3, h4.trans ht⟩
theorem hull_unique {c S : List Pt} (hc : IsShape c) (sub : ∀ x ∈ c, x ∈ S) (left : ∀ q ∈ S, AllF q (c ++ [at_ c 0])) (bt : ∀ q ∈ S, ∃ x ∈ c, ∃ y ∈ c, Le x q ∧ Le q y) : hull S = c := by
  have hp := order_pw S
  by_cases h2 : c.length < 2
  · match c, hc, h2 with
    | [], hc, _ => exact absurd rfl hc.1
    | [p], hc, _ =>
      have h1 : ∀ q ∈ order S, q = p := fun q hq => by
        obtain ⟨x, hx, y, hy, l1, l2⟩ := bt q (mem_order.mp hq)
        rw [List.mem_singleton.mp hx] at l1
        rw [List.mem_singleton.mp hy] at l2
        exact l2.antisymm l1
      have hn : p ∈ order S := mem_order.mpr (sub p List.mem_cons_self)
      have e : order S = [p] := by
        match e : order S, hp, h1, hn with
        | [], _, _, hn => cases hn
        | [a], _, h1, _ => rw [h1 a List.mem_cons_self]
        | a :: b :: r, hp, h1, _ =>
          have := (List.pairwise_cons.mp hp).1 b List.mem_cons_self
          rw [h1 a (by simp), h1 b (by simp)] at this
          exact absurd (btw_self p) (ltp_ne this).1
      unfold hull
      rw [e]
      rfl
  · obtain ⟨s, t, U, V, rfl, hne, p1, p2, p3, p4⟩ := shape_parts hc (by omega)
    have hmm := parts_min p1 p3
    have inS : s ∈ order S ∧ t ∈ order S := ⟨mem_order.mpr (sub s (by simp)), mem_order.mpr (sub t (by simp))⟩
    have all : ∀ q ∈ order S, Le s q ∧ Le q t := fun q hq => by
      obtain ⟨x, hx, y, hy, l1, l2⟩ := bt q (mem_order.mp hq)
      exact ⟨(hmm x hx).1.trans l1, l2.trans (hmm y hy).2⟩
    have hh := head_of_min hp inS.1 fun x hx => (all x hx).1
    have hl := last_of_max hp inS.2 fun x hx => (all x hx).2
    have hlen : (order S).length ≠ 1 := fun z => by
      match e : order S, z, inS with
      | [a], _, inS =>
        rw [List.mem_singleton, List.mem_singleton] at inS
        exact hne (inS.1.trans inS.2.symm)
    -- the row up
    have lf : ∀ q ∈ order S, AllF q (s :: U ++ [t]) ∧ AllF q (t :: V ++ [s]) := fun q hq => by
      have := left q (mem_order.mp hq)
      rw [show at_ (s :: U ++ t :: V) 0 = s from rfl, List.append_assoc, List.cons_append (as := V), allF_append] at this
      exact this
    obtain ⟨c1, c2, c3, c4⟩ := chain_mem_ends hp hh hl
    obtain ⟨U', eU'⟩ := ends_split c3 c4 hne
    have eU : U' = U := by
      have q1 : ∀ q ∈ s :: U ++ [t], q ∈ order S := fun q hq => mem_order.mpr (sub q (by
        simp only [List.cons_append, List.mem_cons, List.mem_append] at hq ⊢
        rcases hq with h | h | h | h
        · exact .inl h
        · exact .inr (.inl h)
        · exact .inr (.inr (.inl h))
        · cases h))
      have := uniq (r := U' ++ [t]) (r' := U ++ [t]) (x := s) (t := t) (by rw [eU'] at c1; exact c1) p1 (by rw [eU'] at c2; exact c2) p2 (by rw [eU'] at c4; exact c4) (by rw [← List.cons_append, List.getLast?_concat])
        (fun q hq => by have := allL_rev (chain_left hp q (q1 q hq)); rw [eU'] at this; exact this) (fun q hq => (lf q (chain_sub (by rw [eU']; exact hq))).1)
      exact List.append_cancel_right this
    -- the row down
    have hpd : (order S).reverse.Pairwise (fun a b => ltp b a) := List.pairwise_reverse.mpr hp
    obtain ⟨d1, d2, d3, d4⟩ := chain_mem_ends_dn hpd (s := t) (t := s) (by rw [List.head?_reverse]; exact hl) (by rw [List.getLast?_reverse]; exact hh)
    obtain ⟨V', eV'⟩ := ends_split d3 d4 hne.symm
    have eV : V' = V := by
      have q1 : ∀ q ∈ t :: V ++ [s], q ∈ (order S).reverse := fun q hq => List.mem_reverse.mpr (mem_order.mpr (sub q (by
        simp only [List.cons_append, List.mem_cons, List.mem_append] at hq ⊢
        rcases hq with h | h | h | h
        · exact .inr (.inr (.inl h))
        · exact .inr (.inr (.inr h))
        · exact .inl h
        · cases h)))
      have := uniq_dn (r := V' ++ [s]) (r' := V ++ [s]) (x := t) (t := s) (by rw [eV'] at d1; exact d1) p3 (by rw [eV'] at d2; exact d2) p4 (by rw [eV'] at d4; exact d4) (by rw [← List.cons_append, List.getLast?_concat])
        (fun q hq => by have := chain_left_dn hpd q (q1 q hq); rw [eV'] at this; exact this) (fun q hq => (lf q (List.mem_reverse.mp (chain_sub (by rw [eV']; exact hq)))).2)
      exact List.append_cancel_right this
    unfold hull
    rw [if_neg hlen, eU', eV', eU, eV, List.dropLast_concat, List.dropLast_concat]
/-- all points lie in their hull -/
theorem hull_left {S : List Pt} (h : 1 < (order S).length) : ∀ q ∈ S, AllF q (hull S ++ [at_ (hull S) 0]) := by
  intro q hq
  obtain ⟨s, t, U, V, e, hne, hh, hl, eU, eV, _⟩ := hull_parts h
  have hp := order_pw S
  have a1 := allL_rev (chain_left hp q (mem_order.mpr hq))
  have a2 := chain_left_dn (List.pairwise_reverse.mpr hp) q (List.mem_reverse.mpr (mem_order.mpr hq))
  rw [eU] at a1
  rw [eV] at a2
  rw [e, show at_ (s :: U ++ t :: V) 0 = s from rfl, List.append_assoc, List.cons_append (as := V), allF_append]
  exact ⟨a1, a2⟩
theorem order_ext {S T : List Pt} (h : ∀ x, x ∈ S ↔ x ∈ T) : order S = order T := by
  have key : ∀ (l m : List Pt), l.Pairwise ltp → m.Pairwise ltp → (∀ x, x ∈ l ↔ x ∈ m) → l = m := by
    intro l
    induction l with
    | nil =>
      intro m _ _ h
      cases m with
      | nil => rfl
      | cons a m => exact absurd ((h a).mpr List.mem_cons_self) (fun z => nomatch z)
    | cons a l ih =>
      intro m h1 h2 h
      cases m with
      | nil => exact absurd ((h a).mp List.mem_cons_self) (fun z => nomatch z)
      | cons b m =>
        have p1 := List.pairwise_cons.mp h1
        have p2 := List.pairwise_cons.mp h2
        have e : a = b := by
          rcases List.mem_cons.mp ((h a).mp List.mem_cons_self) with e | e
          · exact e
          · rcases List.mem_cons.mp ((h b).mpr List.mem_cons_self) with e2 | e2
            · exact e2.symm
            · exact absurd (btw_self a) (ltp_ne (ltp_trans (p1.1 b e2) (p2.1 a e))).1
        subst e
        rw [ih m p1.2 p2.2 fun x => ?_]
        have hx := h x
        rw [List.mem_cons, List.mem_cons] at hx
        constructor
        · intro z
          rcases hx.mp (.inr z) with e | e
          · subst e
            exact absurd (btw_self x) (ltp_ne (p1.1 x z)).1
          · exact e
        · intro z
          rcases hx.mpr (.inr z) with e | e
          · subst e
            exact absurd (btw_self x) (ltp_ne (p2.1 x z)).1
          · exact e
  refine key _ _ (order_pw S) (order_pw T) fun x => ?_
  rw [mem_order, mem_order]
  exact h x
theorem hull_ext {S T : List Pt} (h : ∀ x, x ∈ S ↔ x ∈ T) : hull S = hull T := by
  unfold hull
  rw [order_ext h]
end Rm

/-! # What lies in a shape reaches no farther than its corners -/
namespace Rm
/-- rows of arrows in order fall apart at any arrow -/
theorem filter_split {w : Pt} (nw : w ≠ pt0) : ∀ {A : List Pt}, A.Pairwise Ah → pt0 ∉ A → ∃ F G, A = F ++ G ∧ (∀ a ∈ F, Ah a w) ∧ (∀ a ∈ G, ¬ Ah a w) ∧ A.filter (fun a => ahead a w) = F
  | [], _, _ => ⟨[], [], rfl, (fun _ h => nomatch h), (fun _ h => nomatch h), rfl⟩
  | a :: A, h, n => by
    have hp := List.pairwise_cons.mp h
    have na : a ≠ pt0 := fun z => n (by rw [z]; exact List.mem_cons_self)
    obtain ⟨F, G, e, h1, h2, h3⟩ := filter_split nw hp.2 (fun z => n (List.mem_cons_of_mem _ z))
    by_cases k : Ah a w
    · refine ⟨a :: F, G, by rw [e] <;> rfl, fun x hx => ?_, h2, ?_⟩
      · rcases List.mem_cons.mp hx with rfl | hx
        · exact k
        · exact h1 x hx
      · rw [List.filter_cons, if_pos k, h3]
    · have all : ∀ x ∈ A, ¬ Ah x w := fun x hx z => k (ah_trans na (fun z2 => n (by rw [← z2]; exact List.mem_cons_of_mem _ hx)) nw (hp.1 x hx) z)
      refine ⟨[], a :: A, rfl, (fun _ h => nomatch h), fun x hx => ?_, ?_⟩
      · rcases List.mem_cons.mp hx with rfl | hx
        · exact k
        · exact all x hx
      · rw [List.filter_cons, if_neg k, List.filter_eq_nil_iff]
        exact fun x hx => all x hx
def gs (w : Pt) (A : List Pt) : Pt := sumP (A.filter fun a => ahead a w)
theorem cross_sum_neg {l : List Pt} {w : Pt} (h : ∀ a ∈ l, cross a w ≤ 0) : cross (sumP l) w ≤ 0 := by
  have := cross_sum_pos (l := l) (w := neg w) fun a ha => by
    rw [cross_neg_right]
    have := h a ha
    omega
  rw [cross_neg_right] at this
  omega
/-- the sum of the arrows ahead of w is the farthest of all sums of first ones -/
theorem psm {A X Y : List Pt} (h : Ang A) (e : A = X ++ Y) {w : Pt} (nw : w ≠ pt0) : cross (sumP X) w ≤ cross (gs w A) w := by
  obtain ⟨F, G, e1, hF, hG, e2⟩ := filter_split nw h.pw h.nz
  unfold gs
  rw [e2]
  have hs := h.sm
  have hp := h.pw
  have hn := h.nz
  have cw : ∀ (P Q R : List Pt), sumP (P ++ (Q ++ R)) = pt0 → cross (sumP Q) w = - cross (sumP P) w - cross (sumP R) w := by
    intro P Q R z
    rw [sumP_append, sumP_append] at z
    have := cross_zero w
    rw [← z, cross_addl, cross_addl] at this
    omega
  rcases List.append_eq_append_iff.mp (e.symm.trans e1) with ⟨D, d1, d2⟩ | ⟨D, d1, d2⟩
  · -- F = X ++ D
    have hx : cross (sumP F) w = cross (sumP X) w + cross (sumP D) w := by rw [d1, sumP_append, cross_addl]
    suffices hD : 0 ≤ cross (sumP D) w by omega
    rw [e1, d1, List.append_assoc] at hs hp
    rw [e1, d1, List.append_assoc] at hn
    by_cases hall : ∀ a ∈ D, 0 ≤ cross a w
    · exact cross_sum_pos hall
    · obtain ⟨d, hd, hd2⟩ : ∃ d ∈ D, cross d w < 0 := by
        apply Classical.byContradiction
        intro z
        exact hall fun a ha => by
          rcases Int.lt_or_le (cross a w) 0 with h1 | h1
          · exact absurd ⟨a, ha, h1⟩ z
          · exact h1
      have hdw := hF d (by rw [d1]; exact List.mem_append_right _ hd)
      have hh : half d = false ∧ half w = true := by
        rcases ah_iff.mp hdw with z | ⟨_, z⟩
        · exact z
        · omega
      have ud : Up d := up_of hh.1 (fun z => hn (by rw [← z]; simp [hd]))
      have uw := down_of hh.2
      have p1 := List.pairwise_append.mp hp
      have x1 : ∀ x ∈ X, cross x w ≤ 0 := fun x hx => by
        have nx : x ≠ pt0 := fun z => hn (by rw [← z]; simp [hx])
        have hxd := p1.2.2 x hx d (List.mem_append_left _ hd)
        rcases ah_iff.mp hxd with ⟨_, z⟩ | ⟨z1, z2⟩
        · rw [hh.1] at z
          cases z
        · have := up_trans_l ud (up_of (z1.trans hh.1) nx) uw z2 (by rw [cross_neg_right]; omega)
          rw [cross_neg_right] at this
          omega
      have g1 : ∀ x ∈ G, cross x w ≤ 0 := fun x hx => by
        have := hG x hx
        rw [ah_iff] at this
        rcases Int.lt_or_le 0 (cross x w) with z | z
        · refine absurd ?_ this
          cases hxh : half x with
          | false => exact .inl ⟨rfl, hh.2⟩
          | true => exact .inr ⟨hh.2.symm, z⟩
        · exact z
      rw [cw X D G hs]
      have := cross_sum_neg x1
      have := cross_sum_neg g1
      omega
  · -- X = F ++ D
    have hx : cross (sumP X) w = cross (sumP F) w + cross (sumP D) w := by rw [d1, sumP_append, cross_addl]
    suffices hD : cross (sumP D) w ≤ 0 by omega
    rw [e, d1, List.append_assoc] at hs hp
    rw [e, d1, List.append_assoc] at hn
    by_cases hall : ∀ a ∈ D, cross a w ≤ 0
    · exact cross_sum_neg hall
    · obtain ⟨d, hd, hd2⟩ : ∃ d ∈ D, 0 < cross d w := by
        apply Classical.byContradiction
        intro z
        exact hall fun a ha => by
          rcases Int.lt_or_le 0 (cross a w) with h1 | h1
          · exact absurd ⟨a, ha, h1⟩ z
          · exact h1
      have hdw := hG d (by rw [d2]; exact List.mem_append_left _ hd)
      rw [ah_iff] at hdw
      have hh : half w = false ∧ half d = true := by
        cases h1 : half d <;> cases h2 : half w <;> rw [h1, h2] at hdw <;> simp at hdw ⊢ <;> omega
      have uw : Up w := up_of hh.1 nw
      have ud := down_of hh.2
      have p1 := List.pairwise_append.mp hp
      have p2 := List.pairwise_append.mp p1.2.1
      have y1 : ∀ y ∈ Y, 0 ≤ cross y w := fun y hy => by
        have hdy := p2.2.2 d hd y hy
        rcases ah_iff.mp hdy with ⟨z, _⟩ | ⟨z1, z2⟩
        · rw [hh.2] at z
          cases z
        · have := up_trans_l ud uw (down_of (z1.symm.trans hh.2)) (by rw [cross_neg_right, cross_swap]; omega) (by rw [cross_neg_neg]; exact Int.le_of_lt z2)
          rw [cross_neg_right, cross_swap] at this
          omega
      have f1 : ∀ x ∈ F, 0 ≤ cross x w := fun x hx => by
        rcases ah_iff.mp (hF x hx) with ⟨_, z⟩ | ⟨_, z⟩
        · rw [hh.1] at z
          cases z
        · exact Int.le_of_lt z
      rw [cw F D Y hs]
      have := cross_sum_pos f1
      have := cross_sum_pos y1
      omega
/-- at an arrow of the row itself -/
theorem gs_at {A X Y : List Pt} {a : Pt} (h : Ang A) (e : A = X ++ a :: Y) : gs a A = sumP X := by
  unfold gs
  have hp := h.pw
  have hn := h.nz
  rw [e] at hp hn ⊢
  have p1 := List.pairwise_append.mp hp
  have p2 := List.pairwise_cons.mp p1.2.1
  have n1 : ∀ x, x = a ∨ x ∈ Y → ¬ Ah x a := fun x hx z => by
    have zz : ∀ x, Ah x x → False := fun x z => by
      rcases ah_iff.mp z with ⟨z1, z2⟩ | ⟨_, z⟩
      · rw [z1] at z2
        cases z2
      · rw [cross_self] at z
        omega
    have na : a ≠ pt0 := fun z => hn (by rw [← z]; simp)
    rcases hx with rfl | hx
    · exact zz x z
    · have nx : x ≠ pt0 := fun z => hn (by rw [← z]; simp [hx])
      exact zz a (ah_trans na nx na (p2.1 x hx) z)
  congr 1
  rw [List.filter_append, List.filter_eq_self.mpr (fun x hx => p1.2.2 x hx a List.mem_cons_self), List.filter_eq_nil_iff.mpr, List.append_nil]
  intro x hx
  exact n1 x (List.mem_cons.mp hx)
theorem take_sum {A : List Pt} {k : Nat} (h : k < A.length) : sumP (A.take (k + 1)) = addp (sumP (A.take k)) (at_ A k) := by
  rw [List.take_add_one, at_get h, sumP_append]
  show addp _ (addp (at_ A k) pt0) = _
  rw [addp_zero]
theorem vertex {c : List Pt} (h : 2 ≤ c.length) : ∀ k, k < c.length → at_ c k = addp (at_ c 0) (sumP ((sidesBy c).take k))
  | 0, _ => (addp_zero _).symm
  | k + 1, hk => by
    have hl : (sidesBy c).length = c.length := by rw [sides_len, if_neg (by omega)]
    rw [take_sum (by omega), ← addp_assoc, ← vertex h k (by omega), sides_at h (by omega), Nat.mod_eq_of_lt hk]
    unfold addp btw
    ext <;> simp only <;> omega
/-- within all half planes of the sides -/
def Inn (c : List Pt) (q : Pt) : Prop := ∀ k, k < c.length → Lf (at_ c k) (at_ c ((k + 1) % c.length)) q
theorem inn_iff {c : List Pt} (h : c ≠ []) (q : Pt) : Inn c q ↔ AllF q (c ++ [at_ c 0]) := by
  have hc : 0 < c.length := List.length_pos_iff.mpr h
  have e : ∀ k, k < c.length → at_ (c ++ [at_ c 0]) k = at_ c k ∧ at_ (c ++ [at_ c 0]) (k + 1) = at_ c ((k + 1) % c.length) := fun k hk => by
    refine ⟨at_append hk, ?_⟩
    by_cases h2 : k + 1 < c.length
    · rw [at_append h2, Nat.mod_eq_of_lt h2]
    · have e : k + 1 = c.length := by omega
      rw [e, Nat.mod_self]
      have := at_append_right c [at_ c 0] 0
      rw [Nat.add_zero] at this
      rw [this]
      rfl
  unfold Inn AllF
  constructor
  · intro k1 k hk
    rw [List.length_append, List.length_singleton] at hk
    obtain ⟨e1, e2⟩ := e k (by omega)
    rw [e1, e2]
    exact k1 k (by omega)
  · intro k1 k hk
    have := k1 k (by rw [List.length_append, List.length_singleton]; omega)
    obtain ⟨e1, e2⟩ := e k hk
    rw [e1, e2] at this
    exact this
/-- all corners lie left of all sides -/
theorem own_inn {c : List Pt} (h : IsShape c) : ∀ j, j < c.length → Inn c (at_ c j) := by
  intro j hj k hk
  by_cases h2 : c.length < 2
  · have e1 : k = 0 := by omega
    have e2 : j = 0 := by omega
    rw [e1, e2]
    exact lf_a _ _
  · have hl : (sidesBy c).length = c.length := by rw [sides_len, if_neg h2]
    have hA := h.ang
    have e : sidesBy c = (sidesBy c).take k ++ at_ (sidesBy c) k :: (sidesBy c).drop (k + 1) := by
      have hg : (sidesBy c)[k]'(by omega) = at_ (sidesBy c) k := by
        unfold at_
        rw [List.getD_eq_getElem?_getD, List.getElem?_eq_getElem (by omega)] <;> rfl
      rw [← hg, ← List.drop_eq_getElem_cons (by omega), List.take_append_drop]
    have na : at_ (sidesBy c) k ≠ pt0 := fun z => hA.nz (by rw [← z]; exact at_mem (by omega))
    have h1 := psm hA (X := (sidesBy c).take j) (Y := (sidesBy c).drop j) (List.take_append_drop ..).symm na
    rw [gs_at hA e] at h1
    unfold Lf
    rw [← sides_at (by omega) hk]
    have e1 : btw (at_ c k) (at_ c j) = addp (sumP ((sidesBy c).take j)) (neg (sumP ((sidesBy c).take k))) := by
      rw [vertex (by omega) k hk, vertex (by omega) j hj]
      unfold btw addp neg
      ext <;> simp only <;> omega
    rw [e1, cross_addr, cross_neg_right, cross_swap, cross_swap (sumP ((sidesBy c).take k))]
    omega
theorem zero_cross {a x y : Pt} (na : a ≠ pt0) (h1 : cross a x = 0) (h2 : cross a y = 0) : cross x y = 0 := by
  have i1 : a.1 * cross x y = y.1 * 0 - x.1 * 0 + (x.1 * cross a y - y.1 * cross a x) := by
    unfold cross
    grind
  have i2 : a.2 * cross x y = x.2 * cross a y - y.2 * cross a x := by
    unfold cross
    grind
  rw [h1, h2] at i1 i2
  simp only [Int.mul_zero, Int.sub_self, Int.add_zero] at i1 i2
  rcases Int.mul_eq_zero.mp i1 with z1 | z
  · rcases Int.mul_eq_zero.mp i2 with z2 | z
    · exact absurd (Prod.ext z1 z2 : a = pt0) na
    · exact z
  · exact z
/-- three corners and more: each turn is one to the left -/
theorem turns {c : List Pt} (h : IsShape c) (h3 : 3 ≤ c.length) {k : Nat} (hk : k < c.length) : 0 < cross (at_ (sidesBy c) k) (at_ (sidesBy c) ((k + 1) % c.length)) := by
  have hl : (sidesBy c).length = c.length := by rw [sides_len, if_neg (by omega)]
  have hA := h.ang
  have hm1 : (k + 1) % c.length < c.length := Nat.mod_lt _ (by omega)
  have hm2 : ((k + 1) % c.length + 1) % c.length < c.length := Nat.mod_lt _ (by omega)
  have s1 := sides_at (c := c) (by omega) hk
  have s2 := sides_at (c := c) (by omega) hm1
  have h1 := own_inn h _ hm2 k hk
  unfold Lf at h1
  have na : at_ (sidesBy c) k ≠ pt0 := fun z => hA.nz (by rw [← z]; exact at_mem (by omega))
  have nb : at_ (sidesBy c) ((k + 1) % c.length) ≠ pt0 := fun z => hA.nz (by rw [← z]; exact at_mem (by omega))
  have e1 : cross (at_ (sidesBy c) k) (at_ (sidesBy c) ((k + 1) % c.length)) = cross (btw (at_ c k) (at_ c ((k + 1) % c.length))) (btw (at_ c k) (at_ c (((k + 1) % c.length + 1) % c.length))) := by
    rw [s1, s2, lf_to]
  rcases Int.lt_or_le 0 (cross (at_ (sidesBy c) k) (at_ (sidesBy c) ((k + 1) % c.length))) with z | z
  · exact z
  exfalso
  have hz : cross (at_ (sidesBy c) k) (at_ (sidesBy c) ((k + 1) % c.length)) = 0 := by omega
  generalize hav : at_ (sidesBy c) k = a at *
  generalize hbv : at_ (sidesBy c) ((k + 1) % c.length) = b at *
  -- every corner lies on the side's line
  have online : ∀ j, j < c.length → cross a (btw (at_ c k) (at_ c j)) = 0 := fun j hj => by
    have q1 := own_inn h j hj k hk
    have q2 := own_inn h j hj _ hm1
    unfold Lf at q1 q2
    rw [← s1] at q1
    rw [← s2] at q2
    have q3 : cross a (btw (at_ c ((k + 1) % c.length)) (at_ c j)) = cross a (btw (at_ c k) (at_ c j)) := by
      rw [s1, lf_to]
    -- b is turned against a
    have hba : ∀ v, 0 ≤ cross a v → 0 ≤ cross b v → cross a v = 0 := by
      intro v v1 v2
      rcases Int.lt_or_le 0 (cross a v) with hv | hv
      · exfalso
        have hne : a ≠ b := fun e => by
          have hi : ∀ i j, i < j → j < c.length → at_ (sidesBy c) i ≠ at_ (sidesBy c) j := fun i j hij hj2 e2 => by
            have := List.pairwise_iff_getElem.mp hA.pw i j (by omega) (by omega) hij
            have g1 : (sidesBy c)[i]'(by omega) = at_ (sidesBy c) i := by
              unfold at_
              rw [List.getD_eq_getElem?_getD, List.getElem?_eq_getElem (by omega)] <;> rfl
            have g2 : (sidesBy c)[j]'(by omega) = at_ (sidesBy c) j := by
              unfold at_
              rw [List.getD_eq_getElem?_getD, List.getElem?_eq_getElem (by omega)] <;> rfl
            rw [g1, g2, e2] at this
            rcases ah_iff.mp this with ⟨z1, z2⟩ | ⟨_, z⟩
            · rw [z1] at z2
              cases z2
            · rw [cross_self] at z
              omega
          by_cases hkk : k + 1 < c.length
          · rw [Nat.mod_eq_of_lt hkk] at hbv
            exact hi k (k + 1) (by omega) hkk (by rw [hav, hbv, e])
          · have e0 : k + 1 = c.length := by omega
            rw [e0, Nat.mod_self] at hbv
            exact hi 0 k (by omega) hk (by rw [hav, hbv, e])
        -- same half is impossible
        have hhalf : half a ≠ half b := by
          intro eh
          have hab : ∀ i j, i < j → j < c.length → half (at_ (sidesBy c) i) = half (at_ (sidesBy c) j) → 0 < cross (at_ (sidesBy c) i) (at_ (sidesBy c) j) := fun i j hij hj2 e2 => by
            have := List.pairwise_iff_getElem.mp hA.pw i j (by omega) (by omega) hij
            have g1 : (sidesBy c)[i]'(by omega) = at_ (sidesBy c) i := by
              unfold at_
              rw [List.getD_eq_getElem?_getD, List.getElem?_eq_getElem (by omega)] <;> rfl
            have g2 : (sidesBy c)[j]'(by omega) = at_ (sidesBy c) j := by
              unfold at_
              rw [List.getD_eq_getElem?_getD, List.getElem?_eq_getElem (by omega)] <;> rfl
            rw [g1, g2] at this
            rcases ah_iff.mp this with ⟨z1, z2⟩ | ⟨_, z⟩
            · rw [z1, z2] at e2
              cases e2
            · exact z
          by_cases hkk : k + 1 < c.length
          · rw [Nat.mod_eq_of_lt hkk] at hbv
            have := hab k (k + 1) (by omega) hkk (by rw [hav, hbv, eh])
            rw [hav, hbv] at this
            omega
          · have e0 : k + 1 = c.length := by omega
            rw [e0, Nat.mod_self] at hbv
            have := hab 0 k (by omega) hk (by rw [hav, hbv, eh])
            rw [hav, hbv, cross_swap] at this
            omega
        -- opposite halves, one line
        have opp : ∀ x y v : Pt, Up x → Up (neg y) → cross x y = 0 → 0 < cross x v → cross y v < 0 := by
          intro x y v ux uy hxy hv
          have i1 : x.2 * cross y v = y.2 * cross x v + v.2 * cross y x := by
            unfold cross
            grind
          have i2 : x.1 * cross y v = y.1 * cross x v + v.1 * cross y x := by
            unfold cross
            grind
          rw [cross_swap x y, hxy] at i1 i2
          simp only [Int.neg_zero, Int.mul_zero, Int.add_zero] at i1 i2
          have c2 : x.1 * y.2 - x.2 * y.1 = 0 := hxy
          rcases Int.lt_or_le (cross y v) 0 with hh | hh
          · exact hh
          · exfalso
            unfold Up neg at uy
            simp only at uy
            rcases ux with ux | ⟨ux0, ux1⟩
            · have m1 := Int.mul_nonneg (Int.le_of_lt ux) hh
              rcases uy with uy | ⟨uy0, uy1⟩
              · have m2 := Int.mul_neg_of_neg_of_pos (show y.2 < 0 by omega) hv
                omega
              · have : y.2 = 0 := by omega
                rw [this, Int.mul_zero] at c2
                have m3 := Int.mul_neg_of_pos_of_neg ux (show y.1 < 0 by omega)
                omega
            · rw [ux0, Int.zero_mul] at c2
              have y2 : y.2 = 0 := by
                rcases Int.mul_eq_zero.mp (show x.1 * y.2 = 0 by omega) with z | z
                · omega
                · exact z
              have m1 := Int.mul_nonneg (Int.le_of_lt ux1) hh
              have m2 := Int.mul_neg_of_neg_of_pos (show y.1 < 0 by omega) hv
              omega
        have : cross b v < 0 := by
          rcases half_cases na with ⟨ha, ua⟩ | ⟨ha, ua⟩ <;> rcases half_cases nb with ⟨hb, ub⟩ | ⟨hb, ub⟩
          · exact absurd (ha.trans hb.symm) hhalf
          · exact opp a b v ua ub hz hv
          · have := opp (neg a) (neg b) (neg v) ua (by rw [neg_neg]; exact ub) (by rw [cross_neg_neg]; exact hz) (by rw [cross_neg_neg]; exact hv)
            rw [cross_neg_neg] at this
            exact this
          · exact absurd (ha.trans hb.symm) hhalf
        omega
      · omega
    rw [← q3] at q1 ⊢
    exact hba _ q1 q2
  -- all arrows are on one line: no more than two
  have par : ∀ i, i < c.length → cross a (at_ (sidesBy c) i) = 0 := fun i hi => by
    have hmi : (i + 1) % c.length < c.length := Nat.mod_lt _ (by omega)
    have o1 := online i hi
    have o2 := online _ hmi
    rw [sides_at (by omega) hi]
    have : btw (at_ c i) (at_ c ((i + 1) % c.length)) = addp (btw (at_ c k) (at_ c ((i + 1) % c.length))) (neg (btw (at_ c k) (at_ c i))) := by
      unfold btw addp neg
      ext <;> simp only <;> omega
    rw [this, cross_addr, cross_neg_right, o1, o2]
    rfl
  have clash : ∀ i j, i < j → j < c.length → half (at_ (sidesBy c) i) ≠ half (at_ (sidesBy c) j) := fun i j hij hj2 e2 => by
    have := List.pairwise_iff_getElem.mp hA.pw i j (by omega) (by omega) hij
    have g1 : (sidesBy c)[i]'(by omega) = at_ (sidesBy c) i := by
      unfold at_
      rw [List.getD_eq_getElem?_getD, List.getElem?_eq_getElem (by omega)] <;> rfl
    have g2 : (sidesBy c)[j]'(by omega) = at_ (sidesBy c) j := by
      unfold at_
      rw [List.getD_eq_getElem?_getD, List.getElem?_eq_getElem (by omega)] <;> rfl
    rw [g1, g2] at this
    rcases ah_iff.mp this with ⟨z1, z2⟩ | ⟨_, z⟩
    · rw [z1, z2] at e2
      cases e2
    · have := zero_cross na (par i (by omega)) (par j (by omega))
      omega
  have k1 := clash 0 1 (by omega) (by omega)
  have k2 := clash 0 2 (by omega) (by omega)
  have k3 := clash 1 2 (by omega) (by omega)
  cases h0 : half (at_ (sidesBy c) 0) <;> cases h1' : half (at_ (sidesBy c) 1) <;> cases h2' : half (at_ (sidesBy c) 2) <;> rw [h0, h1'] at k1 <;> rw [h0, h2'] at k2 <;> rw [h1', h2'] at k3 <;> simp at k1 k2 k3
/-! ## the farthest corner -/
theorem far_corner (f : Pt → Int) : ∀ {c : List Pt}, c ≠ [] → ∃ k, k < c.length ∧ ∀ x ∈ c, f x ≤ f (at_ c k)
  | [], h => absurd rfl h
  | [a], _ => ⟨0, by simp, fun x hx => by rw [List.mem_singleton.mp hx]; exact Int.le_refl _⟩
  | a :: b :: r, _ => by
    obtain ⟨k, hk, h⟩ := far_corner f (c := b :: r) (List.cons_ne_nil _ _)
    rcases Int.lt_or_le (f a) (f (at_ (b :: r) k)) with z | z
    · refine ⟨k + 1, by simp at hk ⊢; omega, fun x hx => ?_⟩
      rw [at_cons]
      rcases List.mem_cons.mp hx with rfl | hx
      · omega
      · exact h x hx
    · refine ⟨0, by simp, fun x hx => ?_⟩
      rw [at_zero]
      rcases List.mem_cons.mp hx with rfl | hx
      · exact Int.le_refl _
      · have := h x hx
        omega
theorem dual {c : List Pt} (h : IsShape c) (h3 : 3 ≤ c.length) {q : Pt} (hq : Inn c q) (w : Pt) : ∃ x ∈ c, cross q w ≤ cross x w := by
  obtain ⟨k, hk, hmax⟩ := far_corner (fun x => cross x w) h.1
  refine ⟨at_ c k, at_mem hk, ?_⟩
  -- the side into the corner
  obtain ⟨i, hi, hik⟩ : ∃ i, i < c.length ∧ (i + 1) % c.length = k := by
    by_cases h0 : k = 0
    · exact ⟨c.length - 1, by omega, by rw [h0, show c.length - 1 + 1 = c.length by omega, Nat.mod_self]⟩
    · exact ⟨k - 1, by omega, by rw [show k - 1 + 1 = k by omega, Nat.mod_eq_of_lt hk]⟩
  have ht := turns h h3 hi
  rw [hik] at ht
  have s1 := sides_at (c := c) (by omega) hi
  have s2 := sides_at (c := c) (by omega) hk
  rw [hik] at s1
  have a1 := hq i hi
  have a2 := hq k hk
  unfold Lf at a1 a2
  rw [hik, ← s1] at a1
  rw [← s2] at a2
  have m1 := hmax _ (at_mem hi)
  have m2 := hmax _ (at_mem (Nat.mod_lt (k + 1) (show 0 < c.length by omega)))
  generalize at_ (sidesBy c) i = a at *
  generalize at_ (sidesBy c) k = b at *
  -- q - corner
  have b1 : 0 ≤ cross a (btw (at_ c k) q) := by
    have : cross a (btw (at_ c k) q) = cross a (btw (at_ c i) q) := by
      rw [s1, lf_to]
    omega
  have c1 : 0 ≤ cross a w := by
    have : cross a w = cross (at_ c k) w - cross (at_ c i) w := by
      rw [s1]
      unfold cross btw
      grind
    omega
  have c2 : 0 ≤ cross w b := by
    have : cross w b = cross (at_ c k) w - cross (at_ c ((k + 1) % c.length)) w := by
      rw [s2]
      unfold cross btw
      grind
    omega
  have id1 : cross a b * cross w (btw (at_ c k) q) = cross w b * cross a (btw (at_ c k) q) + cross a w * cross b (btw (at_ c k) q) := by
    generalize btw (at_ c k) q = z
    unfold cross
    grind
  have p1 := Int.mul_nonneg c2 b1
  have p2 := Int.mul_nonneg c1 a2
  have := nonneg_of_mul ht (show 0 ≤ cross a b * cross w (btw (at_ c k) q) by omega)
  have e : cross w (btw (at_ c k) q) = cross (at_ c k) w - cross q w := by
    unfold cross btw
    grind
  omega
end Rm

/-! # holds and in: the program's look and the law's -/
namespace Rm
/-- on a stick -/
theorem stick {s t q : Pt} (hst : ltp s t) (h1 : Inn [s, t] q) (h2 : Le s q) (h3 : Le q t) (w : Pt) : cross q w ≤ cross s w ∨ cross q w ≤ cross t w := by
  have a1 := h1 0 (by simp)
  have a2 : Lf t s q := by
    have := h1 1 (by simp)
    rw [show (1 + 1) % [s, t].length = 0 from Nat.mod_self 2] at this
    exact this
  have l1 : 0 ≤ cross (btw s t) (btw s q) := a1
  have l2 : 0 ≤ cross (btw t s) (btw t q) := a2
  have l3 : cross (btw s t) (btw s q) = 0 := by
    have : cross (btw t s) (btw t q) = - cross (btw s t) (btw s q) := by
      unfold cross btw
      grind
    omega
  have lin : ∀ d e : Pt, Up d → Up e → cross d e = 0 → (0 ≤ cross d w → 0 ≤ cross e w) ∧ (cross d w ≤ 0 → cross e w ≤ 0) := by
    intro d e ud ue hde
    have i1 : d.2 * cross e w = e.2 * cross d w + w.2 * cross e d := by
      unfold cross
      grind
    have i2 : d.1 * cross e w = e.1 * cross d w + w.1 * cross e d := by
      unfold cross
      grind
    rw [cross_swap d e, hde] at i1 i2
    simp only [Int.neg_zero, Int.mul_zero, Int.add_zero] at i1 i2
    have hc : d.1 * e.2 - d.2 * e.1 = 0 := hde
    have e2 : 0 ≤ e.2 := by unfold Up at ue; omega
    rcases ud with ud | ⟨ud0, ud1⟩
    · refine ⟨fun h => ?_, fun h => ?_⟩
      · have := Int.mul_nonneg e2 h
        exact nonneg_of_mul ud (by omega)
      · have := Int.mul_nonneg e2 (show 0 ≤ -cross d w by omega)
        rw [Int.mul_neg] at this
        have := nonneg_of_mul ud (show 0 ≤ d.2 * -cross e w by rw [Int.mul_neg]; omega)
        omega
    · rw [ud0, Int.zero_mul] at hc
      have ez : e.2 = 0 := by
        rcases Int.mul_eq_zero.mp (show d.1 * e.2 = 0 by omega) with z | z
        · omega
        · exact z
      have e1 : 0 ≤ e.1 := by unfold Up at ue; omega
      refine ⟨fun h => ?_, fun h => ?_⟩
      · have := Int.mul_nonneg e1 h
        exact nonneg_of_mul ud1 (by omega)
      · have := Int.mul_nonneg e1 (show 0 ≤ -cross d w by omega)
        rw [Int.mul_neg] at this
        have := nonneg_of_mul ud1 (show 0 ≤ d.1 * -cross e w by rw [Int.mul_neg]; omega)
        omega
  have d1 : cross (btw s q) w = cross q w - cross s w := by
    unfold cross btw
    grind
  have d2 : cross (btw q t) w = cross t w - cross q w := by
    unfold cross btw
    grind
  rcases h2 with rfl | h2
  · exact .inl (Int.le_refl _)
  · rcases h3 with rfl | h3
    · exact .inr (Int.le_refl _)
    · have k1 := lin _ _ (ltp_up hst) (ltp_up h2) l3
      have k2 := lin _ _ (ltp_up hst) (ltp_up h3) (by
        have : cross (btw s t) (btw q t) = - cross (btw s t) (btw s q) := by
          unfold cross btw
          grind
        omega)
      rcases Int.lt_or_le (cross (btw s t) w) 0 with z | z
      · have := k1.2 (by omega)
        left
        omega
      · have := k2.1 z
        right
        omega
/-- what the program's holds looks at -/
def holdsP (c : List Pt) (q : Pt) : Prop := (c.length = 1 ∧ at_ c 0 = q) ∨ (c.length ≠ 1 ∧ Inn c q ∧ (2 < c.length ∨ Le (at_ c 0) q ∧ Le q (at_ c 1)))
theorem stick_ltp {c : List Pt} (h : IsShape c) (h2 : c.length = 2) : ltp (at_ c 0) (at_ c 1) := by
  have hl : (sidesBy c).length = c.length := by rw [sides_len, if_neg (by omega)]
  have h0 : 0 < (sidesBy c).length := by omega
  have := h.2.1 (fun z => by rw [z] at h0; simp at h0)
  have nz : at_ (sidesBy c) 0 ≠ pt0 := fun z => h.2.2.2 (by rw [← z]; exact at_mem h0)
  have u := up_of this nz
  rw [sides_at (by omega) (by omega), h2] at u
  exact up_ltp u
theorem holds_far {c : List Pt} (h : IsShape c) {q : Pt} (hq : holdsP c q) (w : Pt) : ∃ x ∈ c, cross q w ≤ cross x w := by
  have hc : 0 < c.length := List.length_pos_iff.mpr h.1
  rcases hq with ⟨h1, h2⟩ | ⟨h1, h2, h3⟩
  · exact ⟨at_ c 0, at_mem hc, by rw [h2]; exact Int.le_refl _⟩
  · by_cases h4 : 3 ≤ c.length
    · exact dual h h4 h2 w
    · have h5 : c.length = 2 := by omega
      have hs := stick_ltp h h5
      have k1 : Le (at_ c 0) q ∧ Le q (at_ c 1) := by
        rcases h3 with z | z
        · omega
        · exact z
      have e : c = [at_ c 0, at_ c 1] := by
        match c, h5 with
        | [a, b], _ => rfl
      have hi : Inn [at_ c 0, at_ c 1] q := e ▸ h2
      rcases stick hs hi k1.1 k1.2 w with z | z
      · exact ⟨at_ c 0, at_mem (by omega), z⟩
      · exact ⟨at_ c 1, at_mem (by omega), z⟩
/-- within the box -/
def Box (c : List Pt) (q : Pt) : Prop := ((∃ x ∈ c, x.1 ≤ q.1) ∧ ∃ x ∈ c, q.1 ≤ x.1) ∧ (∃ x ∈ c, x.2 ≤ q.2) ∧ ∃ x ∈ c, q.2 ≤ x.2
theorem holds_box {c : List Pt} (h : IsShape c) {q : Pt} (hq : holdsP c q) : Box c q := by
  obtain ⟨x1, m1, l1⟩ := holds_far h hq (0, 1)
  obtain ⟨x2, m2, l2⟩ := holds_far h hq (0, -1)
  obtain ⟨x3, m3, l3⟩ := holds_far h hq (1, 0)
  obtain ⟨x4, m4, l4⟩ := holds_far h hq (-1, 0)
  unfold cross at l1 l2 l3 l4
  simp only at l1 l2 l3 l4
  refine ⟨⟨⟨x2, m2, by omega⟩, x1, m1, by omega⟩, ⟨x3, m3, by omega⟩, x4, m4, by omega⟩
theorem holds_iff {c : List Pt} (h : IsShape c) (q : Pt) (h1 : c.length ≠ 1) : holdsP c q ↔ Inn c q ∧ Box c q := by
  have hc : 0 < c.length := List.length_pos_iff.mpr h.1
  constructor
  · intro hq
    refine ⟨?_, holds_box h hq⟩
    rcases hq with ⟨z, _⟩ | ⟨_, z, _⟩
    · exact absurd z h1
    · exact z
  · rintro ⟨k1, k2⟩
    refine .inr ⟨h1, k1, ?_⟩
    by_cases h3 : 2 < c.length
    · exact .inl h3
    · right
      have h5 : c.length = 2 := by omega
      have hs := stick_ltp h h5
      have e : c = [at_ c 0, at_ c 1] := by
        match c, h5 with
        | [a, b], _ => rfl
      rw [e] at k1 k2
      generalize at_ c 0 = s at *
      generalize at_ c 1 = t at *
      have a1 : 0 ≤ cross (btw s t) (btw s q) := k1 0 (by simp)
      have a2 : 0 ≤ cross (btw t s) (btw t q) := by
        have := k1 1 (by simp)
        rw [show (1 + 1) % [s, t].length = 0 from Nat.mod_self 2] at this
        exact this
      have l3 : (t.1 - s.1) * (q.2 - s.2) = (t.2 - s.2) * (q.1 - s.1) := by
        have e1 : cross (btw t s) (btw t q) = - cross (btw s t) (btw s q) := by
          unfold cross btw
          grind
        have e2 : cross (btw s t) (btw s q) = (t.1 - s.1) * (q.2 - s.2) - (t.2 - s.2) * (q.1 - s.1) := rfl
        omega
      unfold Box at k2
      simp only [List.mem_cons, List.not_mem_nil, or_false, exists_eq_or_imp, exists_eq_left] at k2
      have key : ∀ a b : Pt, Le a b ↔ a.2 < b.2 ∨ a.2 = b.2 ∧ a.1 ≤ b.1 := by
        intro a b
        unfold Le ltp lexlt swap
        simp only [Prod.ext_iff]
        omega
      rw [key, key]
      unfold ltp lexlt swap at hs
      simp only at hs
      rcases hs with hs | ⟨hs1, hs2⟩
      · -- going up
        have u1 : s.2 ≤ q.2 ∧ q.2 ≤ t.2 := by omega
        constructor
        · by_cases z : s.2 = q.2
          · right
            have : (t.2 - s.2) * (q.1 - s.1) = 0 := by rw [← l3, z, Int.sub_self, Int.mul_zero]
            rcases Int.mul_eq_zero.mp this with z2 | z2 <;> omega
          · left
            omega
        · by_cases z : q.2 = t.2
          · right
            have : (t.2 - s.2) * (q.1 - t.1) = 0 := by
              rw [z] at l3
              grind
            rcases Int.mul_eq_zero.mp this with z2 | z2 <;> omega
          · left
            omega
      · omega
/-! the greatest of numbers -/
def maxL : List Int → Int
  | [] => 0
  | [a] => a
  | a :: b :: r => if a ≤ maxL (b :: r) then maxL (b :: r) else a
def minL : List Int → Int
  | [] => 0
  | [a] => a
  | a :: b :: r => if minL (b :: r) ≤ a then minL (b :: r) else a
theorem maxL_ok : ∀ {l : List Int}, l ≠ [] → maxL l ∈ l ∧ ∀ y ∈ l, y ≤ maxL l
  | [], h => absurd rfl h
  | [a], _ => ⟨List.mem_singleton.mpr rfl, fun y hy => by rw [List.mem_singleton.mp hy]; exact Int.le_refl _⟩
  | a :: b :: r, _ => by
    obtain ⟨h1, h2⟩ := maxL_ok (l := b :: r) (List.cons_ne_nil _ _)
    show (if a ≤ maxL (b :: r) then maxL (b :: r) else a) ∈ _ ∧ ∀ y ∈ _, y ≤ (if a ≤ maxL (b :: r) then maxL (b :: r) else a)
    split
    · refine ⟨List.mem_cons_of_mem _ h1, fun y hy => ?_⟩
      rcases List.mem_cons.mp hy with rfl | hy
      · assumption
      · exact h2 y hy
    · refine ⟨List.mem_cons_self, fun y hy => ?_⟩
      rcases List.mem_cons.mp hy with rfl | hy
      · exact Int.le_refl _
      · have := h2 y hy
        omega
theorem minL_ok : ∀ {l : List Int}, l ≠ [] → minL l ∈ l ∧ ∀ y ∈ l, minL l ≤ y
  | [], h => absurd rfl h
  | [a], _ => ⟨List.mem_singleton.mpr rfl, fun y hy => by rw [List.mem_singleton.mp hy]; exact Int.le_refl _⟩
  | a :: b :: r, _ => by
    obtain ⟨h1, h2⟩ := minL_ok (l := b :: r) (List.cons_ne_nil _ _)
    show (if minL (b :: r) ≤ a then minL (b :: r) else a) ∈ _ ∧ ∀ y ∈ _, (if minL (b :: r) ≤ a then minL (b :: r) else a) ≤ y
    split
    · refine ⟨List.mem_cons_of_mem _ h1, fun y hy => ?_⟩
      rcases List.mem_cons.mp hy with rfl | hy
      · assumption
      · exact h2 y hy
    · refine ⟨List.mem_cons_self, fun y hy => ?_⟩
      rcases List.mem_cons.mp hy with rfl | hy
      · exact Int.le_refl _
      · have := h2 y hy
        omega
theorem max_ge {c : List Pt} (h : c ≠ []) (f : Pt → Int) (z : Int) : z ≤ maxL (c.map f) ↔ ∃ x ∈ c, z ≤ f x := by
  have hn : c.map f ≠ [] := fun e => h (List.map_eq_nil_iff.mp e)
  obtain ⟨h1, h2⟩ := maxL_ok hn
  constructor
  · intro hz
    obtain ⟨x, hx, e⟩ := List.mem_map.mp h1
    exact ⟨x, hx, by omega⟩
  · rintro ⟨x, hx, e⟩
    have := h2 (f x) (List.mem_map.mpr ⟨x, hx, rfl⟩)
    omega
theorem min_le {c : List Pt} (h : c ≠ []) (f : Pt → Int) (z : Int) : minL (c.map f) ≤ z ↔ ∃ x ∈ c, f x ≤ z := by
  have hn : c.map f ≠ [] := fun e => h (List.map_eq_nil_iff.mp e)
  obtain ⟨h1, h2⟩ := minL_ok hn
  constructor
  · intro hz
    obtain ⟨x, hx, e⟩ := List.mem_map.mp h1
    exact ⟨x, hx, by omega⟩
  · rintro ⟨x, hx, e⟩
    have := h2 (f x) (List.mem_map.mpr ⟨x, hx, rfl⟩)
    omega
/-- a product of an arrow with a point -/
def dotp (a p : Pt) : Int := a.1 * p.1 + a.2 * p.2
def reachP (c : List Pt) (a : Pt) : Int := maxL (c.map (dotp a))
/-- what is held reaches no farther -/
theorem holds_reach {c : List Pt} (h : IsShape c) {q : Pt} (hq : holdsP c q) (a : Pt) : dotp a q ≤ reachP c a := by
  unfold reachP
  rw [max_ge h.1]
  obtain ⟨x, hx, e⟩ := holds_far h hq (-a.2, a.1)
  refine ⟨x, hx, ?_⟩
  unfold cross at e
  unfold dotp
  simp only at e
  grind
theorem inn_prev {c : List Pt} (q : Pt) : Inn c q ↔ ∀ k, k < c.length → 0 ≤ cross (btw (at_ c (prevI c.length k)) (at_ c k)) (btw (at_ c k) q) := by
  unfold Inn Lf
  constructor
  · intro h k hk
    have hp : prevI c.length k < c.length := by
      unfold prevI
      split <;> omega
    have e : (prevI c.length k + 1) % c.length = k := by
      unfold prevI
      split
      · next z => rw [z, show c.length - 1 + 1 = c.length by omega, Nat.mod_self]
      · rw [show k - 1 + 1 = k by omega, Nat.mod_eq_of_lt hk]
    have := h _ hp
    rw [e] at this
    rw [lf_to]
    exact this
  · intro h k hk
    have hm : (k + 1) % c.length < c.length := Nat.mod_lt _ (by omega)
    have e : prevI c.length ((k + 1) % c.length) = k := by
      by_cases h2 : k + 1 < c.length
      · rw [Nat.mod_eq_of_lt h2]
        unfold prevI
        rw [if_neg (by omega), Nat.add_sub_cancel]
      · have e : k + 1 = c.length := by omega
        rw [e, Nat.mod_self]
        unfold prevI
        rw [if_pos rfl]
        omega
    have := h _ hm
    rw [e, lf_to] at this
    exact this
end Rm

/-! # Two shapes together are a shape -/
namespace Rm
/-- b is not ahead of a -/
abbrev Wk (a b : Pt) : Prop := ¬ Ah b a
/-- the same way -/
def Sd (a b : Pt) : Prop := half a = half b ∧ cross a b = 0
theorem wk_iff {a b : Pt} : Wk a b ↔ Ah a b ∨ Sd a b := by
  unfold Wk Sd
  rw [ah_iff, ah_iff, cross_swap a b]
  cases half a <;> cases half b <;> simp <;> omega
theorem sd_iff {a b : Pt} : Sd a b ↔ (halfI a = halfI b ∧ cross a b = 0) := by
  unfold Sd halfI
  cases half a <;> cases half b <;> simp
theorem wk_total (a b : Pt) : Wk a b ∨ Wk b a := by
  unfold Wk
  rw [ah_iff, ah_iff, cross_swap a b]
  cases half a <;> cases half b <;> simp <;> omega
theorem wk_trans {a b c : Pt} (na : a ≠ pt0) (nb : b ≠ pt0) (nc : c ≠ pt0) (h1 : Wk a b) (h2 : Wk b c) : Wk a c := by
  intro h
  -- c ahead of a, a not behind b ..
  rcases wk_iff.mp h1 with z | z
  · exact h2 (ah_trans nc na nb h z)
  · rcases wk_iff.mp h2 with y | y
    · have := ah_trans nb nc na y h
      exact h1 this
    · unfold Sd at z y
      rw [ah_iff] at h
      have hc : half c = half a := y.1.symm.trans z.1.symm
      rcases h with ⟨w1, w2⟩ | ⟨_, w⟩
      · rw [w1, w2] at hc
        cases hc
      · have := zero_cross nb y.2 (show cross b a = 0 by rw [cross_swap]; omega)
        omega
/-- what is added goes the same way -/
theorem half_add {a b : Pt} (na : a ≠ pt0) (nb : b ≠ pt0) (h : Sd a b) : half (addp a b) = half a ∧ addp a b ≠ pt0 := by
  unfold Sd at h
  rcases half_cases na with ⟨ha, ua⟩ | ⟨ha, ua⟩
  · have ub := up_of (h.1.symm.trans ha) nb
    have : Up (addp a b) := by
      unfold Up addp at *
      simp only
      omega
    rw [ha]
    exact half_up this
  · have ub := down_of (h.1.symm.trans ha)
    have : Up (neg (addp a b)) := by
      unfold Up addp neg at *
      simp only at *
      omega
    rw [ha]
    exact half_down this
theorem sd_add {a b : Pt} (na : a ≠ pt0) (nb : b ≠ pt0) (h : Sd a b) : Sd a (addp a b) := by
  refine ⟨(half_add na nb h).1.symm, ?_⟩
  rw [cross_addr, cross_self, h.2]
  rfl
theorem ah_sd_right {a b c : Pt} (na : a ≠ pt0) (nb : b ≠ pt0) (nc : c ≠ pt0) (h : Ah a b) (k : Sd b c) : Ah a c := by
  have h1 : Wk b c := wk_iff.mpr (.inr k)
  rcases wk_iff.mp (wk_trans na nb nc (wk_iff.mpr (.inl h)) h1) with z | z
  · exact z
  · exfalso
    have k' : Sd c b := ⟨k.1.symm, by rw [cross_swap, k.2]; rfl⟩
    have : Wk b a := wk_trans nb nc na (wk_iff.mpr (.inr k)) (wk_iff.mpr (.inr ⟨z.1.symm, by rw [cross_swap, z.2]; rfl⟩))
    exact this h
theorem wk_sd_left {a b c : Pt} (na : a ≠ pt0) (nb : b ≠ pt0) (nc : c ≠ pt0) (h : Wk a c) (k : Sd a b) : Wk b c :=
  wk_trans nb na nc (wk_iff.mpr (.inr ⟨k.1.symm, by rw [cross_swap, k.2]; rfl⟩)) h
abbrev Nz (l : List Pt) : Prop := ∀ a ∈ l, a ≠ pt0
theorem mergeL_wk : ∀ (n : Nat) (l r : List Pt), l.length + r.length = n → Nz l → Nz r → l.Pairwise Wk → r.Pairwise Wk → (mergeL l r).Pairwise Wk
  | n, [], r, _, _, _, _, h => by
    rw [mergeL_nil]
    exact h
  | n, a :: l, [], _, _, _, h, _ => by
    rw [mergeL_nil']
    exact h
  | 0, a :: l, b :: r, h, _, _, _, _ => by simp at h
  | n + 1, a :: l, b :: r, h, nl, nr, hl, hr => by
    have pl := List.pairwise_cons.mp hl
    have pr := List.pairwise_cons.mp hr
    have na := nl a List.mem_cons_self
    have nb := nr b List.mem_cons_self
    have nl' : Nz l := fun x hx => nl x (List.mem_cons_of_mem _ hx)
    have nr' : Nz r := fun x hx => nr x (List.mem_cons_of_mem _ hx)
    rw [mergeL_cons]
    split
    · next k =>
      have k' : Wk a b := wk_iff.mpr (.inl k)
      refine List.pairwise_cons.mpr ⟨fun x hx => ?_, mergeL_wk n l (b :: r) (by simp at h ⊢; omega) nl' nr pl.2 hr⟩
      rcases (mergeL_mem _ l (b :: r) rfl).mp hx with z | z
      · exact pl.1 x z
      · rcases List.mem_cons.mp z with rfl | z
        · exact k'
        · exact wk_trans na nb (nr' x z) k' (pr.1 x z)
    · next k =>
      have k' : Wk b a := k
      refine List.pairwise_cons.mpr ⟨fun x hx => ?_, mergeL_wk n (a :: l) r (by simp at h ⊢; omega) nl nr' hl pr.2⟩
      rcases (mergeL_mem _ (a :: l) r rfl).mp hx with z | z
      · rcases List.mem_cons.mp z with rfl | z
        · exact k'
        · exact wk_trans nb na (nl' x z) k' (pl.1 x z)
      · exact pr.1 x z
/-- rows pushed stay in order, strictly -/
theorem push_sorted : ∀ (as st : List Pt), Nz as → Nz st → as.Pairwise Wk → st.Pairwise (fun x y => Ah y x) → (∀ t, st.head? = some t → ∀ a ∈ as, Wk t a) → (as.foldl pushR st).Pairwise (fun x y => Ah y x) ∧ Nz (as.foldl pushR st)
  | [], st, _, ns, _, h, _ => ⟨h, ns⟩
  | a :: as, st, na, ns, hp, h, ht => by
    have pa := List.pairwise_cons.mp hp
    have na0 := na a List.mem_cons_self
    have na' : Nz as := fun x hx => na x (List.mem_cons_of_mem _ hx)
    show (as.foldl pushR (pushR st a)).Pairwise (fun x y => Ah y x) ∧ Nz (as.foldl pushR (pushR st a))
    cases st with
    | nil => exact push_sorted as [a] na' (fun x hx => by rw [List.mem_singleton.mp hx]; exact na0) pa.2 (List.pairwise_singleton ..) (fun t e x hx => by cases e; exact pa.1 x hx)
    | cons t r =>
      have pt := List.pairwise_cons.mp h
      have nt := ns t List.mem_cons_self
      have nr : Nz r := fun x hx => ns x (List.mem_cons_of_mem _ hx)
      have e : pushR (t :: r) a = if halfI t = halfI a ∧ cross t a = 0 then addp t a :: r else a :: t :: r := rfl
      rw [e]
      have hta := ht t rfl a List.mem_cons_self
      by_cases k : halfI t = halfI a ∧ cross t a = 0
      · rw [if_pos k]
        have ks := sd_iff.mpr k
        have ka := half_add nt na0 ks
        have kd := sd_add nt na0 ks
        refine push_sorted as (addp t a :: r) na' (fun x hx => ?_) pa.2 (List.pairwise_cons.mpr ⟨fun x hx => ?_, pt.2⟩) (fun u eu x hx => ?_)
        · rcases List.mem_cons.mp hx with rfl | hx
          · exact ka.2
          · exact nr x hx
        · exact ah_sd_right (nr x hx) nt ka.2 (pt.1 x hx) kd
        · cases eu
          exact wk_sd_left nt ka.2 (na' x hx) (ht t rfl x (List.mem_cons_of_mem _ hx)) kd
      · rw [if_neg k]
        have kah : Ah t a := by
          rcases wk_iff.mp hta with z | z
          · exact z
          · exact absurd (sd_iff.mp z) k
        refine push_sorted as (a :: t :: r) na' (fun x hx => ?_) pa.2 (List.pairwise_cons.mpr ⟨fun x hx => ?_, h⟩) (fun u eu x hx => ?_)
        · rcases List.mem_cons.mp hx with rfl | hx
          · exact na0
          · exact ns x hx
        · rcases List.mem_cons.mp hx with rfl | hx
          · exact kah
          · exact ah_trans (nr x hx) nt na0 (pt.1 x hx) kah
        · cases eu
          exact pa.1 x hx
theorem push_sum : ∀ (as st : List Pt), sumP (as.foldl pushR st) = addp (sumP st) (sumP as)
  | [], st => (addp_zero _).symm
  | a :: as, st => by
    show sumP (as.foldl pushR (pushR st a)) = addp (sumP st) (addp a (sumP as))
    rw [push_sum as, ← addp_assoc]
    congr 1
    cases st with
    | nil =>
      show addp a pt0 = addp pt0 a
      rw [addp_comm]
    | cons t r =>
      have e : pushR (t :: r) a = if halfI t = halfI a ∧ cross t a = 0 then addp t a :: r else a :: t :: r := rfl
      rw [e]
      split
      · rw [sumP_cons, sumP_cons, addp_assoc, addp_comm a, ← addp_assoc]
      · rw [sumP_cons, addp_comm]
theorem mergeL_sum : ∀ (n : Nat) (l r : List Pt), l.length + r.length = n → sumP (mergeL l r) = addp (sumP l) (sumP r)
  | n, [], r, _ => by
    rw [mergeL_nil]
    exact (zero_addp _).symm
  | n, a :: l, [], _ => by
    rw [mergeL_nil']
    exact (addp_zero _).symm
  | 0, a :: l, b :: r, h => by simp at h
  | n + 1, a :: l, b :: r, h => by
    rw [mergeL_cons]
    split
    · rw [sumP_cons, mergeL_sum n l (b :: r) (by simp at h ⊢; omega), sumP_cons (l := l), addp_assoc]
    · rw [sumP_cons, mergeL_sum n (a :: l) r (by simp at h ⊢; omega), sumP_cons (l := r), ← addp_assoc, addp_comm b, addp_assoc]
theorem sumP_rev : ∀ l : List Pt, sumP l.reverse = sumP l
  | [] => rfl
  | a :: l => by
    rw [List.reverse_cons, sumP_append, sumP_rev l, sumP_cons, addp_comm]
    show addp (addp a pt0) _ = _
    rw [addp_zero]
    rfl
theorem Ang.nz' {A : List Pt} (h : Ang A) : Nz A := fun a ha z => h.nz (z ▸ ha)
theorem ah_wk {a b : Pt} (na : a ≠ pt0) (h : Ah a b) : Wk a b := wk_iff.mpr (.inl h)
theorem Ang.wk {A : List Pt} (h : Ang A) : A.Pairwise Wk := h.pw.imp fun k => wk_iff.mpr (.inl k)
theorem merged_ang {A B : List Pt} (hA : Ang A) (hB : Ang B) : Ang (Rm.merged A B) := by
  have hn : Nz (mergeL A B) := fun x hx => by
    rcases (mergeL_mem _ A B rfl).mp hx with z | z
    · exact hA.nz' x z
    · exact hB.nz' x z
  obtain ⟨h1, h2⟩ := push_sorted (mergeL A B) [] hn (fun _ h => nomatch h) (mergeL_wk _ A B rfl hA.nz' hB.nz' hA.wk hB.wk) .nil (fun t e => nomatch e)
  refine ⟨?_, ?_, ?_⟩
  · unfold Rm.merged
    rw [List.pairwise_reverse]
    exact h1
  · unfold Rm.merged
    rw [List.mem_reverse]
    exact fun z => h2 _ z rfl
  · unfold Rm.merged
    rw [sumP_rev, push_sum, mergeL_sum _ A B rfl, hA.sm, hB.sm] <;> rfl
/-- a row of arrows that comes to nought begins in the upper half -/
theorem Ang.first {A : List Pt} (h : Ang A) : ∀ a, A.head? = some a → half a = false := by
  intro a ha
  cases A with
  | nil => cases ha
  | cons b A =>
    cases ha
    cases hb : half a with
    | false => rfl
    | true =>
      exfalso
      have hp := List.pairwise_cons.mp h.pw
      have all : ∀ x ∈ (a :: A).map neg, Up x := fun x hx => by
        obtain ⟨y, hy, rfl⟩ := List.mem_map.mp hx
        rcases List.mem_cons.mp hy with rfl | hy
        · exact down_of hb
        · rcases ah_iff.mp (hp.1 y hy) with ⟨z, _⟩ | ⟨z, _⟩
          · rw [hb] at z
            cases z
          · exact down_of (z.symm.trans hb)
      have := half_up (sumP_up all (by simp))
      rw [sumP_neg, h.sm] at this
      exact this.2 rfl
/-- a closed row of arrows is a shape's sides -/
theorem path_sides {M : List Pt} (h : sumP M = pt0) (hn : M.length ≠ 1) (s : Pt) : sidesBy (shapeBy s M) = M ∧ (shapeBy s M).head? = some s ∧ shapeBy s M ≠ [] := by
  have hh : (shapeBy s M).head? = some s := by
    unfold shapeBy
    cases M.dropLast <;> rfl
  refine ⟨?_, hh, fun z => by rw [z] at hh; cases hh⟩
  match M, h, hn with
  | [], _, _ => rfl
  | [a], _, hn => exact absurd rfl hn
  | a :: b :: M, h, _ =>
    obtain ⟨N, x, e⟩ : ∃ N x, a :: b :: M = N ++ [x] := ⟨(a :: b :: M).dropLast, (a :: b :: M).getLast (List.cons_ne_nil _ _), (List.dropLast_concat_getLast _).symm⟩
    have hN : N ≠ [] := fun z => by
      subst z
      simp at e
    rw [e] at h ⊢
    unfold shapeBy
    rw [List.dropLast_concat]
    obtain ⟨c, N, rfl⟩ : ∃ c N', N = c :: N' := by
      cases N with
      | nil => exact absurd rfl hN
      | cons c N => exact ⟨c, N, rfl⟩
    have e1 : pathF s (c :: N) = s :: pathF (addp s c) N := rfl
    rw [e1, sidesBy_eq (by cases N <;> exact List.cons_ne_nil _ _), ← e1]
    have hend : addp (endF s (c :: N)) x = s := by
      rw [endF_sum, addp_assoc]
      have : addp (sumP (c :: N)) x = pt0 := by
        rw [sumP_append] at h
        rw [← h]
        show _ = addp _ (addp x pt0)
        rw [addp_zero]
      rw [this, addp_zero]
    have := pathF_snoc (c :: N) s x
    rw [hend] at this
    rw [← this, steps_pathF]
theorem Ang.len {A : List Pt} (h : Ang A) : A.length ≠ 1 := by
  intro z
  match A, z, h with
  | [a], _, h =>
    have := h.sm
    rw [sumP_cons, show sumP [] = pt0 from rfl, addp_zero] at this
    exact h.nz (by rw [this]; simp)
theorem path_shape {M : List Pt} (h : Ang M) (s : Pt) : sidesBy (shapeBy s M) = M ∧ IsShape (shapeBy s M) := by
  obtain ⟨h1, h2, h3⟩ := path_sides h.sm h.len s
  refine ⟨h1, shape_of h3 ?_ ?_ ?_⟩
  · rw [h1]
    exact h.first
  · rw [h1]
    exact pw_adj h.pw
  · rw [h1]
    exact h.nz
theorem together_shape {c d : List Pt} (hc : IsShape c) (hd : IsShape d) : sidesBy (together c d) = Rm.merged (sidesBy c) (sidesBy d) ∧ IsShape (together c d) := path_shape (merged_ang hc.ang hd.ang) _
end Rm

/-! # Mixed areas -/
namespace Rm
def isum {α : Type} (f : α → Int) : List α → Int
  | [] => 0
  | x :: L => f x + isum f L
section
variable {α β : Type}
theorem isum_append (f : α → Int) : ∀ L M : List α, isum f (L ++ M) = isum f L + isum f M
  | [], M => (Int.zero_add _).symm
  | x :: L, M => by
    show f x + isum f (L ++ M) = f x + isum f L + isum f M
    rw [isum_append f L M, Int.add_assoc]
theorem isum_congr {f g : α → Int} : ∀ {L : List α}, (∀ x ∈ L, f x = g x) → isum f L = isum g L
  | [], _ => rfl
  | x :: L, h => by
    show f x + isum f L = g x + isum g L
    rw [h x List.mem_cons_self, isum_congr fun y hy => h y (List.mem_cons_of_mem _ hy)]
theorem isum_add (f g : α → Int) : ∀ L : List α, isum (fun x => f x + g x) L = isum f L + isum g L
  | [] => rfl
  | x :: L => by
    show f x + g x + isum (fun x => f x + g x) L = f x + isum f L + (g x + isum g L)
    rw [isum_add f g L]
    omega
theorem isum_mul (c : Int) (f : α → Int) : ∀ L : List α, isum (fun x => c * f x) L = c * isum f L
  | [] => (Int.mul_zero c).symm
  | x :: L => by
    show c * f x + isum (fun x => c * f x) L = c * (f x + isum f L)
    rw [isum_mul c f L, Int.mul_add]
theorem isum_zero : ∀ L : List α, isum (fun _ => 0) L = 0
  | [] => rfl
  | x :: L => by
    show 0 + isum (fun _ => 0) L = 0
    rw [isum_zero L]
    rfl
theorem isum_map (g : α → β) (f : β → Int) : ∀ L : List α, isum f (L.map g) = isum (fun x => f (g x)) L
  | [] => rfl
  | x :: L => by
    show f (g x) + isum f (L.map g) = f (g x) + isum (fun x => f (g x)) L
    rw [isum_map g f L]
theorem isum_comm (f : α → β → Int) : ∀ (L : List α) (M : List β), isum (fun a => isum (f a) M) L = isum (fun b => isum (fun a => f a b) L) M
  | [], M => (isum_zero M).symm
  | x :: L, M => by
    show isum (f x) M + isum (fun a => isum (f a) M) L = isum (fun b => f x b + isum (fun a => f a b) L) M
    rw [isum_comm f L M, isum_add]
theorem isum_nonneg {f : α → Int} : ∀ {L : List α}, (∀ x ∈ L, 0 ≤ f x) → 0 ≤ isum f L
  | [], _ => Int.le_refl _
  | x :: L, h => by
    have h1 := h x List.mem_cons_self
    have h2 := isum_nonneg (L := L) fun y hy => h y (List.mem_cons_of_mem _ hy)
    show 0 ≤ f x + isum f L
    omega
theorem isum_filter (f : α → Int) (p : α → Bool) : ∀ {L : List α}, (∀ x ∈ L, p x = false → f x = 0) → isum f (L.filter p) = isum f L
  | [], _ => rfl
  | x :: L, h => by
    have ih := isum_filter f p (L := L) fun y hy => h y (List.mem_cons_of_mem _ hy)
    rw [List.filter_cons]
    split
    · show f x + isum f (L.filter p) = f x + isum f L
      rw [ih]
    · next k =>
      have := h x List.mem_cons_self (by simpa using k)
      show isum f (L.filter p) = f x + isum f L
      rw [ih, this, Int.zero_add]
theorem isum_rev (f : α → Int) : ∀ L : List α, isum f L.reverse = isum f L
  | [] => rfl
  | x :: L => by
    rw [List.reverse_cons, isum_append, isum_rev f L]
    show isum f L + (f x + 0) = f x + isum f L
    omega
end
/-! ## the mixed sum -/
def skew (a b : Pt) : Int := if ahead a b = true then cross a b else cross b a
theorem skew_wk {a b : Pt} (h : Wk a b) : skew a b = cross a b := by
  unfold skew
  split
  · rfl
  · next k =>
    rcases wk_iff.mp h with z | z
    · exact absurd z k
    · rw [cross_swap, z.2]
      rfl
theorem skew_symm (a b : Pt) : skew a b = skew b a := by
  rcases wk_total a b with h | h
  · rw [skew_wk h]
    unfold skew
    split
    · next k => exact absurd k h
    · rfl
  · rw [skew_wk h]
    unfold skew
    split
    · next k => exact absurd k h
    · rfl
theorem skew_self (a : Pt) : skew a a = 0 := by
  unfold skew
  rw [cross_self]
  split <;> rfl
theorem skew_add {a b c : Pt} (na : a ≠ pt0) (nb : b ≠ pt0) (nc : c ≠ pt0) (h : Sd a b) : skew (addp a b) c = skew a c + skew b c := by
  have hn := (half_add na nb h).2
  have k1 := sd_add na nb h
  have sy : ∀ {x y : Pt}, Sd x y → Sd y x := fun {x y} k => ⟨k.1.symm, by rw [cross_swap, k.2]; rfl⟩
  rcases wk_total a c with z | z
  · rw [skew_wk z, skew_wk (wk_sd_left na nb nc z h), skew_wk (wk_sd_left na hn nc z k1), cross_addl]
  · have z2 : Wk c b := wk_trans nc na nb z (wk_iff.mpr (.inr h))
    have z3 : Wk c (addp a b) := wk_trans nc na hn z (wk_iff.mpr (.inr k1))
    rw [skew_symm _ c, skew_symm a c, skew_symm b c, skew_wk z, skew_wk z2, skew_wk z3, cross_addr]
def SS (A B : List Pt) : Int := isum (fun a => isum (skew a) B) A
def QQ : List Pt → Int
  | [] => 0
  | a :: L => isum (skew a) L + QQ L
theorem isum_cross (a : Pt) : ∀ {L : List Pt}, (∀ x ∈ L, Wk a x) → isum (skew a) L = cross a (sumP L)
  | [], _ => by
    show 0 = cross a pt0
    rw [cross_zero']
  | x :: L, h => by
    show skew a x + isum (skew a) L = cross a (addp x (sumP L))
    rw [skew_wk (h x List.mem_cons_self), isum_cross a fun y hy => h y (List.mem_cons_of_mem _ hy), cross_addr]
theorem tri_Q : ∀ {L : List Pt} (V : Pt), L.Pairwise Wk → tri V L = cross V (sumP L) + QQ L
  | [], V, _ => by
    show 0 = cross V pt0 + 0
    rw [cross_zero']
    rfl
  | a :: L, V, h => by
    have hp := List.pairwise_cons.mp h
    show cross V a + tri (addp V a) L = cross V (addp a (sumP L)) + (isum (skew a) L + QQ L)
    rw [tri_Q (addp V a) hp.2, isum_cross a hp.1, cross_addr, cross_addl]
    omega
theorem dbl_Q {L : List Pt} (h : L.Pairwise Wk) : dbl L = QQ L := by
  unfold dbl
  rw [tri_Q pt0 h, cross_zero, Int.zero_add]
theorem isum_mergeL (f : Pt → Int) : ∀ (n : Nat) (l r : List Pt), l.length + r.length = n → isum f (mergeL l r) = isum f l + isum f r
  | n, [], r, _ => by
    rw [mergeL_nil]
    show _ = 0 + _
    omega
  | n, a :: l, [], _ => by
    rw [mergeL_nil']
    show _ = _ + 0
    omega
  | 0, a :: l, b :: r, h => by simp at h
  | n + 1, a :: l, b :: r, h => by
    rw [mergeL_cons]
    split
    · show f a + isum f (mergeL l (b :: r)) = f a + isum f l + isum f (b :: r)
      rw [isum_mergeL f n l (b :: r) (by simp at h ⊢; omega)]
      omega
    · show f b + isum f (mergeL (a :: l) r) = isum f (a :: l) + (f b + isum f r)
      rw [isum_mergeL f n (a :: l) r (by simp at h ⊢; omega)]
      omega
theorem SS_symm (A B : List Pt) : SS A B = SS B A := by
  unfold SS
  rw [isum_comm]
  exact isum_congr fun b _ => isum_congr fun a _ => skew_symm a b
theorem SS_cons_right (A : List Pt) (b : Pt) (B : List Pt) : SS A (b :: B) = isum (skew b) A + SS A B := by
  rw [SS_symm, SS_symm A B]
  rfl
theorem QQ_merge : ∀ (n : Nat) (l r : List Pt), l.length + r.length = n → QQ (mergeL l r) = QQ l + QQ r + SS l r
  | n, [], r, _ => by
    rw [mergeL_nil]
    show _ = 0 + _ + 0
    omega
  | n, a :: l, [], _ => by
    rw [mergeL_nil', SS_symm]
    show _ = _ + 0 + 0
    omega
  | 0, a :: l, b :: r, h => by simp at h
  | n + 1, a :: l, b :: r, h => by
    rw [mergeL_cons]
    split
    · show isum (skew a) (mergeL l (b :: r)) + QQ (mergeL l (b :: r)) = isum (skew a) l + QQ l + QQ (b :: r) + (isum (skew a) (b :: r) + SS l (b :: r))
      rw [isum_mergeL _ _ l (b :: r) rfl, QQ_merge n l (b :: r) (by simp at h ⊢; omega)]
      omega
    · show isum (skew b) (mergeL (a :: l) r) + QQ (mergeL (a :: l) r) = QQ (a :: l) + (isum (skew b) r + QQ r) + SS (a :: l) (b :: r)
      rw [isum_mergeL _ _ (a :: l) r rfl, QQ_merge n (a :: l) r (by simp at h ⊢; omega), SS_cons_right]
      omega
theorem tri_join {t a : Pt} (h : cross t a = 0) : ∀ (X Y : List Pt) (V : Pt), tri V (X ++ t :: a :: Y) = tri V (X ++ addp t a :: Y)
  | [], Y, V => by
    show cross V t + (cross (addp V t) a + tri (addp (addp V t) a) Y) = cross V (addp t a) + tri (addp V (addp t a)) Y
    rw [addp_assoc, cross_addl, cross_addr, h]
    omega
  | x :: X, Y, V => by
    show cross V x + tri (addp V x) (X ++ t :: a :: Y) = cross V x + tri (addp V x) (X ++ addp t a :: Y)
    rw [tri_join h X Y]
theorem tri_push : ∀ (as st : List Pt) (V : Pt), tri V (as.foldl pushR st).reverse = tri V (st.reverse ++ as)
  | [], st, V => by
    rw [List.append_nil]
    rfl
  | a :: as, st, V => by
    show tri V (as.foldl pushR (pushR st a)).reverse = _
    rw [tri_push as]
    cases st with
    | nil => rfl
    | cons t r =>
      have e : pushR (t :: r) a = if halfI t = halfI a ∧ cross t a = 0 then addp t a :: r else a :: t :: r := rfl
      rw [e]
      split
      · next k =>
        rw [List.reverse_cons, List.reverse_cons, List.append_assoc, List.append_assoc]
        exact (tri_join k.2 r.reverse as V).symm
      · rw [List.reverse_cons, List.append_assoc] <;> rfl
theorem dbl_merged {A B : List Pt} (hA : Ang A) (hB : Ang B) : dbl (Rm.merged A B) = dbl A + dbl B + SS A B := by
  have h1 : dbl (Rm.merged A B) = dbl (mergeL A B) := by
    unfold Rm.merged dbl
    rw [tri_push] <;> rfl
  rw [h1, dbl_Q (mergeL_wk _ A B rfl hA.nz' hB.nz' hA.wk hB.wk), QQ_merge _ A B rfl, dbl_Q hA.wk, dbl_Q hB.wk]
theorem isum_push {g : Pt → Int} (hg : ∀ a b, a ≠ pt0 → b ≠ pt0 → Sd a b → g (addp a b) = g a + g b) : ∀ (as st : List Pt), Nz as → Nz st → isum g (as.foldl pushR st) = isum g st + isum g as
  | [], st, _, _ => by
    show _ = _ + 0
    rw [Int.add_zero]
    rfl
  | a :: as, st, na, ns => by
    have na0 := na a List.mem_cons_self
    have na' : Nz as := fun x hx => na x (List.mem_cons_of_mem _ hx)
    show isum g (as.foldl pushR (pushR st a)) = isum g st + (g a + isum g as)
    cases st with
    | nil =>
      show isum g (as.foldl pushR [a]) = 0 + _
      rw [isum_push hg as [a] na' (fun x hx => by rw [List.mem_singleton.mp hx]; exact na0)]
      show g a + 0 + _ = _
      omega
    | cons t r =>
      have nt := ns t List.mem_cons_self
      have nr : Nz r := fun x hx => ns x (List.mem_cons_of_mem _ hx)
      have e : pushR (t :: r) a = if halfI t = halfI a ∧ cross t a = 0 then addp t a :: r else a :: t :: r := rfl
      rw [e]
      split
      · next k =>
        have ks := sd_iff.mpr k
        rw [isum_push hg as (addp t a :: r) na' (fun x hx => by
          rcases List.mem_cons.mp hx with rfl | hx
          · exact (half_add nt na0 ks).2
          · exact nr x hx)]
        show g (addp t a) + isum g r + isum g as = g t + isum g r + (g a + isum g as)
        rw [hg t a nt na0 ks]
        omega
      · rw [isum_push hg as (a :: t :: r) na' (fun x hx => by
          rcases List.mem_cons.mp hx with rfl | hx
          · exact na0
          · exact ns x hx)]
        show g a + isum g (t :: r) + isum g as = isum g (t :: r) + (g a + isum g as)
        omega
theorem SS_merged {A B C : List Pt} (nA : Nz A) (nB : Nz B) (nC : Nz C) : SS (Rm.merged A B) C = SS A C + SS B C := by
  unfold SS Rm.merged
  rw [isum_rev, isum_push (fun a b na nb h => ?_) _ _ (fun x hx => by
    rcases (mergeL_mem _ A B rfl).mp hx with z | z
    · exact nA x z
    · exact nB x z) (fun x hx => by cases hx), isum_mergeL _ _ A B rfl]
  · show 0 + _ = _
    omega
  · rw [← isum_add]
    exact isum_congr fun c hc => skew_add na nb (nC c hc) h
theorem SS_self : ∀ A : List Pt, SS A A = 2 * QQ A
  | [] => rfl
  | a :: L => by
    show isum (skew a) (a :: L) + SS L (a :: L) = 2 * (isum (skew a) L + QQ L)
    rw [SS_cons_right, SS_self L]
    show skew a a + isum (skew a) L + _ = _
    rw [skew_self]
    omega
theorem isum_crossl (b : Pt) : ∀ {F : List Pt}, (∀ x ∈ F, Ah x b) → isum (skew b) F = cross (sumP F) b
  | [], _ => by
    show 0 = cross pt0 b
    rw [cross_zero]
  | x :: F, h => by
    show skew b x + isum (skew b) F = cross (addp x (sumP F)) b
    rw [isum_crossl b fun y hy => h y (List.mem_cons_of_mem _ hy), cross_addl, skew_symm, skew_wk (wk_iff.mpr (.inl (h x List.mem_cons_self)))]
theorem SS_nonneg {A B : List Pt} (hA : Ang A) (nB : Nz B) : 0 ≤ SS A B := by
  rw [SS_symm]
  refine isum_nonneg fun b hb => ?_
  have nb := nB b hb
  obtain ⟨F, G, e, hF, hG, e2⟩ := filter_split nb hA.pw hA.nz
  have h1 := psm hA (X := []) (Y := A) rfl nb
  unfold gs at h1
  rw [e2, show sumP [] = pt0 from rfl, cross_zero] at h1
  have hs := hA.sm
  rw [e, sumP_append] at hs
  rw [e, isum_append]
  have f1 : isum (skew b) F = cross (sumP F) b := isum_crossl b hF
  have g1 : isum (skew b) G = cross b (sumP G) := isum_cross b fun x hx => hG x hx
  rw [f1, g1]
  have : cross b (sumP G) = cross (sumP F) b := by
    have := cross_zero' b
    rw [← hs, cross_addr, cross_swap (sumP F) b] at this
    omega
  omega
/-- the mixed area -/
def mixedP (c d : List Pt) : Int := area (together c d) - area c - area d
theorem mixed_SS {c d : List Pt} (hc : IsShape c) (hd : IsShape d) : mixedP c d = SS (sidesBy c) (sidesBy d) := by
  obtain ⟨h1, h2⟩ := together_shape hc hd
  unfold mixedP
  rw [area_dbl _ h2.1, area_dbl c hc.1, area_dbl d hd.1, h1, dbl_merged hc.ang hd.ang]
  omega
theorem mixed_symm {c d : List Pt} (hc : IsShape c) (hd : IsShape d) : mixedP d c = mixedP c d := by rw [mixed_SS hc hd, mixed_SS hd hc, SS_symm]
theorem mixed_nonneg {c d : List Pt} (hc : IsShape c) (hd : IsShape d) : 0 ≤ mixedP c d := by
  rw [mixed_SS hc hd]
  exact SS_nonneg hc.ang hd.ang.nz'
theorem mixed_add {c d e : List Pt} (hc : IsShape c) (hd : IsShape d) (he : IsShape e) : mixedP e (together c d) = mixedP e c + mixedP e d := by
  obtain ⟨h1, h2⟩ := together_shape hc hd
  rw [mixed_SS he h2, mixed_SS he hc, mixed_SS he hd, h1, SS_symm, SS_merged hc.ang.nz' hd.ang.nz' he.ang.nz', SS_symm, SS_symm (sidesBy d)]
theorem area_SS {c : List Pt} (hc : IsShape c) : SS (sidesBy c) (sidesBy c) = 2 * area c := by
  rw [SS_self, area_dbl c hc.1, dbl_Q hc.ang.wk]
end Rm

/-! # The mixed area is never too small -/
namespace Rm
/-! ## a kernel that is never below nought -/
abbrev E3 := Int × Int × Int
def kk (d e : E3) : Int := d.1 * e.1 * min (d.2.1 * e.2.2) (e.2.1 * d.2.2)
def KK (L : List E3) : Int := isum (fun d => isum (kk d) L) L
def Rx (L : List E3) : Int := isum (fun d => d.1 * d.2.1) L
def turned (x0 y0 : Int) (d : E3) : E3 := (d.1, d.2.1, x0 * d.2.2 - y0 * d.2.1)
theorem min_mul {c a b : Int} (h : 0 ≤ c) : min (c * a) (c * b) = c * min a b := by
  rcases Int.le_total a b with k | k
  · have := Int.mul_le_mul_of_nonneg_left k h
    rw [Int.min_eq_left k, Int.min_eq_left this]
  · have := Int.mul_le_mul_of_nonneg_left k h
    rw [Int.min_eq_right k, Int.min_eq_right this]
theorem min_add (a b c : Int) : min (a - c) (b - c) = min a b - c := by omega
theorem kk_turned {x0 y0 : Int} (h : 0 < x0) (d e : E3) : x0 * kk d e = y0 * (d.1 * d.2.1 * (e.1 * e.2.1)) + kk (turned x0 y0 d) (turned x0 y0 e) := by
  unfold kk turned
  simp only
  have e1 : d.2.1 * (x0 * e.2.2 - y0 * e.2.1) = x0 * (d.2.1 * e.2.2) - y0 * (d.2.1 * e.2.1) := by grind
  have e2 : e.2.1 * (x0 * d.2.2 - y0 * d.2.1) = x0 * (e.2.1 * d.2.2) - y0 * (d.2.1 * e.2.1) := by grind
  rw [e1, e2, min_add, min_mul (Int.le_of_lt h)]
  generalize min (d.2.1 * e.2.2) (e.2.1 * d.2.2) = m
  grind
theorem KK_turned {x0 y0 : Int} (h : 0 < x0) (L : List E3) : x0 * KK L = y0 * (Rx L * Rx L) + KK (L.map (turned x0 y0)) := by
  have h1 : x0 * KK L = isum (fun d => isum (fun e => y0 * (d.1 * d.2.1 * (e.1 * e.2.1)) + kk (turned x0 y0 d) (turned x0 y0 e)) L) L := by
    unfold KK
    rw [← isum_mul]
    refine isum_congr fun d _ => ?_
    rw [← isum_mul]
    exact isum_congr fun e _ => kk_turned h d e
  have h2 : isum (fun d => isum (fun e => y0 * (d.1 * d.2.1 * (e.1 * e.2.1)) + kk (turned x0 y0 d) (turned x0 y0 e)) L) L = isum (fun d => y0 * (Rx L) * (d.1 * d.2.1)) L + KK (L.map (turned x0 y0)) := by
    unfold KK
    rw [isum_map, ← isum_add]
    refine isum_congr fun d _ => ?_
    rw [isum_map, isum_add]
    congr 1
    have : (fun e : E3 => y0 * (d.1 * d.2.1 * (e.1 * e.2.1))) = fun e => (y0 * (d.1 * d.2.1)) * (e.1 * e.2.1) := funext fun e => by grind
    rw [this, isum_mul]
    unfold Rx
    grind
  rw [h1, h2, isum_mul]
  unfold Rx
  grind
theorem KK_filter {L : List E3} (h : ∀ d ∈ L, 0 < d.2.1 ∧ 0 ≤ d.2.2) : KK (L.filter fun d => d.2.2 != 0) = KK L := by
  have z1 : ∀ d ∈ L, ∀ e ∈ L, d.2.2 = 0 → kk d e = 0 := fun d hd e he z => by
    unfold kk
    have h1 := Int.mul_nonneg (Int.le_of_lt (h d hd).1) (h e he).2
    rw [z, Int.mul_zero, Int.min_eq_right h1, Int.mul_zero]
  have z2 : ∀ d ∈ L, ∀ e ∈ L, e.2.2 = 0 → kk d e = 0 := fun d hd e he z => by
    unfold kk
    have h1 := Int.mul_nonneg (Int.le_of_lt (h e he).1) (h d hd).2
    rw [z, Int.mul_zero, Int.min_eq_left h1, Int.mul_zero]
  unfold KK
  rw [isum_filter]
  · refine isum_congr fun d hd => ?_
    exact isum_filter _ _ fun e he k => z2 d hd e he (by simpa using k)
  · intro d hd k
    have k' : d.2.2 = 0 := by simpa using k
    rw [isum_congr (g := fun _ => 0) fun e he => ?_, isum_zero]
    exact z1 d hd e (List.mem_filter.mp he).1 k'
/-- the one that leans least -/
theorem least : ∀ {L : List E3}, L ≠ [] → (∀ d ∈ L, 0 < d.2.1 ∧ 0 ≤ d.2.2) → ∃ m ∈ L, ∀ d ∈ L, d.2.1 * m.2.2 ≤ m.2.1 * d.2.2
  | [], h, _ => absurd rfl h
  | [a], _, _ => ⟨a, List.mem_singleton.mpr rfl, fun d hd => by rw [List.mem_singleton.mp hd]; exact Int.le_refl _⟩
  | a :: b :: r, _, h => by
    obtain ⟨m, hm, k⟩ := least (L := b :: r) (List.cons_ne_nil _ _) fun d hd => h d (List.mem_cons_of_mem _ hd)
    have ha := h a List.mem_cons_self
    have hm0 := h m (List.mem_cons_of_mem _ hm)
    rcases Int.le_total (a.2.1 * m.2.2) (m.2.1 * a.2.2) with z | z
    · refine ⟨m, List.mem_cons_of_mem _ hm, fun d hd => ?_⟩
      rcases List.mem_cons.mp hd with rfl | hd
      · exact z
      · exact k d hd
    · refine ⟨a, List.mem_cons_self, fun d hd => ?_⟩
      rcases List.mem_cons.mp hd with rfl | hd
      · exact Int.le_refl _
      · have k1 := k d hd
        have hd0 := h d (List.mem_cons_of_mem _ hd)
        -- d.x * a.y * m.x <= d.x * a.x * m.y <= a.x * m.x * d.y
        have p1 := Int.mul_le_mul_of_nonneg_left z (Int.le_of_lt hd0.1)
        have p2 := Int.mul_le_mul_of_nonneg_left k1 (Int.le_of_lt ha.1)
        have e1 : m.2.1 * (a.2.1 * d.2.2 - d.2.1 * a.2.2) = a.2.1 * (m.2.1 * d.2.2) - d.2.1 * (m.2.1 * a.2.2) := by grind
        have e2 : d.2.1 * (a.2.1 * m.2.2) = a.2.1 * (d.2.1 * m.2.2) := by grind
        have := nonneg_of_mul hm0.1 (show 0 ≤ m.2.1 * (a.2.1 * d.2.2 - d.2.1 * a.2.2) by omega)
        omega
theorem KK_nonneg : ∀ (n : Nat) (L : List E3), L.length ≤ n → (∀ d ∈ L, 0 < d.2.1 ∧ 0 ≤ d.2.2) → 0 ≤ KK L
  | _, [], _, _ => Int.le_refl _
  | 0, _ :: _, hn, _ => by simp at hn
  | n + 1, a :: r, hn, h => by
    obtain ⟨m, hm, k⟩ := least (L := a :: r) (List.cons_ne_nil _ _) h
    have hm0 := h m hm
    have h1 : ∀ d ∈ (a :: r).map (turned m.2.1 m.2.2), 0 < d.2.1 ∧ 0 ≤ d.2.2 := fun d hd => by
      obtain ⟨e, he, rfl⟩ := List.mem_map.mp hd
      have := k e he
      have e1 : m.2.2 * e.2.1 = e.2.1 * m.2.2 := Int.mul_comm _ _
      refine ⟨(h e he).1, ?_⟩
      show 0 ≤ m.2.1 * e.2.2 - m.2.2 * e.2.1
      omega
    have h2 : (((a :: r).map (turned m.2.1 m.2.2)).filter fun d => d.2.2 != 0).length ≤ n := by
      have lt : (((a :: r).map (turned m.2.1 m.2.2)).filter fun d => d.2.2 != 0).length < ((a :: r).map (turned m.2.1 m.2.2)).length := by
        refine List.length_filter_lt_length_iff_exists.mpr ⟨turned m.2.1 m.2.2 m, List.mem_map.mpr ⟨m, hm, rfl⟩, ?_⟩
        have : m.2.1 * m.2.2 - m.2.2 * m.2.1 = 0 := by grind
        show ¬ (((m.2.1 * m.2.2 - m.2.2 * m.2.1) != 0) = true)
        rw [this]
        decide
      rw [List.length_map] at lt
      omega
    have ih := KK_nonneg n _ h2 fun d hd => h1 d (List.mem_filter.mp hd).1
    rw [KK_filter h1] at ih
    have e := KK_turned (x0 := m.2.1) (y0 := m.2.2) hm0.1 (a :: r)
    have sq : 0 ≤ Rx (a :: r) * Rx (a :: r) := by
      rcases Int.le_total 0 (Rx (a :: r)) with z | z
      · exact Int.mul_nonneg z z
      · exact Int.mul_nonneg_of_nonpos_of_nonpos z z
    have := Int.mul_nonneg hm0.2 sq
    exact nonneg_of_mul hm0.1 (show 0 ≤ m.2.1 * KK (a :: r) by omega)
/-! ## three sectors -/
def sec (a : Pt) : Nat := if 0 < a.1 ∧ 0 ≤ a.2 then 1 else if a.1 ≤ 0 ∧ a.1 < a.2 then 2 else 3
def xc (a : Pt) : Int := if sec a = 1 then a.1 else if sec a = 2 then a.2 - a.1 else - a.2
def yc (a : Pt) : Int := if sec a = 1 then a.2 else if sec a = 2 then - a.1 else a.1 - a.2
theorem sec_cases (a : Pt) : (sec a = 1 ∧ 0 < a.1 ∧ 0 ≤ a.2 ∧ xc a = a.1 ∧ yc a = a.2) ∨ (sec a = 2 ∧ a.1 ≤ 0 ∧ a.1 < a.2 ∧ xc a = a.2 - a.1 ∧ yc a = - a.1) ∨ (sec a = 3 ∧ ¬ (0 < a.1 ∧ 0 ≤ a.2) ∧ ¬ (a.1 ≤ 0 ∧ a.1 < a.2) ∧ xc a = - a.2 ∧ yc a = a.1 - a.2) := by
  unfold xc yc sec
  by_cases h1 : 0 < a.1 ∧ 0 ≤ a.2
  · left
    simp [h1]
  · by_cases h2 : a.1 ≤ 0 ∧ a.1 < a.2
    · right; left
      rw [if_neg h1, if_pos h2]
      simp [h2]
    · right; right
      rw [if_neg h1, if_neg h2]
      simp
      constructor
      · intro z
        omega
      · intro z
        omega
theorem xy_pos {a : Pt} (n : a ≠ pt0) : 0 < xc a ∧ 0 ≤ yc a := by
  have hn : ¬ (a.1 = 0 ∧ a.2 = 0) := fun z => n (Prod.ext z.1 z.2)
  rcases sec_cases a with ⟨_, h1, h2, e1, e2⟩ | ⟨_, h1, h2, e1, e2⟩ | ⟨_, h1, h2, e1, e2⟩ <;> rw [e1, e2] <;> omega
/-- all six numbers of an arrow -/
structure U6 where
  x1 : Int
  y1 : Int
  x2 : Int
  y2 : Int
  x3 : Int
  y3 : Int
def uc (a : Pt) : U6 := if sec a = 1 then ⟨xc a, yc a, 0, 0, 0, 0⟩ else if sec a = 2 then ⟨0, 0, xc a, yc a, 0, 0⟩ else ⟨0, 0, 0, 0, xc a, yc a⟩
/-- the cross of two arrows of one after another sector, by their numbers -/
def half1 (u v : U6) : Int := (u.x1 * v.x2 - u.x1 * v.y2 + u.y1 * v.y2) + (u.x1 * (-v.x3) + u.y1 * (v.x3 - v.y3)) + (u.x2 * v.x3 - u.x2 * v.y3 + u.y2 * v.y3)
def beta (u v : U6) : Int := u.x1 * v.y1 + v.x1 * u.y1 + u.x2 * v.y2 + v.x2 * u.y2 + u.x3 * v.y3 + v.x3 * u.y3 + half1 u v + half1 v u
def kap (a b : Pt) : Int := if sec a = sec b then min (xc a * yc b) (xc b * yc a) else 0
theorem min_abs (x y : Int) : (0 ≤ x - y → min x y = y) ∧ (x - y ≤ 0 → min x y = x) := by omega
theorem skew_of {a b : Pt} (h : cross a b ≤ 0 ∨ ¬ (half a = true ∧ half b = false)) (k : 0 ≤ cross a b ∨ ¬ (half a = false ∧ half b = true)) : skew a b = if 0 ≤ cross a b then cross a b else - cross a b := by
  unfold skew
  by_cases hk : ahead a b = true
  · rw [if_pos hk]
    have := ah_iff.mp (show Ah a b from hk)
    rcases this with z | ⟨_, z⟩
    · rcases k with k | k
      · rw [if_pos k]
      · exact absurd z k
    · rw [if_pos (by omega)]
  · rw [if_neg hk, cross_swap]
    have hn : ¬ Ah a b := hk
    rw [ah_iff] at hn
    by_cases z : 0 ≤ cross a b
    · rw [if_pos z]
      rcases h with h | h
      · omega
      · have hh : half a = half b := by
          cases ha : half a <;> cases hb : half b <;> simp [ha, hb] at hn h ⊢
        have : ¬ 0 < cross a b := fun z2 => hn (.inr ⟨hh, z2⟩)
        omega
    · rw [if_neg z]
theorem half_false {a : Pt} : half a = false ↔ 0 < a.2 ∨ a.2 = 0 ∧ 0 ≤ a.1 := by
  unfold half
  simp only [Bool.or_eq_false_iff, decide_eq_false_iff_not, Bool.and_eq_false_iff]
  omega
theorem half_true {a : Pt} : half a = true ↔ a.2 < 0 ∨ a.2 = 0 ∧ a.1 < 0 := by
  unfold half
  simp only [Bool.or_eq_true, decide_eq_true_iff, Bool.and_eq_true]
/-- arrows of two sectors -/
theorem skew_fore {a b : Pt} (h : Ah a b) : skew a b = cross a b := skew_wk (wk_iff.mpr (.inl h))
theorem fore12 {a b : Pt} (h1 : 0 < a.1 ∧ 0 ≤ a.2) (h2 : b.1 ≤ 0 ∧ b.1 < b.2) : Ah a b := by
  rw [ah_iff]
  have ha : half a = false := half_false.mpr (by omega)
  cases hb : half b with
  | true => exact .inl ⟨ha, rfl⟩
  | false =>
    right
    refine ⟨ha, ?_⟩
    have hb' := half_false.mp hb
    have b2 : 0 < b.2 := by omega
    have p1 := Int.mul_pos h1.1 b2
    have p2 := Int.mul_nonneg h1.2 (show 0 ≤ - b.1 by omega)
    rw [Int.mul_neg] at p2
    unfold cross
    omega
theorem fore13 {a b : Pt} (h1 : 0 < a.1 ∧ 0 ≤ a.2) (n : b ≠ pt0) (h2 : ¬ (0 < b.1 ∧ 0 ≤ b.2)) (h3 : ¬ (b.1 ≤ 0 ∧ b.1 < b.2)) : Ah a b := by
  have hn : ¬ (b.1 = 0 ∧ b.2 = 0) := fun z => n (Prod.ext z.1 z.2)
  rw [ah_iff]
  exact .inl ⟨half_false.mpr (by omega), half_true.mpr (by omega)⟩
theorem fore23 {a b : Pt} (h1 : a.1 ≤ 0 ∧ a.1 < a.2) (n : b ≠ pt0) (h2 : ¬ (0 < b.1 ∧ 0 ≤ b.2)) (h3 : ¬ (b.1 ≤ 0 ∧ b.1 < b.2)) : Ah a b := by
  have hn : ¬ (b.1 = 0 ∧ b.2 = 0) := fun z => n (Prod.ext z.1 z.2)
  rw [ah_iff]
  have hb : half b = true := half_true.mpr (by omega)
  cases ha : half a with
  | false => exact .inl ⟨rfl, hb⟩
  | true =>
    right
    refine ⟨hb.symm, ?_⟩
    have ha' := half_true.mp ha
    -- cross a b = (a.2 - a.1) * (- b.2) + (- a.2) * (b.1 - b.2)
    have p1 := Int.mul_pos (show 0 < a.2 - a.1 by omega) (show 0 < - b.2 by omega)
    have p2 := Int.mul_nonneg (show 0 ≤ - a.2 by omega) (show 0 ≤ b.1 - b.2 by omega)
    have e : cross a b = (a.2 - a.1) * (- b.2) + (- a.2) * (b.1 - b.2) := by
      unfold cross
      grind
    omega
theorem pair_id {a b : Pt} (na : a ≠ pt0) (nb : b ≠ pt0) : skew a b + 2 * kap a b = beta (uc a) (uc b) := by
  have pa := xy_pos na
  have pb := xy_pos nb
  have same : ∀ x y x' y' : Int, cross a b = x * y' - x' * y → (cross a b ≤ 0 ∨ ¬ (half a = true ∧ half b = false)) → (0 ≤ cross a b ∨ ¬ (half a = false ∧ half b = true)) → skew a b + 2 * min (x * y') (x' * y) = x * y' + x' * y := by
    intro x y x' y' e k1 k2
    rw [skew_of k1 k2]
    have := min_abs (x * y') (x' * y)
    split
    · rw [this.1 (by omega)]
      omega
    · rw [this.2 (by omega)]
      omega
  rcases sec_cases a with ⟨sa, a1, a2, ax, ay⟩ | ⟨sa, a1, a2, ax, ay⟩ | ⟨sa, a1, a2, ax, ay⟩ <;>
    rcases sec_cases b with ⟨sb, b1, b2, bx, bY⟩ | ⟨sb, b1, b2, bx, bY⟩ | ⟨sb, b1, b2, bx, bY⟩
  · -- 1 1
    have ha : half a = false := half_false.mpr (by omega)
    have hb : half b = false := half_false.mpr (by omega)
    have s := same a.1 a.2 b.1 b.2 (by unfold cross; grind) (.inr (by simp [ha])) (.inr (by simp [hb]))
    have k : kap a b = min (a.1 * b.2) (b.1 * a.2) := by unfold kap; rw [sa, sb, if_pos rfl, ax, ay, bx, bY]
    have ua : uc a = ⟨a.1, a.2, 0, 0, 0, 0⟩ := by unfold uc; rw [if_pos sa, ax, ay]
    have ub : uc b = ⟨b.1, b.2, 0, 0, 0, 0⟩ := by unfold uc; rw [if_pos sb, bx, bY]
    rw [k, s, ua, ub]
    unfold beta half1
    simp only
    grind
  · -- 1 2
    have k : kap a b = 0 := by unfold kap; rw [sa, sb, if_neg (by decide)]
    have ua : uc a = ⟨a.1, a.2, 0, 0, 0, 0⟩ := by unfold uc; rw [if_pos sa, ax, ay]
    have ub : uc b = ⟨0, 0, b.2 - b.1, - b.1, 0, 0⟩ := by unfold uc; rw [sb, if_neg (by decide), if_pos rfl, bx, bY]
    rw [k, skew_fore (fore12 ⟨a1, a2⟩ ⟨b1, b2⟩), ua, ub]
    unfold beta half1 cross
    simp only
    grind
  · -- 1 3
    have k : kap a b = 0 := by unfold kap; rw [sa, sb, if_neg (by decide)]
    have ua : uc a = ⟨a.1, a.2, 0, 0, 0, 0⟩ := by unfold uc; rw [if_pos sa, ax, ay]
    have ub : uc b = ⟨0, 0, 0, 0, - b.2, b.1 - b.2⟩ := by unfold uc; rw [sb, if_neg (by decide), if_neg (by decide), bx, bY]
    rw [k, skew_fore (fore13 ⟨a1, a2⟩ nb b1 b2), ua, ub]
    unfold beta half1 cross
    simp only
    grind
  · -- 2 1
    have k : kap a b = 0 := by unfold kap; rw [sa, sb, if_neg (by decide)]
    have ub : uc b = ⟨b.1, b.2, 0, 0, 0, 0⟩ := by unfold uc; rw [if_pos sb, bx, bY]
    have ua : uc a = ⟨0, 0, a.2 - a.1, - a.1, 0, 0⟩ := by unfold uc; rw [sa, if_neg (by decide), if_pos rfl, ax, ay]
    rw [k, skew_symm, skew_fore (fore12 ⟨b1, b2⟩ ⟨a1, a2⟩), ua, ub]
    unfold beta half1 cross
    simp only
    grind
  · -- 2 2
    have s := same (a.2 - a.1) (- a.1) (b.2 - b.1) (- b.1) (by unfold cross; grind)
      (by
        by_cases z : half a = true ∧ half b = false
        · left
          have z1 := half_true.mp z.1
          have z2 := half_false.mp z.2
          have p1 := Int.mul_nonneg (show 0 ≤ - a.1 by omega) (show 0 ≤ b.2 by omega)
          have p2 := Int.mul_nonneg (show 0 ≤ - a.2 by omega) (show 0 ≤ - b.1 by omega)
          unfold cross
          grind
        · exact .inr z)
      (by
        by_cases z : half a = false ∧ half b = true
        · left
          have z1 := half_false.mp z.1
          have z2 := half_true.mp z.2
          have p1 := Int.mul_nonneg (show 0 ≤ - b.1 by omega) (show 0 ≤ a.2 by omega)
          have p2 := Int.mul_nonneg (show 0 ≤ - b.2 by omega) (show 0 ≤ - a.1 by omega)
          unfold cross
          grind
        · exact .inr z)
    have k : kap a b = min ((a.2 - a.1) * - b.1) ((b.2 - b.1) * - a.1) := by unfold kap; rw [sa, sb, if_pos rfl, ax, ay, bx, bY]
    have ua : uc a = ⟨0, 0, a.2 - a.1, - a.1, 0, 0⟩ := by unfold uc; rw [sa, if_neg (by decide), if_pos rfl, ax, ay]
    have ub : uc b = ⟨0, 0, b.2 - b.1, - b.1, 0, 0⟩ := by unfold uc; rw [sb, if_neg (by decide), if_pos rfl, bx, bY]
    rw [k, s, ua, ub]
    unfold beta half1
    simp only
    grind
  · -- 2 3
    have k : kap a b = 0 := by unfold kap; rw [sa, sb, if_neg (by decide)]
    have ua : uc a = ⟨0, 0, a.2 - a.1, - a.1, 0, 0⟩ := by unfold uc; rw [sa, if_neg (by decide), if_pos rfl, ax, ay]
    have ub : uc b = ⟨0, 0, 0, 0, - b.2, b.1 - b.2⟩ := by unfold uc; rw [sb, if_neg (by decide), if_neg (by decide), bx, bY]
    rw [k, skew_fore (fore23 ⟨a1, a2⟩ nb b1 b2), ua, ub]
    unfold beta half1 cross
    simp only
    grind
  · -- 3 1
    have k : kap a b = 0 := by unfold kap; rw [sa, sb, if_neg (by decide)]
    have ub : uc b = ⟨b.1, b.2, 0, 0, 0, 0⟩ := by unfold uc; rw [if_pos sb, bx, bY]
    have ua : uc a = ⟨0, 0, 0, 0, - a.2, a.1 - a.2⟩ := by unfold uc; rw [sa, if_neg (by decide), if_neg (by decide), ax, ay]
    rw [k, skew_symm, skew_fore (fore13 ⟨b1, b2⟩ na a1 a2), ua, ub]
    unfold beta half1 cross
    simp only
    grind
  · -- 3 2
    have k : kap a b = 0 := by unfold kap; rw [sa, sb, if_neg (by decide)]
    have ub : uc b = ⟨0, 0, b.2 - b.1, - b.1, 0, 0⟩ := by unfold uc; rw [sb, if_neg (by decide), if_pos rfl, bx, bY]
    have ua : uc a = ⟨0, 0, 0, 0, - a.2, a.1 - a.2⟩ := by unfold uc; rw [sa, if_neg (by decide), if_neg (by decide), ax, ay]
    rw [k, skew_symm, skew_fore (fore23 ⟨b1, b2⟩ na a1 a2), ua, ub]
    unfold beta half1 cross
    simp only
    grind
  · -- 3 3
    have hna : ¬ (a.1 = 0 ∧ a.2 = 0) := fun z => na (Prod.ext z.1 z.2)
    have hnb : ¬ (b.1 = 0 ∧ b.2 = 0) := fun z => nb (Prod.ext z.1 z.2)
    have ha : half a = true := half_true.mpr (by omega)
    have hb : half b = true := half_true.mpr (by omega)
    have s := same (- a.2) (a.1 - a.2) (- b.2) (b.1 - b.2) (by unfold cross; grind) (.inr (by simp [hb])) (.inr (by simp [ha]))
    have k : kap a b = min (- a.2 * (b.1 - b.2)) (- b.2 * (a.1 - a.2)) := by unfold kap; rw [sa, sb, if_pos rfl, ax, ay, bx, bY]
    have ua : uc a = ⟨0, 0, 0, 0, - a.2, a.1 - a.2⟩ := by unfold uc; rw [sa, if_neg (by decide), if_neg (by decide), ax, ay]
    have ub : uc b = ⟨0, 0, 0, 0, - b.2, b.1 - b.2⟩ := by unfold uc; rw [sb, if_neg (by decide), if_neg (by decide), bx, bY]
    rw [k, s, ua, ub]
    unfold beta half1
    simp only
    grind
/-! ## weighted rows -/
abbrev WL := List (Int × Pt)
def wdd (f : Pt → Pt → Int) (W V : WL) : Int := isum (fun d => isum (fun e => d.1 * e.1 * f d.2 e.2) V) W
def uz : U6 := ⟨0, 0, 0, 0, 0, 0⟩
def uadd (w : Int) (u v : U6) : U6 := ⟨w * u.x1 + v.x1, w * u.y1 + v.y1, w * u.x2 + v.x2, w * u.y2 + v.y2, w * u.x3 + v.x3, w * u.y3 + v.y3⟩
def UU (W : WL) : U6 := W.foldr (fun d u => uadd d.1 (uc d.2) u) uz
theorem beta_right (u : U6) (w : Int) (v z : U6) : beta u (uadd w v z) = w * beta u v + beta u z := by
  unfold beta half1 uadd
  simp only
  grind
theorem beta_left (u : U6) (w : Int) (v z : U6) : beta (uadd w v z) u = w * beta v u + beta z u := by
  unfold beta half1 uadd
  simp only
  grind
theorem beta_zr (u : U6) : beta u uz = 0 := by
  unfold beta half1 uz
  simp
theorem beta_zl (u : U6) : beta uz u = 0 := by
  unfold beta half1 uz
  simp
theorem wdd_beta1 (u : U6) : ∀ V : WL, isum (fun e => e.1 * beta u (uc e.2)) V = beta u (UU V)
  | [] => (beta_zr u).symm
  | e :: V => by
    show e.1 * beta u (uc e.2) + isum (fun e => e.1 * beta u (uc e.2)) V = beta u (uadd e.1 (uc e.2) (UU V))
    rw [wdd_beta1 u V, beta_right]
theorem wdd_beta (V : WL) : ∀ W : WL, wdd (fun a b => beta (uc a) (uc b)) W V = beta (UU W) (UU V)
  | [] => (beta_zl _).symm
  | d :: W => by
    show isum (fun e => d.1 * e.1 * beta (uc d.2) (uc e.2)) V + wdd (fun a b => beta (uc a) (uc b)) W V = beta (uadd d.1 (uc d.2) (UU W)) (UU V)
    rw [wdd_beta V W, beta_left, ← wdd_beta1 (uc d.2) V, ← isum_mul]
    congr 1
    exact isum_congr fun e _ => by grind
def NzW (W : WL) : Prop := ∀ d ∈ W, d.2 ≠ pt0
theorem wdd_split {W : WL} (h : NzW W) : wdd skew W W + 2 * wdd kap W W = beta (UU W) (UU W) := by
  rw [← wdd_beta]
  unfold wdd
  rw [← isum_mul, ← isum_add]
  refine isum_congr fun d hd => ?_
  rw [← isum_mul, ← isum_add]
  refine isum_congr fun e he => ?_
  show _ = d.1 * e.1 * beta (uc d.2) (uc e.2)
  rw [← pair_id (h d hd) (h e he)]
  grind
/-- the kernel, sector by sector -/
def inSec (k : Nat) (W : WL) : List E3 := (W.filter fun d => sec d.2 == k).map fun d => (d.1, xc d.2, yc d.2)
def kapS (k : Nat) (a b : Pt) : Int := if sec a = k ∧ sec b = k then min (xc a * yc b) (xc b * yc a) else 0
theorem kap_sec {W : WL} : wdd kap W W = KK (inSec 1 W) + KK (inSec 2 W) + KK (inSec 3 W) := by
  have one : ∀ k, KK (inSec k W) = wdd (kapS k) W W := by
    intro k
    unfold KK inSec wdd
    rw [isum_map, ← isum_filter (fun d : Int × Pt => isum (fun e : Int × Pt => d.1 * e.1 * kapS k d.2 e.2) W) (fun d => sec d.2 == k)]
    · refine isum_congr fun d hd => ?_
      have hdk : sec d.2 = k := by simpa using (List.mem_filter.mp hd).2
      rw [isum_map, ← isum_filter (fun e : Int × Pt => d.1 * e.1 * kapS k d.2 e.2) (fun d => sec d.2 == k)]
      · refine isum_congr fun e he => ?_
        have hek : sec e.2 = k := by simpa using (List.mem_filter.mp he).2
        unfold kapS
        rw [if_pos ⟨hdk, hek⟩]
        rfl
      · intro e _ z
        have : ¬ (sec d.2 = k ∧ sec e.2 = k) := fun y => by simp [y.2] at z
        unfold kapS
        rw [if_neg this, Int.mul_zero]
    · intro d _ z
      rw [isum_congr (g := fun _ => 0), isum_zero]
      intro e _
      have : ¬ (sec d.2 = k ∧ sec e.2 = k) := fun y => by simp [y.1] at z
      unfold kapS
      rw [if_neg this, Int.mul_zero]
  rw [one 1, one 2, one 3]
  unfold wdd
  rw [← isum_add, ← isum_add]
  refine isum_congr fun d _ => ?_
  rw [← isum_add, ← isum_add]
  refine isum_congr fun e _ => ?_
  have s3 : ∀ a : Pt, sec a = 1 ∨ sec a = 2 ∨ sec a = 3 := fun a => by
    rcases sec_cases a with h | h | h
    · exact .inl h.1
    · exact .inr (.inl h.1)
    · exact .inr (.inr h.1)
  unfold kap kapS
  rcases s3 d.2 with h | h | h <;> rcases s3 e.2 with k | k | k <;> rw [h, k] <;> simp
theorem kap_nonneg {W : WL} (h : NzW W) : 0 ≤ wdd kap W W := by
  have one : ∀ k, 0 ≤ KK (inSec k W) := fun k => KK_nonneg _ _ (Nat.le_refl _) fun d hd => by
    obtain ⟨e, he, rfl⟩ := List.mem_map.mp hd
    exact xy_pos (h e (List.mem_filter.mp he).1)
  rw [kap_sec]
  have := one 1
  have := one 2
  have := one 3
  omega
theorem beta_zero {u : U6} (h1 : u.x1 + u.y3 = 0) (h2 : u.x2 + u.y1 = 0) (h3 : u.x3 + u.y2 = 0) : beta u u = 0 := by
  have e1 : u.x1 = - u.y3 := by omega
  have e2 : u.x2 = - u.y1 := by omega
  have e3 : u.x3 = - u.y2 := by omega
  unfold beta half1
  rw [e1, e2, e3]
  grind
theorem skew_neg {W : WL} (h : NzW W) (h1 : (UU W).x1 + (UU W).y3 = 0) (h2 : (UU W).x2 + (UU W).y1 = 0) (h3 : (UU W).x3 + (UU W).y2 = 0) : wdd skew W W ≤ 0 := by
  have e := wdd_split h
  rw [beta_zero h1 h2 h3] at e
  have := kap_nonneg h
  omega
/-! ## two shapes -/
def ws (p : Int) (A : List Pt) : WL := A.map fun a => (p, a)
theorem UU_append : ∀ W V : WL, UU (W ++ V) = uadd 1 (UU W) (UU V)
  | [], V => by
    show UU V = uadd 1 uz (UU V)
    unfold uadd uz
    simp
  | d :: W, V => by
    show uadd d.1 (uc d.2) (UU (W ++ V)) = uadd 1 (uadd d.1 (uc d.2) (UU W)) (UU V)
    rw [UU_append W V]
    unfold uadd
    simp only [Int.one_mul, Int.add_assoc]
theorem UU_ws (p : Int) : ∀ A : List Pt, UU (ws p A) = uadd p (UU (ws 1 A)) uz
  | [] => by
    show uz = uadd p uz uz
    unfold uadd uz
    simp
  | a :: A => by
    show uadd p (uc a) (UU (ws p A)) = uadd p (uadd 1 (uc a) (UU (ws 1 A))) uz
    rw [UU_ws p A]
    unfold uadd uz
    simp only [U6.mk.injEq]
    refine ⟨?_, ?_, ?_, ?_, ?_, ?_⟩ <;> grind
theorem wdd_append (f : Pt → Pt → Int) (W W' V V' : WL) : wdd f (W ++ W') (V ++ V') = wdd f W V + wdd f W V' + wdd f W' V + wdd f W' V' := by
  unfold wdd
  rw [isum_append]
  have : ∀ X : WL, isum (fun d => isum (fun e => d.1 * e.1 * f d.2 e.2) (V ++ V')) X = isum (fun d => isum (fun e => d.1 * e.1 * f d.2 e.2) V) X + isum (fun d => isum (fun e => d.1 * e.1 * f d.2 e.2) V') X := fun X => by
    rw [← isum_add]
    exact isum_congr fun d _ => isum_append _ _ _
  rw [this, this]
  omega
theorem wdd_ws (p q : Int) (A B : List Pt) : wdd skew (ws p A) (ws q B) = p * q * SS A B := by
  unfold wdd ws SS
  rw [isum_map, ← isum_mul]
  refine isum_congr fun a _ => ?_
  rw [isum_map, ← isum_mul]
/-- how much of the triangle -/
def tc (A : List Pt) : Int := (UU (ws 1 A)).x1 + (UU (ws 1 A)).y3
theorem uc_sum (a : Pt) : a.1 = (uc a).x1 + (uc a).y3 - ((uc a).x3 + (uc a).y2) ∧ a.2 = (uc a).x2 + (uc a).y1 - ((uc a).x3 + (uc a).y2) := by
  rcases sec_cases a with ⟨s, _, _, x, y⟩ | ⟨s, _, _, x, y⟩ | ⟨s, _, _, x, y⟩ <;> unfold uc <;> rw [s, x, y] <;> simp <;> omega
theorem UU_sum : ∀ A : List Pt, (sumP A).1 = (UU (ws 1 A)).x1 + (UU (ws 1 A)).y3 - ((UU (ws 1 A)).x3 + (UU (ws 1 A)).y2) ∧ (sumP A).2 = (UU (ws 1 A)).x2 + (UU (ws 1 A)).y1 - ((UU (ws 1 A)).x3 + (UU (ws 1 A)).y2)
  | [] => ⟨rfl, rfl⟩
  | a :: A => by
    obtain ⟨h1, h2⟩ := UU_sum A
    obtain ⟨k1, k2⟩ := uc_sum a
    have e : UU (ws 1 (a :: A)) = uadd 1 (uc a) (UU (ws 1 A)) := rfl
    rw [e, sumP_cons]
    unfold addp uadd
    simp only
    omega
theorem tc_pos : ∀ {A : List Pt}, Nz A → 0 ≤ (UU (ws 1 A)).x1 ∧ 0 ≤ (UU (ws 1 A)).y1 ∧ 0 ≤ (UU (ws 1 A)).x2 ∧ 0 ≤ (UU (ws 1 A)).y2 ∧ 0 ≤ (UU (ws 1 A)).x3 ∧ 0 ≤ (UU (ws 1 A)).y3 ∧ (A ≠ [] → 0 < (UU (ws 1 A)).x1 + (UU (ws 1 A)).x2 + (UU (ws 1 A)).x3)
  | [], _ => ⟨Int.le_refl _, Int.le_refl _, Int.le_refl _, Int.le_refl _, Int.le_refl _, Int.le_refl _, fun h => absurd rfl h⟩
  | a :: A, h => by
    have ih := tc_pos (A := A) fun x hx => h x (List.mem_cons_of_mem _ hx)
    have hp := xy_pos (h a List.mem_cons_self)
    have e : UU (ws 1 (a :: A)) = uadd 1 (uc a) (UU (ws 1 A)) := rfl
    rw [e]
    have hu : uc a = ⟨xc a, yc a, 0, 0, 0, 0⟩ ∨ uc a = ⟨0, 0, xc a, yc a, 0, 0⟩ ∨ uc a = ⟨0, 0, 0, 0, xc a, yc a⟩ := by
      unfold uc
      by_cases h1 : sec a = 1
      · rw [if_pos h1]
        exact .inl rfl
      · rw [if_neg h1]
        by_cases h2 : sec a = 2
        · rw [if_pos h2]
          exact .inr (.inl rfl)
        · rw [if_neg h2]
          exact .inr (.inr rfl)
    rcases hu with hu | hu | hu <;> rw [hu] <;> unfold uadd <;> simp only <;> refine ⟨?_, ?_, ?_, ?_, ?_, ?_, ?_⟩ <;> omega
theorem minkowski {A B : List Pt} (hA : Ang A) (hB : Ang B) : SS A A * SS B B ≤ SS A B * SS A B := by
  have sAA := SS_nonneg hA hA.nz'
  have sBB := SS_nonneg hB hB.nz'
  have sAB := SS_nonneg hA hB.nz'
  by_cases eA : A = []
  · subst eA
    show 0 * _ ≤ 0 * 0
    rw [Int.zero_mul]
    exact Int.le_refl _
  by_cases eB : B = []
  · subst eB
    have : SS [] [] = 0 := rfl
    rw [this, Int.mul_zero]
    exact Int.mul_nonneg sAB sAB
  have uA := UU_sum A
  have uB := UU_sum B
  rw [hA.sm] at uA
  rw [hB.sm] at uB
  have pA := tc_pos hA.nz'
  have pB := tc_pos hB.nz'
  have qA := pA.2.2.2.2.2.2 eA
  have qB := pB.2.2.2.2.2.2 eB
  have z1 : pt0.1 = 0 := rfl
  have z2 : pt0.2 = 0 := rfl
  rw [z1, z2] at uA uB
  have tA : 0 < tc A := by unfold tc; omega
  have tB : 0 < tc B := by unfold tc; omega
  have hW : NzW (ws (tc B) A ++ ws (- tc A) B) := fun d hd => by
    rcases List.mem_append.mp hd with h | h
    · obtain ⟨a, ha, rfl⟩ := List.mem_map.mp h
      exact hA.nz' a ha
    · obtain ⟨a, ha, rfl⟩ := List.mem_map.mp h
      exact hB.nz' a ha
  have e : UU (ws (tc B) A ++ ws (- tc A) B) = uadd 1 (uadd (tc B) (UU (ws 1 A)) uz) (uadd (- tc A) (UU (ws 1 B)) uz) := by rw [UU_append, UU_ws, UU_ws (- tc A)]
  have cA : (UU (ws 1 A)).x1 + (UU (ws 1 A)).y3 = tc A ∧ (UU (ws 1 A)).x2 + (UU (ws 1 A)).y1 = tc A ∧ (UU (ws 1 A)).x3 + (UU (ws 1 A)).y2 = tc A := by unfold tc; omega
  have cB : (UU (ws 1 B)).x1 + (UU (ws 1 B)).y3 = tc B ∧ (UU (ws 1 B)).x2 + (UU (ws 1 B)).y1 = tc B ∧ (UU (ws 1 B)).x3 + (UU (ws 1 B)).y2 = tc B := by unfold tc; omega
  have lin : ∀ x y x' y' p q : Int, x + y = q → x' + y' = p → 1 * (p * x + 0) + (- q * x' + 0) + (1 * (p * y + 0) + (- q * y' + 0)) = 0 := by
    intro x y x' y' p q h1 h2
    have k1 : p * (x + y) = p * q := by rw [h1]
    have k2 : q * (x' + y') = q * p := by rw [h2]
    have k3 := Int.mul_comm p q
    grind
  have hle := skew_neg hW (by rw [e]; exact lin _ _ _ _ _ _ cA.1 cB.1) (by rw [e]; exact lin _ _ _ _ _ _ cA.2.1 cB.2.1) (by rw [e]; exact lin _ _ _ _ _ _ cA.2.2 cB.2.2)
  rw [wdd_append, wdd_ws, wdd_ws, wdd_ws, wdd_ws, SS_symm B A] at hle
  generalize tc A = q at *
  generalize tc B = p at *
  generalize SS A A = a at *
  generalize SS B B = b at *
  generalize SS A B = s at *
  -- p p a + q q b <= 2 p q s
  have h1 : p * p * a + q * q * b ≤ 2 * (p * q * s) := by grind
  have x0 : 0 ≤ p * p * a := Int.mul_nonneg (Int.mul_nonneg (Int.le_of_lt tB) (Int.le_of_lt tB)) sAA
  have y0 : 0 ≤ q * q * b := Int.mul_nonneg (Int.mul_nonneg (Int.le_of_lt tA) (Int.le_of_lt tA)) sBB
  have xy : (p * p * a) * (q * q * b) ≤ (p * q * s) * (p * q * s) := by
    generalize p * p * a = x at *
    generalize q * q * b = y at *
    generalize p * q * s = z at *
    have m1 : (x + y) * (x + y) ≤ (2 * z) * (2 * z) := Int.mul_le_mul h1 h1 (by omega) (by omega)
    have m2 : 0 ≤ (x - y) * (x - y) := by
      rcases Int.le_total 0 (x - y) with z | z
      · exact Int.mul_nonneg z z
      · exact Int.mul_nonneg_of_nonpos_of_nonpos z z
    have i1 : (x + y) * (x + y) = (x - y) * (x - y) + 4 * (x * y) := by grind
    have i2 : (2 * z) * (2 * z) = 4 * (z * z) := by grind
    omega
  have pq : 0 < (p * q) * (p * q) := Int.mul_pos (Int.mul_pos tB tA) (Int.mul_pos tB tA)
  have i3 : (p * q * s) * (p * q * s) - (p * p * a) * (q * q * b) = ((p * q) * (p * q)) * (s * s - a * b) := by grind
  have := nonneg_of_mul pq (show 0 ≤ ((p * q) * (p * q)) * (s * s - a * b) by omega)
  omega
theorem mixed_sq {c d : List Pt} (hc : IsShape c) (hd : IsShape d) : 4 * area c * area d ≤ mixedP c d * mixedP c d := by
  have h := minkowski hc.ang hd.ang
  rw [area_SS hc, area_SS hd, ← mixed_SS hc hd] at h
  have : 4 * area c * area d = 2 * area c * (2 * area d) := by grind
  omega
end Rm
namespace Rm
/-! bounds -/
theorem cross_bd {n m : Int} {a b : Pt} (ha : Sm n a) (hb : Sm m b) : - (2 * (n * m)) ≤ cross a b ∧ cross a b ≤ 2 * (n * m) := by
  unfold Sm at ha hb
  have key : ∀ x y : Int, -n ≤ x → x ≤ n → -m ≤ y → y ≤ m → -(n * m) ≤ x * y ∧ x * y ≤ n * m := by
    intro x y h1 h2 h3 h4
    have a1 := Int.mul_nonneg (show 0 ≤ n - x by omega) (show 0 ≤ m - y by omega)
    have a2 := Int.mul_nonneg (show 0 ≤ n + x by omega) (show 0 ≤ m + y by omega)
    have a3 := Int.mul_nonneg (show 0 ≤ n - x by omega) (show 0 ≤ m + y by omega)
    have a4 := Int.mul_nonneg (show 0 ≤ n + x by omega) (show 0 ≤ m - y by omega)
    have e1 : (n - x) * (m - y) = n * m - n * y - x * m + x * y := by grind
    have e2 : (n + x) * (m + y) = n * m + n * y + x * m + x * y := by grind
    have e3 : (n - x) * (m + y) = n * m + n * y - x * m - x * y := by grind
    have e4 : (n + x) * (m - y) = n * m - n * y + x * m - x * y := by grind
    omega
  have k1 := key a.1 b.2 (by omega) (by omega) (by omega) (by omega)
  have k2 := key a.2 b.1 (by omega) (by omega) (by omega) (by omega)
  unfold cross
  omega
theorem skew_bd {n m : Int} {a b : Pt} (ha : Sm n a) (hb : Sm m b) : - (2 * (n * m)) ≤ skew a b ∧ skew a b ≤ 2 * (n * m) := by
  have h := cross_bd ha hb
  unfold skew
  split
  · exact h
  · rw [cross_swap]
    omega
theorem isum_bd {α : Type} {f : α → Int} {k : Int} : ∀ {L : List α}, (∀ x ∈ L, -k ≤ f x ∧ f x ≤ k) → -((L.length : Int) * k) ≤ isum f L ∧ isum f L ≤ (L.length : Int) * k
  | [], _ => by
    show -(((0 : Nat) : Int) * k) ≤ 0 ∧ 0 ≤ ((0 : Nat) : Int) * k
    simp
  | x :: L, h => by
    have h1 := h x List.mem_cons_self
    have h2 := isum_bd (L := L) fun y hy => h y (List.mem_cons_of_mem _ hy)
    show -(((L.length + 1 : Nat) : Int) * k) ≤ f x + isum f L ∧ f x + isum f L ≤ ((L.length + 1 : Nat) : Int) * k
    rw [Int.natCast_add, Int.add_mul]
    omega
theorem SS_bd {n m : Int} {A B : List Pt} (hA : Sms n A) (hB : Sms m B) : -((A.length : Int) * ((B.length : Int) * (2 * (n * m)))) ≤ SS A B ∧ SS A B ≤ (A.length : Int) * ((B.length : Int) * (2 * (n * m))) :=
  isum_bd fun a ha => isum_bd fun b hb => skew_bd (hA a ha) (hB b hb)
theorem SS_bd' {n : Int} {A B : List Pt} (hA : Sms n A) (hB : Sms n B) (h0 : 0 ≤ n) (hn : n ≤ 4000) (lA : A.length ≤ 100) (lB : B.length ≤ 100) : -1000000000000 ≤ SS A B ∧ SS A B ≤ 1000000000000 := by
  have hA' : Sms 4000 A := fun p hp => (hA p hp).mono hn
  have hB' : Sms 4000 B := fun p hp => (hB p hp).mono hn
  have h := SS_bd hA' hB'
  have h1 : (B.length : Int) * (2 * (4000 * 4000)) ≤ 100 * (2 * (4000 * 4000)) := Int.mul_le_mul_of_nonneg_right (by omega) (by decide)
  have h2 : (A.length : Int) * ((B.length : Int) * (2 * (4000 * 4000))) ≤ 100 * (100 * (2 * (4000 * 4000))) := Int.mul_le_mul (by omega) h1 (Int.mul_nonneg (by omega) (by decide)) (by decide)
  omega
/-- the numbers of a law's shape -/
theorem law_bd {c d : List Pt} (hc : IsShape c) (hd : IsShape d) (sc : Sms 2000 c) (sd : Sms 2000 d) (lc : c.length ≤ 100) (ld : d.length ≤ 100) : (0 ≤ mixedP c d ∧ mixedP c d ≤ 1000000000000) ∧ 0 ≤ area c ∧ area c ≤ 1000000000000 := by
  have l1 : (sidesBy c).length ≤ 100 := by rw [sides_len]; split <;> omega
  have l2 : (sidesBy d).length ≤ 100 := by rw [sides_len]; split <;> omega
  have s1 := sms_sides sc (by decide)
  have s2 := sms_sides sd (by decide)
  have b1 := SS_bd' s1 s2 (by decide) (by decide) l1 l2
  have b2 := SS_bd' s1 s1 (by decide) (by decide) l1 l1
  have b3 := mixed_nonneg hc hd
  rw [mixed_SS hc hd] at b3 ⊢
  rw [area_SS hc] at b2
  have b4 := dbl_nonneg hc.ang
  rw [← area_dbl c hc.1] at b4
  omega
end Rm

/-! # A shape's corners are apart; the hull holds its points -/
namespace Rm
theorem opp {x y v : Pt} (ux : Up x) (uy : Up (neg y)) (hxy : cross x y = 0) (hv : 0 < cross x v) : cross y v < 0 := by
  have i1 : x.2 * cross y v = y.2 * cross x v + v.2 * cross y x := by
    unfold cross
    grind
  have i2 : x.1 * cross y v = y.1 * cross x v + v.1 * cross y x := by
    unfold cross
    grind
  rw [cross_swap x y, hxy] at i1 i2
  simp only [Int.neg_zero, Int.mul_zero, Int.add_zero] at i1 i2
  have c2 : x.1 * y.2 - x.2 * y.1 = 0 := hxy
  rcases Int.lt_or_le (cross y v) 0 with hh | hh
  · exact hh
  · exfalso
    unfold Up neg at uy
    simp only at uy
    rcases ux with ux | ⟨ux0, ux1⟩
    · have m1 := Int.mul_nonneg (Int.le_of_lt ux) hh
      rcases uy with uy | ⟨uy0, uy1⟩
      · have m2 := Int.mul_neg_of_neg_of_pos (show y.2 < 0 by omega) hv
        omega
      · have : y.2 = 0 := by omega
        rw [this, Int.mul_zero] at c2
        have m3 := Int.mul_neg_of_pos_of_neg ux (show y.1 < 0 by omega)
        omega
    · rw [ux0, Int.zero_mul] at c2
      have y2 : y.2 = 0 := by
        rcases Int.mul_eq_zero.mp (show x.1 * y.2 = 0 by omega) with z | z
        · omega
        · exact z
      have m1 := Int.mul_nonneg (Int.le_of_lt ux1) hh
      have m2 := Int.mul_neg_of_neg_of_pos (show y.1 < 0 by omega) hv
      omega
theorem opp_half {x y v : Pt} (nx : x ≠ pt0) (ny : y ≠ pt0) (h : half x ≠ half y) (hxy : cross x y = 0) (hv : 0 < cross x v) : cross y v < 0 := by
  rcases half_cases nx with ⟨ha, ua⟩ | ⟨ha, ua⟩ <;> rcases half_cases ny with ⟨hb, ub⟩ | ⟨hb, ub⟩
  · exact absurd (ha.trans hb.symm) h
  · exact opp ua ub hxy hv
  · have := opp (x := neg x) (y := neg y) (v := neg v) ua (by rw [neg_neg]; exact ub) (by rw [cross_neg_neg]; exact hxy) (by rw [cross_neg_neg]; exact hv)
    rw [cross_neg_neg] at this
    exact this
  · exact absurd (ha.trans hb.symm) h
theorem get_at {l : List Pt} {i : Nat} (h : i < l.length) : l[i] = at_ l i := by
  unfold at_
  rw [List.getD_eq_getElem?_getD, List.getElem?_eq_getElem h]
  rfl
theorem Ang.lt {A : List Pt} (h : Ang A) {i j : Nat} (hij : i < j) (hj : j < A.length) : Ah (at_ A i) (at_ A j) := by
  have := List.pairwise_iff_getElem.mp h.pw i j (by omega) hj hij
  rw [get_at, get_at] at this
  exact this
theorem corners_apart {c : List Pt} (h : IsShape c) {i j : Nat} (hij : i < j) (hj : j < c.length) : at_ c i ≠ at_ c j := by
  intro e
  have hl : (sidesBy c).length = c.length := by rw [sides_len, if_neg (by omega)]
  have hA := h.ang
  by_cases h2 : c.length = 2
  · have := stick_ltp h h2
    have e1 : i = 0 := by omega
    have e2 : j = 1 := by omega
    rw [e1, e2] at e
    rw [e] at this
    exact (ltp_ne this).1 (btw_self _)
  have h3 : 3 ≤ c.length := by omega
  have hi : i < c.length := by omega
  obtain ⟨k, hk, hki⟩ : ∃ k, k < c.length ∧ (k + 1) % c.length = i := by
    by_cases h0 : i = 0
    · exact ⟨c.length - 1, by omega, by rw [h0, show c.length - 1 + 1 = c.length by omega, Nat.mod_self]⟩
    · exact ⟨i - 1, by omega, by rw [show i - 1 + 1 = i by omega, Nat.mod_eq_of_lt hi]⟩
  have ht := turns h h3 hk
  rw [hki] at ht
  have mi : (i + 1) % c.length < c.length := Nat.mod_lt _ (by omega)
  have mj : (j + 1) % c.length < c.length := Nat.mod_lt _ (by omega)
  have si := sides_at (c := c) (by omega) hi
  have sj := sides_at (c := c) (by omega) hj
  have sk := sides_at (c := c) (by omega) hk
  rw [hki] at sk
  have q1 := own_inn h _ mj k hk
  have q2 := own_inn h _ mj i hi
  have q3 := own_inn h _ mi j hj
  unfold Lf at q1 q2 q3
  rw [hki, ← sk] at q1
  rw [← si] at q2
  rw [← sj] at q3
  have e1 : cross (at_ (sidesBy c) k) (btw (at_ c k) (at_ c ((j + 1) % c.length))) = cross (at_ (sidesBy c) k) (at_ (sidesBy c) j) := by
    rw [sj, ← e, sk, lf_to]
  have e2 : btw (at_ c i) (at_ c ((j + 1) % c.length)) = at_ (sidesBy c) j := by rw [sj, e]
  have e3 : btw (at_ c j) (at_ c ((i + 1) % c.length)) = at_ (sidesBy c) i := by rw [si, e]
  rw [e1] at q1
  rw [e2] at q2
  rw [e3, cross_swap] at q3
  have ni : at_ (sidesBy c) i ≠ pt0 := fun z => hA.nz (by rw [← z]; exact at_mem (by omega))
  have nj : at_ (sidesBy c) j ≠ pt0 := fun z => hA.nz (by rw [← z]; exact at_mem (by omega))
  have hah := hA.lt hij (by omega)
  have hz : cross (at_ (sidesBy c) i) (at_ (sidesBy c) j) = 0 := by omega
  rcases ah_iff.mp hah with ⟨z1, z2⟩ | ⟨_, z⟩
  · have := opp_half ni nj (by rw [z1, z2]; decide) hz (v := neg (at_ (sidesBy c) k)) (by rw [cross_neg_right, cross_swap]; omega)
    rw [cross_neg_right, cross_swap] at this
    omega
  · omega
theorem corners_nodup {c : List Pt} (h : IsShape c) : c.Nodup := by
  rw [List.nodup_iff_pairwise_ne, List.pairwise_iff_getElem]
  intro i j hi hj hij
  rw [get_at, get_at]
  exact corners_apart h hij hj
theorem nodup_len {α : Type} [DecidableEq α] : ∀ {l m : List α}, l.Nodup → (∀ x ∈ l, x ∈ m) → l.length ≤ m.length
  | [], _, _, _ => Nat.zero_le _
  | a :: l, m, hn, hs => by
    have hp := List.nodup_cons.mp hn
    have ha := hs a List.mem_cons_self
    have := nodup_len (l := l) (m := m.erase a) hp.2 fun x hx => by
      have hxa : x ≠ a := fun z => hp.1 (z ▸ hx)
      exact (List.mem_erase_of_ne hxa).mpr (hs x (List.mem_cons_of_mem _ hx))
    rw [List.length_erase_of_mem ha] at this
    have := List.length_pos_of_mem ha
    rw [List.length_cons]
    omega
theorem hull_len2 {ps : List Pt} (h : ps ≠ []) : (hull ps).length ≤ ps.length := nodup_len (corners_nodup (hull_shape h)) fun x hx => hull_sub hx
/-- the hull holds its points -/
theorem hull_holds {ps : List Pt} (h : ps ≠ []) {p : Pt} (hp : p ∈ ps) : holdsP (hull ps) p := by
  have ho : p ∈ order ps := mem_order.mpr hp
  by_cases h1 : (order ps).length = 1
  · left
    have e : hull ps = order ps := by
      unfold hull
      rw [if_pos h1]
    rw [e]
    match order ps, h1, ho with
    | [a], _, ho => exact ⟨rfl, (List.mem_singleton.mp ho).symm⟩
  · have h0 : (order ps).length ≠ 0 := fun z => order_ne h (List.length_eq_zero_iff.mp z)
    obtain ⟨s, t, U, V, e, hne, hh, hl, _⟩ := hull_parts (ps := ps) (by omega)
    have hl2 := hull_left (S := ps) (by omega) p hp
    have hs := hull_shape h
    right
    refine ⟨?_, (inn_iff hs.1 p).mpr hl2, ?_⟩
    · rw [e, List.length_append, List.length_cons, List.length_cons]
      omega
    · by_cases h3 : 2 < (hull ps).length
      · exact .inl h3
      · right
        rw [e] at h3 ⊢
        have hU : U = [] := by
          cases U with
          | nil => rfl
          | cons _ _ => simp at h3
        subst hU
        have pw := order_pw ps
        constructor
        · show Le s p
          cases eo : order ps with
          | nil => rw [eo] at ho; cases ho
          | cons a L =>
            rw [eo] at hh ho pw
            cases hh
            rcases List.mem_cons.mp ho with z | z
            · exact .inl z.symm
            · exact .inr ((List.pairwise_cons.mp pw).1 p z)
        · show Le p t
          exact last_ge pw hl ho
/-- the hull of a hull's corners -/
theorem hull_hull {ps : List Pt} (h : ps ≠ []) : hull (hull ps) = hull ps :=
  hull_unique (hull_shape h) (fun x hx => hx) (fun q hq => by
    have hs := hull_shape h
    rw [← inn_iff hs.1]
    obtain ⟨i, hi, rfl⟩ := List.getElem_of_mem hq
    rw [get_at]
    exact own_inn hs i hi) (fun q hq => ⟨q, hq, q, hq, .inl rfl, .inl rfl⟩)
/-! ## the program's table of points -/
end Rm

/-! # Two shapes together are the hull of all sums; reaches add -/
namespace Rm
def pairs (c d : List Pt) : List Pt := c.flatMap fun a => d.map fun b => addp a b
theorem mem_pairs {c d : List Pt} {x : Pt} : x ∈ pairs c d ↔ ∃ a ∈ c, ∃ b ∈ d, x = addp a b := by
  unfold pairs
  rw [List.mem_flatMap]
  constructor
  · rintro ⟨a, ha, hx⟩
    obtain ⟨b, hb, rfl⟩ := List.mem_map.mp hx
    exact ⟨a, ha, b, hb, rfl⟩
  · rintro ⟨a, ha, b, hb, rfl⟩
    exact ⟨a, ha, List.mem_map.mpr ⟨b, hb, rfl⟩⟩
/-! ## sums of first arrows -/
theorem push_prefix : ∀ (as st : List Pt) (S : Pt → Prop), (∀ t r, st = t ++ r → S (sumP r)) → (∀ n, n ≤ as.length → S (addp (sumP st) (sumP (as.take n)))) → ∀ t r, as.foldl pushR st = t ++ r → S (sumP r)
  | [], st, S, h, _, t, r, e => h t r e
  | a :: as, st, S, h, k, t, r, e => by
    have e' : as.foldl pushR (pushR st a) = t ++ r := e
    have hs : sumP (pushR st a) = addp (sumP st) a := by
      have := push_sum [a] st
      rw [sumP_cons, show sumP [] = pt0 from rfl, addp_zero] at this
      exact this
    refine push_prefix as (pushR st a) S (fun t' r' e2 => ?_) (fun n hn => ?_) t r e'
    · have whole : S (addp (sumP st) a) := by
        have := k 1 (by simp)
        rw [List.take_succ_cons, List.take_zero, sumP_cons, show sumP [] = pt0 from rfl, addp_zero] at this
        exact this
      cases t' with
      | nil =>
        rw [List.nil_append] at e2
        rw [← e2, hs]
        exact whole
      | cons z t' =>
        cases st with
        | nil =>
          have e3 : [a] = z :: (t' ++ r') := e2
          have e4 := (List.cons.inj e3).2
          have e5 := List.append_eq_nil_iff.mp e4.symm
          rw [e5.2]
          exact h [] [] rfl
        | cons x r0 =>
          have ep : pushR (x :: r0) a = if halfI x = halfI a ∧ cross x a = 0 then addp x a :: r0 else a :: x :: r0 := rfl
          rw [ep] at e2
          split at e2
          · have e4 := (List.cons.inj e2).2
            exact h (x :: t') r' (congrArg (x :: ·) e4)
          · have e4 := (List.cons.inj e2).2
            exact h t' r' e4
    · rw [hs, addp_assoc]
      have := k (n + 1) (by rw [List.length_cons]; omega)
      rw [List.take_succ_cons, sumP_cons] at this
      exact this
theorem take_clip {α : Type} (l : List α) (n : Nat) : l.take (min n l.length) = l.take n := by
  rcases Nat.le_total n l.length with h | h
  · rw [Nat.min_eq_left h]
  · rw [Nat.min_eq_right h, List.take_length, List.take_of_length_le h]
theorem mergeL_prefix : ∀ (N : Nat) (l r : List Pt), l.length + r.length = N → ∀ n, ∃ i j, i ≤ l.length ∧ j ≤ r.length ∧ sumP ((mergeL l r).take n) = addp (sumP (l.take i)) (sumP (r.take j))
  | N, [], r, _, n => by
    rw [mergeL_nil]
    refine ⟨0, min n r.length, Nat.le_refl _, Nat.min_le_right _ _, ?_⟩
    rw [take_clip]
    exact (zero_addp _).symm
  | N, a :: l, [], _, n => by
    rw [mergeL_nil']
    refine ⟨min n (a :: l).length, 0, Nat.min_le_right _ _, Nat.le_refl _, ?_⟩
    rw [take_clip]
    exact (addp_zero _).symm
  | 0, a :: l, b :: r, h, _ => by simp at h
  | N + 1, a :: l, b :: r, h, n => by
    cases n with
    | zero => exact ⟨0, 0, Nat.zero_le _, Nat.zero_le _, (addp_zero _).symm⟩
    | succ n =>
      rw [mergeL_cons]
      split
      · obtain ⟨i, j, hi, hj, e⟩ := mergeL_prefix N l (b :: r) (by simp at h ⊢; omega) n
        refine ⟨i + 1, j, by rw [List.length_cons]; omega, hj, ?_⟩
        rw [List.take_succ_cons, sumP_cons, e, List.take_succ_cons, sumP_cons, addp_assoc]
      · obtain ⟨i, j, hi, hj, e⟩ := mergeL_prefix N (a :: l) r (by simp at h ⊢; omega) n
        refine ⟨i, j + 1, hi, by rw [List.length_cons]; omega, ?_⟩
        rw [List.take_succ_cons, sumP_cons, e, List.take_succ_cons (a := b), sumP_cons, ← addp_assoc, ← addp_assoc, addp_comm b]
theorem merged_prefix (A B : List Pt) (k : Nat) : ∃ i j, i ≤ A.length ∧ j ≤ B.length ∧ sumP ((Rm.merged A B).take k) = addp (sumP (A.take i)) (sumP (B.take j)) := by
  have hL := mergeL_prefix _ A B rfl
  have key := push_prefix (mergeL A B) [] (fun p => ∃ i j, i ≤ A.length ∧ j ≤ B.length ∧ p = addp (sumP (A.take i)) (sumP (B.take j))) (fun t r e => by
    have := List.append_eq_nil_iff.mp e.symm
    rw [this.2]
    exact ⟨0, 0, Nat.zero_le _, Nat.zero_le _, (addp_zero _).symm⟩) (fun n _ => by
    rw [show sumP [] = pt0 from rfl, zero_addp]
    exact hL n)
  have e : ((mergeL A B).foldl pushR []) = ((Rm.merged A B).drop k).reverse ++ ((Rm.merged A B).take k).reverse := by
    rw [← List.reverse_append, List.take_append_drop]
    unfold Rm.merged
    rw [List.reverse_reverse]
  have := key _ _ e
  rw [sumP_rev] at this
  exact this
/-- a sum of first sides leads to a corner -/
theorem corner_of {c : List Pt} (h : IsShape c) {i : Nat} (hi : i ≤ (sidesBy c).length) : addp (at_ c 0) (sumP ((sidesBy c).take i)) ∈ c := by
  have hc : 0 < c.length := List.length_pos_iff.mpr h.1
  by_cases h2 : c.length < 2
  · rw [sides_len, if_pos h2] at hi
    have : i = 0 := by omega
    subst this
    rw [List.take_zero, show sumP [] = pt0 from rfl, addp_zero]
    exact at_mem hc
  · rw [sides_len, if_neg h2] at hi
    by_cases e : i = c.length
    · have hl : (sidesBy c).length = c.length := by rw [sides_len, if_neg h2]
      rw [e, ← hl, List.take_length, sides_sum, addp_zero]
      exact at_mem hc
    · rw [← vertex (by omega) i (by omega)]
      exact at_mem (by omega)
theorem corner_is {c : List Pt} (h : IsShape c) {x : Pt} (hx : x ∈ c) : ∃ i, i ≤ (sidesBy c).length ∧ x = addp (at_ c 0) (sumP ((sidesBy c).take i)) := by
  obtain ⟨i, hi, rfl⟩ := List.getElem_of_mem hx
  rw [get_at]
  by_cases h2 : c.length < 2
  · have : i = 0 := by omega
    subst this
    exact ⟨0, Nat.zero_le _, (addp_zero _).symm⟩
  · exact ⟨i, by rw [sides_len, if_neg h2]; omega, vertex (by omega) i hi⟩
/-! ## reaches, by arrows -/
def gwf (w a : Pt) : Int := if ahead a w = true then cross a w else 0
def gw (w : Pt) (A : List Pt) : Int := isum (gwf w) A
theorem gw_gs (w : Pt) : ∀ A : List Pt, gw w A = cross (gs w A) w
  | [] => by
    show 0 = cross pt0 w
    rw [cross_zero]
  | a :: A => by
    have ih := gw_gs w A
    show gwf w a + gw w A = _
    unfold gs at ih ⊢
    rw [List.filter_cons]
    unfold gwf
    split
    · rw [sumP_cons, cross_addl, ih]
    · rw [ih, Int.zero_add]
theorem gwf_add {w a b : Pt} (nw : w ≠ pt0) (na : a ≠ pt0) (nb : b ≠ pt0) (h : Sd a b) : gwf w (addp a b) = gwf w a + gwf w b := by
  have hn := (half_add na nb h).2
  have k1 := sd_add na nb h
  have sy : ∀ {x y : Pt}, Sd x y → Sd y x := fun {x y} k => ⟨k.1.symm, by rw [cross_swap, k.2]; rfl⟩
  have tr : ∀ {x y : Pt}, x ≠ pt0 → y ≠ pt0 → Sd x y → Ah x w → Ah y w := fun {x y} nx ny k z => by
    rcases wk_iff.mp (wk_trans ny nx nw (wk_iff.mpr (.inr (sy k))) (wk_iff.mpr (.inl z))) with z2 | z2
    · exact z2
    · exfalso
      -- y goes the way of w: so does x
      have : Sd x w := by
        refine ⟨k.1.trans z2.1, ?_⟩
        exact zero_cross ny (show cross y x = 0 by rw [cross_swap, k.2]; rfl) z2.2
      exact (wk_iff.mpr (.inr (sy this))) z
  unfold gwf
  by_cases z : ahead a w = true
  · rw [if_pos z, if_pos (tr na nb h z), if_pos (tr na hn k1 z), cross_addl]
  · rw [if_neg z, if_neg (fun y => z (tr nb na (sy h) y)), if_neg (fun y => z (tr hn na (sy k1) y))]
    rfl
theorem gw_merged {w : Pt} (nw : w ≠ pt0) {A B : List Pt} (nA : Nz A) (nB : Nz B) : gw w (Rm.merged A B) = gw w A + gw w B := by
  unfold gw Rm.merged
  rw [isum_rev, isum_push (fun a b na nb h => gwf_add nw na nb h) _ _ (fun x hx => by
    rcases (mergeL_mem _ A B rfl).mp hx with z | z
    · exact nA x z
    · exact nB x z) (fun x hx => by cases hx), isum_mergeL _ _ A B rfl]
  show 0 + _ = _
  omega
theorem far_le {c : List Pt} (h : IsShape c) {w : Pt} (nw : w ≠ pt0) {x : Pt} (hx : x ∈ c) : cross x w ≤ cross (at_ c 0) w + gw w (sidesBy c) := by
  obtain ⟨i, hi, rfl⟩ := corner_is h hx
  rw [cross_addl, gw_gs]
  have := psm h.ang (X := (sidesBy c).take i) (Y := (sidesBy c).drop i) (List.take_append_drop ..).symm nw
  omega
theorem far_at {c : List Pt} (h : IsShape c) {w : Pt} (nw : w ≠ pt0) : ∃ x ∈ c, cross x w = cross (at_ c 0) w + gw w (sidesBy c) := by
  obtain ⟨F, G, e, hF, hG, e2⟩ := filter_split nw h.ang.pw h.ang.nz
  refine ⟨addp (at_ c 0) (sumP ((sidesBy c).take F.length)), corner_of h (by rw [e, List.length_append]; omega), ?_⟩
  rw [cross_addl, gw_gs]
  unfold gs
  rw [e2, e, List.take_left]
/-! ## the top corner -/
def hs (A : List Pt) : Pt := sumP (A.filter fun a => !half a)
theorem hs_isum : ∀ A : List Pt, hs A = (isum (fun a => if half a = true then 0 else a.1) A, isum (fun a => if half a = true then 0 else a.2) A)
  | [] => rfl
  | a :: A => by
    have ih := hs_isum A
    unfold hs at ih ⊢
    rw [List.filter_cons]
    show _ = ((if half a = true then 0 else a.1) + isum _ A, (if half a = true then 0 else a.2) + isum _ A)
    cases hh : half a with
    | true =>
      simp only [Bool.not_true, Bool.false_eq_true, if_false, if_true, Int.zero_add]
      exact ih
    | false =>
      simp only [Bool.not_false, if_true, Bool.false_eq_true, if_false]
      rw [sumP_cons, ih]
      rfl
theorem hs_merged {A B : List Pt} (nA : Nz A) (nB : Nz B) : hs (Rm.merged A B) = addp (hs A) (hs B) := by
  have one : ∀ f : Pt → Int, (∀ a b : Pt, f (addp a b) = f a + f b) → isum (fun a => if half a = true then 0 else f a) (Rm.merged A B) = isum (fun a => if half a = true then 0 else f a) A + isum (fun a => if half a = true then 0 else f a) B := by
    intro f hf
    unfold Rm.merged
    rw [isum_rev, isum_push (fun a b na nb h => ?_) _ _ (fun x hx => by
      rcases (mergeL_mem _ A B rfl).mp hx with z | z
      · exact nA x z
      · exact nB x z) (fun x hx => by cases hx), isum_mergeL _ _ A B rfl]
    · show 0 + _ = _
      omega
    · have h1 := (half_add na nb h).1
      rw [h1, ← h.1]
      split
      · rfl
      · exact hf a b
  rw [hs_isum, hs_isum A, hs_isum B, one (fun a => a.1) (fun _ _ => rfl), one (fun a => a.2) (fun _ _ => rfl)]
  rfl
theorem top_corner {c : List Pt} (h : IsShape c) : addp (at_ c 0) (hs (sidesBy c)) ∈ c ∧ ∀ x ∈ c, Le (at_ c 0) x ∧ Le x (addp (at_ c 0) (hs (sidesBy c))) := by
  have hc : 0 < c.length := List.length_pos_iff.mpr h.1
  by_cases h2 : c.length < 2
  · match c, h, h2 with
    | [p], _, _ =>
      have : addp (at_ [p] 0) (hs (sidesBy [p])) = p := addp_zero p
      rw [this]
      refine ⟨List.mem_singleton.mpr rfl, fun x hx => ?_⟩
      rw [List.mem_singleton.mp hx]
      exact ⟨.inl rfl, .inl rfl⟩
    | [], h, _ => exact absurd rfl h.1
  · obtain ⟨s, t, U, V, e, hne, p1, p2, p3, p4⟩ := shape_parts h (by omega)
    have hm := parts_min p1 p3
    have ts := (two_chains hne p1 (turn_of_steps p2) p3 (turn_of_steps p4)).1
    rw [← e] at ts hm
    have e0 : at_ c 0 = s := by rw [e]; rfl
    have f1 : ∀ x ∈ steps (s :: U ++ [t]), (!half x) = true := fun x hx => by
      obtain ⟨a, b, hab, rfl⟩ := steps_pw (R := ltp) (fun _ _ h => h) p1 x hx
      rw [(ltp_half hab).1] <;> rfl
    have f2 : ∀ x ∈ steps (t :: V ++ [s]), ¬ (!half x) = true := fun x hx => by
      obtain ⟨a, b, hab, rfl⟩ := steps_pw (R := fun a b => ltp b a) (fun _ _ h => h) p3 x hx
      rw [(ltp_half hab).2]
      decide
    have e1 : hs (sidesBy c) = btw s t := by
      unfold hs
      rw [ts, List.filter_append, List.filter_eq_self.mpr f1, List.filter_eq_nil_iff.mpr f2, List.append_nil, List.cons_append, steps_sum]
      have : ∀ (l : List Pt) (h : s :: (l ++ [t]) ≠ []), (s :: (l ++ [t])).getLast h = t := fun l h => by
        rw [List.getLast_cons (by simp)]
        simp
      rw [this]
    have e2 : addp s (btw s t) = t := by
      unfold addp btw
      ext <;> simp only <;> omega
    rw [e0, e1, e2]
    refine ⟨by rw [e]; simp, hm⟩
theorem le_add {a b c d : Pt} (h1 : Le a b) (h2 : Le c d) : Le (addp a c) (addp b d) := by
  have key : ∀ a b : Pt, Le a b ↔ a.2 < b.2 ∨ a.2 = b.2 ∧ a.1 ≤ b.1 := by
    intro a b
    unfold Le ltp lexlt swap
    simp only [Prod.ext_iff]
    omega
  rw [key] at h1 h2 ⊢
  unfold addp
  simp only
  omega
/-! ## together, the hull of all sums -/
theorem together_at {c d : List Pt} : at_ (together c d) 0 = addp (at_ c 0) (at_ d 0) := by
  unfold together shapeBy
  cases (Rm.merged (sidesBy c) (sidesBy d)).dropLast <;> rfl
theorem together_sub {c d : List Pt} (hc : IsShape c) (hd : IsShape d) {x : Pt} (hx : x ∈ together c d) : x ∈ pairs c d := by
  obtain ⟨h1, h2⟩ := together_shape hc hd
  obtain ⟨k, _, rfl⟩ := corner_is h2 hx
  rw [h1, together_at]
  obtain ⟨i, j, hi, hj, e⟩ := merged_prefix (sidesBy c) (sidesBy d) k
  refine mem_pairs.mpr ⟨_, corner_of hc hi, _, corner_of hd hj, ?_⟩
  rw [e]
  unfold addp
  ext <;> simp only <;> omega
theorem together_inn {c d : List Pt} (hc : IsShape c) (hd : IsShape d) {q : Pt} (hq : q ∈ pairs c d) : Inn (together c d) q := by
  obtain ⟨h1, h2⟩ := together_shape hc hd
  obtain ⟨a, ha, b, hb, rfl⟩ := mem_pairs.mp hq
  intro k hk
  by_cases h3 : (together c d).length < 2
  · -- one corner: both are points
    have hl : (sidesBy (together c d)).length = 0 := by rw [sides_len, if_pos h3]
    have k0 : k = 0 := by omega
    have e : (k + 1) % (together c d).length = 0 := by
      have : (together c d).length = 1 := by omega
      rw [this, Nat.mod_one]
    rw [e, k0]
    unfold Lf
    rw [btw_self, cross_zero]
    exact Int.le_refl _
  · have hl : (sidesBy (together c d)).length = (together c d).length := by rw [sides_len, if_neg h3]
    have hA := h2.ang
    have nw : at_ (sidesBy (together c d)) k ≠ pt0 := fun z => hA.nz (by rw [← z]; exact at_mem (by omega))
    have e : sidesBy (together c d) = (sidesBy (together c d)).take k ++ at_ (sidesBy (together c d)) k :: (sidesBy (together c d)).drop (k + 1) := by
      have hg := get_at (l := sidesBy (together c d)) (i := k) (by omega)
      rw [← hg, ← List.drop_eq_getElem_cons (by omega), List.take_append_drop]
    have g1 := gs_at hA e
    unfold Lf
    rw [← sides_at (by omega) hk]
    have v := vertex (c := together c d) (by omega) k hk
    rw [← g1, together_at] at v
    have f1 := far_le hc nw ha
    have f2 := far_le hd nw hb
    have f3 := gw_merged nw hc.ang.nz' hd.ang.nz'
    rw [← h1, gw_gs] at f3
    generalize hw : at_ (sidesBy (together c d)) k = w at *
    have e4 : cross w (btw (at_ (together c d) k) (addp a b)) = cross (at_ (together c d) k) w - cross a w - cross b w := by
      unfold cross btw addp
      grind
    rw [e4, v, cross_addl, cross_addl]
    omega
theorem together_hull {c d : List Pt} (hc : IsShape c) (hd : IsShape d) : hull (pairs c d) = together c d := by
  obtain ⟨h1, h2⟩ := together_shape hc hd
  refine hull_unique h2 (fun x hx => together_sub hc hd hx) (fun q hq => (inn_iff h2.1 q).mp (together_inn hc hd hq)) (fun q hq => ?_)
  obtain ⟨a, ha, b, hb, rfl⟩ := mem_pairs.mp hq
  have tc := (top_corner hc).2 a ha
  have td := (top_corner hd).2 b hb
  have tm := (top_corner h2).1
  rw [h1, hs_merged hc.ang.nz' hd.ang.nz', together_at] at tm
  have h0 : 0 < (together c d).length := List.length_pos_iff.mpr h2.1
  refine ⟨at_ (together c d) 0, at_mem h0, _, tm, ?_, ?_⟩
  · rw [together_at]
    exact le_add tc.1 td.1
  · have := le_add tc.2 td.2
    have e : addp (addp (at_ c 0) (at_ d 0)) (addp (hs (sidesBy c)) (hs (sidesBy d))) = addp (addp (at_ c 0) (hs (sidesBy c))) (addp (at_ d 0) (hs (sidesBy d))) := by
      unfold addp
      ext <;> simp only <;> omega
    rw [e]
    exact this
theorem pairs_comm {c d : List Pt} (x : Pt) : x ∈ pairs c d ↔ x ∈ pairs d c := by
  rw [mem_pairs, mem_pairs]
  constructor
  · rintro ⟨a, ha, b, hb, rfl⟩
    exact ⟨b, hb, a, ha, addp_comm a b⟩
  · rintro ⟨a, ha, b, hb, rfl⟩
    exact ⟨b, hb, a, ha, addp_comm a b⟩
theorem together_comm {c d : List Pt} (hc : IsShape c) (hd : IsShape d) : together d c = together c d := by
  rw [← together_hull hc hd, ← together_hull hd hc]
  exact hull_ext fun x => pairs_comm x
/-! ## reaches add -/
theorem reach_eq {c : List Pt} (h : IsShape c) {a : Pt} (na : a ≠ pt0) : reachP c a = cross (at_ c 0) (-a.2, a.1) + gw (-a.2, a.1) (sidesBy c) := by
  have nw : ((-a.2, a.1) : Pt) ≠ pt0 := fun z => na (by
    unfold pt0 at z ⊢
    rw [Prod.mk.injEq] at z
    ext <;> simp only <;> omega)
  have dc : ∀ p : Pt, dotp a p = cross p (-a.2, a.1) := fun p => by
    unfold dotp cross
    simp only
    grind
  have hn : c.map (dotp a) ≠ [] := fun e => h.1 (List.map_eq_nil_iff.mp e)
  obtain ⟨m1, m2⟩ := maxL_ok hn
  obtain ⟨x, hx, e⟩ := far_at h nw
  obtain ⟨y, hy, e2⟩ := List.mem_map.mp m1
  have l1 := m2 (dotp a x) (List.mem_map.mpr ⟨x, hx, rfl⟩)
  have l2 := far_le h nw hy
  rw [dc] at l1
  rw [dc] at e2
  unfold reachP
  omega
theorem reach_zero {c : List Pt} (h : IsShape c) : reachP c pt0 = 0 := by
  have hn : c.map (dotp pt0) ≠ [] := fun e => h.1 (List.map_eq_nil_iff.mp e)
  obtain ⟨x, _, e⟩ := List.mem_map.mp (maxL_ok hn).1
  unfold reachP
  rw [← e]
  unfold dotp pt0
  simp
theorem reach_add {c d : List Pt} (hc : IsShape c) (hd : IsShape d) (a : Pt) : reachP (together c d) a = reachP c a + reachP d a := by
  obtain ⟨h1, h2⟩ := together_shape hc hd
  by_cases na : a = pt0
  · rw [na, reach_zero hc, reach_zero hd, reach_zero h2]
    rfl
  · have nw : ((-a.2, a.1) : Pt) ≠ pt0 := fun z => na (by
      unfold pt0 at z ⊢
      rw [Prod.mk.injEq] at z
      ext <;> simp only <;> omega)
    rw [reach_eq hc na, reach_eq hd na, reach_eq h2 na, h1, gw_merged nw hc.ang.nz' hd.ang.nz', together_at, cross_addl]
    omega
theorem together_holds {c d : List Pt} (hc : IsShape c) (hd : IsShape d) {q : Pt} (hq : q ∈ pairs c d) : holdsP (together c d) q := by
  rw [← together_hull hc hd]
  refine hull_holds (fun e => ?_) hq
  rw [e] at hq
  cases hq
end Rm

/-! # Mixed areas of shapes taken so many times -/
namespace Rm
theorem SS_scaled {f g : Int} (hf : 0 < f) (hg : 0 < g) (A B : List Pt) : SS (scaled f A) (scaled g B) = f * g * SS A B := by
  have sk : ∀ a b : Pt, skew (mulp f a) (mulp g b) = f * g * skew a b := by
    intro a b
    unfold skew
    have h : (ahead (mulp f a) (mulp g b) = true) ↔ (ahead a b = true) := (ah_mull hf).trans (ah_mulr hg)
    by_cases k : ahead a b = true
    · rw [if_pos k, if_pos (h.mpr k), cross_mull, cross_mulr, Int.mul_assoc]
    · rw [if_neg k, if_neg (fun z => k (h.mp z)), cross_mull, cross_mulr]
      grind
  unfold SS scaled
  rw [isum_map, ← isum_mul]
  refine isum_congr fun a _ => ?_
  rw [isum_map, ← isum_mul]
  exact isum_congr fun b _ => sk a b
theorem sides_greater (c : List Pt) (t : Int) : sidesBy (greaterP c t) = if t = 0 then [] else scaled t (sidesBy c) := by
  unfold greaterP
  split
  · rfl
  · exact sides_scaled t c
theorem SS_greater {f g : Int} (hf : 0 ≤ f) (hg : 0 ≤ g) (c d : List Pt) : SS (sidesBy (greaterP c f)) (sidesBy (greaterP d g)) = f * g * SS (sidesBy c) (sidesBy d) := by
  rw [sides_greater, sides_greater]
  by_cases z : f = 0
  · rw [if_pos z, z]
    show 0 = _
    simp
  · by_cases y : g = 0
    · rw [if_neg z, if_pos y, y, SS_symm]
      show 0 = _
      simp
    · rw [if_neg z, if_neg y, SS_scaled (by omega) (by omega)]
theorem area_greater {c : List Pt} (hc : IsShape c) {f : Int} (hf : 0 ≤ f) : area (greaterP c f) = f * f * area c := by
  have h1 := area_SS (shape_greater hc hf)
  have h2 := area_SS hc
  have h3 := SS_greater hf hf c c
  rw [h1, h2] at h3
  have : 2 * area (greaterP c f) = 2 * (f * f * area c) := by rw [h3]; grind
  omega
theorem area_both {c d : List Pt} (hc : IsShape c) (hd : IsShape d) {f g : Int} (hf : 0 ≤ f) (hg : 0 ≤ g) : area (together (greaterP c f) (greaterP d g)) = f * f * area c + f * g * mixedP c d + g * g * area d := by
  have h1 := mixed_SS (shape_greater hc hf) (shape_greater hd hg)
  rw [SS_greater hf hg, ← mixed_SS hc hd] at h1
  have h2 : mixedP (greaterP c f) (greaterP d g) = area (together (greaterP c f) (greaterP d g)) - area (greaterP c f) - area (greaterP d g) := rfl
  rw [area_greater hc hf, area_greater hd hg] at h2
  omega
theorem mixed_self {c : List Pt} (hc : IsShape c) : mixedP c c = 2 * area c := by rw [mixed_SS hc hc, area_SS hc]
end Rm

/-! # Steps: arrows by their greatest common numbers -/
namespace Rm
def gcdP (a : Pt) : Int := ((Nat.gcd a.1.natAbs a.2.natAbs : Nat) : Int)
def unitP (a : Pt) : Pt := (a.1 / gcdP a, a.2 / gcdP a)
theorem gcdP_pos {a : Pt} (n : a ≠ pt0) : 0 < gcdP a := by
  unfold gcdP
  rcases Nat.eq_zero_or_pos (Nat.gcd a.1.natAbs a.2.natAbs) with h | h
  · exfalso
    rw [Nat.gcd_eq_zero_iff] at h
    exact n (Prod.ext (Int.natAbs_eq_zero.mp h.1) (Int.natAbs_eq_zero.mp h.2))
  · omega
theorem gcdP_le {n : Int} {a : Pt} (h : Sm n a) (na : a ≠ pt0) : gcdP a ≤ n := by
  unfold Sm at h
  unfold gcdP
  by_cases z : a.1 = 0
  · have z2 : a.2 ≠ 0 := fun y => na (Prod.ext z y)
    have := Nat.le_of_dvd (show 0 < a.2.natAbs by omega) (Nat.gcd_dvd_right a.1.natAbs a.2.natAbs)
    omega
  · have := Nat.le_of_dvd (show 0 < a.1.natAbs by omega) (Nat.gcd_dvd_left a.1.natAbs a.2.natAbs)
    omega
theorem unit_mul {a : Pt} : mulp (gcdP a) (unitP a) = a := by
  have h1 : gcdP a ∣ a.1 := Int.ofNat_dvd_left.mpr (Nat.gcd_dvd_left ..)
  have h2 : gcdP a ∣ a.2 := Int.ofNat_dvd_left.mpr (Nat.gcd_dvd_right ..)
  unfold mulp unitP
  ext
  · exact Int.mul_ediv_cancel' h1
  · exact Int.mul_ediv_cancel' h2
theorem unit_same {a b : Pt} (na : a ≠ pt0) (nb : b ≠ pt0) (h : unitP a = unitP b) : Sd a b := by
  have ha := unit_mul (a := a)
  have hb := unit_mul (a := b)
  refine ⟨?_, ?_⟩
  · rw [← ha, ← hb, half_mul (gcdP_pos na), half_mul (gcdP_pos nb), h]
  · rw [← ha, ← hb, cross_mull, cross_mulr, h, cross_self]
    simp
theorem units_apart {A : List Pt} (h : Ang A) : (A.map unitP).Nodup := by
  rw [List.nodup_iff_pairwise_ne, List.pairwise_map]
  refine List.Pairwise.imp_of_mem (fun {a b} ha hb k e => ?_) h.pw
  have s := unit_same (h.nz' a ha) (h.nz' b hb) e
  rcases ah_iff.mp k with ⟨z1, z2⟩ | ⟨_, z⟩
  · have := s.1
    rw [z1, z2] at this
    cases this
  · have := s.2
    omega
def stepsOf (A : List Pt) : List Pt := A.flatMap fun a => List.replicate (gcdP a).toNat (unitP a)
def stepsP (c : List Pt) : List Pt := stepsOf (sidesBy c)
theorem stepsOf_len {n : Nat} : ∀ {A : List Pt}, Sms (n : Int) A → Nz A → (stepsOf A).length ≤ A.length * n
  | [], _, _ => Nat.zero_le _
  | a :: A, h, nz => by
    have ih := stepsOf_len (A := A) (fun x hx => h x (List.mem_cons_of_mem _ hx)) (fun x hx => nz x (List.mem_cons_of_mem _ hx))
    have h1 := gcdP_le (h a List.mem_cons_self) (nz a List.mem_cons_self)
    have e : stepsOf (a :: A) = List.replicate (gcdP a).toNat (unitP a) ++ stepsOf A := rfl
    rw [e, List.length_append, List.length_replicate, List.length_cons, Nat.add_mul, Nat.one_mul]
    omega
theorem stepsOf_snoc (A : List Pt) (a : Pt) : stepsOf (A ++ [a]) = stepsOf A ++ List.replicate (gcdP a).toNat (unitP a) := by
  unfold stepsOf
  rw [List.flatMap_append]
  simp
end Rm
namespace Rm
def near (ps : List Pt) : List Pt := ps.map fun p => (p.1 % 50 - 25, p.2 % 50 - 25)
theorem near_sm (ps : List Pt) : Sms 25 (near ps) := by
  intro p hp
  obtain ⟨q, _, rfl⟩ := List.mem_map.mp hp
  have h1 := Int.emod_nonneg q.1 (show (50 : Int) ≠ 0 by decide)
  have h2 := Int.emod_lt_of_pos q.1 (show (0 : Int) < 50 by decide)
  have h3 := Int.emod_nonneg q.2 (show (50 : Int) ≠ 0 by decide)
  have h4 := Int.emod_lt_of_pos q.2 (show (0 : Int) < 50 by decide)
  unfold Sm
  simp only
  omega
end Rm

/-! # How often a row of arrows goes along each least arrow -/
namespace Rm
theorem unit_gcd {a : Pt} (n : a ≠ pt0) : Nat.gcd (unitP a).1.natAbs (unitP a).2.natAbs = 1 := by
  have hp := gcdP_pos n
  have e := unit_mul (a := a)
  generalize hu : unitP a = u at *
  have hg : gcdP a = ((Nat.gcd a.1.natAbs a.2.natAbs : Nat) : Int) := rfl
  generalize hG : Nat.gcd a.1.natAbs a.2.natAbs = G at hg
  have h1 : a.1.natAbs = G * u.1.natAbs := by
    have := congrArg Prod.fst e
    unfold mulp at this
    simp only at this
    rw [← this, hg, Int.natAbs_mul, Int.natAbs_natCast]
  have h2 : a.2.natAbs = G * u.2.natAbs := by
    have := congrArg Prod.snd e
    unfold mulp at this
    simp only at this
    rw [← this, hg, Int.natAbs_mul, Int.natAbs_natCast]
  rw [h1, h2, Nat.gcd_mul_left] at hG
  have hG0 : 0 < G := by omega
  have : G * Nat.gcd u.1.natAbs u.2.natAbs = G * 1 := by rw [hG, Nat.mul_one]
  exact Nat.eq_of_mul_eq_mul_left hG0 this
/-- least arrows on one line, in one half, are one -/
theorem prim_one {u v : Pt} (hu : Nat.gcd u.1.natAbs u.2.natAbs = 1) (hv : Nat.gcd v.1.natAbs v.2.natAbs = 1) (h : Sd u v) : u = v := by
  have hc : u.1 * v.2 = u.2 * v.1 := by
    have := h.2
    unfold cross at this
    omega
  have hn : u.1.natAbs * v.2.natAbs = u.2.natAbs * v.1.natAbs := by rw [← Int.natAbs_mul, ← Int.natAbs_mul, hc]
  have d1 : u.1.natAbs ∣ v.1.natAbs := by
    have : u.1.natAbs ∣ u.2.natAbs * v.1.natAbs := ⟨v.2.natAbs, hn.symm⟩
    exact Nat.Coprime.dvd_of_dvd_mul_left hu this
  have d2 : v.1.natAbs ∣ u.1.natAbs := by
    have : v.1.natAbs ∣ v.2.natAbs * u.1.natAbs := ⟨u.2.natAbs, by rw [Nat.mul_comm v.2.natAbs, hn, Nat.mul_comm]⟩
    exact Nat.Coprime.dvd_of_dvd_mul_left hv this
  have e1 : u.1.natAbs = v.1.natAbs := Nat.dvd_antisymm d1 d2
  have d3 : u.2.natAbs ∣ v.2.natAbs := by
    have : u.2.natAbs ∣ u.1.natAbs * v.2.natAbs := ⟨v.1.natAbs, hn⟩
    exact Nat.Coprime.dvd_of_dvd_mul_left (Nat.Coprime.symm hu) this
  have d4 : v.2.natAbs ∣ u.2.natAbs := by
    have : v.2.natAbs ∣ v.1.natAbs * u.2.natAbs := ⟨u.1.natAbs, by rw [Nat.mul_comm v.1.natAbs, ← hn, Nat.mul_comm]⟩
    exact Nat.Coprime.dvd_of_dvd_mul_left (Nat.Coprime.symm hv) this
  have e2 : u.2.natAbs = v.2.natAbs := Nat.dvd_antisymm d3 d4
  have nu : u ≠ pt0 := fun z => by
    rw [z] at hu
    exact absurd hu (by decide)
  have nv : v ≠ pt0 := fun z => by
    rw [z] at hv
    exact absurd hv (by decide)
  -- the same half: the same signs
  rcases half_cases nu with ⟨ha, ua⟩ | ⟨ha, ua⟩
  · have ub := up_of (h.1.symm.trans ha) nv
    unfold Up at ua ub
    have e3 : u.2 = v.2 := by omega
    by_cases z : u.2 = 0
    · ext <;> omega
    · have : u.1 = v.1 := by
        rw [← e3, Int.mul_comm] at hc
        exact Int.eq_of_mul_eq_mul_left z hc
      exact Prod.ext this e3
  · have ub := down_of (h.1.symm.trans ha)
    unfold Up neg at ua ub
    simp only at ua ub
    have e3 : u.2 = v.2 := by omega
    by_cases z : u.2 = 0
    · ext <;> omega
    · have : u.1 = v.1 := by
        rw [← e3, Int.mul_comm] at hc
        exact Int.eq_of_mul_eq_mul_left z hc
      exact Prod.ext this e3
theorem sd_mul {t s : Int} (ht : 0 < t) (hs : 0 < s) {a b : Pt} : Sd (mulp t a) (mulp s b) ↔ Sd a b := by
  unfold Sd
  rw [half_mul ht, half_mul hs, cross_mull, cross_mulr, (mul_sign ht).2.1, (mul_sign hs).2.1]
theorem unit_iff {a b : Pt} (na : a ≠ pt0) (nb : b ≠ pt0) : unitP a = unitP b ↔ Sd a b := by
  refine ⟨unit_same na nb, fun h => prim_one (unit_gcd na) (unit_gcd nb) ?_⟩
  rw [← unit_mul (a := a), ← unit_mul (a := b)] at h
  exact (sd_mul (gcdP_pos na) (gcdP_pos nb)).mp h
theorem unit_ne {a : Pt} (na : a ≠ pt0) : unitP a ≠ pt0 := fun z => by
  have := unit_gcd na
  rw [z] at this
  exact absurd this (by decide)
/-- so many times a least arrow -/
theorem mul_unit {u : Pt} (hu : Nat.gcd u.1.natAbs u.2.natAbs = 1) {t : Int} (ht : 0 < t) : gcdP (mulp t u) = t ∧ unitP (mulp t u) = u := by
  have h1 : gcdP (mulp t u) = t := by
    unfold gcdP mulp
    simp only
    rw [Int.natAbs_mul, Int.natAbs_mul, Nat.gcd_mul_left, hu, Nat.mul_one]
    omega
  refine ⟨h1, ?_⟩
  unfold unitP
  rw [h1]
  unfold mulp
  ext
  · exact Int.mul_ediv_cancel_left _ (by omega)
  · exact Int.mul_ediv_cancel_left _ (by omega)
theorem add_same {a b : Pt} (na : a ≠ pt0) (nb : b ≠ pt0) (h : Sd a b) : unitP (addp a b) = unitP a ∧ gcdP (addp a b) = gcdP a + gcdP b := by
  have hu := (unit_iff na nb).mpr h
  have ea := unit_mul (a := a)
  have eb := unit_mul (a := b)
  rw [← hu] at eb
  have pa := gcdP_pos na
  have pb := gcdP_pos nb
  have e : addp a b = mulp (gcdP a + gcdP b) (unitP a) := by
    have : mulp (gcdP a + gcdP b) (unitP a) = addp (mulp (gcdP a) (unitP a)) (mulp (gcdP b) (unitP a)) := by
      unfold mulp addp
      ext <;> simp only <;> rw [Int.add_mul]
    rw [this, ea, eb]
  obtain ⟨h1, h2⟩ := mul_unit (unit_gcd na) (t := gcdP a + gcdP b) (by omega)
  rw [e]
  exact ⟨h2, h1⟩
/-- how often u is gone -/
def cntf (u a : Pt) : Int := if unitP a = u then gcdP a else 0
def cnt (u : Pt) (A : List Pt) : Int := isum (cntf u) A
theorem cntf_add {u a b : Pt} (na : a ≠ pt0) (nb : b ≠ pt0) (h : Sd a b) : cntf u (addp a b) = cntf u a + cntf u b := by
  obtain ⟨h1, h2⟩ := add_same na nb h
  have hu := (unit_iff na nb).mpr h
  unfold cntf
  rw [h1, ← hu, h2]
  split <;> rfl
theorem cnt_merged (u : Pt) {A B : List Pt} (nA : Nz A) (nB : Nz B) : cnt u (Rm.merged A B) = cnt u A + cnt u B := by
  unfold cnt Rm.merged
  rw [isum_rev, isum_push (fun a b na nb h => cntf_add na nb h) _ _ (fun x hx => by
    rcases (mergeL_mem _ A B rfl).mp hx with z | z
    · exact nA x z
    · exact nB x z) (fun x hx => by cases hx), isum_mergeL _ _ A B rfl]
  show 0 + _ = _
  omega
theorem cnt_nonneg (u : Pt) {A : List Pt} (nA : Nz A) : 0 ≤ cnt u A := isum_nonneg fun a ha => by
  unfold cntf
  have := gcdP_pos (nA a ha)
  split <;> omega
/-- in a row in order each least arrow stands once -/
theorem cnt_at {A : List Pt} (h : A.Pairwise Ah) (nA : Nz A) {a : Pt} (ha : a ∈ A) : cnt (unitP a) A = gcdP a := by
  induction A with
  | nil => cases ha
  | cons b A ih =>
    have hp := List.pairwise_cons.mp h
    have nA' : Nz A := fun x hx => nA x (List.mem_cons_of_mem _ hx)
    have apart : ∀ x ∈ A, unitP b ≠ unitP x := fun x hx e => by
      have s := unit_same (nA b List.mem_cons_self) (nA' x hx) e
      rcases ah_iff.mp (hp.1 x hx) with ⟨z1, z2⟩ | ⟨_, z⟩
      · have := s.1
        rw [z1, z2] at this
        cases this
      · have := s.2
        omega
    show cntf (unitP a) b + cnt (unitP a) A = gcdP a
    rcases List.mem_cons.mp ha with rfl | ha
    · have : cnt (unitP a) A = 0 := by
        unfold cnt
        rw [isum_congr (g := fun _ => 0), isum_zero]
        intro x hx
        unfold cntf
        rw [if_neg (fun e => apart x hx e.symm)]
      unfold cntf
      rw [if_pos rfl, this]
      omega
    · rw [ih hp.2 nA' ha]
      unfold cntf
      rw [if_neg (apart a ha)]
      omega
theorem cnt_none {A : List Pt} {u : Pt} (h : ∀ a ∈ A, unitP a ≠ u) : cnt u A = 0 := by
  unfold cnt
  rw [isum_congr (g := fun _ => 0), isum_zero]
  intro x hx
  unfold cntf
  rw [if_neg (h x hx)]
theorem cnt_pos {A : List Pt} {u : Pt} (h : 0 < cnt u A) : ∃ a ∈ A, unitP a = u := by
  apply Classical.byContradiction
  intro hn
  have := cnt_none (A := A) (u := u) fun a ha e => hn ⟨a, ha, e⟩
  omega
/-- rows in order that go along each least arrow as often are one -/
theorem row_ext {A B : List Pt} (hA : A.Pairwise Ah) (hB : B.Pairwise Ah) (nA : Nz A) (nB : Nz B) (h : ∀ u, cnt u A = cnt u B) : A = B := by
  have sub : ∀ {A B : List Pt}, A.Pairwise Ah → B.Pairwise Ah → Nz A → Nz B → (∀ u, cnt u A = cnt u B) → ∀ a ∈ A, a ∈ B := fun {A B} hA hB nA nB h a ha => by
    have h1 := cnt_at hA nA ha
    have h2 := gcdP_pos (nA a ha)
    obtain ⟨b, hb, e⟩ := cnt_pos (A := B) (u := unitP a) (by rw [← h]; omega)
    have h3 := cnt_at hB nB hb
    have : a = b := by
      rw [← unit_mul (a := a), ← unit_mul (a := b), e]
      congr 1
      rw [e, ← h, h1] at h3
      exact h3
    rw [this]
    exact hb
  have irr : ∀ a : Pt, ¬ Ah a a := fun a z => by
    rcases ah_iff.mp z with ⟨z1, z2⟩ | ⟨_, z⟩
    · rw [z1] at z2
      cases z2
    · rw [cross_self] at z
      omega
  have key : ∀ (A B : List Pt), A.Pairwise Ah → B.Pairwise Ah → Nz A → Nz B → (∀ x, x ∈ A ↔ x ∈ B) → A = B := by
    intro A
    induction A with
    | nil =>
      intro B _ _ _ _ h
      cases B with
      | nil => rfl
      | cons b B => exact absurd ((h b).mpr List.mem_cons_self) (fun z => nomatch z)
    | cons a A ih =>
      intro B h1 h2 n1 n2 h
      cases B with
      | nil => exact absurd ((h a).mp List.mem_cons_self) (fun z => nomatch z)
      | cons b B =>
        have p1 := List.pairwise_cons.mp h1
        have p2 := List.pairwise_cons.mp h2
        have e : a = b := by
          rcases List.mem_cons.mp ((h a).mp List.mem_cons_self) with e | e
          · exact e
          · rcases List.mem_cons.mp ((h b).mpr List.mem_cons_self) with e2 | e2
            · exact e2.symm
            · exact absurd (ah_trans (n1 a List.mem_cons_self) (n2 b List.mem_cons_self) (n1 a List.mem_cons_self) (p1.1 b e2) (p2.1 a e)) (irr a)
        subst e
        rw [ih B p1.2 p2.2 (fun x hx => n1 x (List.mem_cons_of_mem _ hx)) (fun x hx => n2 x (List.mem_cons_of_mem _ hx)) fun x => ?_]
        have hx := h x
        rw [List.mem_cons, List.mem_cons] at hx
        constructor
        · intro z
          rcases hx.mp (.inr z) with e | e
          · subst e
            exact absurd (p1.1 x z) (irr x)
          · exact e
        · intro z
          rcases hx.mpr (.inr z) with e | e
          · subst e
            exact absurd (p2.1 x z) (irr x)
          · exact e
  exact key A B hA hB nA nB fun x => ⟨sub hA hB nA nB h x, sub hB hA nB nA (fun u => (h u).symm) x⟩
end Rm

/-! # A shape taken off another -/
namespace Rm
def restF (f : Pt → Int) (M : List Pt) : List Pt := M.filterMap fun a => if 0 < f a then some (mulp (f a) (unitP a)) else none
theorem restF_mem {f : Pt → Int} {M : List Pt} {x : Pt} : x ∈ restF f M ↔ ∃ a ∈ M, 0 < f a ∧ x = mulp (f a) (unitP a) := by
  unfold restF
  rw [List.mem_filterMap]
  constructor
  · rintro ⟨a, ha, h⟩
    split at h
    · next k => exact ⟨a, ha, k, (Option.some.inj h).symm⟩
    · cases h
  · rintro ⟨a, ha, k, rfl⟩
    exact ⟨a, ha, if_pos k⟩
theorem restF_sorted {f : Pt → Int} {M : List Pt} (h : M.Pairwise Ah) (nM : Nz M) : (restF f M).Pairwise Ah ∧ Nz (restF f M) := by
  constructor
  · unfold restF
    rw [List.pairwise_filterMap]
    refine List.Pairwise.imp_of_mem (fun {a b} ha hb k x hx y hy => ?_) h
    split at hx
    · next k1 =>
      cases hx
      split at hy
      · next k2 =>
        cases hy
        rw [ah_mull k1, ah_mulr k2]
        rw [← unit_mul (a := a), ← unit_mul (a := b), ah_mull (gcdP_pos (nM a ha)), ah_mulr (gcdP_pos (nM b hb))] at k
        exact k
      · cases hy
    · cases hx
  · intro x hx
    obtain ⟨a, ha, k, rfl⟩ := restF_mem.mp hx
    exact mulp_ne k (unit_ne (nM a ha))
theorem restF_cnt {f : Pt → Int} {M : List Pt} (h : M.Pairwise Ah) (nM : Nz M) (u : Pt) : (∀ a ∈ M, unitP a = u → 0 ≤ f a → cnt u (restF f M) = f a) ∧ ((∀ a ∈ M, unitP a ≠ u) → cnt u (restF f M) = 0) := by
  obtain ⟨h1, h2⟩ := restF_sorted (f := f) h nM
  constructor
  · intro a ha e h0
    by_cases k : 0 < f a
    · have hx : mulp (f a) (unitP a) ∈ restF f M := restF_mem.mpr ⟨a, ha, k, rfl⟩
      obtain ⟨g1, g2⟩ := mul_unit (unit_gcd (nM a ha)) k
      have := cnt_at h1 h2 hx
      rw [g1, g2, e] at this
      exact this
    · rw [cnt_none]
      · omega
      · intro x hx e2
        obtain ⟨b, hb, k2, rfl⟩ := restF_mem.mp hx
        rw [(mul_unit (unit_gcd (nM b hb)) k2).2] at e2
        have : b = a := by
          have c1 := cnt_at h nM ha
          have c2 := cnt_at h nM hb
          rw [e2] at c2
          rw [e] at c1
          rw [← unit_mul (a := a), ← unit_mul (a := b), e, e2, ← c1, ← c2]
        rw [this] at k2
        exact k k2
  · intro hn
    refine cnt_none fun x hx e2 => ?_
    obtain ⟨b, hb, k2, rfl⟩ := restF_mem.mp hx
    rw [(mul_unit (unit_gcd (nM b hb)) k2).2] at e2
    exact hn b hb e2
def restR (M B : List Pt) : List Pt := restF (fun a => gcdP a - cnt (unitP a) B) M
theorem rest_ok {M B : List Pt} (hM : M.Pairwise Ah) (nM : Nz M) (nB : Nz B) (hle : ∀ u, cnt u B ≤ cnt u M) : (restR M B).Pairwise Ah ∧ Nz (restR M B) ∧ ∀ u, cnt u (restR M B) = cnt u M - cnt u B := by
  obtain ⟨h1, h2⟩ := restF_sorted (f := fun a => gcdP a - cnt (unitP a) B) hM nM
  refine ⟨h1, h2, fun u => ?_⟩
  obtain ⟨c1, c2⟩ := restF_cnt (f := fun a => gcdP a - cnt (unitP a) B) hM nM u
  have hu := hle u
  have h0 := cnt_nonneg u nB
  by_cases k : ∃ a ∈ M, unitP a = u
  · obtain ⟨a, ha, e⟩ := k
    have ca := cnt_at hM nM ha
    rw [e] at ca
    have := c1 a ha e (by rw [e]; omega)
    unfold restR
    rw [this, e]
    omega
  · have hn : ∀ a ∈ M, unitP a ≠ u := fun a ha e => k ⟨a, ha, e⟩
    have := c2 hn
    have cm := cnt_none hn
    unfold restR
    omega
/-- the first arrow that is lacking -/
def lacks (M B : List Pt) : Option Pt := B.find? fun b => decide (cnt (unitP b) M < gcdP b)
theorem lacks_none {M A B : List Pt} (hB : B.Pairwise Ah) (nA : Nz A) (nB : Nz B) (h : ∀ u, cnt u M = cnt u A + cnt u B) : lacks M B = none := by
  unfold lacks
  rw [List.find?_eq_none]
  intro b hb k
  have k' := of_decide_eq_true k
  rw [h, cnt_at hB nB hb] at k'
  have := cnt_nonneg (unitP b) nA
  omega
theorem rest_of {M A B : List Pt} (hM : M.Pairwise Ah) (nM : Nz M) (hA : A.Pairwise Ah) (nA : Nz A) (nB : Nz B) (h : ∀ u, cnt u M = cnt u A + cnt u B) : restR M B = A := by
  obtain ⟨h1, h2, h3⟩ := rest_ok hM nM nB (fun u => by
    have := cnt_nonneg u nA
    have := h u
    omega)
  refine row_ext h1 hA h2 nA fun u => ?_
  rw [h3, h]
  omega
def takenS (c d : List Pt) : List Pt := shapeBy (btw (at_ d 0) (at_ c 0)) (restR (sidesBy c) (sidesBy d))
theorem taken_together {c d : List Pt} (hc : IsShape c) (hd : IsShape d) : lacks (sidesBy (together c d)) (sidesBy d) = none ∧ takenS (together c d) d = c := by
  obtain ⟨h1, h2⟩ := together_shape hc hd
  have hcnt : ∀ u, cnt u (sidesBy (together c d)) = cnt u (sidesBy c) + cnt u (sidesBy d) := fun u => by rw [h1, cnt_merged u hc.ang.nz' hd.ang.nz']
  refine ⟨lacks_none hd.ang.pw hc.ang.nz' hd.ang.nz' hcnt, ?_⟩
  unfold takenS
  rw [rest_of h2.ang.pw h2.ang.nz' hc.ang.pw hc.ang.nz' hd.ang.nz' hcnt, together_at]
  have e : btw (at_ d 0) (addp (at_ c 0) (at_ d 0)) = addp (at_ c 0) pt0 := by
    unfold btw addp pt0
    ext <;> simp only <;> omega
  rw [e, shapeBy_sides pt0 hc.1, moved_zero]
theorem taken_self {c : List Pt} (hc : IsShape c) : lacks (sidesBy c) (sidesBy c) = none ∧ takenS c c = [pt0] := by
  have h := taken_together (shape_one pt0) hc
  rw [pt_together hc, moved_zero] at h
  exact h
theorem taken_pt {c : List Pt} (hc : IsShape c) (p : Pt) : lacks (sidesBy c) (sidesBy [p]) = none ∧ takenS c [p] = moved (neg p) c := by
  refine ⟨rfl, ?_⟩
  have hcnt : ∀ u, cnt u (sidesBy c) = cnt u (sidesBy c) + cnt u [] := fun u => by
    show _ = _ + 0
    omega
  unfold takenS
  rw [show sidesBy [p] = [] from rfl, rest_of hc.ang.pw hc.ang.nz' hc.ang.pw hc.ang.nz' (fun x hx => by cases hx) hcnt]
  have e : btw (at_ [p] 0) (at_ c 0) = addp (at_ c 0) (neg p) := by
    show btw p (at_ c 0) = _
    unfold btw addp neg
    ext <;> simp only <;> omega
  rw [e, shapeBy_sides (neg p) hc.1]
end Rm

/-! # A shape taken off: the way back -/
namespace Rm
theorem merged_sorted {A B : List Pt} (hA : A.Pairwise Ah) (nA : Nz A) (hB : B.Pairwise Ah) (nB : Nz B) : (Rm.merged A B).Pairwise Ah ∧ Nz (Rm.merged A B) ∧ sumP (Rm.merged A B) = addp (sumP A) (sumP B) := by
  have hn : Nz (mergeL A B) := fun x hx => by
    rcases (mergeL_mem _ A B rfl).mp hx with z | z
    · exact nA x z
    · exact nB x z
  have wA : A.Pairwise Wk := hA.imp fun k => wk_iff.mpr (.inl k)
  have wB : B.Pairwise Wk := hB.imp fun k => wk_iff.mpr (.inl k)
  obtain ⟨h1, h2⟩ := push_sorted (mergeL A B) [] hn (fun _ h => nomatch h) (mergeL_wk _ A B rfl nA nB wA wB) .nil (fun t e => nomatch e)
  refine ⟨?_, ?_, ?_⟩
  · unfold Rm.merged
    rw [List.pairwise_reverse]
    exact h1
  · unfold Rm.merged
    intro x hx
    rw [List.mem_reverse] at hx
    exact h2 x hx
  · unfold Rm.merged
    rw [sumP_rev, push_sum, mergeL_sum _ A B rfl]
    unfold addp sumP pt0
    simp
theorem taken_back {c d : List Pt} (hc : IsShape c) (hd : IsShape d) (h : lacks (sidesBy c) (sidesBy d) = none) : sidesBy (takenS c d) = restR (sidesBy c) (sidesBy d) ∧ IsShape (takenS c d) ∧ together (takenS c d) d = c := by
  have hA := hc.ang
  have hB := hd.ang
  have hle : ∀ u, cnt u (sidesBy d) ≤ cnt u (sidesBy c) := fun u => by
    have h0 := cnt_nonneg u hA.nz'
    by_cases k : ∃ b ∈ sidesBy d, unitP b = u
    · obtain ⟨b, hb, e⟩ := k
      unfold lacks at h
      rw [List.find?_eq_none] at h
      have h1 := h b hb
      have h2 := cnt_at hB.pw hB.nz' hb
      rw [decide_eq_true_eq] at h1
      rw [e] at h1 h2
      omega
    · have := cnt_none (A := sidesBy d) (u := u) fun b hb e => k ⟨b, hb, e⟩
      omega
  obtain ⟨r1, r2, r3⟩ := rest_ok hA.pw hA.nz' hB.nz' hle
  obtain ⟨m1, m2, m3⟩ := merged_sorted r1 r2 hB.pw hB.nz'
  have em : Rm.merged (restR (sidesBy c) (sidesBy d)) (sidesBy d) = sidesBy c := row_ext m1 hA.pw m2 hA.nz' fun u => by
    rw [cnt_merged u r2 hB.nz', r3]
    omega
  have sm : sumP (restR (sidesBy c) (sidesBy d)) = pt0 := by
    rw [em, hA.sm, hB.sm, addp_zero] at m3
    exact m3.symm
  have ang : Ang (restR (sidesBy c) (sidesBy d)) := ⟨r1, fun z => r2 _ z rfl, sm⟩
  obtain ⟨p1, p2⟩ := path_shape ang (btw (at_ d 0) (at_ c 0))
  refine ⟨p1, p2, ?_⟩
  have e1 : sidesBy (takenS c d) = restR (sidesBy c) (sidesBy d) := p1
  have e0 : at_ (takenS c d) 0 = btw (at_ d 0) (at_ c 0) := by
    unfold takenS shapeBy
    cases (restR (sidesBy c) (sidesBy d)).dropLast <;> rfl
  unfold together
  rw [e1, em, e0]
  have e : addp (btw (at_ d 0) (at_ c 0)) (at_ d 0) = addp (at_ c 0) pt0 := by
    unfold btw addp pt0
    ext <;> simp only <;> omega
  rw [e, shapeBy_sides pt0 hc.1, moved_zero]
theorem taken_len (c d : List Pt) : (takenS c d).length ≤ 1 ∨ (takenS c d).length ≤ (restR (sidesBy c) (sidesBy d)).length := by
  unfold takenS shapeBy
  rw [pathF_len, List.length_dropLast]
  omega
theorem rest_len (M B : List Pt) : (restR M B).length ≤ M.length := by
  unfold restR restF
  exact List.length_filterMap_le _ _
theorem together_swap {a b c : List Pt} (ha : IsShape a) (hb : IsShape b) (hc : IsShape c) : together (together a b) c = together (together a c) b := by
  obtain ⟨s1, t1⟩ := together_shape ha hb
  obtain ⟨s2, t2⟩ := together_shape ha hc
  obtain ⟨s3, t3⟩ := together_shape t1 hc
  obtain ⟨s4, t4⟩ := together_shape t2 hb
  have e : sidesBy (together (together a b) c) = sidesBy (together (together a c) b) := row_ext t3.ang.pw t4.ang.pw t3.ang.nz' t4.ang.nz' fun u => by
    rw [s3, s4, cnt_merged u t1.ang.nz' hc.ang.nz', cnt_merged u t2.ang.nz' hb.ang.nz', s1, s2, cnt_merged u ha.ang.nz' hb.ang.nz', cnt_merged u ha.ang.nz' hc.ang.nz']
    omega
  have e0 : at_ (together (together a b) c) 0 = at_ (together (together a c) b) 0 := by
    rw [together_at, together_at, together_at, together_at]
    unfold addp
    ext <;> simp only <;> omega
  have h1 := shapeBy_sides pt0 t3.1
  have h2 := shapeBy_sides pt0 t4.1
  rw [moved_zero] at h1 h2
  rw [← h1, ← h2, e, e0]
theorem rest_sm {n : Int} {M B : List Pt} (h : Sms n M) (nM : Nz M) (nB : Nz B) : Sms n (restR M B) := fun x hx => by
  obtain ⟨a, ha, k, rfl⟩ := restF_mem.mp hx
  have h1 := h a ha
  have h2 := cnt_nonneg (unitP a) nB
  have e := unit_mul (a := a)
  generalize unitP a = u at *
  generalize gcdP a = g at *
  rw [← e] at h1
  generalize cnt u B = z at *
  unfold Sm mulp at *
  simp only at *
  have key : ∀ y : Int, -n ≤ g * y ∧ g * y ≤ n → -n ≤ (g - z) * y ∧ (g - z) * y ≤ n := fun y hy => by
    have e2 : (g - z) * y = g * y - z * y := Int.sub_mul ..
    rcases Int.le_total 0 y with p | p
    · have p1 := Int.mul_nonneg h2 p
      have p2 := Int.mul_nonneg (Int.le_of_lt k) p
      omega
    · have p1 := Int.mul_nonpos_of_nonneg_of_nonpos h2 p
      have p2 := Int.mul_nonpos_of_nonneg_of_nonpos (Int.le_of_lt k) p
      omega
  have k1 := key u.1
  have k2 := key u.2
  omega
theorem taken_sm {n m : Int} {c d : List Pt} (hc : IsShape c) (hd : IsShape d) (h1 : Sms n c) (h2 : Sms m d) (n0 : 0 ≤ n) (m0 : 0 ≤ m) (hl : c.length ≤ 50) : Sms (n + m + 100 * n) (takenS c d) := by
  have hs := sms_sides h1 n0
  have hr := rest_sm (B := sidesBy d) hs hc.ang.nz' hd.ang.nz'
  have ll := rest_len (sidesBy c) (sidesBy d)
  rw [sides_len] at ll
  have ll2 : (restR (sidesBy c) (sidesBy d)).length ≤ 50 := by
    split at ll <;> omega
  have s0 : Sm (n + m) (btw (at_ d 0) (at_ c 0)) := by
    have a1 := sms_at h1 n0 0
    have a2 := sms_at h2 m0 0
    unfold Sm btw at *
    simp only
    omega
  intro p hp
  refine (pathF_sm (m := 2 * n) (by omega) (restR (sidesBy c) (sidesBy d)).dropLast _ (n + m) s0 (fun x hx => hr x (List.dropLast_subset _ hx)) (by omega) p hp).mono ?_
  rw [List.length_dropLast]
  have : 2 * n * (((restR (sidesBy c) (sidesBy d)).length - 1 : Nat) : Int) ≤ 2 * n * 50 := Int.mul_le_mul_of_nonneg_left (by omega) (by omega)
  omega
theorem together_lenS {c d : List Pt} (hc : c ≠ []) (hd : d ≠ []) : (together c d).length ≤ c.length + d.length := by
  unfold together shapeBy
  rw [pathF_len, List.length_dropLast]
  have h := merged_len (sidesBy c) (sidesBy d)
  rw [sides_len, sides_len] at h
  have := List.length_pos_iff.mpr hc
  have := List.length_pos_iff.mpr hd
  split at h <;> split at h <;> omega
end Rm

/-! # Choices among steps -/
namespace Rm
abbrev Mask := List Bool
abbrev TabM := List (Pt × List Mask)
def thereF (t s : Pt) (b : Bool) : Pt := (t.1 + s.1 * (if b then 1 else 0), t.2 + s.2 * (if b then 1 else 0))
def sumM (ss : List Pt) (m : Mask) : Pt := (ss.zip m).foldl (fun t sb => thereF t sb.1 sb.2) pt0
theorem sumM_snoc {ss : List Pt} {m : Mask} (h : m.length = ss.length) (s : Pt) (b : Bool) : sumM (ss ++ [s]) (m ++ [b]) = thereF (sumM ss m) s b := by
  unfold sumM
  rw [List.zip_append h.symm, List.foldl_append]
  rfl
theorem foldl_there : ∀ (l : List (Pt × Bool)) (t : Pt), l.foldl (fun t sb => thereF t sb.1 sb.2) t = addp t (l.foldl (fun t sb => thereF t sb.1 sb.2) pt0)
  | [], t => by rw [List.foldl_nil, List.foldl_nil, addp_zero]
  | x :: l, t => by
    rw [List.foldl_cons, List.foldl_cons, foldl_there l (thereF t x.1 x.2), foldl_there l (thereF pt0 x.1 x.2), ← addp_assoc]
    congr 1
    unfold thereF addp pt0
    simp only [Int.zero_add]
theorem sumM_cons (s : Pt) (ss : List Pt) (b : Bool) (m : Mask) : sumM (s :: ss) (b :: m) = addp (thereF pt0 s b) (sumM ss m) := by
  unfold sumM
  rw [List.zip_cons_cons, List.foldl_cons, foldl_there]
theorem sumM_nil (m : Mask) : sumM [] m = pt0 := rfl
theorem there_true (s : Pt) : thereF pt0 s true = s := by
  unfold thereF pt0
  simp
theorem there_false (t s : Pt) : thereF t s false = t := by
  unfold thereF
  simp
/-- the other ones -/
theorem sumM_not : ∀ (ss : List Pt) (m : Mask), m.length = ss.length → addp (sumM ss m) (sumM ss (m.map not)) = sumP ss
  | [], m, _ => rfl
  | s :: ss, [], h => by simp at h
  | s :: ss, b :: m, h => by
    have ih := sumM_not ss m (by simpa using h)
    rw [List.map_cons, sumM_cons, sumM_cons, sumP_cons, ← ih]
    cases b
    · rw [there_false, zero_addp, Bool.not_false, there_true, ← addp_assoc, addp_comm (sumM ss m) s, addp_assoc]
    · rw [Bool.not_true, there_false, zero_addp, there_true, addp_assoc]
theorem sumM_all (ss : List Pt) : sumM ss (List.replicate ss.length true) = sumP ss := by
  induction ss with
  | nil => rfl
  | cons s ss ih => rw [List.length_cons, List.replicate_succ, sumM_cons, ih, there_true, sumP_cons]
/-! tables -/
section
variable {α : Type}
def putA (M : List (Pt × α)) (p : Pt) (x : α) : List (Pt × α) := if (M.any fun kv => decide (kv.1 = p)) = true then M.map (fun kv => if kv.1 = p then (kv.1, x) else kv) else M ++ [(p, x)]
def valA (M : List (Pt × α)) (p : Pt) : Option α := (M.find? fun kv => decide (kv.1 = p)).map (·.2)
theorem valA_cons (kv : Pt × α) (M : List (Pt × α)) (p : Pt) : valA (kv :: M) p = if kv.1 = p then some kv.2 else valA M p := by
  unfold valA
  rw [List.find?_cons]
  by_cases h : kv.1 = p
  · rw [if_pos h, decide_eq_true h]
    rfl
  · rw [if_neg h, decide_eq_false h]
theorem valA_any (M : List (Pt × α)) (p : Pt) : (M.any fun kv => decide (kv.1 = p)) = (valA M p).isSome := by
  induction M with
  | nil => rfl
  | cons kv M ih =>
    rw [List.any_cons, valA_cons, ih]
    by_cases h : kv.1 = p
    · rw [if_pos h, decide_eq_true h]
      rfl
    · rw [if_neg h, decide_eq_false h, Bool.false_or]
theorem valA_map (M : List (Pt × α)) (p q : Pt) (x : α) : valA (M.map fun kv => if kv.1 = p then (kv.1, x) else kv) q = (valA M q).map fun y => if q = p then x else y := by
  induction M with
  | nil => rfl
  | cons kv M ih =>
    rw [List.map_cons, valA_cons, valA_cons, ih]
    by_cases h : kv.1 = p
    · rw [if_pos h]
      by_cases k : kv.1 = q
      · rw [if_pos k, if_pos k, Option.map_some, if_pos (k.symm.trans h)]
      · rw [if_neg k, if_neg k]
    · rw [if_neg h]
      by_cases k : kv.1 = q
      · rw [if_pos k, if_pos k, Option.map_some, if_neg (fun z => h (k.trans z))]
      · rw [if_neg k, if_neg k]
theorem valA_snoc (M : List (Pt × α)) (p q : Pt) (x : α) (h : valA M p = none) : valA (M ++ [(p, x)]) q = if q = p then some x else valA M q := by
  induction M with
  | nil =>
    rw [List.nil_append, valA_cons]
    by_cases k : p = q
    · rw [if_pos k, if_pos k.symm]
    · rw [if_neg k, if_neg (fun z => k z.symm)]
  | cons kv M ih =>
    rw [valA_cons] at h
    by_cases k : kv.1 = p
    · rw [if_pos k] at h
      cases h
    · rw [if_neg k] at h
      rw [List.cons_append, valA_cons, valA_cons, ih h]
      by_cases j : kv.1 = q
      · rw [if_pos j, if_pos j, if_neg (fun z => k (j.trans z))]
      · rw [if_neg j, if_neg j]
theorem valA_put (M : List (Pt × α)) (p q : Pt) (x : α) : valA (putA M p x) q = if q = p then some x else valA M q := by
  unfold putA
  have a := valA_any M p
  split
  · next h =>
    rw [valA_map]
    by_cases k : q = p
    · rw [if_pos k, k]
      rw [a] at h
      obtain ⟨y, hy⟩ := Option.isSome_iff_exists.mp h
      rw [hy, Option.map_some, if_pos rfl]
    · rw [if_neg k]
      cases valA M q with
      | none => rfl
      | some y => rw [Option.map_some, if_neg k]
  · next h =>
    refine valA_snoc M p q x ?_
    rw [a] at h
    cases e : valA M p with
    | none => rfl
    | some y =>
      rw [e] at h
      exact absurd rfl h
theorem putA_keys (M : List (Pt × α)) (p : Pt) (x : α) : (putA M p x).map (·.1) = if (valA M p).isSome = true then M.map (·.1) else M.map (·.1) ++ [p] := by
  unfold putA
  rw [valA_any]
  split
  · rw [List.map_map]
    refine List.map_congr_left fun kv _ => ?_
    show (if kv.1 = p then (kv.1, x) else kv).1 = kv.1
    split <;> rfl
  · rw [List.map_append]
    rfl
theorem valA_key (M : List (Pt × α)) (p : Pt) : (valA M p).isSome = true ↔ p ∈ M.map (·.1) := by
  induction M with
  | nil => simp [valA]
  | cons kv M ih =>
    rw [valA_cons, List.map_cons, List.mem_cons]
    by_cases h : kv.1 = p
    · rw [if_pos h]
      simp [h]
    · rw [if_neg h, ih]
      exact ⟨.inr, fun z => z.resolve_left (fun y => h y.symm)⟩
theorem putA_nodup {M : List (Pt × α)} (h : (M.map (·.1)).Nodup) (p : Pt) (x : α) : ((putA M p x).map (·.1)).Nodup := by
  rw [putA_keys]
  split
  · exact h
  · next k =>
    rw [valA_key] at k
    refine List.nodup_append.mpr ⟨h, List.nodup_cons.mpr ⟨List.not_mem_nil, List.nodup_nil⟩, fun a ha b hb e => ?_⟩
    rw [List.mem_singleton.mp hb] at e
    exact k (e ▸ ha)
theorem valA_mem {M : List (Pt × α)} (h : (M.map (·.1)).Nodup) {p : Pt} {x : α} (hm : (p, x) ∈ M) : valA M p = some x := by
  induction M with
  | nil => cases hm
  | cons kv M ih =>
    rw [List.map_cons, List.nodup_cons] at h
    rw [valA_cons]
    rcases List.mem_cons.mp hm with e | hm
    · rw [← e, if_pos rfl]
    · rw [if_neg (fun z : kv.1 = p => h.1 (by rw [z]; exact List.mem_map.mpr ⟨(p, x), hm, rfl⟩))]
      exact ih h.2 hm
theorem mem_valA {M : List (Pt × α)} {p : Pt} {x : α} (h : valA M p = some x) : (p, x) ∈ M := by
  induction M with
  | nil => cases h
  | cons kv M ih =>
    rw [valA_cons] at h
    by_cases k : kv.1 = p
    · rw [if_pos k] at h
      cases h
      rw [← k]
      exact List.mem_cons_self
    · rw [if_neg k] at h
      exact List.mem_cons_of_mem _ (ih h)
theorem putA_len (M : List (Pt × α)) (p : Pt) (x : α) : (putA M p x).length ≤ M.length + 1 := by
  unfold putA
  split
  · rw [List.length_map]
    omega
  · rw [List.length_append, List.length_singleton]
    exact Nat.le_refl _
end
/-! the choices -/
def rowsA (M : TabM) (p : Pt) : List Mask := (valA M p).getD []
def putC (s : Pt) (t : Pt) (ch : Mask) (more : TabM) (b : Bool) : TabM := if (rowsA more (thereF t s b)).length < 2 then putA more (thereF t s b) (rowsA more (thereF t s b) ++ [ch ++ [b]]) else more
def foldB (s t : Pt) (ch : Mask) (more : TabM) (bs : List Bool) : TabM := bs.foldl (putC s t ch) more
def foldR (s t : Pt) (more : TabM) (rows : List Mask) : TabM := rows.foldl (fun m ch => foldB s t ch m [true, false]) more
def foldM (s : Pt) (more : TabM) (M : TabM) : TabM := M.foldl (fun m tr => foldR s tr.1 m tr.2) more
def choiceStep (M : TabM) (s : Pt) : TabM := foldM s [] M
def choicesF (ss : List Pt) : TabM := ss.foldl choiceStep [(pt0, [[]])]
theorem choices_snoc (ss : List Pt) (s : Pt) : choicesF (ss ++ [s]) = choiceStep (choicesF ss) s := by
  unfold choicesF
  rw [List.foldl_append]
  rfl
theorem foldB_snoc (s t : Pt) (ch : Mask) (more : TabM) (bs : List Bool) (b : Bool) : foldB s t ch more (bs ++ [b]) = putC s t ch (foldB s t ch more bs) b := by
  unfold foldB
  rw [List.foldl_append]
  rfl
theorem foldR_snoc (s t : Pt) (more : TabM) (rows : List Mask) (ch : Mask) : foldR s t more (rows ++ [ch]) = foldB s t ch (foldR s t more rows) [true, false] := by
  unfold foldR
  rw [List.foldl_append]
  rfl
theorem foldM_snoc (s : Pt) (more M : TabM) (tr : Pt × List Mask) : foldM s more (M ++ [tr]) = foldR s tr.1 (foldM s more M) tr.2 := by
  unfold foldM
  rw [List.foldl_append]
  rfl
/-- what the table holds of the rows D, by their sums -/
structure Tbl (f : Mask → Pt) (n : Nat) (D : List Mask) (M : TabM) : Prop where
  ks : (M.map (·.1)).Nodup
  rs : ∀ t rows, valA M t = some rows → rows.Nodup ∧ rows.length ≤ 2 ∧ ∀ r ∈ rows, r ∈ D ∧ f r = t
  al : ∀ r ∈ D, ∃ rows, valA M (f r) = some rows ∧ (r ∈ rows ∨ rows.length = 2)
  ln : ∀ r ∈ D, r.length = n
theorem tbl_nil (f : Mask → Pt) (n : Nat) : Tbl f n [] [] := ⟨List.nodup_nil, fun _ _ h => (by cases h), fun _ h => (nomatch h), fun _ h => (nomatch h)⟩
theorem nodup_snoc {α : Type} {l : List α} {x : α} (h : l.Nodup) (n : x ∉ l) : (l ++ [x]).Nodup :=
  List.nodup_append.mpr ⟨h, List.nodup_cons.mpr ⟨List.not_mem_nil, List.nodup_nil⟩, fun a ha b hb e => by
    rw [List.mem_singleton.mp hb] at e
    exact n (e ▸ ha)⟩
theorem tbl_put {f : Mask → Pt} {n : Nat} {D : List Mask} {M : TabM} (h : Tbl f (n + 1) D M) {s t : Pt} {ch : Mask} {b : Bool} (hn : ch ++ [b] ∉ D) (hl : ch.length = n) (hf : f (ch ++ [b]) = thereF t s b) : Tbl f (n + 1) (D ++ [ch ++ [b]]) (putC s t ch M b) := by
  have hlen : (ch ++ [b]).length = n + 1 := by rw [List.length_append, List.length_singleton, hl]
  have hln : ∀ r ∈ D ++ [ch ++ [b]], r.length = n + 1 := fun r hr => by
    rcases List.mem_append.mp hr with hr | hr
    · exact h.ln r hr
    · rw [List.mem_singleton.mp hr, hlen]
  unfold putC
  generalize hw : thereF t s b = w at hf
  have hrows : ∀ rows, valA M w = some rows → rowsA M w = rows := fun rows e => by
    unfold rowsA
    rw [e]
    rfl
  split
  · next hlt =>
    have hold : (rowsA M w).Nodup ∧ ∀ r ∈ rowsA M w, r ∈ D ∧ f r = w := by
      cases e : valA M w with
      | none =>
        have : rowsA M w = [] := by
          unfold rowsA
          rw [e]
          rfl
        rw [this]
        exact ⟨List.nodup_nil, fun _ h => (nomatch h)⟩
      | some rows =>
        rw [hrows rows e]
        obtain ⟨a1, a2, a3⟩ := h.rs w rows e
        exact ⟨a1, a3⟩
    refine ⟨putA_nodup h.ks _ _, fun t' rows' e => ?_, fun r hr => ?_, hln⟩
    · rw [valA_put] at e
      by_cases k : t' = w
      · rw [if_pos k] at e
        cases e
        refine ⟨nodup_snoc hold.1 fun z => hn (hold.2 _ z).1, ?_, fun r hr => ?_⟩
        · rw [List.length_append, List.length_singleton]
          omega
        · rcases List.mem_append.mp hr with hr | hr
          · obtain ⟨g1, g2⟩ := hold.2 r hr
            exact ⟨List.mem_append_left _ g1, g2.trans k.symm⟩
          · rw [List.mem_singleton.mp hr]
            exact ⟨List.mem_append_right _ (List.mem_singleton.mpr rfl), hf.trans k.symm⟩
      · rw [if_neg k] at e
        obtain ⟨a1, a2, a3⟩ := h.rs t' rows' e
        exact ⟨a1, a2, fun r hr => ⟨List.mem_append_left _ (a3 r hr).1, (a3 r hr).2⟩⟩
    · rw [valA_put]
      by_cases k : f r = w
      · rw [if_pos k]
        refine ⟨_, rfl, ?_⟩
        rcases List.mem_append.mp hr with hr | hr
        · obtain ⟨rows, e, z⟩ := h.al r hr
          rw [k] at e
          rw [hrows rows e] at hlt ⊢
          rcases z with z | z
          · exact .inl (List.mem_append_left _ z)
          · omega
        · rw [List.mem_singleton.mp hr]
          exact .inl (List.mem_append_right _ (List.mem_singleton.mpr rfl))
      · rw [if_neg k]
        rcases List.mem_append.mp hr with hr | hr
        · exact h.al r hr
        · rw [List.mem_singleton.mp hr] at k
          exact absurd hf k
  · next hge =>
    have hsome : ∃ rows, valA M w = some rows ∧ rows.length = 2 := by
      cases e : valA M w with
      | none =>
        have : rowsA M w = [] := by
          unfold rowsA
          rw [e]
          rfl
        rw [this] at hge
        exact absurd (by decide : ([] : List Mask).length < 2) hge
      | some rows =>
        rw [hrows rows e] at hge
        have := (h.rs w rows e).2.1
        exact ⟨rows, rfl, by omega⟩
    refine ⟨h.ks, fun t' rows' e => ?_, fun r hr => ?_, hln⟩
    · obtain ⟨a1, a2, a3⟩ := h.rs t' rows' e
      exact ⟨a1, a2, fun r hr => ⟨List.mem_append_left _ (a3 r hr).1, (a3 r hr).2⟩⟩
    · rcases List.mem_append.mp hr with hr | hr
      · exact h.al r hr
      · rw [List.mem_singleton.mp hr, hf]
        obtain ⟨rows, e, z⟩ := hsome
        exact ⟨rows, e, .inr z⟩
/-- both ways on from a row -/
def both (ch : Mask) : List Mask := [ch ++ [true], ch ++ [false]]
theorem snoc_inj {a c : Mask} {x y : Bool} (h : a ++ [x] = c ++ [y]) : a = c ∧ x = y := by
  have := List.append_inj' h rfl
  exact ⟨this.1, by simpa using this.2⟩
theorem tbl_both {f : Mask → Pt} {n : Nat} {D : List Mask} {M : TabM} (h : Tbl f (n + 1) D M) {s t : Pt} {ch : Mask} (hn : ∀ b, ch ++ [b] ∉ D) (hl : ch.length = n) (hf : ∀ b, f (ch ++ [b]) = thereF t s b) : Tbl f (n + 1) (D ++ both ch) (foldB s t ch M [true, false]) := by
  have h1 := tbl_put h (hn true) hl (hf true)
  have h2 := tbl_put (s := s) (t := t) h1 (b := false) (fun z => by
    rcases List.mem_append.mp z with z | z
    · exact hn false z
    · have := (snoc_inj (List.mem_singleton.mp z)).2
      cases this) hl (hf false)
  have e : D ++ both ch = (D ++ [ch ++ [true]]) ++ [ch ++ [false]] := by
    unfold both
    simp
  rw [e]
  exact h2
theorem mem_both {r ch : Mask} : r ∈ both ch ↔ ∃ b, r = ch ++ [b] := by
  unfold both
  constructor
  · intro h
    rcases List.mem_cons.mp h with h | h
    · exact ⟨true, h⟩
    · exact ⟨false, List.mem_singleton.mp h⟩
  · rintro ⟨b, rfl⟩
    cases b
    · exact List.mem_cons_of_mem _ (List.mem_singleton.mpr rfl)
    · exact List.mem_cons_self
theorem tbl_rows {f : Mask → Pt} {n : Nat} {s t : Pt} : ∀ (rows : List Mask) {D : List Mask} {M : TabM}, Tbl f (n + 1) D M → rows.Nodup → (∀ ch ∈ rows, (∀ b, ch ++ [b] ∉ D) ∧ ch.length = n ∧ ∀ b, f (ch ++ [b]) = thereF t s b) → Tbl f (n + 1) (D ++ rows.flatMap both) (foldR s t M rows)
  | [], D, M, h, _, _ => by
    rw [List.flatMap_nil, List.append_nil]
    exact h
  | ch :: rows, D, M, h, nd, k => by
    rw [List.nodup_cons] at nd
    obtain ⟨k1, k2, k3⟩ := k ch List.mem_cons_self
    have h1 := tbl_both h k1 k2 k3
    have h2 := tbl_rows rows h1 nd.2 fun c hc => by
      obtain ⟨j1, j2, j3⟩ := k c (List.mem_cons_of_mem _ hc)
      refine ⟨fun b z => ?_, j2, j3⟩
      rcases List.mem_append.mp z with z | z
      · exact j1 b z
      · obtain ⟨b', e⟩ := mem_both.mp z
        exact nd.1 ((snoc_inj e).1 ▸ hc)
    rw [List.flatMap_cons, ← List.append_assoc]
    exact h2
def allR (M : TabM) : List Mask := M.flatMap fun tr => tr.2.flatMap both
theorem tbl_M {f : Mask → Pt} {n : Nat} {s : Pt} : ∀ (N : TabM) {D : List Mask} {M : TabM}, Tbl f (n + 1) D M → (∀ tr ∈ N, tr.2.Nodup ∧ ∀ ch ∈ tr.2, (∀ b, ch ++ [b] ∉ D) ∧ ch.length = n ∧ ∀ b, f (ch ++ [b]) = thereF tr.1 s b) → N.Pairwise (fun x y => ∀ c ∈ x.2, c ∉ y.2) → Tbl f (n + 1) (D ++ allR N) (foldM s M N)
  | [], D, M, h, _, _ => by
    unfold allR
    rw [List.flatMap_nil, List.append_nil]
    exact h
  | tr :: N, D, M, h, k, pw => by
    rw [List.pairwise_cons] at pw
    obtain ⟨k1, k2⟩ := k tr List.mem_cons_self
    have h1 := tbl_rows (s := s) (t := tr.1) tr.2 h k1 k2
    have h2 := tbl_M N h1 (fun x hx => by
      obtain ⟨j1, j2⟩ := k x (List.mem_cons_of_mem _ hx)
      refine ⟨j1, fun c hc => ?_⟩
      obtain ⟨i1, i2, i3⟩ := j2 c hc
      refine ⟨fun b z => ?_, i2, i3⟩
      rcases List.mem_append.mp z with z | z
      · exact i1 b z
      · obtain ⟨c', hc', z⟩ := List.mem_flatMap.mp z
        obtain ⟨b', e⟩ := mem_both.mp z
        have e2 := (snoc_inj e).1
        exact pw.1 x hx c' hc' (e2 ▸ hc)) pw.2
    unfold allR at h2 ⊢
    rw [List.flatMap_cons, ← List.append_assoc]
    exact h2
/-- the table behind the steps ss: of all rows -/
structure Cho (ss : List Pt) (M : TabM) : Prop where
  ks : (M.map (·.1)).Nodup
  rs : ∀ t rows, valA M t = some rows → rows.Nodup ∧ rows.length ≤ 2 ∧ ∀ r ∈ rows, r.length = ss.length ∧ sumM ss r = t
  al : ∀ r : Mask, r.length = ss.length → ∃ rows, valA M (sumM ss r) = some rows ∧ (r ∈ rows ∨ rows.length = 2)
theorem two_in {l : List Mask} (nd : l.Nodup) (h : l.length = 2) : ∃ a c, a ≠ c ∧ a ∈ l ∧ c ∈ l := by
  match l, nd, h with
  | [a, c], nd, _ =>
    refine ⟨a, c, fun e => ?_, List.mem_cons_self, List.mem_cons_of_mem _ List.mem_cons_self⟩
    subst e
    simp at nd
theorem two_len {l : List Mask} {a c : Mask} (n : a ≠ c) (ha : a ∈ l) (hc : c ∈ l) : 2 ≤ l.length := by
  match l, ha, hc with
  | [], ha, _ => cases ha
  | [x], ha, hc => exact absurd ((List.mem_singleton.mp ha).trans (List.mem_singleton.mp hc).symm) n
  | _ :: _ :: _, _, _ =>
    rw [List.length_cons, List.length_cons]
    omega
theorem snoc_of {r : Mask} {n : Nat} (h : r.length = n + 1) : ∃ ch b, r = ch ++ [b] ∧ ch.length = n := by
  have hne : r ≠ [] := fun z => by
    rw [z] at h
    simp at h
  refine ⟨r.dropLast, r.getLast hne, (List.dropLast_concat_getLast hne).symm, ?_⟩
  rw [List.length_dropLast, h]
  rfl
theorem choices_ok (ss : List Pt) : Cho ss (choicesF ss) := by
  have key : ∀ (n : Nat) (ss : List Pt), ss.length = n → Cho ss (choicesF ss) := by
    intro n
    induction n with
    | zero =>
      intro ss h
      have e := List.length_eq_zero_iff.mp h
      subst e
      refine ⟨by show ([pt0] : List Pt).Nodup; simp, fun t rows e => ?_, fun r hr => ?_⟩
      · have e' : valA ([(pt0, [[]])] : TabM) t = some rows := e
        rw [valA_cons] at e'
        by_cases k : pt0 = t
        · rw [if_pos k] at e'
          cases e'
          refine ⟨by simp, by decide, fun r hr => ?_⟩
          rw [List.mem_singleton.mp hr]
          exact ⟨rfl, k⟩
        · rw [if_neg k] at e'
          cases e'
      · have e := List.length_eq_zero_iff.mp hr
        subst e
        exact ⟨[[]], rfl, .inl (List.mem_singleton.mpr rfl)⟩
    | succ n ih =>
      intro l h
      have hne : l ≠ [] := fun z => by
        rw [z] at h
        simp at h
      obtain ⟨ss, s, rfl⟩ : ∃ ss s, l = ss ++ [s] := ⟨l.dropLast, l.getLast hne, (List.dropLast_concat_getLast hne).symm⟩
      have hl : ss.length = n := by
        rw [List.length_append, List.length_singleton] at h
        omega
      have C := ih ss hl
      rw [choices_snoc]
      generalize choicesF ss = N at C ⊢
      have hent : ∀ tr ∈ N, valA N tr.1 = some tr.2 := fun tr ht => valA_mem C.ks ht
      have T := tbl_M (f := sumM (ss ++ [s])) (n := n) (s := s) N (tbl_nil _ _) (fun tr ht => by
        obtain ⟨a1, a2, a3⟩ := C.rs tr.1 tr.2 (hent tr ht)
        refine ⟨a1, fun ch hc => ?_⟩
        obtain ⟨b1, b2⟩ := a3 ch hc
        exact ⟨fun _ z => (nomatch z), b1.trans hl, fun b => by rw [sumM_snoc b1, b2]⟩) (by
        have pk : N.Pairwise (fun x y => x.1 ≠ y.1) := by
          have := C.ks
          rw [List.nodup_iff_pairwise_ne, List.pairwise_map] at this
          exact this
        refine pk.imp_of_mem fun {x y} hx hy ne c hc hc' => ?_
        obtain ⟨_, _, a3⟩ := C.rs x.1 x.2 (hent x hx)
        obtain ⟨_, _, b3⟩ := C.rs y.1 y.2 (hent y hy)
        exact ne ((a3 c hc).2.symm.trans (b3 c hc').2))
      have hlen : (ss ++ [s]).length = n + 1 := by
        rw [List.length_append, List.length_singleton, hl]
      have hD : ∀ (ch : Mask) (b : Bool) (t : Pt) (rows : List Mask), valA N t = some rows → ch ∈ rows → ch ++ [b] ∈ ([] : List Mask) ++ allR N := fun ch b t rows e hc => by
        rw [List.nil_append]
        unfold allR
        exact List.mem_flatMap.mpr ⟨(t, rows), mem_valA e, List.mem_flatMap.mpr ⟨ch, hc, mem_both.mpr ⟨b, rfl⟩⟩⟩
      refine ⟨T.ks, fun t rows e => ?_, fun r hr => ?_⟩
      · obtain ⟨a1, a2, a3⟩ := T.rs t rows e
        exact ⟨a1, a2, fun r hr => ⟨(T.ln r (a3 r hr).1).trans hlen.symm, (a3 r hr).2⟩⟩
      · rw [hlen] at hr
        obtain ⟨ch, b, rfl, hc⟩ := snoc_of hr
        obtain ⟨rows, e, z⟩ := C.al ch (hc.trans hl.symm)
        by_cases hin : ch ∈ rows
        · exact T.al _ (hD ch b _ rows e hin)
        · have h2 := z.resolve_left hin
          obtain ⟨a1, a2, a3⟩ := C.rs _ rows e
          obtain ⟨x, y, ne, hx, hy⟩ := two_in a1 h2
          have hs : ∀ u ∈ rows, sumM (ss ++ [s]) (u ++ [b]) = sumM (ss ++ [s]) (ch ++ [b]) := fun u hu => by
            rw [sumM_snoc (a3 u hu).1, sumM_snoc (hc.trans hl.symm), (a3 u hu).2]
          obtain ⟨rx, ex, zx⟩ := T.al _ (hD x b _ rows e hx)
          obtain ⟨ry, ey, zy⟩ := T.al _ (hD y b _ rows e hy)
          rw [hs x hx] at ex
          rw [hs y hy, ex] at ey
          cases ey
          refine ⟨rx, ex, .inr ?_⟩
          rcases zx with zx | zx
          · rcases zy with zy | zy
            · have := two_len (fun w => ne (snoc_inj w).1) zx zy
              have := (T.rs _ rx ex).2.1
              omega
            · exact zy
          · exact zx
  exact key _ ss rfl
/-! going through all choices -/
abbrev Tri := Pt × Int
def addT (s : Pt) (o : Tri) : Tri := ((o.1.1 + s.1, o.1.2 + s.2), o.2 + 1)
def sumsF (ss : List Pt) : List Tri := ss.foldl (fun l s => l ++ l.map (addT s)) [(pt0, 0)]
theorem sums_snoc (ss : List Pt) (s : Pt) : sumsF (ss ++ [s]) = sumsF ss ++ (sumsF ss).map (addT s) := by
  unfold sumsF
  rw [List.foldl_append]
  rfl
theorem sums_len (ss : List Pt) : (sumsF ss).length = 2 ^ ss.length := by
  have key : ∀ (n : Nat) (ss : List Pt), ss.length = n → (sumsF ss).length = 2 ^ n := by
    intro n
    induction n with
    | zero =>
      intro ss h
      have e := List.length_eq_zero_iff.mp h
      subst e
      rfl
    | succ n ih =>
      intro l h
      have hne : l ≠ [] := fun z => by
        rw [z] at h
        simp at h
      obtain ⟨ss, s, rfl⟩ : ∃ ss s, l = ss ++ [s] := ⟨l.dropLast, l.getLast hne, (List.dropLast_concat_getLast hne).symm⟩
      have hl : ss.length = n := by
        rw [List.length_append, List.length_singleton] at h
        omega
      rw [sums_snoc, List.length_append, List.length_map, ih ss hl, Nat.pow_succ]
      omega
  exact key _ ss rfl
theorem count_snoc (m : Mask) (b : Bool) : (m ++ [b]).count true = m.count true + (if b then 1 else 0) := by
  rw [List.count_append]
  cases b <;> rfl
theorem sums_mem (ss : List Pt) (o : Tri) : o ∈ sumsF ss ↔ ∃ m : Mask, m.length = ss.length ∧ sumM ss m = o.1 ∧ ((m.count true : Nat) : Int) = o.2 := by
  have key : ∀ (n : Nat) (ss : List Pt) (o : Tri), ss.length = n → (o ∈ sumsF ss ↔ ∃ m : Mask, m.length = ss.length ∧ sumM ss m = o.1 ∧ ((m.count true : Nat) : Int) = o.2) := by
    intro n
    induction n with
    | zero =>
      intro ss o h
      have e := List.length_eq_zero_iff.mp h
      subst e
      constructor
      · intro h
        have h' : o ∈ [((pt0, 0) : Tri)] := h
        rw [List.mem_singleton.mp h']
        exact ⟨[], rfl, rfl, rfl⟩
      · rintro ⟨m, h1, h2, h3⟩
        have e := List.length_eq_zero_iff.mp h1
        subst e
        show o ∈ [((pt0, 0) : Tri)]
        rw [List.mem_singleton]
        exact Prod.ext h2.symm h3.symm
    | succ n ih =>
      intro l o h
      have hne : l ≠ [] := fun z => by
        rw [z] at h
        simp at h
      obtain ⟨ss, s, rfl⟩ : ∃ ss s, l = ss ++ [s] := ⟨l.dropLast, l.getLast hne, (List.dropLast_concat_getLast hne).symm⟩
      have hl : ss.length = n := by
        rw [List.length_append, List.length_singleton] at h
        omega
      have hlen : (ss ++ [s]).length = n + 1 := by
        rw [List.length_append, List.length_singleton, hl]
      rw [sums_snoc, List.mem_append, hlen]
      constructor
      · rintro (z | z)
        · obtain ⟨m, h1, h2, h3⟩ := (ih ss o hl).mp z
          refine ⟨m ++ [false], ?_, ?_, ?_⟩
          · rw [List.length_append, List.length_singleton, h1, hl]
          · rw [sumM_snoc h1, there_false, h2]
          · rw [count_snoc]
            exact h3
        · obtain ⟨o', z2, rfl⟩ := List.mem_map.mp z
          obtain ⟨m, h1, h2, h3⟩ := (ih ss o' hl).mp z2
          refine ⟨m ++ [true], ?_, ?_, ?_⟩
          · rw [List.length_append, List.length_singleton, h1, hl]
          · rw [sumM_snoc h1, h2]
            unfold thereF addT
            simp
          · rw [count_snoc]
            unfold addT
            simp only [if_true]
            omega
      · rintro ⟨m, h1, h2, h3⟩
        obtain ⟨ch, b, rfl, hc⟩ := snoc_of h1
        rw [sumM_snoc (hc.trans hl.symm)] at h2
        rw [count_snoc] at h3
        cases b
        · left
          rw [there_false] at h2
          exact (ih ss o hl).mpr ⟨ch, hc.trans hl.symm, h2, by simpa using h3⟩
        · right
          refine List.mem_map.mpr ⟨(sumM ss ch, ((ch.count true : Nat) : Int)), (ih ss _ hl).mpr ⟨ch, hc.trans hl.symm, rfl, rfl⟩, ?_⟩
          unfold addT
          unfold thereF at h2
          simp only [if_true, Int.mul_one] at h2 h3
          refine Prod.ext h2 ?_
          simp only
          omega
  exact key _ ss o rfl
theorem count_both : ∀ m : Mask, m.count true + m.count false = m.length
  | [] => rfl
  | b :: m => by
    have ih := count_both m
    rw [List.count_cons, List.count_cons, List.length_cons]
    cases b
    · simp
      omega
    · simp
      omega
/-- what the law looks for -/
def comesRound (ss : List Pt) : Bool := decide (0 < ((sumsF ss).filter fun o => decide (o.1 = pt0) && (decide (0 < o.2) && decide (o.2 < (ss.length : Int)))).length)
theorem comes_iff (ss : List Pt) : comesRound ss = true ↔ ∃ m : Mask, m.length = ss.length ∧ sumM ss m = pt0 ∧ true ∈ m ∧ false ∈ m := by
  unfold comesRound
  rw [decide_eq_true_iff, List.length_pos_iff_exists_mem]
  constructor
  · rintro ⟨o, ho⟩
    rw [List.mem_filter, sums_mem] at ho
    obtain ⟨⟨m, h1, h2, h3⟩, h4⟩ := ho
    simp only [Bool.and_eq_true, decide_eq_true_eq] at h4
    refine ⟨m, h1, h2.trans h4.1, ?_, ?_⟩
    · exact List.count_pos_iff.mp (by omega)
    · have := count_both m
      exact List.count_pos_iff.mp (by omega)
  · rintro ⟨m, h1, h2, h3, h4⟩
    refine ⟨(pt0, ((m.count true : Nat) : Int)), ?_⟩
    rw [List.mem_filter, sums_mem]
    refine ⟨⟨m, h1, h2, rfl⟩, ?_⟩
    have := count_both m
    have := List.count_pos_iff.mpr h3
    have := List.count_pos_iff.mpr h4
    simp only [Bool.and_eq_true, decide_eq_true_eq]
    exact ⟨trivial, by omega, by omega⟩
/-! parted -/
def pickT (ss : List Pt) (m : Mask) : List Pt := ((ss.zip m).filter (·.2)).map (·.1)
def pickF (ss : List Pt) (m : Mask) : List Pt := ((ss.zip m).filter (fun x => !x.2)).map (·.1)
def theRow (s0 : Pt) (ss : List Pt) : Option Mask := (rowsA (choicesF ss) (neg s0)).find? fun r => r.any fun b => !b
theorem any_false (r : Mask) : (r.any fun b => !b) = true ↔ false ∈ r := by
  rw [List.any_eq_true]
  constructor
  · rintro ⟨b, h1, h2⟩
    cases b
    · exact h1
    · cases h2
  · intro h
    exact ⟨false, h, rfl⟩
theorem row_in {s0 : Pt} {ss : List Pt} {r : Mask} (h : r ∈ rowsA (choicesF ss) (neg s0)) : r.length = ss.length ∧ sumM ss r = neg s0 := by
  have C := choices_ok ss
  unfold rowsA at h
  cases e : valA (choicesF ss) (neg s0) with
  | none =>
    rw [e] at h
    cases h
  | some rows =>
    rw [e] at h
    exact (C.rs _ rows e).2.2 r h
theorem row_some {s0 : Pt} {ss : List Pt} (hz : sumP (s0 :: ss) = pt0) : (theRow s0 ss).isSome = comesRound (s0 :: ss) := by
  have C := choices_ok ss
  rw [Bool.eq_iff_iff, comes_iff]
  have hneg : ∀ p : Pt, addp s0 p = pt0 → p = neg s0 := fun p h => by
    unfold addp pt0 at h
    unfold neg
    have h1 := congrArg Prod.fst h
    have h2 := congrArg Prod.snd h
    simp only at h1 h2
    exact Prod.ext (by simp only; omega) (by simp only; omega)
  have hneg' : addp s0 (neg s0) = pt0 := by
    unfold addp neg pt0
    simp only
    refine Prod.ext ?_ ?_ <;> simp only <;> omega
  constructor
  · intro h
    obtain ⟨r, hr⟩ := Option.isSome_iff_exists.mp h
    unfold theRow at hr
    have h1 := List.find?_some hr
    have h2 := List.mem_of_find?_eq_some hr
    obtain ⟨h3, h4⟩ := row_in h2
    refine ⟨true :: r, by rw [List.length_cons, List.length_cons, h3], ?_, List.mem_cons_self, List.mem_cons_of_mem _ ((any_false r).mp h1)⟩
    rw [sumM_cons, there_true, h4, hneg']
  · -- a choice with the first step in it
    have main : ∀ m : Mask, m.length = ss.length → sumM ss m = neg s0 → false ∈ m → (theRow s0 ss).isSome = true := fun m h1 h2 h3 => by
      unfold theRow
      rw [List.find?_isSome]
      obtain ⟨rows, e, z⟩ := C.al m h1
      rw [h2] at e
      have er : rowsA (choicesF ss) (neg s0) = rows := by
        unfold rowsA
        rw [e]
        rfl
      rw [er]
      obtain ⟨a1, a2, a3⟩ := C.rs _ rows e
      rcases z with z | z
      · exact ⟨m, z, (any_false m).mpr h3⟩
      · obtain ⟨x, y, ne, hx, hy⟩ := two_in a1 z
        have hall : ∀ r ∈ rows, (r.any fun b => !b) = true ∨ r = List.replicate ss.length true := fun r hr => by
          by_cases k : (r.any fun b => !b) = true
          · exact .inl k
          · right
            rw [any_false] at k
            refine List.eq_replicate_iff.mpr ⟨(a3 r hr).1, fun b hb => ?_⟩
            cases b
            · exact absurd hb k
            · rfl
        rcases hall x hx with k | k
        · exact ⟨x, hx, k⟩
        · rcases hall y hy with j | j
          · exact ⟨y, hy, j⟩
          · exact absurd (k.trans j.symm) ne
    rintro ⟨m, h1, h2, h3, h4⟩
    match m, h1, h2, h3, h4 with
    | [], h1, _, _, _ => simp at h1
    | true :: m, h1, h2, _, h4 =>
      rw [sumM_cons, there_true] at h2
      refine main m (by simpa using h1) (hneg _ h2) ?_
      rcases List.mem_cons.mp h4 with z | z
      · cases z
      · exact z
    | false :: m, h1, h2, h3, _ =>
      have hl : m.length = ss.length := by simpa using h1
      rw [sumM_cons, there_false, zero_addp] at h2
      have hn := sumM_not ss m hl
      rw [h2, zero_addp] at hn
      refine main (m.map not) (by rw [List.length_map, hl]) (hneg _ ?_) ?_
      · rw [hn]
        exact hz
      · rcases List.mem_cons.mp h3 with z | z
        · cases z
        · exact List.mem_map.mpr ⟨true, z, rfl⟩
/-- steps gathered -/
def gathK (ss : List Pt) : List (Pt × Int) := ss.foldl (fun M s => putA M s ((valA M s).getD 0 + 1)) []
def gath (ss : List Pt) : List Pt := (gathK ss).map fun kn => (kn.2 * kn.1.1, kn.2 * kn.1.2)
theorem gath_snoc (ss : List Pt) (s : Pt) : gathK (ss ++ [s]) = putA (gathK ss) s ((valA (gathK ss) s).getD 0 + 1) := by
  unfold gathK
  rw [List.foldl_append]
  rfl
def parted (c : List Pt) : Option (List Pt × List Pt) := match stepsP c with
  | [] => none
  | [_] => none
  | s0 :: ss => (theRow s0 ss).map fun r => (shapeBy (at_ c 0) (gath (s0 :: pickT ss r)), shapeBy pt0 (gath (pickF ss r)))
end Rm

/-! # Bounds of choices and gathered steps; the law's small shapes -/
namespace Rm
theorem foldB_len (s t : Pt) (ch : Mask) : ∀ (bs : List Bool) (more : TabM), (foldB s t ch more bs).length ≤ more.length + bs.length
  | [], more => Nat.le_refl _
  | b :: bs, more => by
    have h := foldB_len s t ch bs (putC s t ch more b)
    have h2 : (putC s t ch more b).length ≤ more.length + 1 := by
      unfold putC
      split
      · exact putA_len _ _ _
      · exact Nat.le_succ _
    show (foldB s t ch (putC s t ch more b) bs).length ≤ _
    rw [List.length_cons]
    omega
theorem foldRw_len (s t : Pt) : ∀ (rows : List Mask) (more : TabM), (foldR s t more rows).length ≤ more.length + 2 * rows.length
  | [], more => Nat.le_refl _
  | r :: rows, more => by
    have h := foldRw_len s t rows (foldB s t r more [true, false])
    have h2 := foldB_len s t r [true, false] more
    show (foldR s t (foldB s t r more [true, false]) rows).length ≤ _
    rw [List.length_cons]
    have : ([true, false] : List Bool).length = 2 := rfl
    omega
theorem foldM_len (s : Pt) : ∀ (M more : TabM), (∀ tr ∈ M, tr.2.length ≤ 2) → (foldM s more M).length ≤ more.length + 4 * M.length
  | [], more, _ => Nat.le_refl _
  | tr :: M, more, k => by
    have h := foldM_len s M (foldR s tr.1 more tr.2) fun x hx => k x (List.mem_cons_of_mem _ hx)
    have h2 := foldRw_len s tr.1 tr.2 more
    have h3 := k tr List.mem_cons_self
    show (foldM s (foldR s tr.1 more tr.2) M).length ≤ _
    rw [List.length_cons]
    omega
theorem choices_row {ss : List Pt} {tr : Pt × List Mask} (h : tr ∈ choicesF ss) : tr.2.length ≤ 2 ∧ ∀ r ∈ tr.2, r.length = ss.length := by
  have C := choices_ok ss
  obtain ⟨_, a2, a3⟩ := C.rs tr.1 tr.2 (valA_mem C.ks h)
  exact ⟨a2, fun r hr => (a3 r hr).1⟩
theorem choices_len (ss : List Pt) : (choicesF ss).length ≤ 4 ^ ss.length := by
  have key : ∀ (n : Nat) (ss : List Pt), ss.length = n → (choicesF ss).length ≤ 4 ^ n := by
    intro n
    induction n with
    | zero =>
      intro ss h
      have e := List.length_eq_zero_iff.mp h
      subst e
      exact Nat.le_refl _
    | succ n ih =>
      intro l h
      have hne : l ≠ [] := fun z => by
        rw [z] at h
        simp at h
      obtain ⟨ss, s, rfl⟩ : ∃ ss s, l = ss ++ [s] := ⟨l.dropLast, l.getLast hne, (List.dropLast_concat_getLast hne).symm⟩
      have hl : ss.length = n := by
        rw [List.length_append, List.length_singleton] at h
        omega
      rw [choices_snoc]
      have h1 := foldM_len s (choicesF ss) [] fun tr ht => (choices_row ht).1
      have h2 := ih ss hl
      show (foldM s [] (choicesF ss)).length ≤ _
      rw [List.length_nil] at h1
      rw [Nat.pow_succ]
      omega
  exact key _ ss rfl
theorem gathK_ok (ss : List Pt) : (gathK ss).length ≤ ss.length ∧ ∀ kn ∈ gathK ss, 0 < kn.2 ∧ kn.2 ≤ (ss.length : Int) := by
  have key : ∀ (n : Nat) (ss : List Pt), ss.length = n → (gathK ss).length ≤ n ∧ ∀ kn ∈ gathK ss, 0 < kn.2 ∧ kn.2 ≤ (n : Int) := by
    intro n
    induction n with
    | zero =>
      intro ss h
      have e := List.length_eq_zero_iff.mp h
      subst e
      exact ⟨Nat.le_refl _, fun _ h => (nomatch h)⟩
    | succ n ih =>
      intro l h
      have hne : l ≠ [] := fun z => by
        rw [z] at h
        simp at h
      obtain ⟨ss, s, rfl⟩ : ∃ ss s, l = ss ++ [s] := ⟨l.dropLast, l.getLast hne, (List.dropLast_concat_getLast hne).symm⟩
      have hl : ss.length = n := by
        rw [List.length_append, List.length_singleton] at h
        omega
      obtain ⟨h1, h2⟩ := ih ss hl
      rw [gath_snoc]
      have h3 := putA_len (gathK ss) s ((valA (gathK ss) s).getD 0 + 1)
      have hv : 0 < (valA (gathK ss) s).getD 0 + 1 ∧ (valA (gathK ss) s).getD 0 + 1 ≤ ((n + 1 : Nat) : Int) := by
        cases e : valA (gathK ss) s with
        | none =>
          show 0 < (0 : Int) + 1 ∧ (0 : Int) + 1 ≤ _
          omega
        | some x =>
          have := h2 _ (mem_valA e)
          simp only at this
          show 0 < x + 1 ∧ x + 1 ≤ _
          omega
      refine ⟨by omega, fun kn hk => ?_⟩
      unfold putA at hk
      split at hk
      · obtain ⟨e, he, rfl⟩ := List.mem_map.mp hk
        split
        · exact hv
        · have := h2 e he
          omega
      · rcases List.mem_append.mp hk with hk | hk
        · have := h2 kn hk
          omega
        · rw [List.mem_singleton.mp hk]
          exact hv
  exact key _ ss rfl
theorem gath_len (ss : List Pt) : (gath ss).length ≤ ss.length := by
  unfold gath
  rw [List.length_map]
  exact (gathK_ok ss).1
theorem pickT_len (ss : List Pt) (m : Mask) : (pickT ss m).length ≤ ss.length := by
  unfold pickT
  rw [List.length_map]
  refine Nat.le_trans (List.length_filter_le _ _) ?_
  rw [List.length_zip]
  omega
theorem pickF_len (ss : List Pt) (m : Mask) : (pickF ss m).length ≤ ss.length := by
  unfold pickF
  rw [List.length_map]
  refine Nat.le_trans (List.length_filter_le _ _) ?_
  rw [List.length_zip]
  omega
/-! the sum of the steps -/
theorem sumP_rep (u : Pt) : ∀ n : Nat, sumP (List.replicate n u) = ((n : Int) * u.1, (n : Int) * u.2)
  | 0 => by
    show pt0 = _
    unfold pt0
    simp
  | n + 1 => by
    rw [List.replicate_succ, sumP_cons, sumP_rep u n]
    unfold addp
    simp only
    refine Prod.ext ?_ ?_
    · simp only [Int.natCast_add, Int.add_mul]
      omega
    · simp only [Int.natCast_add, Int.add_mul]
      omega
theorem stepsOf_sum : ∀ {A : List Pt}, (∀ a ∈ A, a ≠ pt0) → sumP (stepsOf A) = sumP A
  | [], _ => rfl
  | a :: A, nz => by
    have ih := stepsOf_sum (A := A) fun x hx => nz x (List.mem_cons_of_mem _ hx)
    have e : stepsOf (a :: A) = List.replicate (gcdP a).toNat (unitP a) ++ stepsOf A := rfl
    have hp := gcdP_pos (nz a List.mem_cons_self)
    rw [e, sumP_append, ih, sumP_rep, sumP_cons]
    congr 1
    rw [Int.toNat_of_nonneg (by omega)]
    exact unit_mul
theorem stepsP_sum {c : List Pt} (h : IsShape c) : sumP (stepsP c) = pt0 := (stepsOf_sum h.ang.nz').trans (sides_sum c)
theorem comes_small {ss : List Pt} (h : ss.length < 2) : comesRound ss = false := by
  cases e : comesRound ss with
  | false => rfl
  | true =>
    obtain ⟨m, h1, h2, h3, h4⟩ := (comes_iff ss).mp e
    have := List.count_pos_iff.mpr h3
    have := List.count_pos_iff.mpr h4
    have := count_both m
    omega
theorem parted_some {c : List Pt} (h : IsShape c) : (parted c).isSome = comesRound (stepsP c) := by
  have hz := stepsP_sum h
  unfold parted
  generalize stepsP c = ss at hz ⊢
  match ss, hz with
  | [], _ => rw [comes_small (by simp)]; rfl
  | [_], _ => rw [comes_small (by simp)]; rfl
  | s0 :: s1 :: ss, hz =>
    rw [Option.isSome_map]
    exact row_some hz
/-! the law's small shapes -/
def small1 (ns : List Int) (a k : Nat) : Pt :=
  let seed := stir (cellAt ns (a + 1 + k % 3) + 5003 * (k : Int))
  (seed / 7 % 4, seed / 28 % 4)
def smallD (ns : List Int) (a : Nat) : List Pt := (List.range (1 + cellAt ns a % 6).toNat).map (small1 ns a)
def smallPts (ns : List Int) (a : Nat) : List Pt := if cellAt ns a / 16 % 4 = 1 then (smallD ns a).map fun p => (p.1, cellAt ns a / 64 % 3 * p.1) else smallD ns a
def lawSmall (ns : List Int) (a : Nat) : List Pt := hull (smallPts ns a)
theorem smallD_len (ns : List Int) (a : Nat) : (smallD ns a).length = (1 + cellAt ns a % 6).toNat := by
  unfold smallD
  rw [List.length_map, List.length_range]
theorem smallPts_len (ns : List Int) (a : Nat) : 1 ≤ (smallPts ns a).length ∧ (smallPts ns a).length ≤ 6 := by
  have h := smallD_len ns a
  have : (smallPts ns a).length = (smallD ns a).length := by
    unfold smallPts
    split
    · rw [List.length_map]
    · rfl
  omega
theorem smallD_sm (ns : List Int) (a : Nat) : ∀ p ∈ smallD ns a, 0 ≤ p.1 ∧ p.1 ≤ 3 ∧ 0 ≤ p.2 ∧ p.2 ≤ 3 := by
  intro p hp
  unfold smallD at hp
  obtain ⟨k, _, rfl⟩ := List.mem_map.mp hp
  unfold small1
  simp only
  omega
theorem smallPts_sm (ns : List Int) (a : Nat) : Sms 6 (smallPts ns a) := by
  unfold smallPts
  split
  · intro p hp
    obtain ⟨q, hq, rfl⟩ := List.mem_map.mp hp
    have h := smallD_sm ns a q hq
    have hc : cellAt ns a / 64 % 3 = 0 ∨ cellAt ns a / 64 % 3 = 1 ∨ cellAt ns a / 64 % 3 = 2 := by omega
    unfold Sm
    simp only
    rcases hc with e | e | e <;> rw [e] <;> omega
  · intro p hp
    have h := smallD_sm ns a p hp
    unfold Sm
    omega
theorem lawSmall_ok (ns : List Int) (a : Nat) : IsShape (lawSmall ns a) ∧ (lawSmall ns a).length ≤ 6 ∧ Sms 6 (lawSmall ns a) := by
  have h := smallPts_len ns a
  have hn : smallPts ns a ≠ [] := fun z => by
    rw [z, List.length_nil] at h
    omega
  have h2 := hull_len2 hn
  exact ⟨hull_shape hn, by unfold lawSmall; omega, fun p hp => smallPts_sm ns a p (hull_sub hp)⟩
end Rm

/-! # What a parted shape comes to -/
namespace Rm
/-! sums of choices -/
theorem sumM_append : ∀ {s1 : List Pt} {m1 : Mask} (s2 : List Pt) (m2 : Mask), m1.length = s1.length → sumM (s1 ++ s2) (m1 ++ m2) = addp (sumM s1 m1) (sumM s2 m2)
  | [], [], s2, m2, _ => (zero_addp _).symm
  | [], _ :: _, _, _, h => by simp at h
  | _ :: _, [], _, _, h => by simp at h
  | s :: s1, b :: m1, s2, m2, h => by
    have ih := sumM_append (s1 := s1) (m1 := m1) s2 m2 (by simpa using h)
    rw [List.cons_append, List.cons_append, sumM_cons, sumM_cons, ih, addp_assoc]
theorem sumM_true (u : Pt) : ∀ n : Nat, sumM (List.replicate n u) (List.replicate n true) = ((n : Int) * u.1, (n : Int) * u.2) := fun n => by
  have := sumM_all (List.replicate n u)
  rw [List.length_replicate, sumP_rep] at this
  exact this
theorem sumM_false : ∀ (ss : List Pt) (n : Nat), sumM ss (List.replicate n false) = pt0
  | [], n => rfl
  | s :: ss, 0 => rfl
  | s :: ss, n + 1 => by rw [List.replicate_succ, sumM_cons, there_false, sumM_false ss n, zero_addp]
theorem sumM_pickT : ∀ (ss : List Pt) (m : Mask), sumM ss m = sumP (pickT ss m)
  | [], m => rfl
  | s :: ss, [] => rfl
  | s :: ss, b :: m => by
    rw [sumM_cons, sumM_pickT ss m]
    unfold pickT
    rw [List.zip_cons_cons, List.filter_cons]
    cases b
    · rw [there_false, zero_addp]
      rfl
    · rw [there_true]
      rfl
theorem pickF_not : ∀ (ss : List Pt) (m : Mask), pickF ss m = pickT ss (m.map not)
  | [], m => rfl
  | s :: ss, [] => rfl
  | s :: ss, b :: m => by
    have ih := pickF_not ss m
    unfold pickF pickT at ih ⊢
    rw [List.map_cons, List.zip_cons_cons, List.zip_cons_cons, List.filter_cons, List.filter_cons]
    cases b
    · show s :: List.map _ _ = s :: List.map _ _
      rw [ih]
    · exact ih
theorem count_pick (u : Pt) : ∀ (ss : List Pt) (m : Mask), m.length = ss.length → (pickT ss m).count u + (pickF ss m).count u = ss.count u
  | [], m, _ => rfl
  | s :: ss, [], h => by simp at h
  | s :: ss, b :: m, h => by
    have ih := count_pick u ss m (by simpa using h)
    unfold pickT pickF at ih ⊢
    rw [List.zip_cons_cons, List.filter_cons, List.filter_cons]
    cases b
    · show List.count u (List.map (·.1) (List.filter (·.2) (ss.zip m))) + List.count u (s :: List.map (·.1) (List.filter (fun x => !x.2) (ss.zip m))) = _
      rw [List.count_cons, List.count_cons]
      omega
    · show List.count u (s :: List.map (·.1) (List.filter (·.2) (ss.zip m))) + List.count u (List.map (·.1) (List.filter (fun x => !x.2) (ss.zip m))) = _
      rw [List.count_cons, List.count_cons]
      omega
theorem pickT_sub : ∀ (ss : List Pt) (m : Mask), (pickT ss m).Sublist ss
  | [], m => List.Sublist.refl _
  | s :: ss, [] => List.nil_sublist _
  | s :: ss, b :: m => by
    have ih := pickT_sub ss m
    unfold pickT at ih ⊢
    rw [List.zip_cons_cons, List.filter_cons]
    cases b
    · exact ih.cons s
    · exact ih.cons₂ s
theorem pickF_ne : ∀ (ss : List Pt) (m : Mask), m.length = ss.length → false ∈ m → pickF ss m ≠ []
  | [], m, h, hf => by
    rw [List.length_eq_zero_iff.mp h] at hf
    cases hf
  | s :: ss, [], h, _ => by simp at h
  | s :: ss, b :: m, h, hf => by
    have hf' : b = false ∨ false ∈ m := by
      rcases List.mem_cons.mp hf with z | z
      · exact .inl z.symm
      · exact .inr z
    unfold pickF
    rw [List.zip_cons_cons, List.filter_cons]
    cases b
    · exact List.cons_ne_nil _ _
    · rcases hf' with z | z
      · cases z
      · exact pickF_ne ss m (by simpa using h) z
/-! gathered -/
theorem gathK_val (u : Pt) : ∀ ss : List Pt, (valA (gathK ss) u).getD 0 = ((ss.count u : Nat) : Int) := by
  have key : ∀ (n : Nat) (ss : List Pt), ss.length = n → (valA (gathK ss) u).getD 0 = ((ss.count u : Nat) : Int) := by
    intro n
    induction n with
    | zero =>
      intro ss h
      rw [List.length_eq_zero_iff.mp h]
      rfl
    | succ n ih =>
      intro l h
      have hne : l ≠ [] := fun z => by
        rw [z] at h
        simp at h
      obtain ⟨ss, s, rfl⟩ : ∃ ss s, l = ss ++ [s] := ⟨l.dropLast, l.getLast hne, (List.dropLast_concat_getLast hne).symm⟩
      have hl : ss.length = n := by
        rw [List.length_append, List.length_singleton] at h
        omega
      have := ih ss hl
      rw [gath_snoc, valA_put, List.count_append, List.count_singleton]
      by_cases e : u = s
      · rw [if_pos e, ← e, this, if_pos (by simp)]
        show ((ss.count u : Nat) : Int) + 1 = _
        omega
      · rw [if_neg e, this, if_neg (by simpa using fun z => e z.symm)]
        rfl
  exact fun ss => key _ ss rfl
theorem gathK_keys (ss : List Pt) : ((gathK ss).map (·.1)).Nodup ∧ ∀ x, x ∈ (gathK ss).map (·.1) ↔ x ∈ ss := by
  have key : ∀ (n : Nat) (ss : List Pt), ss.length = n → ((gathK ss).map (·.1)).Nodup ∧ ∀ x, x ∈ (gathK ss).map (·.1) ↔ x ∈ ss := by
    intro n
    induction n with
    | zero =>
      intro ss h
      rw [List.length_eq_zero_iff.mp h]
      exact ⟨List.nodup_nil, fun x => Iff.rfl⟩
    | succ n ih =>
      intro l h
      have hne : l ≠ [] := fun z => by
        rw [z] at h
        simp at h
      obtain ⟨ss, s, rfl⟩ : ∃ ss s, l = ss ++ [s] := ⟨l.dropLast, l.getLast hne, (List.dropLast_concat_getLast hne).symm⟩
      have hl : ss.length = n := by
        rw [List.length_append, List.length_singleton] at h
        omega
      obtain ⟨h1, h2⟩ := ih ss hl
      rw [gath_snoc]
      refine ⟨putA_nodup h1 _ _, fun x => ?_⟩
      rw [putA_keys, List.mem_append, List.mem_singleton]
      split
      · next k =>
        rw [valA_key, h2] at k
        rw [h2]
        constructor
        · exact .inl
        · rintro (z | rfl)
          · exact z
          · exact k
      · rw [List.mem_append, List.mem_singleton, h2]
  exact key _ ss rfl
/-- steps in order, the same ones beside each other -/
abbrev Os (ss : List Pt) : Prop := ss.Pairwise fun a b => a = b ∨ Ah a b
theorem gathK_sorted {ss : List Pt} (h : Os ss) : ((gathK ss).map (·.1)).Pairwise Ah := by
  have key : ∀ (n : Nat) (ss : List Pt), ss.length = n → Os ss → ((gathK ss).map (·.1)).Pairwise Ah := by
    intro n
    induction n with
    | zero =>
      intro ss h _
      rw [List.length_eq_zero_iff.mp h]
      exact List.Pairwise.nil
    | succ n ih =>
      intro l h hs
      have hne : l ≠ [] := fun z => by
        rw [z] at h
        simp at h
      obtain ⟨ss, s, rfl⟩ : ∃ ss s, l = ss ++ [s] := ⟨l.dropLast, l.getLast hne, (List.dropLast_concat_getLast hne).symm⟩
      have hl : ss.length = n := by
        rw [List.length_append, List.length_singleton] at h
        omega
      obtain ⟨s1, _, s3⟩ := List.pairwise_append.mp hs
      have hi := ih ss hl s1
      rw [gath_snoc, putA_keys]
      split
      · exact hi
      · next k =>
        rw [valA_key] at k
        rw [List.pairwise_append]
        refine ⟨hi, List.pairwise_singleton _ _, fun a ha b hb => ?_⟩
        rw [List.mem_singleton.mp hb]
        have ha2 := ((gathK_keys ss).2 a).mp ha
        rcases s3 a ha2 s (List.mem_singleton.mpr rfl) with z | z
        · exact absurd (z ▸ ha) k
        · exact z
  exact key _ ss rfl h
theorem gath_mem {ss : List Pt} {x : Pt} (h : x ∈ gath ss) : ∃ u n, u ∈ ss ∧ 0 < n ∧ n ≤ (ss.length : Int) ∧ x = mulp n u := by
  unfold gath at h
  obtain ⟨kn, hk, rfl⟩ := List.mem_map.mp h
  have h1 := (gathK_ok ss).2 kn hk
  exact ⟨kn.1, kn.2, ((gathK_keys ss).2 kn.1).mp (List.mem_map.mpr ⟨kn, hk, rfl⟩), h1.1, h1.2, rfl⟩
/-- least arrows -/
abbrev Ps (ss : List Pt) : Prop := ∀ u ∈ ss, u ≠ pt0 ∧ Nat.gcd u.1.natAbs u.2.natAbs = 1
theorem gath_sorted {ss : List Pt} (h : Os ss) (hp : Ps ss) : (gath ss).Pairwise Ah ∧ Nz (gath ss) := by
  constructor
  · unfold gath
    rw [List.pairwise_map]
    have := gathK_sorted h
    rw [List.pairwise_map] at this
    refine this.imp_of_mem fun {a b} ha hb k => ?_
    have h1 := ((gathK_ok ss).2 a ha).1
    have h2 := ((gathK_ok ss).2 b hb).1
    show Ah (mulp a.2 a.1) (mulp b.2 b.1)
    rw [ah_mull h1, ah_mulr h2]
    exact k
  · intro x hx
    obtain ⟨u, n, hu, hn, _, rfl⟩ := gath_mem hx
    exact mulp_ne hn (hp u hu).1
theorem gath_cnt {ss : List Pt} (hp : Ps ss) (u : Pt) : cnt u (gath ss) = ((ss.count u : Nat) : Int) := by
  rw [← gathK_val]
  have hk := (gathK_keys ss).1
  have hq : ∀ kn ∈ gathK ss, kn.1 ∈ ss ∧ 0 < kn.2 := fun kn h => ⟨((gathK_keys ss).2 kn.1).mp (List.mem_map.mpr ⟨kn, h, rfl⟩), ((gathK_ok ss).2 kn h).1⟩
  unfold gath cnt
  generalize gathK ss = M at hk hq
  induction M with
  | nil => rfl
  | cons kn M ih =>
    rw [List.map_cons, List.nodup_cons] at hk
    have i := ih hk.2 fun x hx => hq x (List.mem_cons_of_mem _ hx)
    obtain ⟨q1, q2⟩ := hq kn List.mem_cons_self
    obtain ⟨g1, g2⟩ := mul_unit (hp kn.1 q1).2 q2
    rw [List.map_cons]
    show cntf u (mulp kn.2 kn.1) + isum (cntf u) _ = _
    rw [i, valA_cons]
    unfold cntf
    rw [g1, g2]
    by_cases e : kn.1 = u
    · rw [if_pos e, if_pos e]
      have hn : valA M u = none := by
        cases z : valA M u with
        | none => rfl
        | some y => exact absurd (List.mem_map.mpr ⟨(u, y), mem_valA z, e.symm⟩) hk.1
      rw [hn]
      show kn.2 + 0 = kn.2
      omega
    · rw [if_neg e, if_neg e]
      omega
theorem sumP_mul (M : List (Pt × Int)) : sumP (M.map fun kn => (kn.2 * kn.1.1, kn.2 * kn.1.2)) = (isum (fun kn => kn.2 * kn.1.1) M, isum (fun kn => kn.2 * kn.1.2) M) := by
  induction M with
  | nil => rfl
  | cons kn M ih => rw [List.map_cons, sumP_cons, ih] <;> rfl
theorem isum_put (f : Pt → Int) : ∀ (M : List (Pt × Int)) (p : Pt), (M.map (·.1)).Nodup → isum (fun kn : Pt × Int => kn.2 * f kn.1) (putA M p ((valA M p).getD 0 + 1)) = isum (fun kn : Pt × Int => kn.2 * f kn.1) M + f p := by
  intro M p hk
  unfold putA
  rw [valA_any]
  cases e : valA M p with
  | none =>
    rw [if_neg (by simp), isum_append]
    show _ + ((0 + 1) * f p + 0) = _
    rw [Int.zero_add, Int.one_mul, Int.add_zero]
  | some y =>
    rw [if_pos (by rfl)]
    show isum _ (M.map fun kv => if kv.1 = p then (kv.1, y + 1) else kv) = _
    induction M with
    | nil => cases e
    | cons kn M ih =>
      rw [List.map_cons, List.nodup_cons] at hk
      rw [valA_cons] at e
      rw [List.map_cons]
      by_cases z : kn.1 = p
      · rw [if_pos z] at e ⊢
        cases e
        have hrest : (M.map fun kv => if kv.1 = p then (kv.1, kn.2 + 1) else kv) = M := by
          have : ∀ kv ∈ M, (if kv.1 = p then (kv.1, kn.2 + 1) else kv) = kv := fun kv hv => if_neg fun w => hk.1 (List.mem_map.mpr ⟨kv, hv, w.trans z.symm⟩)
          rw [List.map_congr_left this, List.map_id']
        rw [hrest]
        show (kn.2 + 1) * f kn.1 + isum _ M = kn.2 * f kn.1 + isum _ M + f p
        rw [Int.add_mul, z]
        omega
      · rw [if_neg z] at e ⊢
        have := ih hk.2 e
        show kn.2 * f kn.1 + isum _ _ = kn.2 * f kn.1 + isum _ M + f p
        rw [this]
        omega
theorem gath_sum (ss : List Pt) : sumP (gath ss) = sumP ss := by
  have key : ∀ (n : Nat) (ss : List Pt), ss.length = n → sumP (gath ss) = sumP ss := by
    intro n
    induction n with
    | zero =>
      intro ss h
      rw [List.length_eq_zero_iff.mp h]
      rfl
    | succ n ih =>
      intro l h
      have hne : l ≠ [] := fun z => by
        rw [z] at h
        simp at h
      obtain ⟨ss, s, rfl⟩ : ∃ ss s, l = ss ++ [s] := ⟨l.dropLast, l.getLast hne, (List.dropLast_concat_getLast hne).symm⟩
      have hl : ss.length = n := by
        rw [List.length_append, List.length_singleton] at h
        omega
      have i := ih ss hl
      have hk := (gathK_keys ss).1
      unfold gath at i ⊢
      rw [sumP_mul] at i
      rw [gath_snoc, sumP_mul, isum_put (fun u => u.1) _ _ hk, isum_put (fun u => u.2) _ _ hk, sumP_append, ← i, sumP_cons, show sumP [] = pt0 from rfl, addp_zero]
      rfl
  exact key _ ss rfl
/-! the steps of a shape -/
theorem stepsOf_mem {A : List Pt} {x : Pt} (h : x ∈ stepsOf A) : ∃ a ∈ A, x = unitP a := by
  unfold stepsOf at h
  obtain ⟨a, ha, hx⟩ := List.mem_flatMap.mp h
  exact ⟨a, ha, (List.mem_replicate.mp hx).2⟩
theorem stepsOf_sorted {A : List Pt} (h : A.Pairwise Ah) (nA : Nz A) : Os (stepsOf A) := by
  induction A with
  | nil => exact List.Pairwise.nil
  | cons a A ih =>
    rw [List.pairwise_cons] at h
    have i := ih h.2 fun x hx => nA x (List.mem_cons_of_mem _ hx)
    have e : stepsOf (a :: A) = List.replicate (gcdP a).toNat (unitP a) ++ stepsOf A := rfl
    rw [e]
    refine List.pairwise_append.mpr ⟨List.pairwise_replicate.mpr (.inr (.inl rfl)), i, fun x hx y hy => ?_⟩
    rw [(List.mem_replicate.mp hx).2]
    obtain ⟨b, hb, rfl⟩ := stepsOf_mem hy
    have k := h.1 b hb
    rw [← unit_mul (a := a), ← unit_mul (a := b), ah_mull (gcdP_pos (nA a List.mem_cons_self)), ah_mulr (gcdP_pos (nA b (List.mem_cons_of_mem _ hb)))] at k
    exact .inr k
theorem stepsOf_prim {A : List Pt} (nA : Nz A) : Ps (stepsOf A) := fun u hu => by
  obtain ⟨a, ha, rfl⟩ := stepsOf_mem hu
  exact ⟨unit_ne (nA a ha), unit_gcd (nA a ha)⟩
theorem stepsOf_count (u : Pt) : ∀ {A : List Pt}, Nz A → (((stepsOf A).count u : Nat) : Int) = cnt u A
  | [], _ => rfl
  | a :: A, nA => by
    have ih := stepsOf_count u (A := A) fun x hx => nA x (List.mem_cons_of_mem _ hx)
    have e : stepsOf (a :: A) = List.replicate (gcdP a).toNat (unitP a) ++ stepsOf A := rfl
    have hp := gcdP_pos (nA a List.mem_cons_self)
    rw [e, List.count_append, List.count_replicate]
    show _ = cntf u a + cnt u A
    unfold cntf
    by_cases z : unitP a = u
    · rw [if_pos z, if_pos (by simpa using z)]
      omega
    · rw [if_neg z, if_neg (by simpa using z)]
      omega
/-- what parted tells -/
theorem parted_ok {c : List Pt} (h : IsShape c) {d e : List Pt} (hy : parted c = some (d, e)) : IsShape d ∧ IsShape e ∧ 2 ≤ d.length ∧ 2 ≤ e.length ∧ d.length + e.length ≤ (stepsP c).length ∧ together d e = c := by
  have hA := h.ang
  have hz := stepsP_sum h
  have hos : Os (stepsP c) := stepsOf_sorted hA.pw hA.nz'
  have hps : Ps (stepsP c) := stepsOf_prim hA.nz'
  have hcn : ∀ u, (((stepsP c).count u : Nat) : Int) = cnt u (sidesBy c) := fun u => stepsOf_count u hA.nz'
  unfold parted at hy
  generalize stepsP c = ss at hz hos hps hcn hy
  match ss, hz, hos, hps, hcn, hy with
  | [], _, _, _, _, hy => cases hy
  | [_], _, _, _, _, hy => cases hy
  | s0 :: s1 :: rest, hz, hos, hps, hcn, hy =>
    have hy' : (theRow s0 (s1 :: rest)).map (fun r => (shapeBy (at_ c 0) (gath (s0 :: pickT (s1 :: rest) r)), shapeBy pt0 (gath (pickF (s1 :: rest) r)))) = some (d, e) := hy
    clear hy
    generalize s1 :: rest = ss at hy' hz hos hps hcn
    cases hr : theRow s0 ss with
    | none => rw [hr] at hy'; cases hy'
    | some r =>
      rw [hr] at hy'
      cases hy'
      unfold theRow at hr
      have g1 := List.find?_some hr
      obtain ⟨g2, g3⟩ := row_in (List.mem_of_find?_eq_some hr)
      have g4 : false ∈ r := (any_false r).mp g1
      have subT : (s0 :: pickT ss r).Sublist (s0 :: ss) := (pickT_sub ss r).cons₂ s0
      have subF : (pickF ss r).Sublist (s0 :: ss) := by
        rw [pickF_not]
        exact (pickT_sub ss _).cons s0
      have sumT : sumP (s0 :: pickT ss r) = pt0 := by
        rw [sumP_cons, ← sumM_pickT, g3]
        unfold addp neg pt0
        refine Prod.ext ?_ ?_ <;> simp only <;> omega
      have sumF : sumP (pickF ss r) = pt0 := by
        have hn := sumM_not ss r g2
        rw [g3] at hn
        rw [pickF_not, ← sumM_pickT]
        rw [sumP_cons, ← hn] at hz
        generalize sumM ss (List.map not r) = z at hz
        obtain ⟨x, y⟩ := z
        have z1 : s0.1 + (-s0.1 + x) = 0 := congrArg Prod.fst hz
        have z2 : s0.2 + (-s0.2 + y) = 0 := congrArg Prod.snd hz
        exact Prod.ext (show x = 0 by omega) (show y = 0 by omega)
      have osT : Os (s0 :: pickT ss r) := hos.sublist subT
      have osF : Os (pickF ss r) := hos.sublist subF
      have psT : Ps (s0 :: pickT ss r) := fun u hu => hps u (subT.subset hu)
      have psF : Ps (pickF ss r) := fun u hu => hps u (subF.subset hu)
      obtain ⟨a1, a2⟩ := gath_sorted osT psT
      obtain ⟨b1, b2⟩ := gath_sorted osF psF
      have angA : Ang (gath (s0 :: pickT ss r)) := ⟨a1, fun z => a2 _ z rfl, (gath_sum _).trans sumT⟩
      have angB : Ang (gath (pickF ss r)) := ⟨b1, fun z => b2 _ z rfl, (gath_sum _).trans sumF⟩
      obtain ⟨c1, c2⟩ := path_shape angA (at_ c 0)
      obtain ⟨d1, d2⟩ := path_shape angB pt0
      have ne_of : ∀ (l : List Pt), l ≠ [] → gath l ≠ [] := fun l hl z => by
        obtain ⟨x, hx⟩ := List.exists_mem_of_ne_nil l hl
        have := ((gathK_keys l).2 x).mpr hx
        unfold gath at z
        rw [List.map_eq_nil_iff] at z
        rw [z] at this
        cases this
      have len2 : ∀ (M : List Pt) (s : Pt), Ang M → M ≠ [] → (shapeBy s M).length = M.length ∧ 2 ≤ M.length := fun M s hM hne => by
        have h1 := hM.len
        have h0 := List.length_pos_iff.mpr hne
        unfold shapeBy
        rw [pathF_len, List.length_dropLast]
        omega
      obtain ⟨l1, l2⟩ := len2 _ (at_ c 0) angA (ne_of _ (List.cons_ne_nil _ _))
      obtain ⟨l3, l4⟩ := len2 _ pt0 angB (ne_of _ (pickF_ne ss r g2 g4))
      have gl1 := gath_len (s0 :: pickT ss r)
      have gl2 := gath_len (pickF ss r)
      have cl : (s0 :: pickT ss r).length + (pickF ss r).length ≤ (s0 :: ss).length := by
        have key : ∀ (ss : List Pt) (m : Mask), (pickT ss m).length + (pickF ss m).length ≤ ss.length := by
          intro ss
          induction ss with
          | nil => intro m; exact Nat.le_refl _
          | cons s ss ih =>
            intro m
            cases m with
            | nil => exact Nat.zero_le _
            | cons b m =>
              have i := ih m
              unfold pickT pickF at i ⊢
              rw [List.zip_cons_cons, List.filter_cons, List.filter_cons, List.length_cons]
              cases b
              · show (List.map (·.1) (List.filter (·.2) (ss.zip m))).length + (s :: List.map (·.1) (List.filter (fun x => !x.2) (ss.zip m))).length ≤ _
                rw [List.length_cons]
                omega
              · show (s :: List.map (·.1) (List.filter (·.2) (ss.zip m))).length + (List.map (·.1) (List.filter (fun x => !x.2) (ss.zip m))).length ≤ _
                rw [List.length_cons]
                omega
        have := key ss r
        rw [List.length_cons, List.length_cons]
        omega
      refine ⟨c2, d2, by omega, by omega, by omega, ?_⟩
      have hm := merged_sorted a1 a2 b1 b2
      have hrow : Rm.merged (gath (s0 :: pickT ss r)) (gath (pickF ss r)) = sidesBy c := by
        refine row_ext hm.1 hA.pw hm.2.1 hA.nz' fun u => ?_
        rw [cnt_merged u a2 b2, gath_cnt psT, gath_cnt psF, ← hcn u, List.count_cons, List.count_cons]
        have := count_pick u ss r g2
        omega
      unfold together
      rw [c1, d1, hrow]
      have hs1 : at_ (shapeBy (at_ c 0) (gath (s0 :: pickT ss r))) 0 = at_ c 0 := by
        unfold shapeBy
        cases (gath (s0 :: pickT ss r)).dropLast <;> rfl
      have hs2 : at_ (shapeBy pt0 (gath (pickF ss r))) 0 = pt0 := by
        unfold shapeBy
        cases (gath (pickF ss r)).dropLast <;> rfl
      rw [hs1, hs2, shapeBy_sides pt0 h.1]
      unfold moved
      rw [List.map_congr_left (g := id) fun x _ => addp_zero x, List.map_id]
/-- of two shapes together that are no points two are told -/
theorem parted_must {a b : List Pt} (ha : IsShape a) (hb : IsShape b) (h1 : 1 < a.length) (h2 : 1 < b.length) : (parted (together a b)).isSome = true := by
  obtain ⟨e, hc⟩ := together_shape ha hb
  rw [parted_some hc, comes_iff]
  have hM := hc.ang
  rw [e] at hM
  unfold stepsP
  rw [e]
  have nA := ha.ang.nz'
  have nB := hb.ang.nz'
  have hcnt : ∀ u, cnt u (Rm.merged (sidesBy a) (sidesBy b)) = cnt u (sidesBy a) + cnt u (sidesBy b) := fun u => cnt_merged u nA nB
  generalize hMe : Rm.merged (sidesBy a) (sidesBy b) = M at hM hcnt
  -- how often each least arrow is of the first
  have hf : ∀ x ∈ M, 0 ≤ cnt (unitP x) (sidesBy a) ∧ cnt (unitP x) (sidesBy a) ≤ gcdP x := fun x hx => by
    have := cnt_at hM.pw hM.nz' hx
    have := hcnt (unitP x)
    have := cnt_nonneg (unitP x) nA
    have := cnt_nonneg (unitP x) nB
    omega
  have hmask : ∀ (N : List Pt), (∀ x ∈ N, x ∈ M) → (N.flatMap fun x => List.replicate (cnt (unitP x) (sidesBy a)).toNat true ++ List.replicate (gcdP x - cnt (unitP x) (sidesBy a)).toNat false).length = (stepsOf N).length ∧
      sumM (stepsOf N) (N.flatMap fun x => List.replicate (cnt (unitP x) (sidesBy a)).toNat true ++ List.replicate (gcdP x - cnt (unitP x) (sidesBy a)).toNat false) = sumP (restF (fun x => cnt (unitP x) (sidesBy a)) N) := by
    intro N
    induction N with
    | nil => intro _; exact ⟨rfl, rfl⟩
    | cons x N ih =>
      intro hN
      obtain ⟨i1, i2⟩ := ih fun y hy => hN y (List.mem_cons_of_mem _ hy)
      obtain ⟨f1, f2⟩ := hf x (hN x List.mem_cons_self)
      have es : stepsOf (x :: N) = List.replicate (gcdP x).toNat (unitP x) ++ stepsOf N := rfl
      have el : (List.replicate (cnt (unitP x) (sidesBy a)).toNat true ++ List.replicate (gcdP x - cnt (unitP x) (sidesBy a)).toNat false).length = (List.replicate (gcdP x).toNat (unitP x)).length := by
        rw [List.length_append, List.length_replicate, List.length_replicate, List.length_replicate]
        omega
      rw [List.flatMap_cons, es]
      refine ⟨by rw [List.length_append, i1, el, List.length_append], ?_⟩
      rw [sumM_append _ _ el, i2]
      have e1 : List.replicate (gcdP x).toNat (unitP x) = List.replicate (cnt (unitP x) (sidesBy a)).toNat (unitP x) ++ List.replicate (gcdP x - cnt (unitP x) (sidesBy a)).toNat (unitP x) := by
        rw [List.replicate_append_replicate]
        congr 1
        omega
      rw [e1, sumM_append _ _ (by rw [List.length_replicate, List.length_replicate]), sumM_true, sumM_false, addp_zero, Int.toNat_of_nonneg f1]
      unfold restF
      rw [List.filterMap_cons]
      by_cases k : 0 < cnt (unitP x) (sidesBy a)
      · rw [if_pos k]
        rfl
      · rw [if_neg k]
        have z : cnt (unitP x) (sidesBy a) = 0 := by omega
        rw [z, Int.zero_mul, Int.zero_mul]
        exact zero_addp _
  obtain ⟨m1, m2⟩ := hmask M fun x h => h
  have hrest : restF (fun x => cnt (unitP x) (sidesBy a)) M = sidesBy a := by
    obtain ⟨r1, r2⟩ := restF_sorted (f := fun x => cnt (unitP x) (sidesBy a)) hM.pw hM.nz'
    refine row_ext r1 ha.ang.pw r2 nA fun u => ?_
    obtain ⟨q1, q2⟩ := restF_cnt (f := fun x => cnt (unitP x) (sidesBy a)) hM.pw hM.nz' u
    by_cases k : ∃ x ∈ M, unitP x = u
    · obtain ⟨x, hx, ex⟩ := k
      have := q1 x hx ex (by rw [ex]; exact cnt_nonneg u nA)
      rw [this, ex]
    · have hn : ∀ x ∈ M, unitP x ≠ u := fun x hx ex => k ⟨x, hx, ex⟩
      rw [q2 hn]
      have := cnt_none hn
      have := hcnt u
      have := cnt_nonneg u nA
      have := cnt_nonneg u nB
      omega
  rw [hrest, sides_sum] at m2
  have has : ∀ (c : List Pt), IsShape c → 1 < c.length → ∃ x ∈ sidesBy c, 0 < cnt (unitP x) (sidesBy c) := fun c hc hl => by
    have hne : sidesBy c ≠ [] := fun z => by
      have := sides_len c
      rw [z, List.length_nil] at this
      rw [if_neg (by omega)] at this
      omega
    obtain ⟨x, hx⟩ := List.exists_mem_of_ne_nil _ hne
    refine ⟨x, hx, ?_⟩
    rw [cnt_at hc.ang.pw hc.ang.nz' hx]
    exact gcdP_pos (hc.ang.nz' x hx)
  have inM : ∀ u, 0 < cnt u (sidesBy a) + cnt u (sidesBy b) → ∃ y ∈ M, unitP y = u := fun u h => cnt_pos (by rw [hcnt]; exact h)
  refine ⟨_, m1, m2, ?_, ?_⟩
  · obtain ⟨x, hx, hp⟩ := has a ha h1
    obtain ⟨y, hy, ey⟩ := inM (unitP x) (by have := cnt_nonneg (unitP x) nB; omega)
    refine List.mem_flatMap.mpr ⟨y, hy, List.mem_append_left _ (List.mem_replicate.mpr ⟨?_, rfl⟩)⟩
    rw [ey]
    omega
  · obtain ⟨x, hx, hp⟩ := has b hb h2
    obtain ⟨y, hy, ey⟩ := inM (unitP x) (by have := cnt_nonneg (unitP x) nA; omega)
    refine List.mem_flatMap.mpr ⟨y, hy, List.mem_append_right _ (List.mem_replicate.mpr ⟨?_, rfl⟩)⟩
    have := cnt_at hM.pw hM.nz' hy
    have := hcnt (unitP y)
    rw [ey] at *
    omega
/-- bounds of the shapes told -/
theorem parted_sm {c : List Pt} (h : IsShape c) {n : Int} (hs : Sms n c) (h0 : 0 ≤ n) (h10 : (stepsP c).length ≤ 10) {d e : List Pt} (hy : parted c = some (d, e)) : Sms (n + 2 * n * 10 * 10) d ∧ Sms (2 * n * 10 * 10) e := by
  have hA := h.ang
  have hu : ∀ u ∈ stepsP c, Sm (2 * n) u := fun u hu => by
    obtain ⟨a, ha, rfl⟩ := stepsOf_mem hu
    have hsa := sms_sides hs h0 a ha
    have hg := gcdP_pos (hA.nz' a ha)
    have hm := unit_mul (a := a)
    generalize unitP a = u at hm ⊢
    generalize gcdP a = g at hg hm
    rw [← hm] at hsa
    unfold Sm mulp at hsa
    unfold Sm
    simp only at hsa
    have key : ∀ z : Int, -(2 * n) ≤ g * z → g * z ≤ 2 * n → -(2 * n) ≤ z ∧ z ≤ 2 * n := fun z z1 z2 => by
      constructor
      · rcases Int.le_total 0 z with k | k
        · omega
        · have : g * z ≤ 1 * z := Int.mul_le_mul_of_nonpos_right (by omega) k
          omega
      · rcases Int.le_total 0 z with k | k
        · have : 1 * z ≤ g * z := Int.mul_le_mul_of_nonneg_right (by omega) k
          omega
        · omega
    have k1 := key u.1 hsa.1 hsa.2.1
    have k2 := key u.2 hsa.2.2.1 hsa.2.2.2
    exact ⟨k1.1, k1.2, k2.1, k2.2⟩
  have gl : ∀ l : List Pt, (∀ u ∈ l, u ∈ stepsP c) → l.length ≤ 10 → Sms (2 * n * 10) (gath l) := fun l hl hlen x hx => by
    obtain ⟨u, k, hul, k0, k1, rfl⟩ := gath_mem hx
    have hs := hu u (hl u hul)
    unfold Sm at hs
    unfold Sm mulp
    simp only
    have key : ∀ z : Int, -(2 * n) ≤ z → z ≤ 2 * n → -(2 * n * 10) ≤ k * z ∧ k * z ≤ 2 * n * 10 := fun z z1 z2 => by
      have k10 : k ≤ 10 := by omega
      rcases Int.le_total 0 z with q | q
      · have h1 : k * z ≤ 10 * z := Int.mul_le_mul_of_nonneg_right k10 q
        have h2 : 0 ≤ k * z := Int.mul_nonneg (by omega) q
        omega
      · have h1 : 10 * z ≤ k * z := Int.mul_le_mul_of_nonpos_right k10 q
        have h2 : k * z ≤ 0 := Int.mul_nonpos_of_nonneg_of_nonpos (by omega) q
        omega
    obtain ⟨q1, q2⟩ := key u.1 hs.1 hs.2.1
    obtain ⟨q3, q4⟩ := key u.2 hs.2.2.1 hs.2.2.2
    exact ⟨q1, q2, q3, q4⟩
  have path : ∀ (l : List Pt) (s : Pt) (m : Int), (∀ u ∈ l, u ∈ stepsP c) → l.length ≤ 10 → Sm m s → 0 ≤ m → Sms (m + 2 * n * 10 * 10) (shapeBy s (gath l)) := fun l s m hl hlen hsm hm => by
    have g := gl l hl hlen
    have gl2 := gath_len l
    have h1 : Sms (2 * n * 10) (gath l).dropLast := fun x hx => g x (List.dropLast_subset _ hx)
    have h2 := pathF_sm (m := 2 * n * 10) (by omega) (gath l).dropLast s m hsm h1 hm
    intro x hx
    refine (h2 x hx).mono ?_
    have h3 : ((gath l).dropLast.length : Int) ≤ 10 := by
      rw [List.length_dropLast]
      omega
    have h4 : 2 * n * 10 * ((gath l).dropLast.length : Int) ≤ 2 * n * 10 * 10 := Int.mul_le_mul_of_nonneg_left h3 (by omega)
    omega
  unfold parted at hy
  generalize hse : stepsP c = ss at hy h10 path
  match ss, hy, h10, path with
  | [], hy, _, _ => cases hy
  | [_], hy, _, _ => cases hy
  | s0 :: s1 :: rest, hy, h10, path =>
    have hy' : (theRow s0 (s1 :: rest)).map (fun r => (shapeBy (at_ c 0) (gath (s0 :: pickT (s1 :: rest) r)), shapeBy pt0 (gath (pickF (s1 :: rest) r)))) = some (d, e) := hy
    clear hy
    generalize s1 :: rest = ss at hy' h10 path
    rw [List.length_cons] at h10
    cases hr : theRow s0 ss with
    | none => rw [hr] at hy'; cases hy'
    | some r =>
      rw [hr] at hy'
      cases hy'
      have t1 := pickT_len ss r
      have t2 := pickF_len ss r
      refine ⟨path _ (at_ c 0) n (fun u hu => ?_) (by rw [List.length_cons]; omega) (sms_at hs h0 0) h0, fun x hx => ?_⟩
      · rcases List.mem_cons.mp hu with z | z
        · rw [z]
          exact List.mem_cons_self
        · exact List.mem_cons_of_mem _ ((pickT_sub ss r).subset z)
      · have := path (pickF ss r) pt0 0 (fun u hu => by
          rw [pickF_not] at hu
          exact List.mem_cons_of_mem _ ((pickT_sub ss _).subset hu)) (by omega) (by unfold Sm pt0; simp) (Int.le_refl _) x hx
        exact this.mono (by omega)
end Rm

/-! # sorted of a set of pairs of whole numbers, sorted of a list of such pairs -/
namespace RsS
open PySem PySem.Spec PyProof.Rows L2
open Rm (lexlt)
def encP (b : Addr × Int × Int) : PyData := .tuple [.int b.2.1, .int b.2.2]
theorem alike_encP (b c : Addr × Int × Int) : PySem.W.alike (encP b) (encP c) = true := by
  unfold encP
  simp [PySem.W.alike, PySem.W.alikeAll]
theorem le_encP : PySem.W.dataLe false encP = fun p q => decide (p.2.1 < q.2.1 ∨ (p.2.1 = q.2.1 ∧ p.2.2 ≤ q.2.2)) := PySem.W.dataLe_ii (fun b : Addr × Int × Int => b.2.1) (fun b => b.2.2)
theorem depth_encP (b : Addr × Int × Int) : (encP b).depth ≤ 2 := by
  unfold encP
  simp [PyData.depth, PyData.depthAll]
def toL (b : Addr × Int × Int) : Addr × List Int := (b.1, [b.2.1, b.2.2])
theorem le_sorted (bs : List (Addr × Int × Int)) : (bs.mergeSort (PySem.W.dataLe false encP)).Pairwise (fun p q => p.2.1 < q.2.1 ∨ (p.2.1 = q.2.1 ∧ p.2.2 ≤ q.2.2)) := by
  rw [le_encP]
  have h := List.pairwise_mergeSort (le := fun (p q : Addr × Int × Int) => decide (p.2.1 < q.2.1 ∨ (p.2.1 = q.2.1 ∧ p.2.2 ≤ q.2.2))) (fun a b c h1 h2 => by
    simp only [decide_eq_true_eq] at h1 h2 ⊢
    omega) (fun a b => by
    simp only [Bool.or_eq_true, decide_eq_true_eq]
    omega) bs
  exact h.imp fun h => of_decide_eq_true h
theorem each_ref {L : List (Addr × Int × Int)} : ∀ {vs : List Value} {bs : List (Addr × Int × Int)}, PySem.W.EachIs (fun v b => v = Value.ref b.1) vs bs → vs = bs.map fun b => Value.ref b.1
  | _, _, .nil => rfl
  | _, _, .cons h t => by rw [h, List.map_cons, each_ref (L := L) t]
theorem each_of : ∀ (bs : List (Addr × Int × Int)) (R : Value → (Addr × Int × Int) → Prop), (∀ b ∈ bs, R (.ref b.1) b) → PySem.W.EachIs R (bs.map fun b => Value.ref b.1) bs
  | [], _, _ => .nil
  | b :: bs, R, h => .cons (h b List.mem_cons_self) (each_of bs R fun c hc => h c (List.mem_cons_of_mem _ hc))
section
variable {P : Program} {w : World} {A : Around} {E : Value → Shared → Prop} {s : Shared}
theorem reads_isT {h : Heap} {a : Addr} {x y : Int} (t : IsT P w h [x, y] a) : Reads h (.ref a) (.tuple [.int x, .int y]) [] := by
  obtain ⟨o, items, n, ho, hc, hd, hi⟩ := t
  have hx := ints_of_items hi
  have : items.toList.toArray = items := by simp
  generalize hl : items.toList = l at hx this
  subst this
  cases hx with
  | cons k1 t1 hr =>
    cases hr with
    | cons k2 t2 hr2 =>
      cases hr2
      exact Reads.tuple ho hc hd (.cons (.int _ _) (.cons (.int _ _) .nil))
/-- list.sort of a list of such tuples -/
theorem sort_pairs {a : Addr} {n : Nat} {Q : Value → Shared → Prop} (bs : List (Addr × Int × Int)) (ho : s.heap.get? a = some (seqObj "list" (bs.map fun b => Value.ref b.1).toArray n)) (ht : ∀ b ∈ bs, IsT P w s.heap [b.2.1, b.2.2] b.1) (hL : bs.length ≤ sizeLine) (hu : A.units + 4 < cLine)
    (h : ∀ L' : List (Addr × Int × Int), L'.Perm bs → L'.Pairwise (fun p q => p.2.1 < q.2.1 ∨ (p.2.1 = q.2.1 ∧ p.2.2 ≤ q.2.2)) → Q .none { s with heap := sortedHeap s.heap a (bs.map fun b => Value.ref b.1) (L'.map fun b => Value.ref b.1).toArray }) :
    wpAny (model P w) A (call (.builtin "list.sort") [.ref a]) Q E s := by
  refine PySem.W.list_sort_data (enc := encP) (R := fun v b => v = Value.ref b.1) ho (each_of bs _ fun _ _ => rfl) (each_of bs _ fun b hb => ?_) (PySem.W.AllAlike.of alike_encP) (PySem.W.Sortable.tuples fun b => ⟨_, _, rfl⟩) hL (fun b _ => by have := depth_encP b; omega) fun out _ he => ?_
  · exact ⟨[], reads_isT (ht b hb), by simp⟩
  · rw [each_ref (L := bs) he]
    exact h _ (List.mergeSort_perm _ _) (le_sorted bs)
/-- the addresses of values, taken back -/
theorem back_refs {L : List (Addr × Int × Int)} (one : ∀ q ∈ L, ∀ r ∈ L, q.1 = r.1 → q = r) (nd : L.Nodup) : ∀ {vs : List Value}, vs.Perm (L.map fun q => Value.ref q.1) → ∃ L1 : List (Addr × Int × Int), vs = L1.map (fun q => Value.ref q.1) ∧ L1.Perm L := by
  intro vs pm
  have ord : ∀ us : List Value, (∀ v ∈ us, ∃ q ∈ L, v = Value.ref q.1) → ∃ L1 : List (Addr × Int × Int), us = L1.map (fun q => Value.ref q.1) ∧ ∀ q ∈ L1, q ∈ L := by
    intro us
    induction us with
    | nil => exact fun _ => ⟨[], rfl, fun q hq => (by cases hq)⟩
    | cons v us ih =>
      intro hv
      obtain ⟨q, hq, e⟩ := hv v List.mem_cons_self
      obtain ⟨L1, e1, hs⟩ := ih fun u hu => hv u (List.mem_cons_of_mem _ hu)
      refine ⟨q :: L1, by rw [List.map_cons, e, e1], fun r hr => ?_⟩
      rcases List.mem_cons.mp hr with z | z
      · exact z ▸ hq
      · exact hs r z
  obtain ⟨L1, e1, hs⟩ := ord vs fun v hv => by
    obtain ⟨q, hq, e⟩ := List.mem_map.mp (pm.mem_iff.mp hv)
    exact ⟨q, hq, e.symm⟩
  subst e1
  have nref : (L.map fun q => Value.ref q.1).Nodup := by
    refine List.pairwise_map.mpr (List.Pairwise.imp_of_mem (fun {q r} hq hr hne e => ?_) nd)
    injection e with e
    exact hne (one q hq r hr e)
  have n1 : L1.Nodup := nodup_of_map (pm.nodup_iff.mpr nref)
  refine ⟨L1, rfl, (List.perm_ext_iff_of_nodup n1 nd).mpr fun q => ⟨hs q, fun hq => ?_⟩⟩
  have hm : Value.ref q.1 ∈ L1.map (fun q => Value.ref q.1) := pm.mem_iff.mpr (List.mem_map.mpr ⟨q, hq, rfl⟩)
  obtain ⟨r, hr, e⟩ := List.mem_map.mp hm
  injection e with e
  rw [← one r (hs r hr) q hq e]
  exact hr
theorem strict_of {L : List (Addr × Int × Int)} (nd : (L.map (·.2)).Nodup) (h : L.Pairwise (fun p q => p.2.1 < q.2.1 ∨ (p.2.1 = q.2.1 ∧ p.2.2 ≤ q.2.2))) : L.Pairwise (fun p q => lexlt p.2 q.2) := by
  have nd' := List.pairwise_map.mp nd
  refine List.Pairwise.imp₂ (fun {p q} hne hle => ?_) nd' h
  unfold lexlt
  rcases hle with c | ⟨c, d⟩
  · exact .inl c
  · refine .inr ⟨c, ?_⟩
    rcases Int.lt_or_eq_of_le d with z | z
    · exact z
    · exact absurd (Prod.ext c z) hne
theorem sorted_set {a : Addr} {L : List (Addr × Int × Int)} {es : Array (Int × Value)} {ep : Nat} {t : SetTable} {Q : Value → Shared → Prop} (R : SetTR P w s.heap a (L.map toL) es ep t) (hh : A.handled = none) (hu : A.units + 5 < cLine)
    (hQ : ∀ s' p (out : Array Value) (c : Nat) (L' : List (Addr × Int × Int)), (∀ b o, s.heap.get? b = some o → s'.heap.get? b = some o) → s'.gens = s.gens → s'.os = s.os → s.heap.objs.size ≤ p →
      s'.heap.get? p = some (seqObj "list" out c) → out.toList = L'.map (fun q => Value.ref q.1) → L'.Perm L → L'.Pairwise (fun q r => lexlt q.2 r.2) → Q (.ref p) s') :
    wpAny (model P w) A (call (.builtin "sorted") [.ref a]) Q E s := by
  obtain ⟨o, ho, hex, hd⟩ := R.ob
  have hsz := R.size
  have hfew := R.few
  rw [List.length_map] at hsz hfew
  refine Calls.call_function_entry kind_sorted plain_sorted entry_sorted (args_sorted1 _) ?_
  unfold Builtin.«sorted»
  refine wpAny_bind (m := checkCount "sorted" 1 1 _) (wpAny_pure ?_)
  refine wpAny_bind (collect_set (A := A.in1) hh ⟨o, ho, hex.1, hd⟩ R.fits (by unfold scanBound; omega) R.tab.ris R.led fun s1 vs k1 hz g1 o1 pm => ?_)
  have hes : es.toList.map (·.2) = L.map fun q => Value.ref q.1 := by
    rw [R.rows]
    unfold rowsOf
    rw [List.map_map, List.map_map] <;> rfl
  rw [hes] at pm
  have tup : ∀ q ∈ L, IsT P w s.heap [q.2.1, q.2.2] q.1 := fun q hq => R.tup (toL q) (List.mem_map.mpr ⟨q, hq, rfl⟩)
  have one : ∀ q ∈ L, ∀ r ∈ L, q.1 = r.1 → q = r := fun q hq r hr e => by
    have a1 := tup q hq
    have a2 := tup r hr
    rw [e] at a1
    have e2 : [q.2.1, q.2.2] = [r.2.1, r.2.2] := a1.inj a2
    injection e2 with e3 e4
    injection e4 with e4 _
    exact Prod.ext e (Prod.ext e3 e4)
  have nd2 : (L.map (·.2)).Nodup := by
    have h := R.nd
    rw [List.map_map] at h
    refine List.pairwise_map.mpr (List.Pairwise.imp (fun {p q} hne e => hne ?_) (List.pairwise_map.mp h))
    show [p.2.1, p.2.2] = [q.2.1, q.2.2]
    rw [e]
  have nd : L.Nodup := nodup_of_map nd2
  obtain ⟨L1, e1, p1⟩ := back_refs one nd pm
  subst e1
  have hl1 : L1.length < 64 := by
    rw [p1.length_eq]
    exact hfew
  refine wpAny_bind (wpAny_newList ?_ (by rw [sizeLine_eq, List.length_map]; omega))
  have hoL : (s1.heap.push (seqObj "list" (L1.map fun q => Value.ref q.1).toArray 0)).get? s1.heap.objs.size = some (seqObj "list" (L1.map fun q => Value.ref q.1).toArray 0) := Heap.get?_push_size _ rfl
  refine wpAny_bind (wpAny_holding (sort_pairs (s := { s1 with heap := s1.heap.push (seqObj "list" (L1.map fun q => Value.ref q.1).toArray 0) }) (P := P) (w := w) L1 hoL (fun q hq => isT_keep (tup q (p1.mem_iff.mp hq)) fun b u e => Heap.get?_push_of_some _ (k1 b u e)) (by rw [sizeLine_eq]; omega) hu fun L' pL pw => ?_))
  obtain ⟨c, hc⟩ := sortedHeap_at (vs := L1.map fun q => Value.ref q.1) (out := (L'.map fun q => Value.ref q.1).toArray) hoL
  have pL2 : L'.Perm L := pL.trans p1
  refine wpAny_pure ⟨_, rfl, hQ _ s1.heap.objs.size _ c L' (fun b u e => ?_) g1 o1 hz hc (by simp) pL2 (strict_of ((pL2.map (·.2)).nodup_iff.mpr nd2) pw)⟩
  have q := k1 b u e
  have hlt := Heap.lt_size q
  show (sortedHeap (s1.heap.push (seqObj "list" (L1.map fun q => Value.ref q.1).toArray 0)) s1.heap.objs.size _ _).get? b = some u
  rw [sortedHeap_old (Nat.ne_of_lt hlt) (by rw [size_push']; exact Nat.lt_succ_of_lt hlt)]
  exact Heap.get?_push_of_some _ q
end
section
variable {X : Cx}
def rSortedSP (K : PySem.W.Frag) (P : Program) (w : World) : List V → Hp → VK → Prop := fun vs H Q => ∃ (a : Addr) (L : List (Addr × Int × Int)), vs = [V.ref a] ∧ H a = some (SetTO P w a (L.map toL)) ∧ (∀ q ∈ L, SqT K H q.1 [.int q.2.1, .int q.2.2]) ∧
  ∀ (L' : List (Addr × Int × Int)) (p : Addr), L'.Perm L → L'.Pairwise (fun q r => lexlt q.2 r.2) → H p = none → Q (.ref p) (upd H p (.lst (L'.map fun q => V.ref q.1)))
theorem refs_vals : ∀ (L : List (Addr × Int × Int)), Vals (L.map fun q => V.ref q.1) (L.map fun q => Value.ref q.1)
  | [] => .nil
  | q :: L => .cons rfl (refs_vals L)
theorem cr_sortedSP (hc : X.calm = true) (hu : X.A.units + 64 < cLine) : CallR X (.builtin "sorted") (rSortedSP X.K X.prog X.w) := by
  intro pins s σ H vs us Q I r h
  obtain ⟨a, L, rfl, ha, hk, q⟩ := h
  have R0 : SetT0 X.prog X.w s.heap a (L.map toL) := (I.hok a _ ha).1
  obtain ⟨es, ep, t, R⟩ := R0.full fun p hp => by
    obtain ⟨q, hq, rfl⟩ := List.mem_map.mp hp
    exact I.isT (k := [q.2.1, q.2.2]) (hk q hq)
  rw [Vals.ref1 r]
  refine sorted_set R (I.ok.hd hc) (by omega) fun s' p out c L' k g o hp hg hout pm pw => ?_
  have hfew : L'.length < 64 := by
    rw [pm.length_eq]
    have := R.few
    rwa [List.length_map] at this
  have hlen : (L'.map fun q => V.ref q.1).length ≤ sizeLine := by
    rw [List.length_map, sizeLine_eq]
    omega
  have hn : H p = none := I.hok.fresh hp
  have hv : Vals (L'.map fun q => V.ref q.1) out.toList := by
    rw [hout]
    exact refs_vals L'
  have J : Inv X pins σ (upd H p (.lst (L'.map fun q => V.ref q.1))) { s with heap := s'.heap, gens := s'.gens, drawn := s'.drawn, toks := s'.toks } :=
    I.call (ch := []) (Un.laid k hp hn) (I.hok.laid k hp ⟨hlen, out.toList, c, hv, hg⟩) (by rw [g]; exact I.bare) (fun _ z => nomatch z)
  have e : s' = { s with heap := s'.heap, gens := s'.gens, drawn := s'.drawn, toks := s'.toks } := by
    cases s'
    cases s
    cases o
    rfl
  rw [e]
  exact ⟨.ref p, _, J, rfl, q L' p pm pw hn⟩
/-- sorted of a list of pairs, any number of them -/
def rSortedLP (K : PySem.W.Frag) : List V → Hp → VK → Prop := fun vs H Q => ∃ (a : Addr) (L : List (Addr × Int × Int)), vs = [V.ref a] ∧ SqL K H a (L.map fun q => V.ref q.1) ∧ (∀ q ∈ L, SqT K H q.1 [.int q.2.1, .int q.2.2]) ∧
  ∀ (L' : List (Addr × Int × Int)) (p : Addr), L'.Perm L → L'.Pairwise (fun p q => p.2.1 < q.2.1 ∨ (p.2.1 = q.2.1 ∧ p.2.2 ≤ q.2.2)) → H p = none → Q (.ref p) (upd H p (.lst (L'.map fun q => V.ref q.1)))
theorem cr_sortedLP (hu : X.A.units + 64 < cLine) : CallR X (.builtin "sorted") (rSortedLP X.K) := by
  intro pins s σ H vs us Q I r h
  obtain ⟨a, L, rfl, ha, hk, q⟩ := h
  rw [Vals.ref1 r]
  obtain ⟨its, rv, pl, hz⟩ := I.list ha
  have eits : its = L.map fun q => Value.ref q.1 := by
    have : ∀ (L : List (Addr × Int × Int)) (its : List Value), Vals (L.map fun q => V.ref q.1) its → its = L.map fun q => Value.ref q.1 := by
      intro L
      induction L with
      | nil =>
        intro its r
        cases r
        rfl
      | cons q L ih =>
        intro its r
        cases r with
        | cons h t => rw [List.map_cons, ← ih _ t, show _ = Value.ref q.1 from h]
    exact this L its rv
  subst eits
  have tup : ∀ q ∈ L, IsT X.prog X.w s.heap [q.2.1, q.2.2] q.1 := fun q hq => I.isT (k := [q.2.1, q.2.2]) (hk q hq)
  have hz' : L.length ≤ sizeLine := by
    rw [List.length_map] at hz
    exact hz
  refine PySem.W.sorted_data (enc := encP) (R := fun v b => v = Value.ref b.1) pl.isList (each_of L _ fun _ _ => rfl) (each_of L _ fun b hb => ⟨[], reads_isT (tup b hb)⟩) (PySem.W.AllAlike.of alike_encP) (PySem.W.Sortable.tuples fun b => ⟨_, _, rfl⟩) hz' (fun b _ => by
    have := depth_encP b
    omega) fun out hout he => ?_
  have pL := List.mergeSort_perm L (PySem.W.dataLe false encP)
  have pw := le_sorted L
  have ho := each_ref (L := L) he
  generalize L.mergeSort (PySem.W.dataLe false encP) = L' at pL pw ho
  subst ho
  have k : ∀ b o, s.heap.get? b = some o → (sortedAll s.heap (L.map fun q => Value.ref q.1) (L'.map fun b => Value.ref b.1).toArray).get? b = some o := fun b o e => sortedAll_old e
  obtain ⟨c, hc⟩ := sortedAll_at s.heap (L.map fun q => Value.ref q.1) (L'.map fun b => Value.ref b.1).toArray
  have hp : s.heap.objs.size ≤ s.heap.objs.size + 1 := Nat.le_succ _
  refine ⟨.ref _, upd H (s.heap.objs.size + 1) (.lst (L'.map fun q => V.ref q.1)), I.laid (t' := s.toks) k hp ⟨by rw [List.length_map, pL.length_eq]; exact hz', _, c, refs_vals L', hc⟩, rfl, q L' _ pL pw (I.hok.fresh hp)⟩
end
end RsS
namespace Rs
open PySem PySem.Spec PyProof.Rows L2 RsS
open Rm (lexlt)
def pT (p : Int × Int) : PyData := .tuple [.int p.1, .int p.2]
section
variable {K : PySem.W.Frag} {env : List (Sl K)} {te : TE} {P : Program} {w : World}
theorem dpa_pairs {H : Hp} : ∀ {ps : List (Int × Int)} {vs : List V}, DpAll K H vs (ps.map pT) → ∃ ks : List (Addr × Int × Int), vs = ks.map (fun q => V.ref q.1) ∧ ks.map (·.2) = ps ∧ ∀ q ∈ ks, SqT K H q.1 [.int q.2.1, .int q.2.2]
  | [], _, h => by
    cases h
    exact ⟨[], rfl, rfl, fun _ h => nomatch h⟩
  | p :: ps, _, h => by
    cases h with
    | cons h1 h2 =>
      obtain ⟨ks, rfl, e2, h3⟩ := dpa_pairs h2
      obtain ⟨a, xs, rfl, s1, s2⟩ := dp_tup h1
      obtain ⟨v, w, rfl, g1, g2⟩ := dpa_two s2
      cases dp_int g1
      cases dp_int g2
      refine ⟨(a, p) :: ks, rfl, by rw [List.map_cons, e2], fun q hq => ?_⟩
      rcases List.mem_cons.mp hq with z | z
      · rw [z]
        exact s1
      · exact h3 q z
theorem pairs_dpa {H : Hp} : ∀ (ks : List (Addr × Int × Int)), (∀ q ∈ ks, SqT K H q.1 [.int q.2.1, .int q.2.2]) → DpAll K H (ks.map fun q => V.ref q.1) ((ks.map (·.2)).map pT)
  | [], _ => .nil
  | q :: ks, h => .cons (.tup (h q List.mem_cons_self) (.cons (.int _) (.cons (.int _) .nil))) (pairs_dpa ks fun r hr => h r (List.mem_cons_of_mem _ hr))
/-- strictly rising lists with the same members are one -/
theorem lex_one : ∀ {l m : List (Int × Int)}, l.Pairwise lexlt → m.Pairwise lexlt → (∀ x, x ∈ l ↔ x ∈ m) → l = m
  | [], [], _, _, _ => rfl
  | [], y :: m, _, _, h => nomatch (h y).mpr List.mem_cons_self
  | x :: l, [], _, _, h => nomatch (h x).mp List.mem_cons_self
  | x :: l, y :: m, hl, hm, h => by
    have hl' := List.pairwise_cons.mp hl
    have hm' := List.pairwise_cons.mp hm
    have irr : ∀ z : Int × Int, ¬ lexlt z z := fun z hz => by
      unfold lexlt at hz
      omega
    have asym : ∀ a b : Int × Int, lexlt a b → ¬ lexlt b a := fun a b h1 h2 => by
      unfold lexlt at h1 h2
      omega
    have e : x = y := by
      rcases List.mem_cons.mp ((h x).mp List.mem_cons_self) with z | z
      · exact z
      · rcases List.mem_cons.mp ((h y).mpr List.mem_cons_self) with z2 | z2
        · exact z2.symm
        · exact absurd (hl'.1 y z2) (asym _ _ (hm'.1 x z))
    subst e
    rw [lex_one hl'.2 hm'.2 fun z => ?_]
    constructor
    · intro hz
      rcases List.mem_cons.mp ((h z).mp (List.mem_cons_of_mem _ hz)) with q | q
      · subst q
        exact absurd (hl'.1 z hz) (irr z)
      · exact q
    · intro hz
      rcases List.mem_cons.mp ((h z).mpr (List.mem_cons_of_mem _ hz)) with q | q
      · subst q
        exact absurd (hm'.1 z hz) (irr z)
      · exact q
/-- sorted(set(xs)), xs a list of fewer than 64 pairs -/
theorem edl_sortedSet {ps qs : List (Int × Int)} (h : Ed te env (.list (ps.map pT))) (hl : ps.length < 64) (hq : qs.Pairwise lexlt) (hm : ∀ x, x ∈ qs ↔ x ∈ ps) : EdL (tCB (rSortedSP K P w) (tCons (tCB (rSetOfT K P w) (tCons te tNil)) tNil)) env (qs.map pT) := fun H0 σ H e Q q => by
  refine h H0 σ H e _ fun v H1 e1 dv => ?_
  obtain ⟨l, vs, rfl, h1, h2⟩ := dp_list dv
  obtain ⟨ks, rfl, rfl, h3⟩ := dpa_pairs h2
  refine ⟨l, ks.map toL, rfl, by rw [List.map_map]; exact h1, fun p hp => ?_, by rw [List.length_map] at hl ⊢; exact hl, fun a L ha hs hall => ?_⟩
  · obtain ⟨r, hr, rfl⟩ := List.mem_map.mp hp
    exact h3 r hr
  have s1 : Same H1 (upd H1 a (SetTO P w a L)) := same_new ha
  obtain ⟨L2, hL2⟩ : ∃ L2 : List (Addr × Int × Int), L = L2.map toL ∧ ∀ r ∈ L2, r ∈ ks := by
    have : ∀ L : List (Addr × List Int), (∀ p ∈ L, p ∈ ks.map toL) → ∃ L2 : List (Addr × Int × Int), L = L2.map toL ∧ ∀ r ∈ L2, r ∈ ks := by
      intro L
      induction L with
      | nil => exact fun _ => ⟨[], rfl, fun _ h => nomatch h⟩
      | cons p L ih =>
        intro hs
        obtain ⟨r, hr, rfl⟩ := List.mem_map.mp (hs p List.mem_cons_self)
        obtain ⟨L2, rfl, h⟩ := ih fun q hq => hs q (List.mem_cons_of_mem _ hq)
        refine ⟨r :: L2, rfl, fun z hz => ?_⟩
        rcases List.mem_cons.mp hz with y | y
        · exact y ▸ hr
        · exact h z y
    exact this L hs
  obtain ⟨rfl, hsub⟩ := hL2
  refine ⟨a, L2, rfl, upd_same, fun r hr => sqT_same s1 (h3 r (hsub r hr)), fun L' p pm pw hp => ?_⟩
  have ne : p ≠ a := fun z => by
    rw [z, upd_same] at hp
    cases hp
  have s2 : Same (upd H1 a (SetTO P w a (L2.map toL))) (upd (upd H1 a (SetTO P w a (L2.map toL))) p (.lst (L'.map fun q => V.ref q.1))) := same_new hp
  have eq : L'.map (·.2) = qs := by
    refine lex_one (List.pairwise_map.mpr pw) hq fun x => ?_
    rw [hm x]
    constructor
    · intro hx
      obtain ⟨r, hr, rfl⟩ := List.mem_map.mp hx
      exact List.mem_map.mpr ⟨r, hsub r (pm.mem_iff.mp hr), rfl⟩
    · intro hx
      obtain ⟨r, hr, rfl⟩ := List.mem_map.mp hx
      have hk := hall (toL r) (List.mem_map.mpr ⟨r, hr, rfl⟩)
      obtain ⟨z, hz, ez⟩ := List.mem_map.mp hk
      obtain ⟨y, hy, rfl⟩ := List.mem_map.mp hz
      have ey : [y.2.1, y.2.2] = [r.2.1, r.2.2] := ez
      injection ey with e3 e4
      injection e4 with e4 _
      exact List.mem_map.mpr ⟨y, pm.mem_iff.mpr hy, Prod.ext e3 e4⟩
  refine q p _ _ (e1.free (s1.free hp)) (e1.trans (s1.trans s2)) upd_same ?_
  rw [← eq]
  exact pairs_dpa L' fun r hr => sqT_same (s1.trans s2) (h3 r (hsub r (pm.mem_iff.mp hr)))
/-- sorted(xs), xs a list of pairs, no two alike -/
theorem edl_sortedL {ps qs : List (Int × Int)} (h : Ed te env (.list (ps.map pT))) (hn : ps.Nodup) (hq : qs.Pairwise lexlt) (hm : ∀ x, x ∈ qs ↔ x ∈ ps) : EdL (tCB (rSortedLP K) (tCons te tNil)) env (qs.map pT) := fun H0 σ H e Q q => by
  refine h H0 σ H e _ fun v H1 e1 dv => ?_
  obtain ⟨l, vs, rfl, h1, h2⟩ := dp_list dv
  obtain ⟨ks, rfl, rfl, h3⟩ := dpa_pairs h2
  refine ⟨l, ks, rfl, h1, h3, fun L' p pm pw hp => ?_⟩
  have s1 : Same H1 (upd H1 p (.lst (L'.map fun q => V.ref q.1))) := same_new hp
  have eq : L'.map (·.2) = qs := by
    refine lex_one (List.pairwise_map.mpr (strict_of ((pm.map (·.2)).nodup_iff.mpr hn) pw)) hq fun x => ?_
    rw [hm x]
    exact (pm.map (·.2)).mem_iff
  refine q p _ _ (e1.free hp) (e1.trans s1) upd_same ?_
  rw [← eq]
  exact pairs_dpa L' fun r hr => sqT_same s1 (h3 r (pm.mem_iff.mp hr))
end
end Rs

/-! # sets of up to 64 pairs: one more than the rule's 63. The set with 63 members is the library's; the 64th is laid here, by hand -/
namespace RsS
open PySem PySem.Spec PyProof.Rows L2
open Rm (lexlt)
/-- the library's table, with room for 64 -/
structure Big (P : Program) (w : World) (h : Heap) (a : Addr) (L : List (Addr × List Int)) (es : Array (Int × Value)) (ep : Nat) (t : SetTable) : Prop where
  ob : ∃ o, h.get? a = some o ∧ o.ExactSet ∧ o.data = .set es ep t
  rows : es.toList = rowsOf P w L
  tab : TabOk t (L.map fun p => thash P w p.2)
  nd : (L.map (·.2)).Nodup
  tup : ∀ p ∈ L, IsT P w h p.2 p.1
  plain : t.plain = true
  led : w.params.followText "set-order" = true ∨ t.led = true
  room : L.length * 5 < t.mask * 3
  few : L.length ≤ 64
section
variable {P : Program} {w : World} {A : Around} {E : Value → Shared → Prop} {s : Shared} {a : Addr} {L : List (Addr × List Int)} {es : Array (Int × Value)} {ep : Nat} {t : SetTable}
theorem Big.of (R : SetTR P w s.heap a L es ep t) : Big P w s.heap a L es ep t := ⟨R.ob, R.rows, R.tab, R.nd, R.tup, R.plain, R.led, R.room, Nat.le_of_lt R.few⟩
theorem Big.less (R : Big P w s.heap a L es ep t) (h : L.length < 64) : SetTR P w s.heap a L es ep t := ⟨R.ob, R.rows, R.tab, R.nd, R.tup, R.plain, R.led, R.room, h⟩
theorem Big.size (R : Big P w s.heap a L es ep t) : es.size = L.length := by
  have h := congrArg List.length R.rows
  rw [Array.length_toList] at h
  rw [h]
  unfold rowsOf
  rw [List.length_map]
theorem Big.fits (R : Big P w s.heap a L es ep t) : t.fits es.size = true := by
  have h1 := R.tab.sz
  have h2 := R.size
  have h3 := R.room
  rw [List.length_map] at h1
  unfold SetTable.fits SetTable.fill
  rw [R.tab.dm]
  simp only [Bool.and_eq_true, beq_iff_eq, decide_eq_true_eq]
  refine ⟨by omega, ?_⟩
  show t.place.size + 0 ≤ t.mask
  omega
theorem Big.keep {h h' : Heap} (R : Big P w h a L es ep t) (ha : ∀ o, h.get? a = some o → h'.get? a = some o) (ht : ∀ p ∈ L, IsT P w h' p.2 p.1) : Big P w h' a L es ep t := by
  obtain ⟨o, ho, r⟩ := R.ob
  exact ⟨⟨o, ha o ho, r⟩, R.rows, R.tab, R.nd, ht, R.plain, R.led, R.room, R.few⟩
/-- one more, up to the 64th -/
theorem add_big (B : Big P w s.heap a L es ep t) {x : Addr} {k : List Int} (hx : IsT P w s.heap k x) (hu : A.units < cLine) (h63 : L.length ≤ 63) {Q : Bool → Shared → Prop}
    (hQ : ∀ b h' L' es' ep' t', Heap.SameBut a s.heap h' → Big P w h' a L' es' ep' t' → (k ∈ L.map (·.2) → L' = L) → (k ∉ L.map (·.2) → L'.Perm ((x, k) :: L)) → Q b { s with heap := h' }) :
    wpAny (model P w) A (setAddHashed a (.ref x) (thash P w k)) Q E s := by
  have R := B.less (by omega)
  by_cases h62 : L.length + 1 < 64
  · exact add_at R hx hu h62 fun b h' L' es' ep' t' sb R' c1 c2 => hQ b h' L' es' ep' t' sb (Big.of (s := { s with heap := h' }) R') c1 c2
  have h63' : L.length = 63 := by omega
  have m127 : t.mask = 127 := by
    have := R.room
    rcases R.tab.mok with e | e | e <;> rw [e] at this <;> omega
  obtain ⟨o, ho, hex, hd⟩ := R.ob
  unfold setAddHashed
  apply wpAny_holding
  rw [show (100000 : Nat) = 99999 + 1 from rfl, setAddHashedIn_succ]
  apply wpAny_bind
  apply wpAny_setState_of ho hd R.fits
  dsimp only
  apply wp_if_neg (by simp [byScan, Value.scannable])
  try refine wpAny_bind (wpAny_pure ?_)
  apply wpAny_bind
  apply search_at R hx hu
  · intro hm
    dsimp only
    exact wpAny_pure (hQ false s.heap L es ep t (Heap.SameBut.refl a s.heap) B (fun _ => rfl) fun z => absurd hm z)
  · intro K hm hK hb
    dsimp only
    apply wpAny_bind
    apply wpAny_setState_of ho hd R.fits
    dsimp only
    obtain ⟨e1, e2, e3, e4, e5, e6, _, _, e9⟩ := R.tab.put hK hb
    have epl : (t.put (way t.mask (thash P w k) K)).1.plain = true := by rw [e6, R.plain]
    generalize t.put (way t.mask (thash P w k) K) = tp at e1 e3 e4 e5 e6 e9 epl ⊢
    obtain ⟨tn, pn⟩ := tp
    dsimp only at e1 e3 e4 e5 e6 e9 epl ⊢
    subst e1
    first
      | (apply wpAny_bind; apply wp_if_pos epl; apply hashBy_tup hx)
      | (apply wp_if_pos epl; apply wpAny_bind; apply hashBy_tup hx)
    simp only [if_true]
    generalize hpn : SetTable.below t.place (way t.mask (thash P w k) K) = pn at e2 e3 ⊢
    have rowN : (SetTable.insertAt es pn (thash P w k, Value.ref x)).toList = rowsOf P w (L.take pn ++ (x, k) :: L.drop pn) := by rw [SetTable.toList_insertAt, rows_put, R.rows]
    have pN := put_perm L pn (x, k)
    have lenN : (L.take pn ++ (x, k) :: L.drop pn).length = 64 := by
      rw [pN.length_eq, List.length_cons, h63']
    have hsN : (L.take pn ++ (x, k) :: L.drop pn).map (fun p => thash P w p.2) = (L.map fun p => thash P w p.2).take pn ++ thash P w k :: (L.map fun p => thash P w p.2).drop pn := by
      rw [List.map_append, List.map_cons, List.map_take, List.map_drop]
    rw [← hsN] at e3
    have ndN : ((L.take pn ++ (x, k) :: L.drop pn).map (·.2)).Nodup := (pN.map (·.2)).nodup_iff.mpr (by
      rw [List.map_cons]
      exact List.nodup_cons.mpr ⟨hm, R.nd⟩)
    have szN : (SetTable.insertAt es pn (thash P w k, Value.ref x)).size = 64 := by
      have h := congrArg List.length rowN
      rw [Array.length_toList] at h
      rw [h]
      unfold rowsOf
      rw [List.length_map, lenN]
    generalize SetTable.insertAt es pn (thash P w k, Value.ref x) = esN at rowN szN ⊢
    generalize L.take pn ++ (x, k) :: L.drop pn = LN at pN lenN e3 ndN rowN
    apply wpAny_bind
    refine wpAny_storeSet_of ho hd ?_ (by rw [szN, sizeLine_eq]; omega)
    have sb : Heap.SameBut a s.heap (s.heap.update a (Obj.putSet esN tn)) := Heap.SameBut.update ..
    have hoN := store_at (es' := esN) (t' := tn) ho hd
    generalize s.heap.update a (Obj.putSet esN tn) = hN at sb hoN ⊢
    have tupN : ∀ p ∈ LN, IsT P w hN p.2 p.1 := fun p hp => by
      rcases List.mem_cons.mp (pN.mem_iff.mp hp) with e | hp
      · rw [e]
        exact isT_same hx ho hd sb
      · exact isT_same (R.tup p hp) ho hd sb
    have notFull : ¬ tn.tooFull = true := by
      unfold SetTable.tooFull
      rw [decide_eq_true_eq, e9, List.length_map, h63', e4, m127]
      omega
    first
      | refine wp_if_neg (by simp [notFull]) ?_
      | (apply wpAny_bind; refine wp_if_neg (by simp [notFull]) ?_; refine wpAny_pure ?_)
    refine wpAny_pure (hQ true hN LN esN (ep + 1) tn sb ⟨⟨_, hoN, ⟨hex.1, hex.2.1, hex.2.2⟩, rfl⟩, rowN, e3, ndN, tupN, epl, by rw [e5]; exact R.led, ?_, by omega⟩ (fun z => absurd z hm) fun _ => pN)
    rw [lenN, e4, m127]
    omega
/-- the loop of set.update, at most 64 items -/
theorem loop_big {I S : Addr} {fp wr : List Addr} {G : Array GenState → Array GenState → Prop} {n : Nat} {Pv : Nat → Value → Prop} {St : Nat → Shared → Prop} {R : Result → Shared → Prop} (W : WalksS P w A.in1 I fp wr G n Pv St) (hS : S ∉ fp)
    (ks : List (Addr × List Int)) (hn : n = ks.length) (h64 : ks.length ≤ 64) (hv : ∀ i v, Pv i v → ∃ p, ks[i]? = some p ∧ v = .ref p.1) (hp0 : Heap) (hk : ∀ p ∈ ks, IsT P w hp0 p.2 p.1) (nS : hp0.get? S = none) (nW : ∀ b ∈ wr, hp0.get? b = none) (hu : A.in1.units < cLine)
    (hR : ∀ s0 s' L es ep t, Moved (S :: wr) G s0 s' → Big P w s'.heap S L es ep t → Got ks n L → (∀ b o, hp0.get? b = some o → s'.heap.get? b = some o) → s0 = s → R (.ok (.ret .none)) s') :
    ∀ (m i : Nat) (s1 : Shared), n - i = m → i ≤ n → St i s1 → Moved (S :: wr) G s s1 → (∀ b o, hp0.get? b = some o → s1.heap.get? b = some o) → (∃ L es ep t, Big P w s1.heap S L es ep t ∧ Got ks i L) →
      codeAny (model P w) A (.builtin "set.update.loop" ⟨[.ref S, .ref I], []⟩) R s1 := by
  have nSw : S ∉ wr := fun h => hS (W.sub _ h)
  have inc : ∀ b ∈ wr, b ∈ S :: wr := fun b hb => List.mem_cons_of_mem _ hb
  have old : ∀ {u v : Shared}, Moved wr G u v → (∀ b o, hp0.get? b = some o → u.heap.get? b = some o) → ∀ b o, hp0.get? b = some o → v.heap.get? b = some o := by
    intro u v mv keep b o e
    refine mv.heap b o (fun hb => ?_) (keep b o e)
    rw [nW b hb] at e
    cases e
  intro m
  induction m with
  | zero =>
    intro i s1 hm hi st mv keep ⟨L, es, ep, t, hB, g⟩
    obtain rfl : i = n := by omega
    apply codeAny_builtin F.entry_set_update_loop
    rw [Around.under_plainId F.plain_set_update_loop _]
    show wpAny _ A.in1 (pyNext (.ref I) >>= _) _ _ s1
    apply wpAny_bind
    refine W.done s1 _ _ st fun s2 mv2 => ?_
    show wpAny _ A.in1 (ret Value.none) _ _ s2
    have keep2 := old mv2 keep
    apply wpAny_pure
    refine hR s s2 L es ep t (Moved.trans W.gtrans mv (mv2.mono inc)) (Big.keep hB (fun o e => mv2.heap S o nSw e) fun p hp => isT_keep (hk p (List.mem_of_mem_take (g.sub p hp))) keep2) g keep2 rfl
  | succ m ih =>
    intro i s1 hm hi st mv keep ⟨L, es, ep, t, hB, g⟩
    have lt : i < n := by omega
    apply codeAny_builtin F.entry_set_update_loop
    rw [Around.under_plainId F.plain_set_update_loop _]
    show wpAny _ A.in1 (pyNext (.ref I) >>= _) _ _ s1
    apply wpAny_bind
    refine W.item i s1 _ _ lt st fun v s2 pv st2 mv2 => ?_
    obtain ⟨p, hp, rfl⟩ := hv i v pv
    have keep2 := old mv2 keep
    have hB2 : Big P w s2.heap S L es ep t := Big.keep hB (fun o e => mv2.heap S o nSw e) fun q hq => isT_keep (hk q (List.mem_of_mem_take (g.sub q hq))) keep2
    have px : IsT P w s2.heap p.2 p.1 := isT_keep (hk p (List.mem_of_getElem? hp)) keep2
    show wpAny _ A.in1 (holding [Value.ref p.1] (setAdd S (.ref p.1)) >>= _) _ _ s2
    apply wpAny_bind
    apply wpAny_holding
    unfold setAdd
    apply wpAny_holding
    apply wpAny_bind
    apply wpAny_pyHash_tuple hu px
    have gl := g.len
    refine add_big (s := { s2 with toks := s2.toks + (p.2.length + 1) }) hB2 px hu (by omega) fun b h' L' es' ep' t' sb hB3 c1 c2 => ?_
    have g3 : Got ks (i + 1) L' := by
      by_cases c : p.2 ∈ L.map (·.2)
      · rw [c1 c]
        exact g.same hp c
      · exact g.more hp (c2 c)
    have other : ∀ b, b ≠ S → h'.get? b = s2.heap.get? b := fun b hb => sb.2 b hb
    have keep3 : ∀ b o, hp0.get? b = some o → h'.get? b = some o := fun b o e => by
      rw [other b (fun z => by rw [z, nS] at e; cases e)]
      exact keep2 b o e
    apply wpAny_pure
    refine ⟨plainId_quiet F.plain_set_update_loop _, ih (i + 1) _ (by omega) lt (W.frame _ s2 _ _ st2 (Nat.le_add_right _ _) fun b hb o e => ?_) ?_ keep3 ⟨L', es', ep', t', hB3, g3⟩⟩
    · rw [other b (fun z => hS (z ▸ hb))]
      exact e
    · refine Moved.trans W.gtrans mv ((mv2.mono inc).then_heap (Nat.le_add_right _ _) fun b o hb e => ?_)
      rw [other b (fun z => hb (z ▸ List.mem_cons_self))]
      exact e
/-- what a new set is -/
def newSet (w : World) : Obj := { cls := .type "set", dict := none, data := .set #[] 0 (.fresh 0 0 (!w.params.followText "set-order")) }
set_option maxHeartbeats 8000000 in
/-- set(xs), at most 64 tuples -/
theorem call_big {l : Addr} {items : Array Value} (ks : List (Addr × List Int)) {Q : Value → Shared → Prop} (hh : A.handled = none) (hl : s.heap.IsList l items) (hit : items.toList = ks.map fun p => Value.ref p.1) (hk : ∀ p ∈ ks, IsT P w s.heap p.2 p.1) (h64 : ks.length ≤ 64) (hu : A.units + 3 < cLine)
    (h : ∀ (h' : Heap) (tk : Nat) L es ep t, Big P w h' s.heap.objs.size L es ep t → Got ks ks.length L → (∀ b o, s.heap.get? b = some o → h'.get? b = some o) → Q (.ref s.heap.objs.size) { s with heap := h', toks := tk }) :
    wpAny (model P w) A (call (.type "set") [.ref l]) Q E s := by
  have nI : items.size = ks.length := by
    have q := congrArg List.length hit
    rw [Array.length_toList, List.length_map] at q
    exact q
  obtain ⟨cs, rest, hmro⟩ := F.called_set.mro
  have hmade := F.called_set.made
  have hsub := F.called_set.sub
  apply wpAny_call
  apply codeAny_of_tree
  show wpAny _ _ (callAny (.type "set") _) _ _ _
  refine wpAny_pure ⟨Code.quiet_builtin _ (by decide +kernel), codeAny_builtin F.entry_type_call ?_⟩
  rw [Around.under_plain (weight_type_call_type "set" [.ref l] []) rfl]
  have hty := F.called_set.notType
  have hcr := F.called_set.canCreate
  have htc := F.typeCall_set_1 (.ref l)
  repeat (any_goals (first | assumption | wp_step))
  refine codeAny_mono (code_set_led1 (.ref l) (E := E) (Q₁ := fun ob s₁ => ob = .ref s.heap.objs.size ∧ s₁ = { s with heap := s.heap.push (newSet w) }) ⟨rfl, rfl⟩) fun r s₁ hr => ?_
  cases r with
  | error e => exact hr
  | ok fl =>
    cases fl with
    | ret ob =>
      obtain ⟨rfl, rfl⟩ := hr
      have gS : (s.heap.push (newSet w)).get? s.heap.objs.size = some (newSet w) := Heap.get?_push_size _ rfl
      have tS : Shared.TypeIs { s with heap := s.heap.push (newSet w) } (.ref s.heap.objs.size) "set" := ⟨_, gS, rfl⟩
      have hlook := F.called_set.init.lookup
      have hbind := F.called_set.init.bind (.ref s.heap.objs.size)
      repeat (any_goals (first | assumption | wp_step))
      refine codeAny_mono (codeAny_call_builtin (R := wants (fun r s₂ => r = .none ∧ ∃ h' tk L es ep t, s₂ = { s with heap := h', toks := tk } ∧ Big P w h' s.heap.objs.size L es ep t ∧ Got ks ks.length L ∧ (∀ b o, s.heap.get? b = some o → h'.get? b = some o)) E) F.called_set.init.plain F.entry_set_init (check_set_init_1 tS ?_)) fun r₂ s₂ hr₂ => ?_
      · have hl1 : (s.heap.push (newSet w)).IsList l items := hl.push _
        have lS : l < s.heap.objs.size := by
          obtain ⟨ol, hol, _⟩ := hl
          exact Heap.lt_size hol
        obtain ⟨ol, hol, hcl, nl, hdl⟩ := hl1
        obtain ⟨c1, d1, da1, sl1⟩ := ol
        simp only at hcl hdl
        subst hcl
        subst hdl
        have hl2 : (s.heap.push (newSet w)).IsList l items := ⟨_, hol, rfl, nl, rfl⟩
        have q1 := F.sub_list_set
        have q2 := F.sub_list_frozenset
        have q3 : (Value.type "list" == Value.type "dict") = false := by decide
        unfold Builtin.«set.__init__» noKeywords Builtin.Frozenset.updateFrom
        generalize hit0 : pyIter = it0
        wp_walk
        subst hit0
        apply wpAny_pyIter_list hl2
        apply wpAny_bind
        apply wpAny_runValue
        have sz : (s.heap.push (newSet w)).objs.size = s.heap.objs.size + 1 := Heap.size_push ..
        have gone : ∀ b, s.heap.objs.size ≤ b → s.heap.get? b = none := fun b hb => by
          cases q : s.heap.get? b with
          | none => rfl
          | some o => exact absurd (Heap.lt_size q) (Nat.not_lt.mpr hb)
        have vals : ∀ (i : Nat) (v : Value), items[i]? = some v → ∃ p, ks[i]? = some p ∧ v = .ref p.1 := fun i v hv => by
          rw [← Array.getElem?_toList, hit, List.getElem?_map] at hv
          cases hq : ks[i]? with
          | none =>
            rw [hq] at hv
            cases hv
          | some p =>
            rw [hq] at hv
            exact ⟨p, rfl, (Option.some.inj hv).symm⟩
        have lI : l ≠ (s.heap.push (newSet w)).objs.size := fun e => by
          rw [e, sz] at lS
          exact absurd lS (Nat.not_lt.mpr (Nat.le_succ _))
        have hh3 : A.in1.in1.in1.handled = none := by simp [hh]
        refine loop_big ((Walks.list hh3 _ l lI items).toS) ?_ ks nI h64 vals s.heap hk (gone _ (Nat.le_refl _)) (fun b hb => gone b ?_) hu ?_ (items.size - 0) 0 _ (by omega) (Nat.zero_le _) ⟨⟨_, Heap.get?_push_size _ rfl, rfl, rfl⟩, hl2.push _⟩ ⟨fun b o _ e => e, rfl, rfl, rfl, Nat.le_refl _⟩ (fun b o e => Heap.get?_push_of_some _ (Heap.get?_push_of_some _ e)) ?_
        · simp only [List.mem_cons, List.not_mem_nil, or_false, not_or]
          refine ⟨?_, Nat.ne_of_gt lS⟩
          show s.heap.objs.size ≠ (s.heap.push (newSet w)).objs.size
          rw [sz]
          exact Nat.ne_of_lt (Nat.lt_succ_self _)
        · rw [List.mem_singleton.mp hb]
          show s.heap.objs.size ≤ (s.heap.push (newSet w)).objs.size
          rw [sz]
          exact Nat.le_succ _
        · intro s0 s' L es ep t mv hB g keep e0
          subst e0
          obtain ⟨h', g2, d', tk', os'⟩ := s'
          have eg : g2 = s.gens := mv.gens
          have ed : d' = s.drawn := mv.drawn
          have eo : os' = s.os := mv.os
          subst eg
          subst ed
          subst eo
          show wpAny _ _ _ _ _ _
          apply wpAny_pure
          show wpAny _ _ (ret Value.none) _ _ _
          rw [nI] at g
          exact wpAny_pure ⟨rfl, h', tk', L, es, ep, t, rfl, hB, g, keep⟩
        · have g1 : ((s.heap.push (newSet w)).push { cls := .type "list_iterator", data := .fields #[.ref l, .int 0 0] }).get? s.heap.objs.size = some (newSet w) := Heap.get?_push_of_some _ gS
          exact ⟨[], #[], 0, _, Big.of (s := { s with heap := _ }) (setTR_fresh g1), Got.zero ks⟩
      · cases r₂ with
        | error e => exact hr₂
        | ok fl₂ =>
          cases fl₂ with
          | ret r =>
            obtain ⟨rfl, h', tk, L, es, ep, t, rfl, hB, g, keep⟩ := hr₂
            repeat (any_goals (first | assumption | wp_step))
            exact h _ _ _ _ _ _ hB g keep
          | _ => exact hr₂.elim
    | _ => exact hr.elim
end
/-- the set at a, the tuples apart -/
structure Big0 (P : Program) (w : World) (h : Heap) (a : Addr) (L : List (Addr × List Int)) : Prop where
  ex : ∃ (es : Array (Int × Value)) (ep : Nat) (t : SetTable), (∃ o, h.get? a = some o ∧ o.ExactSet ∧ o.data = .set es ep t) ∧ es.toList = rowsOf P w L ∧ TabOk t (L.map fun p => thash P w p.2) ∧ (L.map (·.2)).Nodup ∧ t.plain = true ∧ (w.params.followText "set-order" = true ∨ t.led = true) ∧ L.length * 5 < t.mask * 3 ∧ L.length ≤ 64
def BigO (P : Program) (w : World) (a : Addr) (L : List (Addr × List Int)) : HO := .ext fun h => Big0 P w h a L
theorem Big.to0 {P : Program} {w : World} {h : Heap} {a : Addr} {L : List (Addr × List Int)} {es : Array (Int × Value)} {ep : Nat} {t : SetTable} (R : Big P w h a L es ep t) : Big0 P w h a L := ⟨es, ep, t, R.ob, R.rows, R.tab, R.nd, R.plain, R.led, R.room, R.few⟩
theorem Big0.full {P : Program} {w : World} {s : Shared} {a : Addr} {L : List (Addr × List Int)} (R : Big0 P w s.heap a L) (ht : ∀ p ∈ L, IsT P w s.heap p.2 p.1) : ∃ es ep t, Big P w s.heap a L es ep t := by
  obtain ⟨es, ep, t, h1, h2, h3, h4, h5, h6, h7, h8⟩ := R.ex
  exact ⟨es, ep, t, ⟨h1, h2, h3, h4, ht, h5, h6, h7, h8⟩⟩
theorem bigO_ok {P : Program} {w : World} {H : Hp} {h : Heap} {a : Addr} {L : List (Addr × List Int)} (R : Big0 P w h a L) : ObjOk P w H h a (BigO P w a L) := by
  have ⟨es, ep, t, ⟨o, ho, r⟩, q⟩ := R.ex
  refine ⟨R, ⟨o, ho⟩, fun h1 h2 p k => ?_⟩
  have ⟨es2, ep2, t2, ⟨o2, ho2, r2⟩, q2⟩ := Big0.ex p
  exact ⟨es2, ep2, t2, ⟨o2, k o2 ho2, r2⟩, q2⟩
section
variable {P : Program} {w : World} {A : Around} {E : Value → Shared → Prop} {s : Shared}
theorem sorted_big {a : Addr} {L : List (Addr × Int × Int)} {es : Array (Int × Value)} {ep : Nat} {t : SetTable} {Q : Value → Shared → Prop} (R : Big P w s.heap a (L.map toL) es ep t) (hh : A.handled = none) (hu : A.units + 5 < cLine)
    (hQ : ∀ s' p (out : Array Value) (c : Nat) (L' : List (Addr × Int × Int)), (∀ b o, s.heap.get? b = some o → s'.heap.get? b = some o) → s'.gens = s.gens → s'.os = s.os → s.heap.objs.size ≤ p →
      s'.heap.get? p = some (seqObj "list" out c) → out.toList = L'.map (fun q => Value.ref q.1) → L'.Perm L → L'.Pairwise (fun q r => lexlt q.2 r.2) → Q (.ref p) s') :
    wpAny (model P w) A (call (.builtin "sorted") [.ref a]) Q E s := by
  obtain ⟨o, ho, hex, hd⟩ := R.ob
  have hsz := R.size
  have hfew := R.few
  rw [List.length_map] at hsz hfew
  refine Calls.call_function_entry kind_sorted plain_sorted entry_sorted (args_sorted1 _) ?_
  unfold Builtin.«sorted»
  refine wpAny_bind (m := checkCount "sorted" 1 1 _) (wpAny_pure ?_)
  refine wpAny_bind (collect_set (A := A.in1) hh ⟨o, ho, hex.1, hd⟩ R.fits (by unfold scanBound; omega) R.tab.ris R.led fun s1 vs k1 hz g1 o1 pm => ?_)
  have hes : es.toList.map (·.2) = L.map fun q => Value.ref q.1 := by
    rw [R.rows]
    unfold rowsOf
    rw [List.map_map, List.map_map] <;> rfl
  rw [hes] at pm
  have tup : ∀ q ∈ L, IsT P w s.heap [q.2.1, q.2.2] q.1 := fun q hq => R.tup (toL q) (List.mem_map.mpr ⟨q, hq, rfl⟩)
  have one : ∀ q ∈ L, ∀ r ∈ L, q.1 = r.1 → q = r := fun q hq r hr e => by
    have a1 := tup q hq
    have a2 := tup r hr
    rw [e] at a1
    have e2 : [q.2.1, q.2.2] = [r.2.1, r.2.2] := a1.inj a2
    injection e2 with e3 e4
    injection e4 with e4 _
    exact Prod.ext e (Prod.ext e3 e4)
  have nd2 : (L.map (·.2)).Nodup := by
    have h := R.nd
    rw [List.map_map] at h
    refine List.pairwise_map.mpr (List.Pairwise.imp (fun {p q} hne e => hne ?_) (List.pairwise_map.mp h))
    show [p.2.1, p.2.2] = [q.2.1, q.2.2]
    rw [e]
  have nd : L.Nodup := nodup_of_map nd2
  obtain ⟨L1, e1, p1⟩ := back_refs one nd pm
  subst e1
  have hl1 : L1.length ≤ 64 := by
    rw [p1.length_eq]
    exact hfew
  refine wpAny_bind (wpAny_newList ?_ (by rw [sizeLine_eq, List.length_map]; omega))
  have hoL : (s1.heap.push (seqObj "list" (L1.map fun q => Value.ref q.1).toArray 0)).get? s1.heap.objs.size = some (seqObj "list" (L1.map fun q => Value.ref q.1).toArray 0) := Heap.get?_push_size _ rfl
  refine wpAny_bind (wpAny_holding (sort_pairs (s := { s1 with heap := s1.heap.push (seqObj "list" (L1.map fun q => Value.ref q.1).toArray 0) }) (P := P) (w := w) L1 hoL (fun q hq => isT_keep (tup q (p1.mem_iff.mp hq)) fun b u e => Heap.get?_push_of_some _ (k1 b u e)) (by rw [sizeLine_eq]; omega) hu fun L' pL pw => ?_))
  obtain ⟨c, hc⟩ := sortedHeap_at (vs := L1.map fun q => Value.ref q.1) (out := (L'.map fun q => Value.ref q.1).toArray) hoL
  have pL2 : L'.Perm L := pL.trans p1
  refine wpAny_pure ⟨_, rfl, hQ _ s1.heap.objs.size _ c L' (fun b u e => ?_) g1 o1 hz hc (by simp) pL2 (strict_of ((pL2.map (·.2)).nodup_iff.mpr nd2) pw)⟩
  have q := k1 b u e
  have hlt := Heap.lt_size q
  show (sortedHeap (s1.heap.push (seqObj "list" (L1.map fun q => Value.ref q.1).toArray 0)) s1.heap.objs.size _ _).get? b = some u
  rw [sortedHeap_old (Nat.ne_of_lt hlt) (by rw [size_push']; exact Nat.lt_succ_of_lt hlt)]
  exact Heap.get?_push_of_some _ q
end
section
variable {X : Cx}
/-- set(xs), xs a list of at most 64 tuples of ints -/
def rSetBig (K : PySem.W.Frag) (P : Program) (w : World) : List V → Hp → VK → Prop := fun xs H Q => ∃ (l : Addr) (ks : List (Addr × List Int)), xs = [V.ref l] ∧ SqL K H l (ks.map fun p => V.ref p.1) ∧ (∀ p ∈ ks, SqT K H p.1 (p.2.map V.int)) ∧ ks.length ≤ 64 ∧
  ∀ a L, H a = none → (∀ p ∈ L, p ∈ ks) → (∀ p ∈ ks, p.2 ∈ L.map (·.2)) → Q (.ref a) (upd H a (BigO P w a L))
theorem cr_setBig (hc : X.calm = true) (hu : X.A.units + 64 < cLine) : CallR X (.type "set") (rSetBig X.K X.prog X.w) := by
  intro pins s σ H xs us Q I r h
  obtain ⟨l, ks, rfl, hl, hk, hf, q⟩ := h
  rw [Vals.ref1 r]
  obtain ⟨its, rv, pl, _⟩ := I.list hl
  have hn : H s.heap.objs.size = none := I.hok.fresh (Nat.le_refl _)
  refine call_big (P := X.prog) (w := X.w) ks (I.ok.hd hc) pl.isList (by simpa using refs_of_vals rv) (fun p hp => I.isT (hk p hp)) hf (by omega) fun h' tk L es ep t R g keep => ?_
  exact ⟨.ref s.heap.objs.size, upd H s.heap.objs.size (BigO X.prog X.w s.heap.objs.size L), I.laid (t' := tk) keep (Nat.le_refl _) (bigO_ok R.to0), rfl, q _ L hn (fun p hp => List.mem_of_mem_take (g.sub p hp)) fun p hp => g.all p (by rw [List.take_length]; exact hp)⟩
def rSortedBig (K : PySem.W.Frag) (P : Program) (w : World) : List V → Hp → VK → Prop := fun vs H Q => ∃ (a : Addr) (L : List (Addr × Int × Int)), vs = [V.ref a] ∧ H a = some (BigO P w a (L.map toL)) ∧ (∀ q ∈ L, SqT K H q.1 [.int q.2.1, .int q.2.2]) ∧
  ∀ (L' : List (Addr × Int × Int)) (p : Addr), L'.Perm L → L'.Pairwise (fun q r => lexlt q.2 r.2) → H p = none → Q (.ref p) (upd H p (.lst (L'.map fun q => V.ref q.1)))
theorem cr_sortedBig (hc : X.calm = true) (hu : X.A.units + 64 < cLine) : CallR X (.builtin "sorted") (rSortedBig X.K X.prog X.w) := by
  intro pins s σ H vs us Q I r h
  obtain ⟨a, L, rfl, ha, hk, q⟩ := h
  have R0 : Big0 X.prog X.w s.heap a (L.map toL) := (I.hok a _ ha).1
  obtain ⟨es, ep, t, R⟩ := R0.full (s := s) fun p hp => by
    obtain ⟨q, hq, rfl⟩ := List.mem_map.mp hp
    exact I.isT (k := [q.2.1, q.2.2]) (hk q hq)
  rw [Vals.ref1 r]
  refine sorted_big R (I.ok.hd hc) (by omega) fun s' p out c L' k g o hp hg hout pm pw => ?_
  have hfew : L'.length ≤ 64 := by
    rw [pm.length_eq]
    have := R.few
    rwa [List.length_map] at this
  have hlen : (L'.map fun q => V.ref q.1).length ≤ sizeLine := by
    rw [List.length_map, sizeLine_eq]
    omega
  have hn : H p = none := I.hok.fresh hp
  have hv : Vals (L'.map fun q => V.ref q.1) out.toList := by
    rw [hout]
    exact refs_vals L'
  have J : Inv X pins σ (upd H p (.lst (L'.map fun q => V.ref q.1))) { s with heap := s'.heap, gens := s'.gens, drawn := s'.drawn, toks := s'.toks } :=
    I.call (ch := []) (Un.laid k hp hn) (I.hok.laid k hp ⟨hlen, out.toList, c, hv, hg⟩) (by rw [g]; exact I.bare) (fun _ z => nomatch z)
  have e : s' = { s with heap := s'.heap, gens := s'.gens, drawn := s'.drawn, toks := s'.toks } := by
    cases s'
    cases s
    cases o
    rfl
  rw [e]
  exact ⟨.ref p, _, J, rfl, q L' p pm pw hn⟩
end
end RsS
namespace Rs
open PySem PySem.Spec PyProof.Rows L2 RsS
open Rm (lexlt)
section
variable {K : PySem.W.Frag} {env : List (Sl K)} {te : TE} {P : Program} {w : World}
/-- sorted(set(xs)), xs a list of at most 64 pairs -/
theorem edl_sortedBig {ps qs : List (Int × Int)} (h : Ed te env (.list (ps.map pT))) (hl : ps.length ≤ 64) (hq : qs.Pairwise lexlt) (hm : ∀ x, x ∈ qs ↔ x ∈ ps) : EdL (tCB (rSortedBig K P w) (tCons (tCB (rSetBig K P w) (tCons te tNil)) tNil)) env (qs.map pT) := fun H0 σ H e Q q => by
  refine h H0 σ H e _ fun v H1 e1 dv => ?_
  obtain ⟨l, vs, rfl, h1, h2⟩ := dp_list dv
  obtain ⟨ks, rfl, rfl, h3⟩ := dpa_pairs h2
  refine ⟨l, ks.map toL, rfl, by rw [List.map_map]; exact h1, fun p hp => ?_, by rw [List.length_map] at hl ⊢; exact hl, fun a L ha hs hall => ?_⟩
  · obtain ⟨r, hr, rfl⟩ := List.mem_map.mp hp
    exact h3 r hr
  have s1 : Same H1 (upd H1 a (BigO P w a L)) := same_new ha
  obtain ⟨L2, hL2⟩ : ∃ L2 : List (Addr × Int × Int), L = L2.map toL ∧ ∀ r ∈ L2, r ∈ ks := by
    have : ∀ L : List (Addr × List Int), (∀ p ∈ L, p ∈ ks.map toL) → ∃ L2 : List (Addr × Int × Int), L = L2.map toL ∧ ∀ r ∈ L2, r ∈ ks := by
      intro L
      induction L with
      | nil => exact fun _ => ⟨[], rfl, fun _ h => nomatch h⟩
      | cons p L ih =>
        intro hs
        obtain ⟨r, hr, rfl⟩ := List.mem_map.mp (hs p List.mem_cons_self)
        obtain ⟨L2, rfl, h⟩ := ih fun q hq => hs q (List.mem_cons_of_mem _ hq)
        refine ⟨r :: L2, rfl, fun z hz => ?_⟩
        rcases List.mem_cons.mp hz with y | y
        · exact y ▸ hr
        · exact h z y
    exact this L hs
  obtain ⟨rfl, hsub⟩ := hL2
  refine ⟨a, L2, rfl, upd_same, fun r hr => sqT_same s1 (h3 r (hsub r hr)), fun L' p pm pw hp => ?_⟩
  have ne : p ≠ a := fun z => by
    rw [z, upd_same] at hp
    cases hp
  have s2 : Same (upd H1 a (BigO P w a (L2.map toL))) (upd (upd H1 a (BigO P w a (L2.map toL))) p (.lst (L'.map fun q => V.ref q.1))) := same_new hp
  have eq : L'.map (·.2) = qs := by
    refine lex_one (List.pairwise_map.mpr pw) hq fun x => ?_
    rw [hm x]
    constructor
    · intro hx
      obtain ⟨r, hr, rfl⟩ := List.mem_map.mp hx
      exact List.mem_map.mpr ⟨r, hsub r (pm.mem_iff.mp hr), rfl⟩
    · intro hx
      obtain ⟨r, hr, rfl⟩ := List.mem_map.mp hx
      have hk := hall (toL r) (List.mem_map.mpr ⟨r, hr, rfl⟩)
      obtain ⟨z, hz, ez⟩ := List.mem_map.mp hk
      obtain ⟨y, hy, rfl⟩ := List.mem_map.mp hz
      have ey : [y.2.1, y.2.2] = [r.2.1, r.2.2] := ez
      injection ey with e3 e4
      injection e4 with e4 _
      exact List.mem_map.mpr ⟨y, pm.mem_iff.mpr hy, Prod.ext e3 e4⟩
  refine q p _ _ (e1.free (s1.free hp)) (e1.trans (s1.trans s2)) upd_same ?_
  rw [← eq]
  exact pairs_dpa L' fun r hr => sqT_same (s1.trans s2) (h3 r (hsub r (pm.mem_iff.mp hr)))
end
end Rs

/-! # list(reversed(xs)) of a list -/
namespace RsR
open PySem PySem.Spec PyProof.Rows RT
section
variable {prog : Program} {w : World} {A : Around} {E : Value → Shared → Prop} {s : Shared}
theorem fill_rev {R : Result → Shared → Prop} {it l S : Addr} {items : Array Value} (hh : A.handled = none) (hit : s.heap.IsRevIter it l ((items.size : Int) - 1)) (hl : s.heap.IsList l items) (hne : l ≠ it) (hSi : S ≠ it) (hSl : S ≠ l) (hn : items.size ≤ sizeLine)
    (hS : s.heap.get? S = some { cls := .type "list", data := .seq #[] })
    (hR : ∀ h' tk acc' c', (∀ b o, b ≠ S → b ≠ it → s.heap.get? b = some o → h'.get? b = some o) → h'.get? S = some { cls := .type "list", dict := none, data := .seq acc' c', slots := #[] } → ItemsOf (fun i v => items[items.size - 1 - i]? = some v) acc' items.size → R (.ok (.ret .none)) { s with heap := h', toks := tk }) :
    wpAny (model prog w) A.in1 (Builtin.«list.__init__» ⟨[.ref S, .ref it], []⟩)
      (fun fin s' => match fin with | .done f => R (.ok f) s' | .again c' => c'.quiet = true ∧ codeAny (model prog w) A c' R s') (fun e s' => R (.error e) s') s := by
  show wpAny _ _ (do let old ← Builtin.List.listItems (.ref S); Builtin.List.listUpdate (.ref S) (fun _ => #[]); letGo old.toList.reverse; Builtin.List.listExtendWith (.ref S) (.ref it) .none) _ _ s
  refine wpAny_bind ?_
  unfold Builtin.List.listItems
  refine wpAny_bind (wpAny_seqItems hS rfl (wpAny_pure ?_))
  show wpAny _ _ (updateSeq S (fun _ => #[]) >>= fun _ => letGo (#[] : Array Value).toList.reverse >>= fun _ => Builtin.List.listExtendWith (.ref S) (.ref it) .none) _ _ s
  refine wpAny_bind (wpAny_updateSeq hS rfl ?_)
  have hS2 := Heap.get?_update_self (Obj.mapSeq (fun _ => (#[] : Array Value))) hS rfl
  have oth : ∀ b o, b ≠ S → s.heap.get? b = some o → (s.heap.update S (Obj.mapSeq (fun _ => (#[] : Array Value)))).get? b = some o := fun b o hb e => (Heap.get?_update_other _ _ (Ne.symm hb)).trans e
  refine wpAny_bind (wpAny_letGo ?_)
  have hit1 : (s.heap.update S (Obj.mapSeq (fun _ => (#[] : Array Value)))).IsRevIter it l ((items.size : Int) - 1) := hit.at fun o e => oth _ o (Ne.symm hSi) e
  have hl1 : (s.heap.update S (Obj.mapSeq (fun _ => (#[] : Array Value)))).IsList l items := by
    obtain ⟨o, e, r⟩ := hl
    exact ⟨o, oth _ o (Ne.symm hSl) e, r⟩
  generalize s.heap.update S (Obj.mapSeq (fun _ => (#[] : Array Value))) = g at hS2 oth hit1 hl1
  have hT : ({ s with heap := g } : Shared).TypeIs (.ref it) "list_reverseiterator" := Heap.IsRevIter.typeIs (s := { s with heap := g }) hit1
  have h1 : Builtin.List.listSameRef (.ref S) (.ref it) = false := by simp [Builtin.List.listSameRef, hSi]
  unfold Builtin.List.listExtendWith
  refine wpAny_bind (wpAny_typeOf (s := { s with heap := g }) hT ?_)
  rw [if_neg (by rw [h1]; decide)]
  refine wpAny_bind (wpAny_pyIter_revIter (s := { s with heap := g }) hit1 ?_)
  refine wpAny_bind (wpAny_holding ?_)
  unfold Builtin.List.listLengthHint
  refine wpAny_bind (wpAny_specialOf hT nolen_lri ?_)
  show wpAny _ A.in1 (specialOf (Value.ref it) (Str.ofString "__length_hint__") >>= _) _ _ _
  refine wpAny_bind (wpAny_specialOf hT hint_lri ?_)
  generalize hid : ("list_reverseiterator.__length_hint__" : String) = id0
  wp_delta
  rw [show splitId id0 = some ("list_reverseiterator", "__length_hint__") from by subst hid; decide +kernel]
  subst hid
  refine wpAny_bind (wpAny_isInstance (b := true) hT (by rw [isSubtype_type]; kernel_rfl) ?_)
  refine wpAny_pure ?_
  rw [if_neg (by decide)]
  have e0 : ((items.size : Nat) : Int) - 1 - ((0 : Nat) : Int) = (items.size : Int) - 1 := by omega
  have W := (Walks.listRev (prog := prog) (w := w) (A := A.in1) hh it l hne items).toS
  have hSf : S ∉ [it, l] := by
    simp only [List.mem_cons, List.not_mem_nil, or_false, not_or]
    exact ⟨hSi, hSl⟩
  refine wpAny_pure ⟨plainId_quiet F.plain_extend_loop _, codeAny_extend_loopS W hn _ hSf _ items.size 0 _ _ _ rfl (Nat.zero_le _) ⟨Nat.zero_le _, by rw [e0]; exact hit1, hl1⟩ hS2 (ItemsOf.nil _) fun s' acc' c' hm hS' hacc => ?_⟩
  rw [Moved.eq_with hm]
  refine hR s'.heap s'.toks acc' c' (fun b o hb hb2 e => hm.heap b o (fun hmem => ?_) (oth b o hb e)) hS' hacc
  rcases List.mem_cons.mp hmem with e' | hmem
  · exact hb e'
  · exact hb2 (List.mem_singleton.mp hmem)
theorem call_list_rev {Q : Value → Shared → Prop} {it l : Addr} {items : Array Value} (hh : A.handled = none) (hit : s.heap.IsRevIter it l ((items.size : Int) - 1)) (hl : s.heap.IsList l items) (hne : l ≠ it) (hn : items.size ≤ sizeLine)
    (hQ : ∀ h' tk acc' c', (∀ b o, b ≠ it → s.heap.get? b = some o → h'.get? b = some o) → h'.get? s.heap.objs.size = some { cls := .type "list", dict := none, data := .seq acc' c', slots := #[] } → ItemsOf (fun i v => items[items.size - 1 - i]? = some v) acc' items.size → Q (.ref s.heap.objs.size) { s with heap := h', toks := tk }) :
    wpAny (model prog w) A (call (.type "list") [.ref it]) Q E s := by
  refine callType_codes (Q₁ := fun obj s₁ => obj = .ref s.heap.objs.size ∧ s₁ = { s with heap := s.heap.push { cls := .type "list", data := .seq #[] } }) PySem.F.called_list (PySem.F.typeCall_list_1 _) PySem.F.entry_list_init
    (code_list_new _ ⟨rfl, rfl⟩) fun obj s₁ h₁ => ?_
  obtain ⟨rfl, rfl⟩ := h₁
  have hS : (s.heap.push { cls := .type "list", data := .seq #[] }).get? s.heap.objs.size = some { cls := .type "list", data := .seq #[] } := Heap.get?_push_size _ rfl
  obtain ⟨oi, hoi, _⟩ := id hit
  obtain ⟨ol, hol, _⟩ := id hl
  refine ⟨⟨_, hS, rfl⟩, PySem.F.args_list_init_2 _ _, fill_rev (s := { s with heap := s.heap.push { cls := .type "list", data := .seq #[] } }) (A := A.in1) hh (hit.at fun o e => Heap.get?_push_of_some _ e) (hl.push _) hne (Nat.ne_of_gt (Heap.lt_size hoi)) (Nat.ne_of_gt (Heap.lt_size hol)) hn hS (fun h' tk acc' c' hk hS' hacc => ?_)⟩
  exact ⟨rfl, hQ h' tk acc' c' (fun b o hb e => hk b o (Nat.ne_of_lt (Heap.lt_size e)) hb (Heap.get?_push_of_some _ e)) hS' hacc⟩
end
end RsR
namespace L2
open PySem PySem.Spec PyProof.Rows
/-- list(reversed(x)), x a list -/
def tLstRev (K : PySem.W.Frag) (te : TE) : TE := fun σ H Q => te σ H fun v H1 => ∃ (a : Addr) (xs : List V), v = .ref a ∧ SqL K H1 a xs ∧ ∀ q, H1 q = none → Q (.ref q) (upd H1 q (.lst xs.reverse))
section
variable {X : Cx}
theorem pe_lstRev {e : Expr} {te : TE} {p p2 pos pos2 : Pos} (hc : X.calm = true) (hg : Gl X "list") (hm : X.mg "list" = none) (hg2 : Gl X "reversed") (hm2 : X.mg "reversed" = none) (he : PE X e te)
    (hs : starEach [e] X.env = (false, eval e X.env) :: starEach [] X.env := by rfl)
    (hs2 : starEach [.Call (.Name "reversed" p2) [e] [] pos2] X.env = (false, eval (.Call (.Name "reversed" p2) [e] [] pos2) X.env) :: starEach [] X.env := by rfl) :
    PE X (.Call (.Name "list" p) [.Call (.Name "reversed" p2) [e] [] pos2] [] pos) (tLstRev X.K te) := by
  refine ⟨fun pins s σ H Q I h => ?_⟩
  refine Call_ (ld_blt I hg hm boot_list (PyProof.Rows.callWith_type1 (args_cons (Call_ (ld_blt I hg2 hm2 PyProof.Rows.boot_reversed (PyProof.Rows.callWith_type1 (args_cons (thn (he.run pins s σ H _ I h) fun u s1 ⟨v, H1, I1, r1, q1⟩ => args_nil ?_) hs) hs rfl))) hs2) hs2 rfl))
  obtain ⟨a, xs, ev, hq, q⟩ := q1
  subst ev
  obtain rfl : u = Value.ref a := r1
  obtain ⟨its, rv, p', hz⟩ := I1.list hq
  refine call_reversed_list p'.isList (args_nil ?_)
  have I2 : Inv X pins σ H1 { s1 with heap := s1.heap.push (revObj a ((its.toArray.size : Int) - 1)) } := I1.kept (t' := s1.toks) fun b o e => Heap.get?_push_of_some _ e
  obtain ⟨f0, f1, f2, f3, f4, f5⟩ := I1.fpOk (H' := H1) (b := s1.heap.objs.size) (Nat.le_refl _) (I1.hok.fresh (Nat.le_refl _))
  have hl := p'.isList
  obtain ⟨ol, hol, _⟩ := id hl
  have hne : a ≠ s1.heap.objs.size := Nat.ne_of_lt (Heap.lt_size hol)
  have hn : its.toArray.size ≤ sizeLine := by
    rw [List.size_toArray, ← rv.length]
    exact hz
  have hsz : (s1.heap.push (revObj a ((its.toArray.size : Int) - 1))).objs.size = s1.heap.objs.size + 1 := Heap.size_push _ _
  refine RsR.call_list_rev (s := { s1 with heap := s1.heap.push (revObj a ((its.toArray.size : Int) - 1)) }) (I1.ok.hd hc) ⟨_, Heap.get?_push_size _ rfl, rfl, rfl⟩ (hl.push _) hne hn fun h' tk acc c hk hS hi => ?_
  have hle : s1.heap.objs.size ≤ (s1.heap.push (revObj a ((its.toArray.size : Int) - 1))).objs.size := by
    rw [hsz]
    exact Nat.le_succ _
  refine ⟨.ref _, upd H1 _ (.lst xs.reverse), I1.laid (t' := tk) (a := (s1.heap.push (revObj a ((its.toArray.size : Int) - 1))).objs.size) (fun b o e => hk b o (Nat.ne_of_lt (Heap.lt_size e)) (Heap.get?_push_of_some _ e)) hle ⟨by rw [List.length_reverse]; exact hz, acc.toList, c, RT.vals_rev rv hi, ?_⟩, rfl, q _ (I1.hok.fresh hle)⟩
  rw [Array.toArray_toList]
  exact hS
end
end L2

/-! # defs by their promises upon data; further rules -/
namespace Rs
open PySem PySem.Spec PyProof.Rows L2 RsS
theorem cx_K {CX : CXT} {P : Program} {w : World} {K : PySem.W.Frag} {mg : Str → Option Value} {base : Heap} {N : List Str} {qual : Str} {sc : Scope} {f : Addr} {cd : Value} {A : Around} {outer : List Env} {s : Shared} {H : Hp} {E : XK} : (cxOf CX P w K mg base N qual sc f cd A outer s H E).nox.K = K := rfl
theorem cx_P {CX : CXT} {P : Program} {w : World} {K : PySem.W.Frag} {mg : Str → Option Value} {base : Heap} {N : List Str} {qual : Str} {sc : Scope} {f : Addr} {cd : Value} {A : Around} {outer : List Env} {s : Shared} {H : Hp} {E : XK} : (cxOf CX P w K mg base N qual sc f cd A outer s H E).nox.prog = P := rfl
theorem cx_w {CX : CXT} {P : Program} {w : World} {K : PySem.W.Frag} {mg : Str → Option Value} {base : Heap} {N : List Str} {qual : Str} {sc : Scope} {f : Addr} {cd : Value} {A : Around} {outer : List Env} {s : Shared} {H : Hp} {E : XK} : (cxOf CX P w K mg base N qual sc f cd A outer s H E).nox.w = w := rfl
theorem cx_K' {CX : CXT} {P : Program} {w : World} {K : PySem.W.Frag} {mg : Str → Option Value} {base : Heap} {N : List Str} {qual : Str} {sc : Scope} {f : Addr} {cd : Value} {A : Around} {outer : List Env} {s : Shared} {H : Hp} {E : XK} : (cxOf CX P w K mg base N qual sc f cd A outer s H E).K = K := rfl
theorem cx_P' {CX : CXT} {P : Program} {w : World} {K : PySem.W.Frag} {mg : Str → Option Value} {base : Heap} {N : List Str} {qual : Str} {sc : Scope} {f : Addr} {cd : Value} {A : Around} {outer : List Env} {s : Shared} {H : Hp} {E : XK} : (cxOf CX P w K mg base N qual sc f cd A outer s H E).prog = P := rfl
theorem cx_w' {CX : CXT} {P : Program} {w : World} {K : PySem.W.Frag} {mg : Str → Option Value} {base : Heap} {N : List Str} {qual : Str} {sc : Scope} {f : Addr} {cd : Value} {A : Around} {outer : List Env} {s : Shared} {H : Hp} {E : XK} : (cxOf CX P w K mg base N qual sc f cd A outer s H E).w = w := rfl
theorem blk_K {X : Cx} {s : Shared} {H : Hp} {sc : Scope} {env : Env} {fp : List Addr} : (X.blk s H sc env fp).K = X.K := rfl
section
variable {X : Cx} {K : PySem.W.Frag}
theorem call_lenK (h : X.K = K) : CallR X (.builtin "len") (Rs.rLen K) := by subst h; exact call_len
theorem call_listK (h : X.K = K) : CallR X (.type "list") (rListOf K) := by subst h; exact call_list_of
theorem ixLK (h : X.K = K) : IxR X (rIxL K) := by subst h; exact ix_list
theorem ixTK (h : X.K = K) : IxR X (rIxT K) := by subst h; exact ix_tup
theorem slLK (h : X.K = K) : SlR X (rSlL K) := by subst h; exact sl_list
theorem slTK (h : X.K = K) : SlR X (rSlT K) := by subst h; exact sl_tup
theorem eqDK (h : X.K = K) (hu : X.A.units + 64 < cLine) : OpR X (compareOp .Eq) (rEqD K) := by subst h; exact op_eqD hu
theorem neDK (h : X.K = K) (hu : X.A.units + 64 < cLine) : OpR X (compareOp .NotEq) (rNeD K) := by subst h; exact op_neD hu
theorem inDK (h : X.K = K) (hu : X.A.units + 65 < cLine) : OpR X (compareOp .In) (rInD K) := by subst h; exact op_inD hu
theorem notInDK (h : X.K = K) (hu : X.A.units + 65 < cLine) : OpR X (compareOp .NotIn) (rNotInD K) := by subst h; exact op_notInD hu
theorem isiK (h : X.K = K) : CallR X (.builtin "isinstance") (rIsi K) := by subst h; exact call_isi
theorem maxK (h : X.K = K) (hc : X.calm = true) : CallR X (.builtin "max") (rMax K) := by subst h; exact cr_max hc
theorem minK (h : X.K = K) (hc : X.calm = true) : CallR X (.builtin "min") (rMin K) := by subst h; exact cr_min hc
theorem allK (h : X.K = K) (hc : X.calm = true) : CallR X (.builtin "all") (rAll K) := by subst h; exact cr_all hc
theorem leTK (h : X.K = K) (hu : X.A.units < cLine) : OpR X (compareOp .LtE) (rLeT K) := by subst h; exact op_leT hu
end
theorem hu65 {k : Nat} {A : Around} (hr : Room k A) : A.units + 65 < cLine := by have := hr.un; omega
section
variable {P : Program} {w : World} {K : PySem.W.Frag} {mg : Str → Option Value} {base : Heap}
/-- a def of the module keeps a promise -/
structure Has (P : Program) (w : World) (K : PySem.W.Frag) (mg : Str → Option Value) (base : Heap) (CX : CXT) (x : Str) (k : Nat) (ps : List Str) (sp : Sp) : Prop where
  ex : ∃ (f : Addr) (fd : FuncData), mg x = some (.ref f) ∧ PySem.W.keepIn K (.ref f) = true ∧ Binds K fd ps [] ∧ FnOk P w K mg base CX k f fd ps sp
theorem has_of {CX : CXT} {x : Str} {k : Nat} {ps : List Str} {sp : Sp} {f : Addr} {fd : FuncData} (hm : mg x = some (.ref f)) (hk : PySem.W.keepIn K (.ref f) = true) (hb : Binds K fd ps []) (F : FnOk P w K mg base CX k f fd ps sp) : Has P w K mg base CX x k ps sp := ⟨⟨f, fd, hm, hk, hb, F⟩⟩
end
section
variable {X : Cx} {x : Str} {k : Nat} {ps : List Str} {sp : Sp} {e : Expr} {es : List Expr} {t : TA} {p pos : Pos}
theorem pe_callH (h : Has X.prog X.w X.K X.mg X.base CX0 x k ps sp) (hr : Room k X.A) (hg : Gl X x) (ha : PA X (e :: es) t) (hdb : (x == ("__debug__" : Str)) = false := by decide)
    (he : starEach (e :: es) X.env = (false, eval e X.env) :: starEach es X.env := by rfl) (hpl : (backTo pos (starEach es X.env)).any (·.1) = false := by rfl) : PE X (.Call (.Name x p) (e :: es) [] pos) (tCall sp [] E0 t) := by
  obtain ⟨f, fd, hm, hk, hb, F⟩ := h.ex
  exact pe_call F hr hg hm hk hb .nil pass0 ha hdb he hpl
end
section
variable {P : Program} {w : World} {K : PySem.W.Frag} {mg : Str → Option Value} {base : Heap} {x qual : Str} {st : Stmt} {f : Addr} {fd : FuncData} {N ps : List Str} {k : Nat}
theorem okD {R : List PyData → PyData → Prop} (F : Fun K x qual st f fd) (S : FnScope N ps (defScope st)) (hl : ∀ ds d, R ds d → ds.length = ps.length)
    (hb : ∀ (cdv : Value) (A : Around) (outer : List Env) (s : Shared) (H : Hp) (E : XK) (ds : List PyData) (d : PyData), Room k (A.deeper (envOfC qual (defScope st) s.heap.objs.size f cdv)) → R ds d →
      ∃ t, PSs (cxOf CX0 P w K mg base N qual (defScope st) f cdv A outer s H E).nox (defBody st) t ∧
        ∀ Q : VK, (∀ v H', Same H H' → Dp K H' v d → Q v H') → Sk K H (ds.map par ++ List.replicate (N.length - ds.length) un) (t { nx := fun _ H' => Q .non H', rt := Q })) : FnOk P w K mg base CX0 (k + 1) f fd ps (spD K R) := by
  refine F.ok S (fun vs H Q E h => ?_) (fun cdv A outer s H vs Q E hr h => ?_)
  · obtain ⟨ds, d, hR, hds, _⟩ := h
    rw [dpa_len hds, hl ds d hR]
  · obtain ⟨ds, d, hR, hds, q⟩ := h
    obtain ⟨t, h1, h2⟩ := hb cdv A outer s H E ds d hr hR
    exact ⟨t, h1, h2 Q q H _ H (Same.refl H) (en_start hds)⟩
theorem okL {R : List PyData → List PyData → Prop} (F : Fun K x qual st f fd) (S : FnScope N ps (defScope st)) (hl : ∀ ds d, R ds d → ds.length = ps.length)
    (hb : ∀ (cdv : Value) (A : Around) (outer : List Env) (s : Shared) (H : Hp) (E : XK) (ds out : List PyData), Room k (A.deeper (envOfC qual (defScope st) s.heap.objs.size f cdv)) → R ds out →
      ∃ t, PSs (cxOf CX0 P w K mg base N qual (defScope st) f cdv A outer s H E).nox (defBody st) t ∧
        ∀ Q : VK, (∀ p us H', H p = none → Same H H' → H' p = some (.lst us) → DpAll K H' us out → Q (.ref p) H') → Sk K H (ds.map par ++ List.replicate (N.length - ds.length) un) (t { nx := fun _ H' => Q .non H', rt := Q })) : FnOk P w K mg base CX0 (k + 1) f fd ps (spL K R) := by
  refine F.ok S (fun vs H Q E h => ?_) (fun cdv A outer s H vs Q E hr h => ?_)
  · obtain ⟨ds, d, hR, hds, _⟩ := h
    rw [dpa_len hds, hl ds d hR]
  · obtain ⟨ds, d, hR, hds, q⟩ := h
    obtain ⟨t, h1, h2⟩ := hb cdv A outer s H E ds d hr hR
    exact ⟨t, h1, h2 Q q H _ H (Same.refl H) (en_start hds)⟩
end
section
variable {K : PySem.W.Frag} {env : List (Sl K)} {ta tb te tc : TE} {x y z d : PyData} {ds es : List PyData} {i j : Int} {b : Bool} {He : Hp} {D : Ends}
/-- behind a return: the base of a loop's turn grew -/
theorem ret_up {He He' : Hp} {Q : VK} {d : PyData} (b : Same He He') (q : ∀ v H', Same He H' → Dp K H' v d → Q v H') : ∀ v H', Same He' H' → Dp K H' v d → Q v H' := fun v H' e h => q v H' (b.trans e) h
theorem sk_retE (q : ∀ v H, Same He H → Dp K H v z → D.rt v H) (h : Ed te env d) (e : d = z) : Sk K He env (tRet te D) := sk_ret (ed_is h e) q
theorem sk_retLE {zs : List PyData} (q : ∀ p vs H, He p = none → Same He H → H p = some (.lst vs) → DpAll K H vs zs → D.rt (.ref p) H) (h : EdL te env ds) (e : ds = zs) : Sk K He env (tRet te D) := sk_retL (edl_is h e) q
/-! in, not in -/
theorem ed_inD (ha : Ed ta env x) (hb : Ed tb env (.list ds)) (sx : SeqAt.shaped x = true) (sy : SeqAt.shaped (.list ds) = true) : Ed (tOp (rInD K) ta tb) env (.bool (ds.any fun z => PyData.eqv z x)) := ed_op ha hb fun v w H hv hw Q q =>
  ⟨x, ds, hv, hw, sx, sy, q _ H (Same.refl H) (.bl _)⟩
theorem ed_notInD (ha : Ed ta env x) (hb : Ed tb env (.list ds)) (sx : SeqAt.shaped x = true) (sy : SeqAt.shaped (.list ds) = true) : Ed (tOp (rNotInD K) ta tb) env (.bool (!ds.any fun z => PyData.eqv z x)) := ed_op ha hb fun v w H hv hw Q q =>
  ⟨x, ds, hv, hw, sx, sy, q _ H (Same.refl H) (.bl _)⟩
/-! list(reversed(xs)) -/
theorem edl_rev (h : Ed te env (.list ds)) : EdL (tLstRev K te) env ds.reverse := fun H0 σ H e Q q => h H0 σ H e _ fun v H2 e2 dv => by
  obtain ⟨a, xs, rfl, h1, h2⟩ := dp_list dv
  exact ⟨a, xs, rfl, h1, fun l hl => q l _ _ (e2.free hl) (e2.trans (same_new hl)) upd_same (dpa_mono (same_new hl) _ (dpa_reverse h2))⟩
/-! isinstance -/
def tyD : PyData → String
  | .none => "NoneType"
  | .bool _ => "bool"
  | .int _ => "int"
  | .str _ => "str"
  | .list _ => "list"
  | .tuple _ => "tuple"
  | .dict _ => "dict"
theorem tyx_of {H : Hp} : ∀ {d : PyData} {v : V}, Dp K H v d → TyX K H v (.type (tyD d))
  | .none, _, h => by cases h; exact .base .non
  | .bool b, _, h => by cases h; exact .base (.bl b)
  | .int i, _, h => by cases h; exact .base (.int i)
  | .str s, _, h => by cases h; exact .base (.str s)
  | .list ds, _, h => by
    obtain ⟨a, xs, rfl, h1, h2⟩ := dp_list h
    rcases h1 with (h1 | ⟨o, h1⟩) | ⟨o, it, n, h1, h3, _⟩
    · exact .base (.lst h1)
    · exact .base (.frz h1)
    · exact .kList h1 h3
  | .tuple ds, _, h => by
    obtain ⟨a, xs, rfl, h1, h2⟩ := dp_tup h
    rcases h1 with (h1 | ⟨o, h1⟩) | ⟨o, it, n, h1, h3, _⟩
    · exact .base (.tup h1)
    · exact .fTuple h1
    · exact .kTuple h1 h3
  | .dict _, _, h => by cases h
theorem ed_isi {n : String} (h : Ed ta env d) (hk : kitB (tyD d) n = some b) : Ed (tCB (rIsi K) (tCons ta (tCons (tC (.ty n)) tNil))) env (.bool b) := fun H0 σ H e Q q =>
  h H0 σ H e _ fun v H2 e2 dv => ⟨v, .ty n, _, _, b, rfl, .ty n, tyx_of dv, kit_ty hk, q _ H2 e2 (.bl b)⟩
/-! is of truth values -/
theorem ed_isB {a c : Bool} (ha : Ed ta env (.bool a)) (hb : Ed tb env (.bool c)) : Ed (tOp rIsB ta tb) env (.bool (decide (a = c))) := ed_op ha hb fun v w H hv hw Q q => by
  cases dp_bool hv
  cases dp_bool hw
  exact ⟨a, c, rfl, rfl, q _ H (Same.refl H) (.bl _)⟩
/-! is None -/
abbrev rIsN' : R2 := fun x y H Q => y = .non ∧ Q (.bl (decide (x = .non))) H
abbrev rNotN' : R2 := fun x y H Q => y = .non ∧ Q (.bl (!decide (x = .non))) H
def isNone : PyData → Bool
  | .none => true
  | _ => false
theorem non_of {H : Hp} : ∀ {d : PyData} {v : V}, Dp K H v d → decide (v = .non) = isNone d
  | .none, _, h => by cases h; rfl
  | .bool b, _, h => by cases h; rfl
  | .int i, _, h => by cases h; rfl
  | .str s, _, h => by cases h; rfl
  | .list ds, _, h => by
    obtain ⟨a, xs, rfl, h1, h2⟩ := dp_list h
    rfl
  | .tuple ds, _, h => by
    obtain ⟨a, xs, rfl, h1, h2⟩ := dp_tup h
    rfl
  | .dict _, _, h => by cases h
theorem ed_isN (ha : Ed ta env d) : Ed (tOp rIsN' ta (tC .non)) env (.bool (isNone d)) := ed_op ha ed_non fun v w H hv hw Q q => by
  refine ⟨dp_none hw, ?_⟩
  rw [non_of hv]
  exact q _ H (Same.refl H) (.bl _)
theorem ed_notN (ha : Ed ta env d) : Ed (tOp rNotN' ta (tC .non)) env (.bool (!isNone d)) := ed_op ha ed_non fun v w H hv hw Q q => by
  refine ⟨dp_none hw, ?_⟩
  rw [non_of hv]
  exact q _ H (Same.refl H) (.bl _)
/-! max, min, all of lists -/
theorem dpa_ints {H : Hp} : ∀ {ns : List Int} {vs : List V}, DpAll K H vs (ns.map .int) → vs = ns.map V.int
  | [], _, h => by cases h; rfl
  | n :: ns, _, h => by
    cases h with
    | cons h1 h2 => rw [dp_int h1, dpa_ints h2] <;> rfl
theorem dpa_bools {H : Hp} : ∀ {bs : List Bool} {vs : List V}, DpAll K H vs (bs.map .bool) → vs = bs.map V.bl
  | [], _, h => by cases h; rfl
  | n :: ns, _, h => by
    cases h with
    | cons h1 h2 => rw [dp_bool h1, dpa_bools h2] <;> rfl
theorem ed_max {ns : List Int} {m : Int} (h : Ed te env (.list (ns.map .int))) (hm : m ∈ ns) (hle : ∀ y ∈ ns, y ≤ m) : Ed (tCB (rMax K) (tCons te tNil)) env (.int m) := ed_cb (eda_cons h eda_nil) fun vs H hv Q q => by
  obtain ⟨v, rfl, hd⟩ := dpa_one hv
  obtain ⟨a, xs, rfl, h1, h2⟩ := dp_list hd
  have e := dpa_ints h2
  subst e
  refine ⟨a, ns, rfl, h1, List.length_pos_of_mem hm, fun m' hm' hle' => ?_⟩
  have : m' = m := Int.le_antisymm (hle m' hm') (hle' m hm)
  subst this
  exact q _ H (Same.refl H) (.int _)
theorem ed_min {ns : List Int} {m : Int} (h : Ed te env (.list (ns.map .int))) (hm : m ∈ ns) (hle : ∀ y ∈ ns, m ≤ y) : Ed (tCB (rMin K) (tCons te tNil)) env (.int m) := ed_cb (eda_cons h eda_nil) fun vs H hv Q q => by
  obtain ⟨v, rfl, hd⟩ := dpa_one hv
  obtain ⟨a, xs, rfl, h1, h2⟩ := dp_list hd
  have e := dpa_ints h2
  subst e
  refine ⟨a, ns, rfl, h1, List.length_pos_of_mem hm, fun m' hm' hle' => ?_⟩
  have : m' = m := Int.le_antisymm (hle' m hm) (hle m' hm')
  subst this
  exact q _ H (Same.refl H) (.int _)
theorem ed_all {bs : List Bool} (h : Ed te env (.list (bs.map .bool))) : Ed (tCB (rAll K) (tCons te tNil)) env (.bool (bs.all id)) := ed_cb (eda_cons h eda_nil) fun vs H hv Q q => by
  obtain ⟨v, rfl, hd⟩ := dpa_one hv
  obtain ⟨a, xs, rfl, h1, h2⟩ := dp_list hd
  have e := dpa_bools h2
  subst e
  exact ⟨a, bs, rfl, h1, q _ H (Same.refl H) (.bl _)⟩
/-! tuples <= tuples (pairs) -/
theorem leT2 (a b c d : Int) : Ob.lexAt (fun j => decide (([a, b] : List Int).getD j 0 = ([c, d] : List Int).getD j 0)) (fun j => decide (([a, b] : List Int).getD j 0 ≤ ([c, d] : List Int).getD j 0)) (decide (([a, b] : List Int).length ≤ ([c, d] : List Int).length)) 0 (min ([a, b] : List Int).length ([c, d] : List Int).length) = decide (a < c ∨ a = c ∧ b ≤ d) := by
  show (if decide (a = c) = true then (if decide (b = d) = true then _ else decide (b ≤ d)) else decide (a ≤ c)) = _
  by_cases h1 : a = c
  · by_cases h2 : b = d
    · simp [h1, h2, Ob.lexAt_zero]
    · simp [h1, h2]
  · rw [if_neg (by simpa using h1)]
    by_cases h3 : a ≤ c
    · rw [decide_eq_true h3, decide_eq_true (.inl (by omega))]
    · rw [decide_eq_false h3, decide_eq_false (by omega)]
theorem rv_leT {a b c d : Int} : RV K (rLeT K) (pT (a, b)) (pT (c, d)) (.bool (decide (a < c ∨ a = c ∧ b ≤ d))) := fun v w H hv hw Q q => by
  obtain ⟨t, xs, rfl, h1, h2⟩ := dp_tup hv
  obtain ⟨v1, v2, rfl, g1, g2⟩ := dpa_two h2
  obtain ⟨u, ys, rfl, h3, h4⟩ := dp_tup hw
  obtain ⟨v3, v4, rfl, g3, g4⟩ := dpa_two h4
  cases dp_int g1
  cases dp_int g2
  cases dp_int g3
  cases dp_int g4
  refine ⟨t, u, [a, b], [c, d], rfl, rfl, h1, h3, ?_⟩
  rw [leT2]
  exact q _ H (Same.refl H) (.bl _)
/-! methods of own lists -/
theorem sk_reverse {k : Nat} {l : Addr} (hk : env[k]? = some (own l ds)) (q : Sk K He (env.set k (own l ds.reverse)) D.nx) : Sk K He env (tDrop (tBM0 K "list" rReverse (tVar k)) D) := fun H0 σ H b e => by
  obtain ⟨o, h1, h2, fl1, vs, h3, h4⟩ := e.get hk
  subst h2
  have st : SameT H (upd H l (.lst vs.reverse)) := SameT.upd h3 trivial
  refine ⟨_, h1, .inl ⟨rfl, vs, SqL.of h3⟩, l, vs, rfl, rfl, h3, ?_⟩
  refine q H0 σ _ b (e.upd (s' := own l ds.reverse) hk rfl rfl fun o ho => ?_)
  rw [h1] at ho
  cases ho
  exact ⟨rfl, by rw [List.all_reverse]; exact fl1, _, upd_same, dpa_reverse (dpa_flat st fl1 h4)⟩
theorem sk_clear {k : Nat} {l : Addr} (hk : env[k]? = some (own l ds)) (q : Sk K He (env.set k (own l [])) D.nx) : Sk K He env (tDrop (tBM0 K "list" rClear (tVar k)) D) := fun H0 σ H b e => by
  obtain ⟨o, h1, h2, fl1, vs, h3, h4⟩ := e.get hk
  subst h2
  refine ⟨_, h1, .inl ⟨rfl, vs, SqL.of h3⟩, l, vs, rfl, rfl, h3, ?_⟩
  refine q H0 σ _ b (e.upd (s' := own l []) hk rfl rfl fun o ho => ?_)
  rw [h1] at ho
  cases ho
  exact ⟨rfl, rfl, _, upd_same, .nil⟩
abbrev rInsert : V → List V → Hp → VK → Prop := fun x vs H Q => ∃ (l : Addr) (xs : List V) (i : Int) (y : V), x = .ref l ∧ vs = [.int i, y] ∧ H l = some (.lst xs) ∧ xs.length < sizeLine ∧ 0 ≤ i ∧ i < 2 ^ 63 ∧ Q .non (upd H l (.lst (xs.take i.toNat ++ [y] ++ xs.drop i.toNat)))
/-- l.insert(i, e) -/
theorem sk_insert {k : Nat} {l : Addr} (hk : env[k]? = some (own l ds)) (hi : Ed ta env (.int i)) (hv : Ed tb env d) (f : flat d = true) (hb1 : 0 ≤ i ∧ i < 2 ^ 62) (hz : ds.length < 100000) (q : Sk K He (env.set k (own l (ds.take i.toNat ++ [d] ++ ds.drop i.toNat))) D.nx) : Sk K He env (tDrop (tBM K "list" rInsert (tVar k) (tCons ta (tCons tb tNil))) D) := fun H0 σ H b e => by
  obtain ⟨o, h1, h2, fl1, vs, h3, h4⟩ := e.get hk
  subst h2
  refine ⟨_, h1, .inl ⟨rfl, vs, SqL.of h3⟩, hi H0 σ H e _ fun w H2 e2 dw => hv H0 σ H2 (e.same e2) _ fun v H3 e3 dv => ?_⟩
  have h3' := e3 _ _ (e2 _ _ h3)
  have st : SameT H3 (upd H3 l (.lst (vs.take i.toNat ++ [v] ++ vs.drop i.toNat))) := SameT.upd h3' trivial
  refine ⟨l, vs, i, v, rfl, by rw [dp_int dw], h3', by rw [dpa_len h4]; exact Nat.lt_of_lt_of_le hz (by decide), hb1.1, by omega, ?_⟩
  refine q H0 σ _ b (((e.same e2).same e3).upd (s' := own l (ds.take i.toNat ++ [d] ++ ds.drop i.toNat)) hk rfl rfl fun o ho => ?_)
  rw [h1] at ho
  cases ho
  have g := dpa_flat st fl1 (dpa_mono (e2.trans e3) _ h4)
  refine ⟨rfl, ?_, _, upd_same, dpa_append (dpa_append (dpa_take _ g) (.cons (dp_flat st f dv) .nil)) (dpa_drop _ g)⟩
  rw [List.all_eq_true] at fl1 ⊢
  intro x hx
  rcases List.mem_append.mp hx with hx | hx
  · rcases List.mem_append.mp hx with hx | hx
    · exact fl1 x (List.mem_of_mem_take hx)
    · rw [List.mem_singleton.mp hx]
      exact f
  · exact fl1 x (List.mem_of_mem_drop hx)
/-- l.pop(i), dropped -/
theorem sk_popAt {k : Nat} {l : Addr} {n : Nat} (hk : env[k]? = some (own l ds)) (hi : Ed tb env (.int i)) (hb1 : 0 ≤ i ∧ i < 2 ^ 62) (hn : i.toNat = n) (hlt : n < ds.length) (q : Sk K He (env.set k (own l (ds.eraseIdx n))) D.nx) : Sk K He env (tDrop (tBM K "list" rPopAt (tVar k) (tCons tb tNil)) D) := fun H0 σ H b e => by
  obtain ⟨o, h1, h2, fl1, vs, h3, h4⟩ := e.get hk
  subst h2
  refine ⟨_, h1, .inl ⟨rfl, vs, SqL.of h3⟩, hi H0 σ H e _ fun w H2 e2 dw => ?_⟩
  have h3' := e2 _ _ h3
  have hl := dpa_len h4
  have st : SameT H2 (upd H2 l (.lst (vs.eraseIdx n))) := SameT.upd h3' trivial
  refine ⟨l, vs, i, n, vs[n]'(by omega), rfl, by rw [dp_int dw], h3', by omega, by omega, ?_, List.getElem?_eq_getElem (by omega), ?_⟩
  · rw [seqIndex_of hb1.1 (by omega), hn]
  · refine q H0 σ _ b ((e.same e2).upd (s' := own l (ds.eraseIdx n)) hk rfl rfl fun o ho => ?_)
    rw [h1] at ho
    cases ho
    refine ⟨rfl, ?_, _, upd_same, dpa_eraseIdx n (dpa_flat st fl1 (dpa_mono e2 _ h4))⟩
    rw [List.all_eq_true] at fl1 ⊢
    exact fun x hx => fl1 x (List.eraseIdx_subset hx)
end
/-! ## the same, something behind -/
section
variable {K : PySem.W.Frag} {He : Hp} {env : List (Sl K)} {te ta tb : TE} {tt : TT} {t u tz : TS} {D : Ends} {d x y : PyData} {ds : List PyData} {b : Bool}
theorem q_asg {k : Nat} (h : Ed te env d) (f : flat d = true) (q : Sk K He (env.set k (fl d)) (tz D)) : Sk K He env (tSeq (tAsg te (gName k)) tz D) := sk_asg (D := { D with nx := tz D }) h f q
theorem q_asgL {k : Nat} (h : EdL te env ds) (f : ds.all flat = true) (q : ∀ l, Sk K He (env.set k (own l ds)) (tz D)) : Sk K He env (tSeq (tAsg te (gName k)) tz D) := sk_asgL (D := { D with nx := tz D }) h f q
theorem q_asgP {k : Nat} (h : EdL te env ds) (f : ds.all flat = true) (q : Sk K He (env.set k (par (.list ds))) (tz D)) : Sk K He env (tSeq (tAsg te (gName k)) tz D) := sk_asgP (D := { D with nx := tz D }) h f q
theorem q_if (h : EdT tt env b) (h1 : b = true → Sk K He env (t { D with nx := tz D })) (h2 : b = false → Sk K He env (tz D)) : Sk K He env (tSeq (tIfS tt t tNext) tz D) := sk_if (D := { D with nx := tz D }) h h1 h2
theorem q_ifE (h : EdT tt env b) (h1 : b = true → Sk K He env (t { D with nx := tz D })) (h2 : b = false → Sk K He env (u { D with nx := tz D })) : Sk K He env (tSeq (tIfS tt t u) tz D) := sk_if (D := { D with nx := tz D }) h h1 h2
theorem s_if (h : EdT tt env b) (h1 : b = true → Sk K He env (t D)) (h2 : b = false → Sk K He env D.nx) : Sk K He env (tIfS tt t tNext D) := sk_if h h1 h2
theorem q_drop (h : Ed te env d) (q : Sk K He env (tz D)) : Sk K He env (tSeq (tDrop te) tz D) := sk_drop (D := { D with nx := tz D }) h q
theorem q_append {k : Nat} {l : Addr} (hk : env[k]? = some (own l ds)) (h : Ed te env d) (f : flat d = true) (hz : ds.length < 100000) (q : Sk K He (env.set k (own l (ds ++ [d]))) (tz D)) : Sk K He env (tSeq (tDrop (tBM K "list" rAppend (tVar k) (tCons te tNil))) tz D) := sk_append (D := { D with nx := tz D }) hk h f hz q
theorem q_pop {k : Nat} {l : Addr} (hk : env[k]? = some (own l ds)) (hn : ds ≠ []) (q : Sk K He (env.set k (own l ds.dropLast)) (tz D)) : Sk K He env (tSeq (tDrop (tBM0 K "list" rPop (tVar k))) tz D) := sk_pop (D := { D with nx := tz D }) hk hn q
theorem q_clear {k : Nat} {l : Addr} (hk : env[k]? = some (own l ds)) (q : Sk K He (env.set k (own l [])) (tz D)) : Sk K He env (tSeq (tDrop (tBM0 K "list" rClear (tVar k))) tz D) := sk_clear (D := { D with nx := tz D }) hk q
theorem q_setL {k : Nat} {l : Addr} {i : Int} {j : Nat} (hk : env[k]? = some (own l ds)) (h : Ed te env d) (f : flat d = true) (hi : Ed tb env (.int i)) (hj : ixN ds.length i = some j) (q : Sk K He (env.set k (own l (ds.set j d))) (tz D)) : Sk K He env (tSeq (tAsg te (gSub (tVar k) tb rSetL)) tz D) := sk_setL (D := { D with nx := tz D }) hk h f hi hj q
theorem q_forR1 {ta : TA} {k : Nat} {n : Int} (ha : EdA ta env [.int n]) (hn : -100000 ≤ n ∧ n ≤ 100000) (I : Nat → List (Sl K)) (P : Nat → Prop) (h0 : env = I 0) (p0 : P 0)
    (hs : ∀ i : Nat, (i : Int) < n → P i → Sk K He ((I i).set k (fl (.int (i : Int)))) (t { D with nx := Nx K He (fun e => e = I (i + 1) ∧ P (i + 1)), ct := Nx K He (fun e => e = I (i + 1) ∧ P (i + 1)), bk := tz D })) (hd : P n.toNat → Sk K He (I n.toNat) (tz D)) : Sk K He env (tSeq (tFor (iRng1 ta) (gName k) t) tz D) := sk_forR1 (D := { D with nx := tz D }) ha hn I P h0 p0 hs hd
theorem q_forR2 {ta : TA} {k : Nat} {lo n : Int} (ha : EdA ta env [.int lo, .int n]) (hn : -100000 ≤ lo ∧ lo ≤ 100000 ∧ -100000 ≤ n ∧ n ≤ 100000) (I : Nat → List (Sl K)) (P : Nat → Prop) (h0 : env = I 0) (p0 : P 0)
    (hs : ∀ i : Nat, lo + (i : Int) < n → P i → Sk K He ((I i).set k (fl (.int (lo + (i : Int))))) (t { D with nx := Nx K He (fun e => e = I (i + 1) ∧ P (i + 1)), ct := Nx K He (fun e => e = I (i + 1) ∧ P (i + 1)), bk := tz D })) (hd : P (n - lo).toNat → Sk K He (I (n - lo).toNat) (tz D)) : Sk K He env (tSeq (tFor (iRng2 ta) (gName k) t) tz D) := sk_forR2 (D := { D with nx := tz D }) ha hn I P h0 p0 hs hd
theorem q_forP {k : Nat} {g : TG} (js : List Nat) (hk : env[k]? = some (par (.list ds))) (I : Nat → List (Sl K)) (P : Nat → Prop) (env2 : Nat → List (Sl K)) (h0 : env = I 0) (p0 : P 0) (hg : ∀ i d, ds[i]? = some d → P i → Gd g d (I i) (env2 i) js)
    (hs : ∀ (He' : Hp), Same He He' → ∀ i d, ds[i]? = some d → P i → Sk K He' (env2 i) (t { D with nx := Nx K He' (fun e => e = I (i + 1) ∧ P (i + 1)), ct := Nx K He' (fun e => e = I (i + 1) ∧ P (i + 1)), bk := tz D })) (hd : P ds.length → Sk K He (I ds.length) (tz D)) : Sk K He env (tSeq (tFor (iList K (tVar k)) g t) tz D) := sk_forP (D := { D with nx := tz D }) hk I P env2 h0 p0 hg hs hd
theorem q_forN {tl : TE} {g : TG} (js : List Nat) (hl : EdL tl env ds) (f : ds.all flat = true) (I : Nat → List (Sl K)) (P : Nat → Prop) (env2 : Nat → List (Sl K)) (h0 : env = I 0) (p0 : P 0) (hg : ∀ i d, ds[i]? = some d → P i → Gd g d (I i) (env2 i) js)
    (hs : ∀ (He' : Hp), Same He He' → ∀ i d, ds[i]? = some d → P i → Sk K He' (env2 i) (t { D with nx := Nx K He' (fun e => e = I (i + 1) ∧ P (i + 1)), ct := Nx K He' (fun e => e = I (i + 1) ∧ P (i + 1)), bk := tz D })) (hd : P ds.length → Sk K He (I ds.length) (tz D)) : Sk K He env (tSeq (tFor (iList K tl) g t) tz D) := sk_forN (D := { D with nx := tz D }) hl f I P env2 h0 p0 hg hs hd
theorem q_forO {k : Nat} {l : Addr} {g : TG} (js : List Nat) (I : Nat → List (Sl K)) (P : Nat → Prop) (hk : ∀ i, i ≤ ds.length → (I i)[k]? = some (own l ds)) (env2 : Nat → List (Sl K)) (h0 : env = I 0) (p0 : P 0) (hg : ∀ i d, ds[i]? = some d → P i → Gd g d (I i) (env2 i) js)
    (hs : ∀ i d, ds[i]? = some d → P i → Sk K He (env2 i) (t { D with nx := Nx K He (fun e => e = I (i + 1) ∧ P (i + 1)), ct := Nx K He (fun e => e = I (i + 1) ∧ P (i + 1)), bk := tz D })) (hd : P ds.length → Sk K He (I ds.length) (tz D)) : Sk K He env (tSeq (tFor (iList K (tVar k)) g t) tz D) := sk_forO (D := { D with nx := tz D }) I P hk env2 h0 p0 hg hs hd
theorem q_while {α : Type} (I : α → List (Sl K)) (P : α → Prop) (μ : α → Nat) (a0 : α) (h0 : env = I a0) (p0 : P a0)
    (hs : ∀ a, P a → ∃ b, EdT tt (I a) b ∧ (b = true → Sk K He (I a) (t { D with nx := Nx K He (fun e => ∃ a', P a' ∧ μ a' < μ a ∧ e = I a'), ct := Nx K He (fun e => ∃ a', P a' ∧ μ a' < μ a ∧ e = I a'), bk := tz D })) ∧ (b = false → Sk K He (I a) (tz D))) :
    Sk K He env (tSeq (tWhile tt t) tz D) := sk_while (D := { D with nx := tz D }) I P μ a0 h0 p0 hs
end
end Rs

/-! # two own lists in an own list -/
namespace Rs
open PySem PySem.Spec PyProof.Rows L2 RsS
section
variable {K : PySem.W.Frag}
/-- a list of the frame's own at l that holds two own lists of flat data, at a and b -/
def ow2 (l a b : Addr) (ds es : List PyData) : Sl K := ⟨fun _ H o => o = some (.ref l) ∧ ds.all flat = true ∧ es.all flat = true ∧ H l = some (.lst [.ref a, .ref b]) ∧ ∃ vs ws, H a = some (.lst vs) ∧ DpAll K H vs ds ∧ H b = some (.lst ws) ∧ DpAll K H ws es, [l, a, b],
  fun _ _ e k ⟨h1, f, g, h2, vs, ws, h3, h4, h5, h6⟩ => ⟨h1, f, g, k l (by simp) _ h2, vs, ws, k a (by simp) _ h3, dpa_flat e f h4, k b (by simp) _ h5, dpa_flat e g h6⟩,
  fun ⟨_, _, _, h2, vs, ws, h3, _, h5, _⟩ x hx => by
    rcases List.mem_cons.mp hx with rfl | hx
    · exact ⟨_, h2, True.intro⟩
    rcases List.mem_cons.mp hx with rfl | hx
    · exact ⟨_, h3, True.intro⟩
    rw [List.mem_singleton.mp hx]
    exact ⟨_, h5, True.intro⟩⟩
variable {H0 H H' H1 H2 : Hp} {σ : L2.St} {env : List (Sl K)}
theorem owns_set_ps (s : Sl K) (ps : List Addr) (hs : s.as = ps) (hn : ps.Nodup) : ∀ (env : List (Sl K)) (i : Nat), (∀ p ∈ ps, p ∉ owns env) → (owns env).Nodup → (owns (env.set i s)).Nodup ∧ ∀ a ∈ owns (env.set i s), a ∈ ps ∨ a ∈ owns env
  | [], _, _, _ => ⟨List.nodup_nil, fun a h => nomatch h⟩
  | t :: env, 0, hp, nd => by
    rw [List.set_cons_zero, owns_cons, hs]
    rw [owns_cons] at hp nd
    refine ⟨List.nodup_append.mpr ⟨hn, (List.sublist_append_right _ _).nodup nd, fun a ha b hb e => ?_⟩, fun a ha => ?_⟩
    · subst e
      exact hp a ha (List.mem_append_right _ hb)
    · rcases List.mem_append.mp ha with h | h
      · exact .inl h
      · rw [owns_cons]
        exact .inr (List.mem_append_right _ h)
  | t :: env, i + 1, hp, nd => by
    rw [List.set_cons_succ, owns_cons]
    rw [owns_cons] at hp nd
    obtain ⟨n1, n2, n3⟩ := List.nodup_append.mp nd
    obtain ⟨q1, q2⟩ := owns_set_ps s ps hs hn env i (fun p h z => hp p h (List.mem_append_right _ z)) n2
    refine ⟨List.nodup_append.mpr ⟨n1, q1, fun a ha b hb e => ?_⟩, fun a ha => ?_⟩
    · subst e
      rcases q2 a hb with z | z
      · exact hp a z (List.mem_append_left _ ha)
      · exact n3 a ha a z rfl
    · rw [owns_cons]
      rcases List.mem_append.mp ha with h | h
      · exact .inr (List.mem_append_left _ h)
      · rcases q2 a h with z | z
        · exact .inl z
        · exact .inr (List.mem_append_right _ z)
theorem En.setM (e : En K H0 σ H env) (k : Same H H1) {s : Sl K} {ps : List Addr} {o : Option V} (hp : ∀ p ∈ ps, H p = none) (hn : ps.Nodup) (hs : s.as = ps) (r : s.R H0 H1 o) (i : Nat) : En K H0 (σ.set i o) H1 (env.set i s) := by
  obtain ⟨h1, h2⟩ := owns_set_ps s ps hs hn env i (fun p h => e.not_own (hp p h)) e.nd
  refine ⟨e.sm.trans k, paired_set (F := fun o (s : Sl K) => s.R H0 H1 o) r i (e.same k).sl, h1, fun a ha => ?_⟩
  rcases h2 a ha with z | z
  · exact e.sm.free (hp a z)
  · exact e.fr a z
theorem paired_updM {s s' : Sl K} {l : Addr} {o' : HO} (hl : l ∈ s.as) (hm : ∃ u, H l = some u ∧ Mu u) (sm : Same H0 (upd H l o')) : ∀ {σ : L2.St} {env : List (Sl K)} (i : Nat), Paired (fun o (s : Sl K) => s.R H0 H o) σ env → env[i]? = some s → (owns env).Nodup →
    (∀ o, σ[i]? = some o → s'.R H0 (upd H l o') o) → Paired (fun o (s : Sl K) => s.R H0 (upd H l o') o) σ (env.set i s')
  | _, _, _, .nil, h, _, _ => by simp at h
  | o :: σ, t :: env, 0, .cons g r, h, nd, k => by
    simp at h
    subst h
    rw [List.set_cons_zero]
    refine .cons (k o rfl) (paired_mono r fun o2 s2 m2 r2 => s2.st (Same.refl _) sm (by obtain ⟨u, hu, hm⟩ := hm; exact SameT.upd hu hm) (fun a ha u hu => ?_) r2)
    have ne : a ≠ l := fun z => by
      subst z
      rw [owns_cons] at nd
      exact (List.nodup_append.mp nd).2.2 a hl a (mem_owns m2 ha) rfl
    rw [upd_ne ne]
    exact hu
  | o :: σ, t :: env, i + 1, .cons g r, h, nd, k => by
    rw [List.set_cons_succ]
    have h' : env[i]? = some s := by simpa using h
    rw [owns_cons] at nd
    obtain ⟨n1, n2, n3⟩ := List.nodup_append.mp nd
    refine .cons (t.st (Same.refl _) sm (by obtain ⟨u, hu, hm⟩ := hm; exact SameT.upd hu hm) (fun a ha u hu => ?_) g) (paired_updM hl hm sm i r h' n2 fun o2 e2 => k o2 (by simpa using e2))
    have ne : a ≠ l := fun z => by
      subst z
      exact n3 a ha a (mem_owns (List.mem_of_getElem? h') hl) rfl
    rw [upd_ne ne]
    exact hu
/-- one of a slot's own things changes -/
theorem En.updM (e : En K H0 σ H env) {s s' : Sl K} {l : Addr} {o' : HO} {i : Nat} (hi : env[i]? = some s) (hl : l ∈ s.as) (hl' : s'.as = s.as) (r : ∀ o, σ[i]? = some o → s'.R H0 (L2.upd H l o') o) : En K H0 σ (L2.upd H l o') (env.set i s') := by
  have hm : l ∈ owns env := mem_owns (List.mem_of_getElem? hi) hl
  have sm : Same H0 (L2.upd H l o') := same_mut e.sm (e.fr l hm)
  have ow : owns (env.set i s') = owns env := owns_set_same s s' hl' env i hi
  exact ⟨sm, paired_updM hl (e.owns_some l hm) sm i e.sl hi e.nd r, by rw [ow]; exact e.nd, by rw [ow]; exact e.fr⟩
theorem nodup_of_slot : ∀ {env : List (Sl K)} {i : Nat} {s : Sl K}, env[i]? = some s → (owns env).Nodup → s.as.Nodup
  | [], _, _, h, _ => by simp at h
  | t :: env, 0, s, h, nd => by
    simp at h
    subst h
    rw [owns_cons] at nd
    exact (List.nodup_append.mp nd).1
  | t :: env, i + 1, s, h, nd => by
    rw [owns_cons] at nd
    exact nodup_of_slot (i := i) (by simpa using h) (List.nodup_append.mp nd).2.1
theorem ne3 {l a b : Addr} (h : [l, a, b].Nodup) : l ≠ a ∧ l ≠ b ∧ a ≠ b := by
  simp at h
  exact ⟨h.1.1, h.1.2, h.2⟩
end
section
variable {K : PySem.W.Frag} {He : Hp} {env : List (Sl K)} {te ta tb : TE} {tt : TT} {t u tz : TS} {D : Ends} {d x y : PyData} {ds es : List PyData} {b : Bool}
theorem sk_asg2 {k : Nat} (h1 : EdL ta env ds) (h2 : EdL tb env es) (f : ds.all flat = true) (g : es.all flat = true) (q : ∀ l a b, Sk K He (env.set k (ow2 l a b ds es)) D.nx) : Sk K He env (tAsg (tLst (tCons ta (tCons tb tNil))) (gName k) D) := fun H0 σ H w e =>
  h1 H0 σ H e _ fun a vs H2 ha e2 ha2 ha3 => h2 H0 σ H2 (e.same e2) _ fun b ws H3 hb e3 hb2 hb3 => by
    refine ⟨by show 2 ≤ sizeLine; decide, fun l hl => ?_⟩
    have nab : a ≠ b := fun z => by
      subst z
      rw [ha2] at hb
      cases hb
    have nla : l ≠ a := fun z => by
      subst z
      rw [e3 _ _ ha2] at hl
      cases hl
    have nlb : l ≠ b := fun z => by
      subst z
      rw [hb2] at hl
      cases hl
    have e4 : Same H3 (upd H3 l (.lst [.ref a, .ref b])) := same_new hl
    refine q l a b H0 _ _ w (e.setM (s := ow2 l a b ds es) (ps := [l, a, b]) ((e2.trans e3).trans e4) (fun p hp => ?_) (by simp [nla, nlb, nab]) rfl ⟨rfl, f, g, upd_same, vs, ws, e4 _ _ (e3 _ _ ha2), dpa_mono (e3.trans e4) _ ha3, e4 _ _ hb2, dpa_mono e4 _ hb3⟩ k)
    rcases List.mem_cons.mp hp with rfl | hp
    · exact (e2.trans e3).free hl
    rcases List.mem_cons.mp hp with rfl | hp
    · exact ha
    rw [List.mem_singleton.mp hp]
    exact e2.free hb
theorem ed_first {k : Nat} {l a b : Addr} (h : env[k]? = some (ow2 l a b ds es)) : Ed (tOp (rIxL K) (tVar k) (tC (.int 0))) env (.list ds) := fun H0 σ H e Q q => by
  obtain ⟨o, h1, rfl, f, g, h2, vs, ws, h3, h4, h5, h6⟩ := e.get h
  exact ⟨_, h1, l, [.ref a, .ref b], 0, .ref a, rfl, rfl, SqL.of h2, rfl, q _ H (Same.refl H) (dp_own h3 h4)⟩
theorem ed_second {k : Nat} {l a b : Addr} (h : env[k]? = some (ow2 l a b ds es)) : Ed (tOp (rIxL K) (tVar k) (tC (.int 1))) env (.list es) := fun H0 σ H e Q q => by
  obtain ⟨o, h1, rfl, f, g, h2, vs, ws, h3, h4, h5, h6⟩ := e.get h
  exact ⟨_, h1, l, [.ref a, .ref b], 1, .ref b, rfl, rfl, SqL.of h2, rfl, q _ H (Same.refl H) (dp_own h5 h6)⟩
/-- one of both changes -/
theorem en_first {H0 H : Hp} {σ : L2.St} (e : En K H0 σ H env) {k : Nat} {l a b : Addr} (h : env[k]? = some (ow2 l a b ds es)) : ∃ vs, σ[k]? = some (some (.ref l)) ∧ H l = some (.lst [.ref a, .ref b]) ∧ H a = some (.lst vs) ∧ DpAll K H vs ds ∧ ∀ us ds', ds'.all flat = true → (SameT H (upd H a (.lst us)) → DpAll K (upd H a (.lst us)) us ds') → En K H0 σ (upd H a (.lst us)) (env.set k (ow2 l a b ds' es)) := by
  obtain ⟨o, h1, rfl, f, g, h2, vs, ws, h3, h4, h5, h6⟩ := e.get h
  obtain ⟨n1, n2, n3⟩ := ne3 (nodup_of_slot h e.nd)
  refine ⟨vs, h1, h2, h3, h4, fun us ds' f' hd => ?_⟩
  have st : SameT H (upd H a (.lst us)) := SameT.upd h3 trivial
  refine e.updM (s' := ow2 l a b ds' es) h (by show a ∈ [l, a, b]; simp) rfl fun o ho => ?_
  rw [h1] at ho
  cases ho
  refine ⟨rfl, f', g, ?_, us, ws, upd_same, hd st, ?_, dpa_flat st g h6⟩
  · rw [upd_ne n1]
    exact h2
  · rw [upd_ne n3.symm]
    exact h5
theorem en_second {H0 H : Hp} {σ : L2.St} (e : En K H0 σ H env) {k : Nat} {l a b : Addr} (h : env[k]? = some (ow2 l a b ds es)) : ∃ vs, σ[k]? = some (some (.ref l)) ∧ H l = some (.lst [.ref a, .ref b]) ∧ H b = some (.lst vs) ∧ DpAll K H vs es ∧ ∀ us es', es'.all flat = true → (SameT H (upd H b (.lst us)) → DpAll K (upd H b (.lst us)) us es') → En K H0 σ (upd H b (.lst us)) (env.set k (ow2 l a b ds es')) := by
  obtain ⟨o, h1, rfl, f, g, h2, vs, ws, h3, h4, h5, h6⟩ := e.get h
  obtain ⟨n1, n2, n3⟩ := ne3 (nodup_of_slot h e.nd)
  refine ⟨ws, h1, h2, h5, h6, fun us es' f' hd => ?_⟩
  have st : SameT H (upd H b (.lst us)) := SameT.upd h5 trivial
  refine e.updM (s' := ow2 l a b ds es') h (by show b ∈ [l, a, b]; simp) rfl fun o ho => ?_
  rw [h1] at ho
  cases ho
  refine ⟨rfl, f, f', ?_, vs, us, ?_, dpa_flat st f h4, upd_same, hd st⟩
  · rw [upd_ne n2]
    exact h2
  · rw [upd_ne n3]
    exact h3
theorem pop0_ok : seqIndex? 0 (n + 1) = some 0 := by
  rw [seqIndex_of (by decide) (by omega)] <;> rfl
theorem flat_tail (f : (d :: ds).all flat = true) : flat d = true ∧ ds.all flat = true := by
  rw [List.all_cons, Bool.and_eq_true] at f
  exact f
theorem sk_pop2a {k j : Nat} {l a b : Addr} (h : env[k]? = some (ow2 l a b (d :: ds) es)) (hf : (d :: ds).all flat = true) (q : Sk K He ((env.set k (ow2 l a b ds es)).set j (fl d)) D.nx) : Sk K He env (tAsg (tBM K "list" rPopAt (tOp (rIxL K) (tVar k) (tC (.int 0))) (tCons (tC (.int 0)) tNil)) (gName j) D) := fun H0 σ H w e => by
  obtain ⟨vs, h1, h2, h3, h4, up⟩ := en_first e h
  cases h4 with
  | cons hd ht =>
    obtain ⟨f1, f2⟩ := flat_tail hf
    rename_i v vs
    have st : SameT H (upd H a (.lst vs)) := SameT.upd h3 trivial
    have e2 := up vs ds f2 fun st => dpa_flat st f2 ht
    refine ⟨_, h1, l, [.ref a, .ref b], 0, .ref a, rfl, rfl, SqL.of h2, rfl, .inl ⟨rfl, _, SqL.of h3⟩, a, v :: vs, 0, 0, v, rfl, rfl, h3, by decide, by decide, pop0_ok, rfl, ?_⟩
    exact q H0 _ _ w (e2.set (s := fl d) rfl ⟨f1, v, rfl, dp_flat st f1 hd⟩ j)
theorem sk_pop2b {k j : Nat} {l a b : Addr} (h : env[k]? = some (ow2 l a b ds (d :: es))) (hf : (d :: es).all flat = true) (q : Sk K He ((env.set k (ow2 l a b ds es)).set j (fl d)) D.nx) : Sk K He env (tAsg (tBM K "list" rPopAt (tOp (rIxL K) (tVar k) (tC (.int 1))) (tCons (tC (.int 0)) tNil)) (gName j) D) := fun H0 σ H w e => by
  obtain ⟨vs, h1, h2, h3, h4, up⟩ := en_second e h
  cases h4 with
  | cons hd ht =>
    obtain ⟨f1, f2⟩ := flat_tail hf
    rename_i v vs
    have st : SameT H (upd H b (.lst vs)) := SameT.upd h3 trivial
    have e2 := up vs es f2 fun st => dpa_flat st f2 ht
    refine ⟨_, h1, l, [.ref a, .ref b], 1, .ref b, rfl, rfl, SqL.of h2, rfl, .inl ⟨rfl, _, SqL.of h3⟩, b, v :: vs, 0, 0, v, rfl, rfl, h3, by decide, by decide, pop0_ok, rfl, ?_⟩
    exact q H0 _ _ w (e2.set (s := fl d) rfl ⟨f1, v, rfl, dp_flat st f1 hd⟩ j)
theorem sk_clear2a {k : Nat} {l a b : Addr} (h : env[k]? = some (ow2 l a b ds es)) (q : Sk K He (env.set k (ow2 l a b [] es)) D.nx) : Sk K He env (tDrop (tBM0 K "list" rClear (tOp (rIxL K) (tVar k) (tC (.int 0)))) D) := fun H0 σ H w e => by
  obtain ⟨vs, h1, h2, h3, h4, up⟩ := en_first e h
  exact ⟨_, h1, l, [.ref a, .ref b], 0, .ref a, rfl, rfl, SqL.of h2, rfl, .inl ⟨rfl, _, SqL.of h3⟩, a, vs, rfl, rfl, h3, q H0 _ _ w (up [] [] rfl fun _ => .nil)⟩
theorem sk_append2b {k : Nat} {l a b : Addr} (h : env[k]? = some (ow2 l a b ds es)) (hv : Ed te env d) (hf : es.all flat = true) (f : flat d = true) (hz : es.length < 100000) (q : Sk K He (env.set k (ow2 l a b ds (es ++ [d]))) D.nx) : Sk K He env (tDrop (tBM K "list" rAppend (tOp (rIxL K) (tVar k) (tC (.int 1))) (tCons te tNil)) D) := fun H0 σ H w e => by
  obtain ⟨vs0, h1', h2', h3', _, _⟩ := en_second e h
  refine ⟨_, h1', l, [.ref a, .ref b], 1, .ref b, rfl, rfl, SqL.of h2', rfl, .inl ⟨rfl, _, SqL.of h3'⟩, hv H0 σ H e _ fun v H2 e2 dv => ?_⟩
  obtain ⟨vs, h1, h2, h3, h4, up⟩ := en_second (e.same e2) h
  refine ⟨b, vs, v, rfl, rfl, h3, by rw [dpa_len h4]; exact Nat.lt_of_lt_of_le hz (by decide), ?_⟩
  exact q H0 _ _ w (up _ _ (by rw [List.all_append, hf, List.all_cons, f] <;> rfl) fun st => dpa_append (dpa_flat st hf h4) (.cons (dp_flat st f dv) .nil))
/-! a comprehension over a tuple -/
theorem edl_lcTT {tl : TE} {ds : List PyData} {os : List (Option PyData)} {g : TG} {vs : List Nat} {js : List Nat} (env2 : Nat → List (Sl K)) (hs : Ed tl env (.tuple ds)) (hf : (kept os).all flat = true) (hz : os.length ≤ 100000) (hl : os.length = ds.length)
    (hj : ∀ j ∈ js, j ∈ vs) (hg : ∀ n d, ds[n]? = some d → Gd g d (wipeE env vs) (env2 n) js) (ht : ∀ n d oo, ds[n]? = some d → os[n]? = some oo → EdT tt (env2 n) oo.isSome) (he : ∀ n d o, ds[n]? = some d → os[n]? = some (some o) → Ed te (env2 n) o) :
    EdL (tLc (iTup K tl) g tt te vs) env (kept os) := fun H0 σ H e Q q => by
  refine hs H0 σ H e _ fun v H1 e1 dv => ?_
  obtain ⟨a, xs, rfl, h4, h5⟩ := dp_tup dv
  refine ⟨a, rfl, ⟨xs, h4⟩, fun D hD => lc_tup (K := K) (a := a) (xs := xs) (Cw K H1 os D) (cw_zero hD) (fun i H' _ c => sqT_same c.2.1 h4) (fun i x H' hi c => ?_) (fun H' c => ?_)⟩
  · obtain ⟨d, hd, hx⟩ := dpa_get' h5 hi
    have hlt : i < os.length := by
      rw [hl]
      exact (List.getElem?_eq_some_iff.mp hd).1
    refine hg i d hd H0 _ H' x (((e.same e1).same c.2.1).wipe vs) (dp_mono c.2.1 d hx) _ fun σ2 en2 hw => ⟨?_, ?_⟩
    · rw [hw vs hj, wipe_wipe]
    · obtain ⟨oo, ho⟩ : ∃ oo, os[i]? = some oo := ⟨_, List.getElem?_eq_getElem hlt⟩
      exact cw_turn hf hz ho c en2 (ht i d oo hd ho) (fun o eo => he i d o hd (by rw [ho, eo]))
  · obtain ⟨c1, c2, us, c3, c4⟩ := c
    rw [dpa_len h5, ← hl, List.take_length] at c4
    exact q D us H' (e1.free c1) (e1.trans c2) c3 c4
theorem edl_lct {tl : TE} {ds outs : List PyData} {g : TG} {vs : List Nat} {js : List Nat} (env2 : Nat → List (Sl K)) (hs : Ed tl env (.tuple ds)) (hf : outs.all flat = true) (hz : outs.length ≤ 100000) (hl : outs.length = ds.length)
    (hj : ∀ j ∈ js, j ∈ vs) (hg : ∀ n d, ds[n]? = some d → Gd g d (wipeE env vs) (env2 n) js) (he : ∀ n d o, ds[n]? = some d → outs[n]? = some o → Ed te (env2 n) o) :
    EdL (tLc (iTup K tl) g tYes te vs) env outs := by
  have h := edl_lcTT (K := K) (env := env) (te := te) (tt := tYes) (tl := tl) (ds := ds) (os := outs.map some) (g := g) (vs := vs) (js := js) env2 hs (by rw [kept_some]; exact hf) (by rw [List.length_map]; exact hz) (by rw [List.length_map]; exact hl) hj hg
    (fun n d oo hd ho => by obtain ⟨o, rfl, _⟩ := some_map ho; exact edt_yes) (fun n d o hd ho => by
      obtain ⟨o', e, h'⟩ := some_map ho
      cases e
      exact he n d o hd h')
  rw [kept_some] at h
  exact h
theorem q_asg2 {k : Nat} (h1 : EdL ta env ds) (h2 : EdL tb env es) (f : ds.all flat = true) (g : es.all flat = true) (q : ∀ l a b, Sk K He (env.set k (ow2 l a b ds es)) (tz D)) : Sk K He env (tSeq (tAsg (tLst (tCons ta (tCons tb tNil))) (gName k)) tz D) := sk_asg2 (D := { D with nx := tz D }) h1 h2 f g q
end
end Rs

namespace Rw
open PySem PySem.Spec L2 Rs RsS Rm
abbrev psD (ps : List Pt) : PyData := .list (ps.map pT)
abbrev nsD (ns : List Int) : PyData := .list (ns.map .int)
theorem flat_pT (p : Pt) : flat (pT p) = true := rfl
theorem flat_ps (ps : List Pt) : (ps.map pT).all flat = true := by
  rw [List.all_eq_true]
  intro x hx
  obtain ⟨p, _, rfl⟩ := List.mem_map.mp hx
  rfl
theorem flat_ns (ns : List Int) : (ns.map PyData.int).all flat = true := by
  rw [List.all_eq_true]
  intro x hx
  obtain ⟨p, _, rfl⟩ := List.mem_map.mp hx
  rfl
theorem get_ps {ps : List Pt} {k : Nat} {d : PyData} (h : (ps.map pT)[k]? = some d) : k < ps.length ∧ d = pT (at_ ps k) := by
  rw [List.getElem?_map] at h
  cases e : ps[k]? with
  | none => rw [e] at h; cases h
  | some p =>
    rw [e] at h
    have hk := (List.getElem?_eq_some_iff.mp e).1
    have := at_get hk
    rw [e] at this
    cases this
    exact ⟨hk, (Option.some.inj h).symm⟩
theorem get_ps' {ps : List Pt} {k : Nat} {d : PyData} (h : (ps.map pT)[k]? = some d) : ∃ p, ps[k]? = some p ∧ d = pT p := by
  rw [List.getElem?_map] at h
  cases e : ps[k]? with
  | none => rw [e] at h; cases h
  | some p =>
    rw [e] at h
    exact ⟨p, rfl, (Option.some.inj h).symm⟩
theorem atI_ps {ps : List Pt} {k : Nat} (hk : k < ps.length) : atI (ps.map pT) (k : Int) = some (pT (at_ ps k)) := atI_nat (by rw [List.getElem?_map, at_get hk] <;> rfl)
theorem atI_ns {ns : List Int} {k : Nat} (hk : k < ns.length) : atI (ns.map PyData.int) (k : Int) = some (.int (cellAt ns k)) := atI_nat (by
  rw [List.getElem?_map, List.getElem?_eq_getElem hk]
  unfold cellAt
  rw [List.getD_eq_getElem?_getD, List.getElem?_eq_getElem hk] <;> rfl)
theorem atI_lastR (p : Pt) (r : List Pt) : atI ((p :: r).reverse.map pT) (-1) = some (pT p) := by
  rw [List.reverse_cons, List.map_append]
  exact atI_last _ _
theorem atI_last2R (p q : Pt) (r : List Pt) : atI ((p :: q :: r).reverse.map pT) (-2) = some (pT q) := by
  have e : (p :: q :: r).reverse.map pT = r.reverse.map pT ++ [pT q, pT p] := by
    rw [List.reverse_cons, List.reverse_cons, List.map_append, List.map_append, List.append_assoc]
    rfl
  have hl : (r.reverse.map pT ++ [pT q, pT p]).length = r.length + 2 := by simp
  rw [e]
  unfold atI
  have e2 : ixN (r.reverse.map pT ++ [pT q, pT p]).length (-2) = some r.length := by
    unfold ixN
    rw [hl, if_neg (by decide), if_pos (by omega)]
    congr 1
    omega
  rw [e2]
  show (r.reverse.map pT ++ [pT q, pT p])[r.length]? = some (pT q)
  rw [List.getElem?_append_right (by simp)]
  simp
theorem cut_last (xs : List Pt) : cutD (xs.map pT) none (some (-1)) = xs.dropLast.map pT := by
  unfold cutD HT.sIx
  simp only [List.drop_zero, Nat.sub_zero, List.length_map]
  rw [if_pos (by decide), List.dropLast_eq_take, List.map_take]
  congr 1
  omega
theorem cut_from (xs : List Pt) (a : Nat) : cutD (xs.map pT) (some (a : Int)) none = (xs.drop a).map pT := by
  unfold cutD
  rw [HT.sIx_nat, HT.sIx_none, List.length_map, List.map_drop]
  by_cases h : a ≤ xs.length
  · rw [Nat.min_eq_left h, List.take_of_length_le (by rw [List.length_drop, List.length_map]; exact Nat.le_refl _)]
  · rw [Nat.min_eq_right (by omega), List.drop_of_length_le (by rw [List.length_map]; exact Nat.le_refl _), List.drop_of_length_le (by rw [List.length_map]; omega)]
    exact List.take_nil
theorem cut_to (xs : List Pt) (a : Nat) : cutD (xs.map pT) none (some (a : Int)) = (xs.take a).map pT := by
  unfold cutD
  rw [HT.sIx_nat, HT.sIx_none, List.length_map, List.drop_zero, Nat.sub_zero, List.map_take]
  by_cases h : a ≤ xs.length
  · rw [Nat.min_eq_left h]
  · rw [Nat.min_eq_right (by omega), List.take_of_length_le (by rw [List.length_map]; exact Nat.le_refl _), List.take_of_length_le (by rw [List.length_map]; omega)]
theorem ixN_nat {n k : Nat} (h : k < n) : ixN n (k : Int) = some k := by
  unfold ixN
  rw [if_pos (by omega), if_pos (by omega), Int.toNat_natCast]
theorem atI_m1 {ps : List Pt} (h : 0 < ps.length) : atI (ps.map pT) (((0 : Nat) : Int) - 1) = some (pT (at_ ps (ps.length - 1))) := by
  unfold atI ixN
  rw [if_neg (by decide), if_pos (by rw [List.length_map]; omega), List.length_map]
  show (ps.map pT)[(((0 : Nat) : Int) - 1 + (ps.length : Int)).toNat]? = _
  rw [show (((0 : Nat) : Int) - 1 + (ps.length : Int)).toNat = ps.length - 1 by omega, List.getElem?_map, at_get (by omega)] <;> rfl
theorem map_eraseIdx {α β : Type} (f : α → β) : ∀ (l : List α) (i : Nat), (l.eraseIdx i).map f = (l.map f).eraseIdx i
  | [], _ => rfl
  | x :: l, 0 => rfl
  | x :: l, i + 1 => by
    show f x :: (l.eraseIdx i).map f = f x :: (l.map f).eraseIdx i
    rw [map_eraseIdx f l i]
/-! equality of such data -/
theorem eqv_pT (p q : Pt) : PyData.eqv (pT p) (pT q) = decide (p = q) := by
  have e : PyData.eqv (pT p) (pT q) = (p.1 == q.1 && (p.2 == q.2 && true)) := by
    unfold pT
    rw [PyData.eqv, PyData.eqvAll, PyData.eqvAll, PyData.eqvAll, PyData.eqv, PyData.eqv]
  rw [e, Bool.and_true]
  by_cases h : p = q
  · subst h
    simp
  · rw [decide_eq_false h]
    cases h1 : (p.1 == q.1) with
    | false => rfl
    | true =>
      cases h2 : (p.2 == q.2) with
      | false => rfl
      | true => exact absurd (Prod.ext (by simpa using h1) (by simpa using h2)) h
theorem eqvAll_ps : ∀ (ps qs : List Pt), PyData.eqvAll (ps.map pT) (qs.map pT) = decide (ps = qs)
  | [], [] => by rw [List.map_nil, PyData.eqvAll] <;> rfl
  | [], q :: qs => by
    rw [List.map_nil, List.map_cons, PyData.eqvAll]
    exact (decide_eq_false (by simp)).symm
  | p :: ps, [] => by
    rw [List.map_nil, List.map_cons, PyData.eqvAll]
    exact (decide_eq_false (by simp)).symm
  | p :: ps, q :: qs => by
    rw [List.map_cons, List.map_cons, PyData.eqvAll, eqv_pT, eqvAll_ps ps qs]
    by_cases h1 : p = q
    · by_cases h2 : ps = qs
      · simp [h1, h2]
      · simp [h1, h2]
    · simp [h1]
theorem eqv_ps (ps qs : List Pt) : PyData.eqv (psD ps) (psD qs) = decide (ps = qs) := by
  rw [PyData.eqv, eqvAll_ps]
theorem lay_pT (p : Pt) : (pT p).canLay0 = true := by
  unfold pT
  simp [PyData.canLay0, PyData.canLayAll0]
theorem lay_ps : ∀ ps : List Pt, PyData.canLayAll0 (ps.map pT) = true
  | [] => by simp [PyData.canLayAll0]
  | p :: ps => by
    rw [List.map_cons, PyData.canLayAll0, lay_pT, lay_ps ps] <;> rfl
theorem depth_pT (p : Pt) : (pT p).depth = 1 := by
  unfold pT
  simp [PyData.depth, PyData.depthAll]
theorem depth_ps : ∀ ps : List Pt, PyData.depthAll (ps.map pT) ≤ 1
  | [] => by simp [PyData.depthAll]
  | p :: ps => by
    rw [List.map_cons, PyData.depthAll, depth_pT]
    have := depth_ps ps
    omega
theorem shaped_pT (p : Pt) : SeqAt.shaped (pT p) = true := by
  unfold SeqAt.shaped
  rw [lay_pT, depth_pT] <;> rfl
theorem shaped_ps (ps : List Pt) : SeqAt.shaped (psD ps) = true := by
  unfold SeqAt.shaped
  have h : (psD ps).canLay0 = true := by
    rw [PyData.canLay0]
    exact lay_ps ps
  have d : (psD ps).depth ≤ 64 := by
    rw [PyData.depth]
    have := depth_ps ps
    omega
  rw [h, decide_eq_true d] <;> rfl
theorem any_ps (ps : List Pt) (q : Pt) : ((ps.map pT).any fun z => PyData.eqv z (pT q)) = decide (q ∈ ps) := by
  induction ps with
  | nil => simp
  | cons p ps ih =>
    rw [List.map_cons, List.any_cons, ih, eqv_pT]
    by_cases h : p = q
    · simp [h]
    · by_cases h2 : q ∈ ps
      · simp [h, h2]
      · simp [h, h2, Ne.symm h]
theorem ixN_m1 {n : Nat} : ixN (n + 1) (-1) = some n := by
  unfold ixN
  rw [if_neg (by decide), if_pos (by omega), show ((-1 : Int) + ((n + 1 : Nat) : Int)).toNat = n by omega]
theorem set_lastR (t p : Pt) (rs : List Pt) : ((t :: rs).reverse.map pT).set rs.length (pT p) = (p :: rs).reverse.map pT := by
  rw [List.reverse_cons, List.reverse_cons, List.map_append, List.map_append, List.set_append, List.length_map, List.length_reverse, if_neg (by omega), Nat.sub_self]
  rfl
theorem atI_prev {ps : List Pt} {k : Nat} (h : k < ps.length) : atI (ps.map pT) ((k : Int) - 1) = some (pT (at_ ps (prevI ps.length k))) := by
  unfold prevI
  by_cases hz : k = 0
  · subst hz
    rw [if_pos rfl]
    exact atI_m1 h
  · rw [if_neg hz, show (k : Int) - 1 = ((k - 1 : Nat) : Int) by omega]
    exact atI_ps (by omega)
theorem ed_leT3 {K : PySem.W.Frag} {env : List (Sl K)} {ta tb tc : TE} {a b c : Pt} (ha : Ed ta env (pT a)) (hb : Ed tb env (pT b)) (hc : Ed tc env (pT c)) : Ed (tChain (rLeT K) (rLeT K) ta tb tc) env (.bool (decide (a.1 < b.1 ∨ a.1 = b.1 ∧ a.2 ≤ b.2) && decide (b.1 < c.1 ∨ b.1 = c.1 ∧ b.2 ≤ c.2))) :=
  ed_chain ha hb rv_leT (fun _ => hc) (fun h => by rw [h, Bool.true_and]; exact rv_leT) (fun h => by rw [h, Bool.false_and])
/-! a branching whose ways meet again -/
section
variable {K : PySem.W.Frag} {He : Hp} {env : List (Sl K)} {tt : TT} {t u tz : TS} {D : Ends} {b : Bool}
theorem q_ifJ {α : Type} (I : α → List (Sl K)) (P : α → Prop) (h : EdT tt env b) (tail : ∀ a, P a → Sk K He (I a) (tz D)) (h1 : b = true → (∀ a, P a → Sk K He (I a) (tz D)) → Sk K He env (t { D with nx := tz D })) (h2 : b = false → (∀ a, P a → Sk K He (I a) (tz D)) → Sk K He env (u { D with nx := tz D })) : Sk K He env (tSeq (tIfS tt t u) tz D) := q_ifE h (fun e => h1 e tail) (fun e => h2 e tail)
theorem sk_end {N : Hp → Prop} (q : ∀ H', Same He H' → N H') : Sk K He env (fun _ H' => N H') := fun H0 σ H b e => q H (b.trans e.sm)
end
/-! ## rules with points -/
section
variable {K : PySem.W.Frag} {env : List (Sl K)} {ta tb te : TE} {ps : List Pt}
theorem ed_at {k : Nat} (ha : Ed ta env (psD ps)) (hb : Ed tb env (.int (k : Int))) (hk : k < ps.length) : Ed (tOp (rIxL K) ta tb) env (pT (at_ ps k)) := ed_ixL ha hb (atI_ps hk)
theorem ed_cell {ns : List Int} {k : Nat} (ha : Ed ta env (nsD ns)) (hb : Ed tb env (.int (k : Int))) (hk : k < ns.length) : Ed (tOp (rIxL K) ta tb) env (.int (cellAt ns k)) := ed_ixL ha hb (atI_ns hk)
theorem ed_len (h : Ed te env (psD ps)) : Ed (tCB (Rs.rLen K) (tCons te tNil)) env (.int (ps.length : Int)) := ed_is (ed_lenL h) (by rw [List.length_map])
end
end Rw

/-! # dicts with pairs as keys -/
namespace Rs
open PySem PySem.Spec PyProof.Rows L2 RsS
open Rm (Pt)
abbrev kP (p : Pt) : List L2.Key := [.inl p.1, .inl p.2]
theorem kP_inj {p q : Pt} (h : kP p = kP q) : p = q := by
  unfold kP at h
  simp at h
  exact Prod.ext h.1 h.2
def putP (kvs : List (Pt × PyData)) (p : Pt) (d : PyData) : List (Pt × PyData) := if (kvs.any fun kv => decide (kv.1 = p)) = true then kvs.map (fun kv => if kv.1 = p then (kv.1, d) else kv) else kvs ++ [(p, d)]
def valP (kvs : List (Pt × PyData)) (p : Pt) : Option PyData := (kvs.find? fun kv => decide (kv.1 = p)).map (·.2)
theorem putP_len (kvs : List (Pt × PyData)) (p : Pt) (d : PyData) : (putP kvs p d).length ≤ kvs.length + 1 := by
  unfold putP
  split
  · rw [List.length_map]
    omega
  · rw [List.length_append, List.length_singleton]
    exact Nat.le_refl _
def Ents (K : PySem.W.Frag) (H : Hp) (ents : List (List L2.Key × V)) (kvs : List (Pt × PyData)) : Prop := Paired (fun e kd => e.1 = kP kd.1 ∧ Dp K H e.2 kd.2) ents kvs
section
variable {K : PySem.W.Frag} {H H' : Hp}
theorem Ents.len {ents : List (List L2.Key × V)} {kvs : List (Pt × PyData)} (h : Ents K H ents kvs) : ents.length = kvs.length := by
  unfold Ents at h
  induction h with
  | nil => rfl
  | cons _ _ ih => rw [List.length_cons, List.length_cons, ih]
theorem Ents.any {ents : List (List L2.Key × V)} {kvs : List (Pt × PyData)} (h : Ents K H ents kvs) (p : Pt) : (ents.any fun kv => decide (kv.1 = kP p)) = kvs.any fun kv => decide (kv.1 = p) := by
  unfold Ents at h
  induction h with
  | nil => rfl
  | @cons e kd es ks h t ih =>
    rw [List.any_cons, List.any_cons, ih, h.1]
    congr 1
    by_cases z : kd.1 = p
    · rw [z]
      simp
    · rw [decide_eq_false z, decide_eq_false (fun y => z (kP_inj y))]
theorem Ents.repl {ents : List (List L2.Key × V)} {kvs : List (Pt × PyData)} (h : Ents K H ents kvs) (p : Pt) {v : V} {d : PyData} (hv : Dp K H v d) : Ents K H (ents.map fun kv => if kv.1 = kP p then (kv.1, v) else kv) (kvs.map fun kv => if kv.1 = p then (kv.1, d) else kv) := by
  unfold Ents at h ⊢
  induction h with
  | nil => exact .nil
  | @cons e kd es ks h t ih =>
    rw [List.map_cons, List.map_cons]
    refine .cons ?_ ih
    by_cases z : kd.1 = p
    · rw [if_pos z, if_pos (by rw [h.1, z])]
      exact ⟨h.1, hv⟩
    · rw [if_neg z, if_neg (fun y => z (kP_inj (h.1.symm.trans y)))]
      exact h
theorem Ents.put {ents : List (List L2.Key × V)} {kvs : List (Pt × PyData)} (h : Ents K H ents kvs) (p : Pt) {v : V} {d : PyData} (hv : Dp K H v d) : Ents K H (putK ents (kP p) v) (putP kvs p d) := by
  unfold putK putP
  rw [h.any p]
  split
  · exact h.repl p hv
  · exact paired_app h (.cons ⟨rfl, hv⟩ .nil)
theorem Ents.val {ents : List (List L2.Key × V)} {kvs : List (Pt × PyData)} (h : Ents K H ents kvs) (p : Pt) : (∀ d, valP kvs p = some d → ∃ v, valV ents (kP p) = some v ∧ Dp K H v d) ∧ (valP kvs p = none → valV ents (kP p) = none) := by
  unfold Ents at h
  induction h with
  | nil => exact ⟨fun d hd => (by cases hd), fun _ => rfl⟩
  | @cons e kd es ks h t ih =>
    by_cases z : kd.1 = p
    · have h1 : valP (kd :: ks) p = some kd.2 := by
        unfold valP
        rw [List.find?_cons, decide_eq_true z]
        rfl
      have h2 : valV (e :: es) (kP p) = some e.2 := valV_pos (by rw [h.1, z])
      rw [h1, h2]
      refine ⟨fun d hd => ?_, fun hd => (by cases hd)⟩
      cases hd
      exact ⟨e.2, rfl, h.2⟩
    · have h1 : valP (kd :: ks) p = valP ks p := by
        unfold valP
        rw [List.find?_cons, decide_eq_false z]
      have h2 : valV (e :: es) (kP p) = valV es (kP p) := valV_neg (fun y => z (kP_inj (h.1.symm.trans y)))
      rw [h1, h2]
      exact ih
theorem Ents.keep (st : SameT H H') {ents : List (List L2.Key × V)} {kvs : List (Pt × PyData)} (f : ∀ kd ∈ kvs, flat kd.2 = true) (h : Ents K H ents kvs) : Ents K H' ents kvs :=
  paired_mono h fun e kd hm r => ⟨r.1, dp_flat st (f kd hm) r.2⟩
/-- a dict of the frame's own at l, with pairs as keys, of flat data -/
def dic (l : Addr) (kvs : List (Pt × PyData)) : Sl K := ⟨fun _ H o => o = some (.ref l) ∧ (∀ kd ∈ kvs, flat kd.2 = true) ∧ ∃ ents, H l = some (.dT ents) ∧ Ents K H ents kvs, [l],
  fun _ _ e k ⟨h1, f, ents, h2, h3⟩ => ⟨h1, f, ents, k l (List.mem_singleton.mpr rfl) _ h2, h3.keep e f⟩,
  fun ⟨_, _, ents, h2, _⟩ a ha => ⟨.dT ents, (List.mem_singleton.mp ha) ▸ h2, True.intro⟩⟩
/-- a pair that stands as a tuple -/
def hp (p : Pt) : Sl K := ⟨fun _ H o => ∃ b, o = some (.ref b) ∧ H b = some (.tup [.int p.1, .int p.2]), [], fun _ _ e _ ⟨b, h1, h2⟩ => ⟨b, h1, e b _ h2 id⟩, fun _ _ h => nomatch h⟩
theorem hp_dp {b : Addr} {p : Pt} (h : H b = some (.tup [.int p.1, .int p.2])) : Dp K H (.ref b) (pT p) := .tup (SqT.of h) (.cons (.int _) (.cons (.int _) .nil))
end
section
variable {K : PySem.W.Frag} {env : List (Sl K)} {te ta tb tx : TE} {p : Pt} {d x y : PyData} {i j : Int}
def EdH (te : TE) (env : List (Sl K)) (p : Pt) : Prop := ∀ (H0 : Hp) (σ : L2.St) (H : Hp), En K H0 σ H env → ∀ Q : VK, (∀ b H2, Same H H2 → H2 b = some (.tup [.int p.1, .int p.2]) → Q (.ref b) H2) → te σ H Q
theorem ed_H (h : EdH te env p) : Ed te env (pT p) := fun H0 σ H e Q q => h H0 σ H e Q fun b H2 e2 hb => q _ H2 e2 (hp_dp hb)
theorem edh_tup (ha : Ed ta env (.int i)) (hb : Ed tb env (.int j)) : EdH (tTup (tCons ta (tCons tb tNil))) env (i, j) := fun H0 σ H e Q q => by
  refine ha H0 σ H e _ fun v H1 e1 dv => hb H0 σ H1 (e.same e1) _ fun w H2 e2 dw => ?_
  cases dp_int dv
  cases dp_int dw
  exact ⟨by show 2 ≤ sizeLine; decide, fun p hp => q p _ ((e1.trans e2).trans (same_new hp)) upd_same⟩
theorem edh_var {k : Nat} (h : env[k]? = some (hp p)) : EdH (tVar k) env p := fun H0 σ H e Q q => by
  obtain ⟨o, h1, b, rfl, h2⟩ := e.get h
  exact ⟨_, h1, q b H (Same.refl H) h2⟩
theorem edh_is {q : Pt} (h : EdH te env p) (e : p = q) : EdH te env q := e ▸ h
def spT (K : PySem.W.Frag) (R : List PyData → Pt → Prop) : Sp := fun vs H Q _ => ∃ ds p, R ds p ∧ DpAll K H vs ds ∧ ∀ b H', Same H H' → H' b = some (.tup [.int p.1, .int p.2]) → Q (.ref b) H'
theorem edh_call {R : List PyData → Pt → Prop} {E : XK} {ta : TA} {ds : List PyData} (ha : EdA ta env ds) (hR : R ds p) : EdH (tCall (spT K R) [] E ta) env p := fun H0 σ H e Q q =>
  ha H0 σ H e _ fun vs H2 e2 dv => by
    rw [List.append_nil]
    exact ⟨ds, p, hR, dv, fun b H3 e3 hb => q b H3 (e2.trans e3) hb⟩
theorem ed_dget {k : Nat} {l : Addr} {kvs : List (Pt × PyData)} (h : env[k]? = some (dic l kvs)) (hi : EdH te env p) (hv : valP kvs p = some d) : Ed (tDGet (tVar k) te) env d := fun H0 σ H e Q q => by
  obtain ⟨o, h1, rfl, _, _⟩ := e.get h
  refine ⟨_, h1, hi H0 σ H e _ fun b H2 e2 hb => ?_⟩
  obtain ⟨o, h1', h3, f, ents, h4, h5⟩ := (e.same e2).get h
  obtain ⟨v, g1, g2⟩ := (h5.val p).1 d hv
  exact ⟨l, v, rfl, g1 ▸ DGet.t h4 hb, q v H2 e2 g2⟩
theorem ed_dget2 {k : Nat} {l : Addr} {kvs : List (Pt × PyData)} (h : env[k]? = some (dic l kvs)) (hi : EdH te env p) (hx : Ed tx env x) : Ed (tDGet2 (tVar k) te tx) env ((valP kvs p).getD x) := fun H0 σ H e Q q => by
  obtain ⟨o, h1, rfl, _, ents0, h40, _⟩ := e.get h
  refine ⟨_, h1, l, rfl, .inr ⟨ents0, .inl h40⟩, hi H0 σ H e _ fun b H2 e2 hb => hx H0 σ H2 (e.same e2) _ fun z H3 e3 dz => ?_⟩
  obtain ⟨o, h1', h3, f, ents, h4, h5⟩ := ((e.same e2).same e3).get h
  obtain ⟨g1, g2⟩ := h5.val p
  refine ⟨_, DGet.t (k := kP p) h4 (e3 _ _ hb), ?_⟩
  cases hv : valP kvs p with
  | none =>
    rw [hv] at q
    rw [g2 hv]
    exact q z H3 (e2.trans e3) dz
  | some d =>
    obtain ⟨v, k1, k2⟩ := g1 d hv
    rw [hv] at q
    rw [k1]
    exact q v H3 (e2.trans e3) k2
/-! the values by the keys in order -/
abbrev rListDT : List V → Hp → VK → Prop := fun xs H Q => ∃ d kvs, xs = [V.ref d] ∧ Rd H d (.dT kvs) ∧ ∀ p bs, H p = none → IsKeys H kvs bs → Q (.ref p) (upd H p (.lst (bs.map V.ref)))
theorem keys_list {H : Hp} : ∀ {ents : List (List L2.Key × V)} {kvs : List (Pt × PyData)} {bs : List Addr}, Ents K H ents kvs → IsKeys H ents bs →
    ∃ L : List (Addr × Int × Int), bs.map V.ref = L.map (fun q => V.ref q.1) ∧ L.map (·.2) = kvs.map (·.1) ∧ ∀ q ∈ L, H q.1 = some (.tup [.int q.2.1, .int q.2.2])
  | [], [], [], _, _ => ⟨[], rfl, rfl, fun q hq => nomatch hq⟩
  | e :: es, kd :: ks, b :: bs, .cons h t, .cons g u => by
    obtain ⟨L, h1, h2, h3⟩ := keys_list t u
    refine ⟨(b, kd.1) :: L, by rw [List.map_cons, List.map_cons, h1], by rw [List.map_cons, List.map_cons, h2], fun q hq => ?_⟩
    rcases List.mem_cons.mp hq with rfl | hq
    · rw [h.1] at g
      exact g
    · exact h3 q hq
theorem edl_known {k m : Nat} {l : Addr} {kvs : List (Pt × PyData)} {qs : List Pt} {outs : List PyData} (h : env[k]? = some (dic l kvs)) (hkm : k ≠ m) (hm0 : m < env.length) (hn : (kvs.map (·.1)).Nodup) (hq : qs.Pairwise Rm.lexlt) (hm : ∀ x, x ∈ qs ↔ x ∈ kvs.map (·.1)) (hf : outs.all flat = true) (hlen : outs.length = qs.length) (hz : qs.length ≤ 100000)
    (ho : ∀ (i : Nat) p d, qs[i]? = some p → outs[i]? = some d → valP kvs p = some d) : EdL (tLc (iList K (tCB (rSortedLP K) (tCons (tCB rListDT (tCons (tVar k) tNil)) tNil))) (gName m) tYes (tDGet (tVar k) (tVar m)) [m]) env outs := fun H0 σ H e Q q => by
  obtain ⟨o, h1, rfl, f, ents, h4, h5⟩ := e.get h
  refine ⟨_, h1, l, ents, rfl, .inl h4, fun p1 bs hp1 hk => ?_⟩
  obtain ⟨L, eL, eK, hL⟩ := keys_list h5 hk
  have s1 : Same H (upd H p1 (.lst (bs.map V.ref))) := same_new hp1
  refine ⟨p1, L, rfl, SqL.of (by rw [upd_same, eL]), fun r hr => SqT.of (s1 _ _ (hL r hr)), fun L' p2 pm pw hp2 => ?_⟩
  have s2 : Same (upd H p1 (.lst (bs.map V.ref))) (upd (upd H p1 (.lst (bs.map V.ref))) p2 (.lst (L'.map fun q => V.ref q.1))) := same_new hp2
  have eq : L'.map (·.2) = qs := by
    refine lex_one (List.pairwise_map.mpr (strict_of ((pm.map (·.2)).nodup_iff.mpr (eK ▸ hn)) pw)) hq fun x => ?_
    rw [hm x, ← eK]
    exact (pm.map (·.2)).mem_iff
  generalize hH2 : upd (upd H p1 (.lst (bs.map V.ref))) p2 (.lst (L'.map fun q => V.ref q.1)) = H2 at s2
  have s12 : Same H H2 := s1.trans s2
  have hl2 : H2 p2 = some (.lst (L'.map fun q => V.ref q.1)) := by
    rw [← hH2, upd_same]
  have hl : L'.length = outs.length := by
    have := congrArg List.length eq
    rw [List.length_map] at this
    omega
  refine ⟨p2, rfl, ⟨_, SqL.of hl2⟩, fun D hD => lc_list (K := K) (a := p2) (xs := L'.map fun q => V.ref q.1) (Cw K H2 (outs.map some) D) (cw_zero hD) (fun i H' _ c => c.2.1.seq (SqL.of hl2)) (fun i x H' hi c => ?_) (fun H' c => ?_)⟩
  · obtain ⟨r, hr, rfl⟩ : ∃ r, L'[i]? = some r ∧ x = V.ref r.1 := by
      rw [List.getElem?_map] at hi
      cases er : L'[i]? with
      | none => rw [er] at hi; cases hi
      | some r =>
        rw [er] at hi
        exact ⟨r, rfl, (Option.some.inj hi).symm⟩
    have hlt : i < outs.length := by
      rw [← hl]
      exact (List.getElem?_eq_some_iff.mp hr).1
    obtain ⟨d, hd⟩ : ∃ d, outs[i]? = some d := ⟨_, List.getElem?_eq_getElem hlt⟩
    have hqi : qs[i]? = some r.2 := by rw [← eq, List.getElem?_map, hr]; rfl
    have hv := ho i r.2 d hqi hd
    have hrt : H' r.1 = some (.tup [.int r.2.1, .int r.2.2]) := c.2.1 _ _ (s12 _ _ (hL r (pm.mem_iff.mp (List.mem_of_getElem? hr))))
    have en1 : En K H0 (L2.wipe σ [m]) H' (wipeE env [m]) := ((e.same s12).same c.2.1).wipe [m]
    have en2 : En K H0 ((L2.wipe σ [m]).set m (some (.ref r.1))) H' ((wipeE env [m]).set m (hp r.2)) := en1.set (s := hp r.2) rfl ⟨r.1, rfl, hrt⟩ m
    have e1 : ((wipeE env [m]).set m (hp r.2))[k]? = some (dic l kvs) := by
      rw [List.getElem?_set_ne hkm.symm]
      show (env.set m un)[k]? = _
      rw [List.getElem?_set_ne hkm.symm]
      exact h
    have e2 : ((wipeE env [m]).set m (hp r.2))[m]? = some (hp r.2) := by
      rw [List.getElem?_set_self]
      show m < (env.set m un).length
      rw [List.length_set]
      exact hm0
    refine ⟨by rw [wipe_set (List.mem_singleton.mpr rfl), wipe_wipe], ?_⟩
    exact cw_turn (os := outs.map some) (by rw [kept_some]; exact hf) (by rw [List.length_map]; omega) (by rw [List.getElem?_map, hd]; rfl) c en2 edt_yes (fun o' eo => by
      cases eo
      exact ed_dget e1 (edh_var e2) hv)
  · obtain ⟨c1, c2, us, c3, c4⟩ := c
    rw [List.length_map, hl, ← List.length_map (f := some), List.take_length, kept_some] at c4
    exact q D us H' (s12.free c1) (s12.trans c2) c3 c4
end
section
variable {K : PySem.W.Frag} {He : Hp} {env : List (Sl K)} {te ta tb tv : TE} {tt : TT} {t u tz : TS} {D : Ends} {d x y : PyData} {ds es : List PyData} {b : Bool} {p : Pt}
theorem sk_asgD {k : Nat} (q : ∀ l, Sk K He (env.set k (dic l [])) D.nx) : Sk K He env (tAsg tDNewT (gName k) D) := fun H0 σ H w e l hl =>
  q l H0 _ _ w (e.setO (same_new hl) (s := dic l []) hl rfl ⟨rfl, (fun _ h => nomatch h), [], upd_same, .nil⟩ k)
theorem q_asgD {k : Nat} (q : ∀ l, Sk K He (env.set k (dic l [])) (tz D)) : Sk K He env (tSeq (tAsg tDNewT (gName k)) tz D) := sk_asgD (D := { D with nx := tz D }) q
theorem sk_dput {k : Nat} {l : Addr} {kvs : List (Pt × PyData)} (h : env[k]? = some (dic l kvs)) (hi : EdH te env p) (hv : Ed tv env d) (f : flat d = true) (hz : kvs.length < 100000) (q : Sk K He (env.set k (dic l (putP kvs p d))) D.nx) : Sk K He env (sDPut (tVar k) te tv D) := fun H0 σ H w e =>
  hv H0 σ H e _ fun v H1 e1 dv => by
    obtain ⟨o, h1, rfl, _, _⟩ := (e.same e1).get h
    refine ⟨_, h1, hi H0 σ H1 (e.same e1) _ fun b H2 e2 hb => ?_⟩
    obtain ⟨o, h1', h3, g, ents, h4, h5⟩ := ((e.same e1).same e2).get h
    have st : SameT H2 (upd H2 l (.dT (putK ents (kP p) v))) := SameT.upd h4 trivial
    refine ⟨l, _, rfl, DPut.t (k := kP p) h4 hb (by rw [h5.len]; exact Nat.lt_of_lt_of_le hz (by decide)), ?_⟩
    refine q H0 σ _ w (((e.same e1).same e2).upd (s' := dic l (putP kvs p d)) h rfl rfl fun o ho => ?_)
    rw [h1] at ho
    cases ho
    have g' : ∀ kd ∈ putP kvs p d, flat kd.2 = true := fun kd hk => by
      unfold putP at hk
      split at hk
      · obtain ⟨e, he, rfl⟩ := List.mem_map.mp hk
        split
        · exact f
        · exact g e he
      · rcases List.mem_append.mp hk with hk | hk
        · exact g kd hk
        · rw [List.mem_singleton.mp hk]
          exact f
    exact ⟨rfl, g', _, upd_same, (h5.put p (dp_mono e2 _ dv)).keep st g'⟩
theorem sk_retT (h : EdH te env p) (q : ∀ b H, Same He H → H b = some (.tup [.int p.1, .int p.2]) → D.rt (.ref b) H) : Sk K He env (tRet te D) := fun H0 σ H b e =>
  h H0 σ H e _ fun v H2 e2 dv => q v H2 ((b.trans e.sm).trans e2) dv
end
section
variable {P : Program} {w : World} {K : PySem.W.Frag} {mg : Str → Option Value} {base : Heap} {x qual : Str} {st : Stmt} {f : Addr} {fd : FuncData} {N ps : List Str} {k : Nat}
theorem okT {R : List PyData → Pt → Prop} (F : Fun K x qual st f fd) (S : FnScope N ps (defScope st)) (hl : ∀ ds d, R ds d → ds.length = ps.length)
    (hb : ∀ (cdv : Value) (A : Around) (outer : List Env) (s : Shared) (H : Hp) (E : XK) (ds : List PyData) (d : Pt), Room k (A.deeper (envOfC qual (defScope st) s.heap.objs.size f cdv)) → R ds d →
      ∃ t, PSs (cxOf CX0 P w K mg base N qual (defScope st) f cdv A outer s H E).nox (defBody st) t ∧
        ∀ Q : VK, (∀ b H', Same H H' → H' b = some (.tup [.int d.1, .int d.2]) → Q (.ref b) H') → Sk K H (ds.map par ++ List.replicate (N.length - ds.length) un) (t { nx := fun _ H' => Q .non H', rt := Q })) : FnOk P w K mg base CX0 (k + 1) f fd ps (spT K R) := by
  refine F.ok S (fun vs H Q E h => ?_) (fun cdv A outer s H vs Q E hr h => ?_)
  · obtain ⟨ds, d, hR, hds, _⟩ := h
    rw [dpa_len hds, hl ds d hR]
  · obtain ⟨ds, d, hR, hds, q⟩ := h
    obtain ⟨t, h1, h2⟩ := hb cdv A outer s H E ds d hr hR
    exact ⟨t, h1, h2 Q q H _ H (Same.refl H) (en_start hds)⟩
theorem hu1 {A : Around} (h : A.units + 65 < cLine) : A.units + 1 < cLine := by omega
end
end Rs
namespace Rs
open PySem PySem.Spec L2
theorem q_clear2a {K : PySem.W.Frag} {He : Hp} {env : List (Sl K)} {tz : TS} {D : Ends} {ds es : List PyData} {k : Nat} {l a b : Addr} (h : env[k]? = some (ow2 l a b ds es)) (q : Sk K He (env.set k (ow2 l a b [] es)) (tz D)) : Sk K He env (tSeq (tDrop (tBM0 K "list" rClear (tOp (rIxL K) (tVar k) (tC (.int 0))))) tz D) := sk_clear2a (D := { D with nx := tz D }) h q
theorem q_append2b {K : PySem.W.Frag} {He : Hp} {env : List (Sl K)} {te : TE} {tz : TS} {D : Ends} {d : PyData} {ds es : List PyData} {k : Nat} {l a b : Addr} (h : env[k]? = some (ow2 l a b ds es)) (hv : Ed te env d) (hf : es.all flat = true) (f : flat d = true) (hz : es.length < 100000) (q : Sk K He (env.set k (ow2 l a b ds (es ++ [d]))) (tz D)) : Sk K He env (tSeq (tDrop (tBM K "list" rAppend (tOp (rIxL K) (tVar k) (tC (.int 1))) (tCons te tNil))) tz D) := sk_append2b (D := { D with nx := tz D }) h hv hf f hz q
theorem ed_notBl {K : PySem.W.Frag} {env : List (Sl K)} {ta tb : TE} {a c : Bool} (ha : Ed ta env (.bool a)) (hb : Ed tb env (.bool c)) : Ed (tOp rNotB ta tb) env (.bool (!decide (a = c))) := ed_op ha hb fun v w H hv hw Q q => by
  cases dp_bool hv
  cases dp_bool hw
  exact ⟨a, c, rfl, rfl, q _ H (Same.refl H) (.bl _)⟩
end Rs
namespace Rw
open PySem PySem.Spec L2 Rs RsS Rm
/-- the program's table of points -/
def known (ps : List Pt) : List (Pt × PyData) := ps.foldl (fun kvs p => putP kvs (swap p) (pT p)) []
theorem putP_keys (kvs : List (Pt × PyData)) (p : Pt) (d : PyData) : (putP kvs p d).map (·.1) = if (kvs.any fun kv => decide (kv.1 = p)) = true then kvs.map (·.1) else kvs.map (·.1) ++ [p] := by
  unfold putP
  split
  · rw [List.map_map]
    refine List.map_congr_left fun kv _ => ?_
    show (if kv.1 = p then (kv.1, d) else kv).1 = kv.1
    split <;> rfl
  · rw [List.map_append] <;> rfl
theorem any_key (kvs : List (Pt × PyData)) (p : Pt) : (kvs.any fun kv => decide (kv.1 = p)) = true ↔ p ∈ kvs.map (·.1) := by
  rw [List.any_eq_true, List.mem_map]
  constructor
  · rintro ⟨kv, h1, h2⟩
    exact ⟨kv, h1, of_decide_eq_true h2⟩
  · rintro ⟨kv, h1, h2⟩
    exact ⟨kv, h1, decide_eq_true h2⟩
theorem putP_mem {kvs : List (Pt × PyData)} {p x : Pt} {d : PyData} : x ∈ (putP kvs p d).map (·.1) ↔ x = p ∨ x ∈ kvs.map (·.1) := by
  rw [putP_keys]
  split
  · next h =>
    rw [any_key] at h
    constructor
    · exact .inr
    · rintro (rfl | z)
      · exact h
      · exact z
  · rw [List.mem_append, List.mem_singleton, or_comm]
theorem putP_nodup {kvs : List (Pt × PyData)} {p : Pt} {d : PyData} (h : (kvs.map (·.1)).Nodup) : ((putP kvs p d).map (·.1)).Nodup := by
  rw [putP_keys]
  split
  · exact h
  · next k =>
    rw [any_key] at k
    refine List.nodup_append.mpr ⟨h, List.nodup_cons.mpr ⟨List.not_mem_nil, List.nodup_nil⟩, fun a ha b hb e => ?_⟩
    rw [List.mem_singleton.mp hb] at e
    exact k (e ▸ ha)
def GoodK (kvs : List (Pt × PyData)) : Prop := (kvs.map (·.1)).Nodup ∧ ∀ kv ∈ kvs, kv.2 = pT (swap kv.1)
theorem good_put {kvs : List (Pt × PyData)} (h : GoodK kvs) (p : Pt) : GoodK (putP kvs (swap p) (pT p)) := by
  refine ⟨putP_nodup h.1, fun kv hk => ?_⟩
  unfold putP at hk
  split at hk
  · obtain ⟨e, he, rfl⟩ := List.mem_map.mp hk
    split
    · next z =>
      simp only
      rw [z, swap_swap]
    · exact h.2 e he
  · rcases List.mem_append.mp hk with hk | hk
    · exact h.2 kv hk
    · rw [List.mem_singleton.mp hk]
      simp only
      rw [swap_swap]
theorem known_fold : ∀ (ps : List Pt) (kvs : List (Pt × PyData)), GoodK kvs → GoodK (ps.foldl (fun kvs p => putP kvs (swap p) (pT p)) kvs) ∧ ∀ x, x ∈ (ps.foldl (fun kvs p => putP kvs (swap p) (pT p)) kvs).map (·.1) ↔ x ∈ kvs.map (·.1) ∨ x ∈ ps.map swap
  | [], kvs, h => ⟨h, fun x => by simp⟩
  | p :: ps, kvs, h => by
    obtain ⟨h1, h2⟩ := known_fold ps (putP kvs (swap p) (pT p)) (good_put h p)
    refine ⟨h1, fun x => ?_⟩
    show x ∈ (ps.foldl (fun kvs p => putP kvs (swap p) (pT p)) (putP kvs (swap p) (pT p))).map (·.1) ↔ _
    rw [h2, putP_mem, List.map_cons, List.mem_cons]
    constructor
    · rintro ((h | h) | h)
      · exact .inr (.inl h)
      · exact .inl h
      · exact .inr (.inr h)
    · rintro (h | h | h)
      · exact .inl (.inr h)
      · exact .inl (.inl h)
      · exact .inr h
theorem known_good (ps : List Pt) : GoodK (known ps) ∧ ∀ x, x ∈ (known ps).map (·.1) ↔ x ∈ ps.map swap := by
  obtain ⟨h1, h2⟩ := known_fold ps [] ⟨List.nodup_nil, fun _ h => nomatch h⟩
  refine ⟨h1, fun x => ?_⟩
  show x ∈ (ps.foldl (fun kvs p => putP kvs (swap p) (pT p)) []).map (·.1) ↔ _
  rw [h2]
  simp
theorem valP_of {kvs : List (Pt × PyData)} (h : GoodK kvs) {p : Pt} (hp : p ∈ kvs.map (·.1)) : valP kvs p = some (pT (swap p)) := by
  unfold valP
  cases e : kvs.find? fun kv => decide (kv.1 = p) with
  | none =>
    rw [List.find?_eq_none] at e
    obtain ⟨kv, h1, h2⟩ := List.mem_map.mp hp
    exact absurd (decide_eq_true h2) (e kv h1)
  | some kv =>
    have h1 : kv.1 = p := by
      have := List.find?_some e
      simpa using this
    have h2 := h.2 kv (List.mem_of_find?_eq_some e)
    show some kv.2 = _
    rw [h2, h1]
theorem known_len (ps : List Pt) : (known ps).length ≤ ps.length := by
  have key : ∀ (ps : List Pt) (kvs : List (Pt × PyData)), (ps.foldl (fun kvs p => putP kvs (swap p) (pT p)) kvs).length ≤ kvs.length + ps.length := by
    intro ps
    induction ps with
    | nil => intro kvs; exact Nat.le_refl _
    | cons p ps ih =>
      intro kvs
      have h1 := ih (putP kvs (swap p) (pT p))
      have h2 := putP_len kvs (swap p) (pT p)
      show (ps.foldl (fun kvs p => putP kvs (swap p) (pT p)) (putP kvs (swap p) (pT p))).length ≤ _
      rw [List.length_cons]
      omega
  have := key ps []
  rw [List.length_nil, Nat.zero_add] at this
  exact this
end Rw
namespace Rw
open PySem PySem.Spec L2 Rs RsS Rm
def asked19 (way : Int) (c d : List Pt) : List Pt := if way = 0 then hull c else if way = 1 then sidesBy c else if way = 2 then Rm.together c d else greaterP c (way - 3)
def R_law_asked19 : List PyData → List PyData → Prop := fun ds out => ∃ (way : Int) (c d : List Pt), c.length ≤ 40 ∧ d.length ≤ 40 ∧ Sms 2000 c ∧ Sms 2000 d ∧ IsShape c ∧ IsShape d ∧ (0 ≤ way ∧ way < 6) ∧ ds = [.int way, psD c, psD d] ∧ out = (asked19 way c d).map pT
theorem edl_asked19 {K : PySem.W.Frag} {env : List (Sl K)} {tw ta tb : TE} {way : Int} {c d : List Pt} (hw : Ed tw env (.int way)) (ha : Ed ta env (psD c)) (hb : Ed tb env (psD d)) (h1 : c.length ≤ 40) (h2 : d.length ≤ 40) (h3 : Sms 2000 c) (h4 : Sms 2000 d) (h5 : IsShape c) (h6 : IsShape d) (h7 : 0 ≤ way ∧ way < 6) : EdL (tCall (spL K R_law_asked19) [] E0 (tCons tw (tCons ta (tCons tb tNil)))) env ((asked19 way c d).map pT) := edl_call (eda_cons hw (eda_cons ha (eda_cons hb eda_nil))) ⟨way, c, d, h1, h2, h3, h4, h5, h6, h7, rfl, rfl⟩
end Rw
namespace Rs
open PySem PySem.Spec PyProof.Rows L2 RsS
section
variable {K : PySem.W.Frag} {He He0 : Hp} {env : List (Sl K)} {te : TE} {tz : TS} {D : Ends} {ds : List PyData}
/-- a list that was made since He0 and stands in the base -/
def pl (He0 : Hp) (ds : List PyData) : Sl K := ⟨fun H0 _ o => ∃ p vs, o = some (.ref p) ∧ H0 p = some (.lst vs) ∧ DpAll K H0 vs ds ∧ He0 p = none, [],
  fun e _ _ _ ⟨p, vs, h1, h2, h3, h4⟩ => ⟨p, vs, h1, e _ _ h2, dpa_mono e ds h3, h4⟩, fun _ _ h => nomatch h⟩
theorem edk_pl {k : Nat} (h : env[k]? = some (pl He0 ds)) : EdK (tVar k) env ds := fun H0 σ H e Q q => by
  obtain ⟨o, h1, p, vs, rfl, h2, h3, _⟩ := e.get h
  exact ⟨_, h1, q p vs H (Same.refl H) (e.sm _ _ h2) (dpa_mono e.sm ds h3)⟩
theorem ed_pl {k : Nat} (h : env[k]? = some (pl He0 ds)) : Ed (tVar k) env (.list ds) := ed_ofK (edk_pl h)
theorem sk_asgPL {k : Nat} (h : EdL te env ds) (f : ds.all flat = true) (hs : Same He0 He) (q : Sk K He (env.set k (pl He0 ds)) D.nx) : Sk K He env (tAsg te (gName k) D) := fun H0 σ H b e =>
  h H0 σ H e _ fun p vs H2 hp e2 h1 h2 => by
    have e' := e.same e2
    refine q _ _ H2 (b.trans e'.base_same) (e'.base.set (s := pl He0 ds) rfl ⟨p, vs, rfl, ?_, dpa_flat e'.base_T f h2, ((hs.trans b).trans e.sm).free hp⟩ k)
    rw [bas_out (e.not_own hp)]
    exact h1
theorem q_asgPL {k : Nat} (h : EdL te env ds) (f : ds.all flat = true) (hs : Same He0 He) (q : Sk K He (env.set k (pl He0 ds)) (tz D)) : Sk K He env (tSeq (tAsg te (gName k)) tz D) := sk_asgPL (D := { D with nx := tz D }) h f hs q
theorem sk_retPL {k : Nat} (h : env[k]? = some (pl He ds)) (q : ∀ p vs H, He p = none → Same He H → H p = some (.lst vs) → DpAll K H vs ds → D.rt (.ref p) H) : Sk K He env (tRet (tVar k) D) := fun H0 σ H b e => by
  obtain ⟨o, h1, p, vs, rfl, h2, h3, h4⟩ := e.get h
  exact ⟨_, h1, q p vs H h4 (b.trans e.sm) (e.sm _ _ h2) (dpa_mono e.sm ds h3)⟩
end
end Rs
namespace Rw
open PySem PySem.Spec L2 Rs RsS Rm
theorem pairs_len (c d : List Pt) : (pairs c d).length = c.length * d.length := by
  unfold pairs
  rw [List.length_flatMap]
  induction c with
  | nil => simp
  | cons a l ih => rw [List.map_cons, List.sum_cons, ih, List.length_map, List.length_cons, Nat.add_mul, Nat.one_mul, Nat.add_comm]
end Rw
namespace Rw
open PySem PySem.Spec L2 Rs RsS Rm
theorem ed_own2 {K : PySem.W.Frag} {env : List (Sl K)} {k : Nat} {l a b : Addr} {ds es : List PyData} (h : env[k]? = some (ow2 l a b ds es)) : Ed (tVar k) env (.list [.list ds, .list es]) := fun H0 σ H e Q q => by
  obtain ⟨o, h1, rfl, f, g, h2, vs, ws, h3, h4, h5, h6⟩ := e.get h
  exact ⟨_, h1, q _ H (Same.refl H) (.lst (SqL.of h2) (.cons (dp_own h3 h4) (.cons (dp_own h5 h6) .nil)))⟩
abbrev ppD (c d : List Pt) : PyData := .list [psD c, psD d]
theorem shaped_pp (c d : List Pt) : SeqAt.shaped (ppD c d) = true := by
  have h1 : (ppD c d).canLay0 = true := by
    unfold ppD psD
    rw [PyData.canLay0, PyData.canLayAll0, PyData.canLayAll0, PyData.canLayAll0, PyData.canLay0, PyData.canLay0, lay_ps, lay_ps] <;> rfl
  have h2 : (ppD c d).depth ≤ 64 := by
    unfold ppD psD
    rw [PyData.depth, PyData.depthAll, PyData.depthAll, PyData.depthAll, PyData.depth, PyData.depth]
    have := depth_ps c
    have := depth_ps d
    omega
  unfold SeqAt.shaped
  rw [h1, decide_eq_true h2]
  rfl
theorem eqv_pp (a b c d : List Pt) : PyData.eqv (ppD a b) (ppD c d) = (decide (a = c) && decide (b = d)) := by
  unfold ppD
  rw [PyData.eqv, PyData.eqvAll, PyData.eqvAll, PyData.eqvAll, eqv_ps, eqv_ps, Bool.and_true]
theorem lawShape_len2 (ns : List Int) (a : Nat) {m : Int} (hm : 0 < m) : ((lawShape ns a m).length : Int) ≤ m := by
  have h := lawPoints_len ns a hm
  have hn : lawPoints ns a m ≠ [] := fun e => by
    rw [e] at h
    exact absurd h.1 (by decide)
  have := hull_len2 hn
  unfold lawShape
  omega
end Rw

/-! # for .. in d.items(), the keys tuples -/
namespace RsI
open PySem PySem.Spec PyProof.Rows L2
section
variable {X : Cx} {pins : List (Addr × Obj)} {σ : L2.St} {H : Hp} {s : Shared} {d : Addr} {o : Obj}
/-- the entries of a locked dict with tuple keys: keys and values -/
theorem entriesT {kvs : List (List L2.Key × V)} (I : L2.Inv X pins σ H s) (h : H d = some (.frz o (.dT kvs))) :
    (d == sysModules) = false ∧ s.heap.get? d = some o ∧ o.ExactDict ∧ ∃ (es : Array DictEntry) (ep : Nat), o.data = .dict es ep ∧ es.size = kvs.length ∧
      ∀ (i : Nat) (k : List L2.Key) (v : V), kvs[i]? = some (k, v) → ∃ (en : DictEntry) (q : Addr), es[i]? = some en ∧ en.key = .ref q ∧ H q = some (.tup (k.map kV)) ∧ RelV v en.val := by
  obtain ⟨hs, hg, hx, es, ep, hdt, hz, _⟩ := I.frzT h
  refine ⟨hs, hg, hx, es, ep, hdt, hz, fun i k v e => ?_⟩
  obtain ⟨hg2, z, hs2, xs, pr, o2, es2, ep2, ho, hx2, hdt2, he, _⟩ := I.hok d _ h
  rw [hg2] at ho
  cases ho
  obtain ⟨e1, e2⟩ := dict_ep hdt hdt2
  subst e1
  obtain ⟨b, hb, g1, g2, g3⟩ := L2.paired_get pr e
  have q := entry_at he i
  rw [hb] at q
  exact ⟨_, b.2.1, q, rfl, g2, g3⟩
end
/-- the pairs of the locked dict at d, each a new tuple -/
def Itit (d : Addr) (o : Obj) (kvs : List (List L2.Key × V)) : It :=
  ⟨fun i H => H d = some (.frz o (.dT kvs)) ∧ i < kvs.length, fun i H x H' => ∃ T k v q, kvs[i]? = some (k, v) ∧ H q = some (.tup (k.map kV)) ∧ x = .ref T ∧ H T = none ∧ H' = upd H T (.tup [.ref q, v]), fun i H => H d = some (.frz o (.dT kvs)) ∧ kvs.length ≤ i⟩
theorem turn_itemsT {P : Program} {w : World} {K : PySem.W.Frag} {d : Addr} {o : Obj} {es : Array DictEntry} {ep : Nat} {kvs : List (List L2.Key × V)} {elts : List Expr} {kk : Nat} {tpos : Pos} (it : Addr) (hod : o.data = .dict es ep) :
    Turn P w K (.Tuple elts kk tpos) (Itit d o kvs) [it] it (fun i h => ∃ ok ov, IsItemIter h it d i kvs.length ep ok ov) where
  mem := by simp
  obj := fun i h st b hb => by
    obtain ⟨ok, ov, e⟩ := st
    rw [List.mem_singleton.mp hb]
    exact ⟨_, e, fun v z => nomatch z⟩
  keep := fun i h h' st k => by
    obtain ⟨ok, ov, e⟩ := st
    exact ⟨ok, ov, k it (by simp) _ e⟩
  item := by
    intro X hP hw hK hc i pins s σ H E I hf st hg
    subst hP hw hK
    obtain ⟨hd, hi⟩ := hg
    obtain ⟨hs, hgd, hx, es', ep', hdt, hsz, ent⟩ := entriesT I hd
    obtain ⟨rfl, rfl⟩ := dict_ep hod hdt
    obtain ⟨⟨k, v⟩, hkv⟩ : ∃ p, kvs[i]? = some p := ⟨kvs[i], List.getElem?_eq_getElem hi⟩
    obtain ⟨en, q, hen, hkey, hq, rv⟩ := ent i k v hkv
    obtain ⟨ok, ov, he⟩ := st
    rw [← hsz] at he
    have lt : it < s.heap.objs.size := Heap.lt_size he
    have hi2 : i < es'.size := by omega
    have een : es'[i] = en := by
      rw [Array.getElem?_eq_getElem hi2] at hen
      exact Option.some.inj hen
    refine DT.nextI he ⟨o, hgd, hx, hdt⟩ hi2 fun h' ho hT hz hk => ?_
    rw [een] at ho hT
    refine ⟨_, rfl, wpAny_letOwnedTupleGo_items (s := { s with heap := h' }) ho fun h'' he' sb => ?_⟩
    have hT2 : h''.get? s.heap.objs.size = some { cls := .type "tuple", data := .seq #[en.key, en.val] } := (sb.2 _ (Nat.ne_of_gt lt)).trans hT
    have new : ObjOk X.prog X.w (upd H s.heap.objs.size (.tup [.ref q, v])) h'' s.heap.objs.size (.tup [.ref q, v]) :=
      ⟨by show 2 ≤ sizeLine; decide, [en.key, en.val], .cons hkey (.cons rv .nil), ⟨_, hT2, rfl, _, rfl⟩⟩
    have I1 : L2.Inv X pins σ (upd H s.heap.objs.size (.tup [.ref q, v])) { s with heap := h'' } :=
      I.turnedNew (t' := s.toks) (ch := [it]) (fun b ob hb e => (sb.2 b (by simpa using hb)).trans (hk b ob (by simpa using hb) e)) hf (Nat.le_refl _) new
    refine ⟨.ref s.heap.objs.size, _, I1, rfl, ⟨_, k, v, q, hkv, hq, rfl, I.hok.fresh (Nat.le_refl _), rfl⟩, ⟨en.key, en.val, ?_⟩, fun b hb => ?_⟩
    · rw [← hsz]
      exact he'
    · rw [List.mem_singleton.mp hb, upd_ne (Nat.ne_of_lt lt)]
      exact (hf it (by simp)).1
  done := by
    intro X hP hw hK hc i pins s σ H E I hf st hg
    subst hP hw hK
    obtain ⟨hd, hi⟩ := hg
    obtain ⟨f0, f1, f2, f3, f4, f5⟩ := hf it (by simp)
    obtain ⟨hs, hgd, hx, es', ep', hdt, hsz, _⟩ := entriesT I hd
    obtain ⟨rfl, rfl⟩ := dict_ep hod hdt
    obtain ⟨ok, ov, he⟩ := st
    rw [← hsz] at he
    exact DT.endI (I.ok.hd hc) he ⟨o, hgd, hx, hdt⟩ (by omega) fun h' eb => ⟨rfl, I.turned (t' := s.toks) (fun b ob hb e => eb b ob hb e) f0 f1 f3 f4 f5⟩
  self := fun A i s Q E st h => by
    obtain ⟨_, _, e⟩ := st
    exact PySem.W.kcp_self e h
def iItemsT (td : TE) : TI := fun σ H R => td σ H fun x H1 => ∃ d o kvs, x = .ref d ∧ H1 d = some (.frz o (.dT kvs)) ∧ R (Itit d o kvs) H1
theorem pi_itemsT {X : Cx} {e : Expr} {td : TE} {apos cpos : Pos} {elts : List Expr} {kk : Nat} {tpos : Pos} (he : PE X e td) (hbase : attributeBase e "items" X.env (eval e X.env) = eval e X.env := by rfl) (hline : (apos.endLine == cpos.line) = true := by rfl) :
    PI X (.Tuple elts kk tpos) (.Call (.Attribute e "items" apos) [] [] cpos) (iItemsT td) := by
  refine ⟨fun pins s σ H R I h => ?_⟩
  refine wpAny_Call_method (T := "dict") (id := "dict.items") hbase rfl hline F.plainAttrs_dict F.slot_dict_items F.type_dict_items (thn (he.run pins s σ H _ I h) fun u s1 ⟨x, H1, I1, rx, d, o, kvs, ex, hd, q⟩ => ?_)
  subst ex
  obtain rfl : u = Value.ref d := rx
  obtain ⟨hs, hgd, hx, es, ep, hdt, hsz, _⟩ := entriesT I1 hd
  have raw : DT.Raw s1.heap d es ep := ⟨o, hgd, hx, hdt⟩
  refine ⟨raw.typeIs, fun b e => ?_, ?_⟩
  · cases e
    exact ⟨o, hgd, hx.2.1⟩
  have I2 : L2.Inv X pins σ H1 { s1 with heap := s1.heap.push { cls := .type "dict_items", data := .fields #[.ref d] } } := I1.kept (t' := s1.toks) fun b ob q => Heap.get?_push_of_some _ q
  have walk : wpAny (model X.prog X.w) X.A (pyIter (.ref s1.heap.objs.size)) (PIE X pins σ (.Tuple elts kk tpos) R) X.xe { s1 with heap := s1.heap.push { cls := .type "dict_items", data := .fields #[.ref d] } } := by
    refine DT.iterI (d := d) (es := es) (ep := ep) ⟨_, Heap.get?_push_size _ rfl, rfl, rfl⟩ (raw.push _) (pi_one (tk := s1.toks) I2 _ (turn_itemsT _ hdt) ⟨.none, .none, ?_⟩ q)
    rw [← hsz]
    exact Heap.get?_push_size _ rfl
  show wpAny _ _ (callWith cpos (.builtin "dict.items") [.ref d] [] []) _ X.xe s1
  exact method_meetsIn F.slot_dict_items F.entry_dict_items rfl (PySem.evalArgs_none ⟨rfl, raw.typeIs, F.args_dict_items_1 _, _, DT.meetsItems (es := es) (ep := ep) hs, ⟨raw, walk⟩⟩)
end RsI

/-! # loops over the pairs of a dict; dicts and pairs told by defs -/
namespace RsI
open PySem PySem.Spec PyProof.Rows L2
/-- the dict is locked as soon as it is there (a dict that nobody else holds) -/
def iItemsL (td : TE) : TI := fun σ H R => td σ H fun x H1 => ∃ d kvs, x = .ref d ∧ H1 d = some (.dT kvs) ∧ ∀ od, R (Itit d od kvs) (upd H1 d (.frz od (.dT kvs)))
theorem pi_itemsL {X : Cx} {e : Expr} {td : TE} {apos cpos : Pos} {elts : List Expr} {kk : Nat} {tpos : Pos} (he : PE X e td) (hbase : attributeBase e "items" X.env (eval e X.env) = eval e X.env := by rfl) (hline : (apos.endLine == cpos.line) = true := by rfl) :
    PI X (.Tuple elts kk tpos) (.Call (.Attribute e "items" apos) [] [] cpos) (iItemsL td) := by
  refine ⟨fun pins s σ H R I h => ?_⟩
  refine wpAny_Call_method (T := "dict") (id := "dict.items") hbase rfl hline F.plainAttrs_dict F.slot_dict_items F.type_dict_items (thn (he.run pins s σ H _ I h) fun u s1 ⟨x, H0, I0, rx, d, kvs, ex, hd0, q0⟩ => ?_)
  subst ex
  obtain rfl : u = Value.ref d := rx
  obtain ⟨o, I1⟩ := I0.lock hd0 True.intro
  have q := q0 o
  have hd : upd H0 d (.frz o (.dT kvs)) d = some (.frz o (.dT kvs)) := upd_same
  obtain ⟨hs, hgd, hx, es, ep, hdt, hsz, _⟩ := entriesT I1 hd
  have raw : DT.Raw s1.heap d es ep := ⟨o, hgd, hx, hdt⟩
  refine ⟨raw.typeIs, fun b e => ?_, ?_⟩
  · cases e
    exact ⟨o, hgd, hx.2.1⟩
  have I2 : L2.Inv X pins σ (upd H0 d (.frz o (.dT kvs))) { s1 with heap := s1.heap.push { cls := .type "dict_items", data := .fields #[.ref d] } } := I1.kept (t' := s1.toks) fun b ob q => Heap.get?_push_of_some _ q
  have walk : wpAny (model X.prog X.w) X.A (pyIter (.ref s1.heap.objs.size)) (PIE X pins σ (.Tuple elts kk tpos) R) X.xe { s1 with heap := s1.heap.push { cls := .type "dict_items", data := .fields #[.ref d] } } := by
    refine DT.iterI (d := d) (es := es) (ep := ep) ⟨_, Heap.get?_push_size _ rfl, rfl, rfl⟩ (raw.push _) (pi_one (tk := s1.toks) I2 _ (turn_itemsT _ hdt) ⟨.none, .none, ?_⟩ q)
    rw [← hsz]
    exact Heap.get?_push_size _ rfl
  show wpAny _ _ (callWith cpos (.builtin "dict.items") [.ref d] [] []) _ X.xe s1
  exact method_meetsIn F.slot_dict_items F.entry_dict_items rfl (PySem.evalArgs_none ⟨rfl, raw.typeIs, F.args_dict_items_1 _, _, DT.meetsItems (es := es) (ep := ep) hs, ⟨raw, walk⟩⟩)
theorem walk_itemsT {d : Addr} {o : Obj} {kvs : List (List L2.Key × V)} : Walk (Itit d o kvs) kvs.length (fun H => H d = some (.frz o (.dT kvs))) (fun i H x H' => ∃ T k v q, kvs[i]? = some (k, v) ∧ H q = some (.tup (k.map kV)) ∧ x = .ref T ∧ H T = none ∧ H' = upd H T (.tup [.ref q, v])) :=
  ⟨fun i H hi q => ⟨q, hi⟩, fun H q => ⟨q, Nat.le_refl _⟩, fun i H x H' _ _ y => y⟩
end RsI
namespace Rs
open PySem PySem.Spec PyProof.Rows L2 RsS RsI
open Rm (Pt)
section
variable {K : PySem.W.Frag} {env : List (Sl K)} {te ta tb td : TE} {p : Pt} {d : PyData} {m : Int} {kvs : List (Pt × PyData)}
/-- a new dict with pairs as keys -/
def EdD (te : TE) (env : List (Sl K)) (kvs : List (Pt × PyData)) : Prop := ∀ (H0 : Hp) (σ : L2.St) (H : Hp), En K H0 σ H env → ∀ Q : VK, (∀ p ents H2, H p = none → Same H H2 → H2 p = some (.dT ents) → Ents K H2 ents kvs → Q (.ref p) H2) → te σ H Q
def spK (K : PySem.W.Frag) (R : List PyData → List (Pt × PyData) → Prop) : Sp := fun vs H Q _ => ∃ ds kvs, R ds kvs ∧ DpAll K H vs ds ∧ ∀ p ents H', H p = none → Same H H' → H' p = some (.dT ents) → Ents K H' ents kvs → Q (.ref p) H'
theorem edd_call {R : List PyData → List (Pt × PyData) → Prop} {E : XK} {ta : TA} {ds : List PyData} (ha : EdA ta env ds) (hR : R ds kvs) : EdD (tCall (spK K R) [] E ta) env kvs := fun H0 σ H e Q q =>
  ha H0 σ H e _ fun vs H2 e2 dv => by
    rw [List.append_nil]
    exact ⟨ds, kvs, hR, dv, fun p ents H3 hp e3 h1 h2 => q p ents H3 (e2.free hp) (e2.trans e3) h1 h2⟩
/-- a new pair of a pair and a whole number -/
def EdU (te : TE) (env : List (Sl K)) (p : Pt) (m : Int) : Prop := ∀ (H0 : Hp) (σ : L2.St) (H : Hp), En K H0 σ H env → ∀ Q : VK, (∀ t q H2, Same H H2 → H2 t = some (.tup [.ref q, .int m]) → H2 q = some (.tup [.int p.1, .int p.2]) → Q (.ref t) H2) → te σ H Q
def spU (K : PySem.W.Frag) (R : List PyData → Pt × Int → Prop) : Sp := fun vs H Q _ => ∃ ds pm, R ds pm ∧ DpAll K H vs ds ∧ ∀ t q H', Same H H' → H' t = some (.tup [.ref q, .int pm.2]) → H' q = some (.tup [.int pm.1.1, .int pm.1.2]) → Q (.ref t) H'
theorem edu_call {R : List PyData → Pt × Int → Prop} {E : XK} {ta : TA} {ds : List PyData} (ha : EdA ta env ds) (hR : R ds (p, m)) : EdU (tCall (spU K R) [] E ta) env p m := fun H0 σ H e Q q =>
  ha H0 σ H e _ fun vs H2 e2 dv => by
    rw [List.append_nil]
    exact ⟨ds, (p, m), hR, dv, fun t u H3 e3 h1 h2 => q t u H3 (e2.trans e3) h1 h2⟩
end
section
variable {K : PySem.W.Frag} {He : Hp} {env : List (Sl K)} {te ta tb td : TE} {t u tz : TS} {D : Ends} {d : PyData} {p : Pt} {m : Int} {kvs : List (Pt × PyData)}
theorem sk_retD {k : Nat} {l : Addr} (h : env[k]? = some (dic l kvs)) (q : ∀ p ents H, He p = none → Same He H → H p = some (.dT ents) → Ents K H ents kvs → D.rt (.ref p) H) : Sk K He env (tRet (tVar k) D) := fun H0 σ H b e => by
  obtain ⟨o, h1, rfl, f, ents, h3, h4⟩ := e.get h
  exact ⟨_, h1, q l ents H (b.free (e.fr l (mem_owns (List.mem_of_getElem? h) (List.mem_singleton.mpr rfl)))) (b.trans e.sm) h3 h4⟩
theorem sk_retU (ha : EdH ta env p) (hb : Ed tb env (.int m)) (q : ∀ t u H, Same He H → H t = some (.tup [.ref u, .int m]) → H u = some (.tup [.int p.1, .int p.2]) → D.rt (.ref t) H) : Sk K He env (tRet (tTup (tCons ta (tCons tb tNil))) D) := fun H0 σ H b e =>
  ha H0 σ H e _ fun u H1 e1 h1 => hb H0 σ H1 (e.same e1) _ fun v H2 e2 dv => by
    cases dp_int dv
    exact ⟨by show 2 ≤ sizeLine; decide, fun t ht => q t u _ (((b.trans e.sm).trans (e1.trans e2)).trans (same_new ht)) upd_same (same_new ht _ _ (e2 _ _ h1))⟩
theorem sk_unp {k j : Nat} (h : EdU te env p m) (q : Sk K He ((env.set k (hp p)).set j (fl (.int m))) D.nx) : Sk K He env (tAsg te (gTup K 2 (gCons (gName k) (gCons (gName j) gNil))) D) := fun H0 σ H b e =>
  h H0 σ H e _ fun t u H2 e2 h1 h2 => by
    refine ⟨t, _, rfl, SqT.of h1, rfl, _, _, rfl, _, _, rfl, rfl, ?_⟩
    exact q H0 _ H2 b (((e.same e2).set (s := hp p) rfl ⟨u, rfl, h2⟩ k).set (s := fl (.int m)) rfl ⟨rfl, _, rfl, .int m⟩ j)
theorem q_unp {k j : Nat} (h : EdU te env p m) (q : Sk K He ((env.set k (hp p)).set j (fl (.int m))) (tz D)) : Sk K He env (tSeq (tAsg te (gTup K 2 (gCons (gName k) (gCons (gName j) gNil)))) tz D) := sk_unp (D := { D with nx := tz D }) h q
/-- over the pairs of a new dict -/
theorem sk_forItems {k j : Nat} (hd : EdD td env kvs) (f : ∀ kd ∈ kvs, flat kd.2 = true) (I : Nat → List (Sl K)) (P : Nat → Prop) (h0 : env = I 0) (p0 : P 0)
    (hs : ∀ (He' : Hp), Same He He' → ∀ i p d, kvs[i]? = some (p, d) → P i → Sk K He' (((I i).set k (hp p)).set j (fl d)) (t { D with nx := Nx K He' (fun e => e = I (i + 1) ∧ P (i + 1)), ct := Nx K He' (fun e => e = I (i + 1) ∧ P (i + 1)), bk := D.nx }))
    (hdn : P kvs.length → Sk K He (I kvs.length) D.nx) : Sk K He env (tFor (iItemsL td) (gTup K 2 (gCons (gName k) (gCons (gName j) gNil))) t D) := fun H0 σ H b e =>
  hd H0 σ H e _ fun p ents H2 hp' e2 h1 h2 => by
    refine ⟨p, ents, rfl, h1, fun od => ?_⟩
    have e' := e.same e2
    have np : p ∉ owns env := e.not_own hp'
    have st : SameT H2 (upd H2 p (.frz od (.dT ents))) := SameT.upd h1 trivial
    have eL : En K H0 σ (upd H2 p (.frz od (.dT ents))) env := e'.step (Same.refl _) (same_mut e'.sm (e.sm.free hp')) st (fun a ha v hv => by
      rw [upd_ne (show a ≠ p from fun z => np (by rw [← z]; exact ha))]
      exact hv) e'.fr
    have hB : (bas (upd H2 p (.frz od (.dT ents))) (owns env)) p = some (.frz od (.dT ents)) := by
      rw [bas_out np, upd_same]
    have bb := b.trans eL.base_same
    have hk : ∀ i q v, ents[i]? = some (q, v) → ∃ pt d, kvs[i]? = some (pt, d) ∧ q = kP pt ∧ Dp K (bas (upd H2 p (.frz od (.dT ents))) (owns env)) v d ∧ flat d = true := fun i q v hi => by
      obtain ⟨kd, g1, g2, g3⟩ := L2.paired_get h2 hi
      have ff := f kd (List.mem_of_getElem? g1)
      exact ⟨kd.1, kd.2, g1, g2, dp_flat eL.base_T ff (dp_flat st ff g3), ff⟩
    have hlen := h2.len
    subst h0
    refine for_it walk_itemsT (fun i => Nx K (bas (upd H2 p (.frz od (.dT ents))) (owns (I 0))) (fun e => e = I i ∧ P i)) ⟨_, _, Same.refl _, ⟨rfl, p0⟩, eL.base⟩ (fun i σ' H' _ q => ?_) (fun i x σ' H' H'' hi q y => ?_) (fun σ' H' q => ?_)
    · obtain ⟨H0', env', s0, _, e3⟩ := q
      exact e3.sm _ _ (s0 _ _ hB)
    · obtain ⟨H0', env', s0, ⟨rfl, pi⟩, e3⟩ := q
      obtain ⟨T, key, v, qq, y1, y2, rfl, y3, rfl⟩ := y
      obtain ⟨pt, d, g1, rfl, g3, ff⟩ := hk i key v y1
      have sn : Same H' (upd H' T (.tup [.ref qq, v])) := same_new y3
      refine ⟨T, _, rfl, SqT.of upd_same, rfl, _, _, rfl, _, _, rfl, rfl, ?_⟩
      exact hs _ bb i pt d g1 pi H0' _ _ s0 (((e3.same sn).set (s := hp pt) rfl ⟨qq, rfl, sn _ _ y2⟩ k).set (s := fl d) rfl ⟨ff, v, rfl, dp_mono ((s0.trans e3.sm).trans sn) d g3⟩ j)
    · obtain ⟨H0', env', s0, ⟨rfl, pi⟩, e3⟩ := q
      rw [hlen] at e3 pi
      exact hdn pi H0' σ' H' (bb.trans s0) e3
theorem q_forItems {k j : Nat} (hd : EdD td env kvs) (f : ∀ kd ∈ kvs, flat kd.2 = true) (I : Nat → List (Sl K)) (P : Nat → Prop) (h0 : env = I 0) (p0 : P 0)
    (hs : ∀ (He' : Hp), Same He He' → ∀ i p d, kvs[i]? = some (p, d) → P i → Sk K He' (((I i).set k (hp p)).set j (fl d)) (t { D with nx := Nx K He' (fun e => e = I (i + 1) ∧ P (i + 1)), ct := Nx K He' (fun e => e = I (i + 1) ∧ P (i + 1)), bk := tz D }))
    (hdn : P kvs.length → Sk K He (I kvs.length) (tz D)) : Sk K He env (tSeq (tFor (iItemsL td) (gTup K 2 (gCons (gName k) (gCons (gName j) gNil))) t) tz D) := sk_forItems (D := { D with nx := tz D }) hd f I P h0 p0 hs hdn
end
section
variable {P : Program} {w : World} {K : PySem.W.Frag} {mg : Str → Option Value} {base : Heap} {x qual : Str} {st : Stmt} {f : Addr} {fd : FuncData} {N ps : List Str} {k : Nat}
theorem okK {R : List PyData → List (Pt × PyData) → Prop} (F : Fun K x qual st f fd) (S : FnScope N ps (defScope st)) (hl : ∀ ds d, R ds d → ds.length = ps.length)
    (hb : ∀ (cdv : Value) (A : Around) (outer : List Env) (s : Shared) (H : Hp) (E : XK) (ds : List PyData) (d : List (Pt × PyData)), Room k (A.deeper (envOfC qual (defScope st) s.heap.objs.size f cdv)) → R ds d →
      ∃ t, PSs (cxOf CX0 P w K mg base N qual (defScope st) f cdv A outer s H E).nox (defBody st) t ∧
        ∀ Q : VK, (∀ p ents H', H p = none → Same H H' → H' p = some (.dT ents) → Ents K H' ents d → Q (.ref p) H') → Sk K H (ds.map par ++ List.replicate (N.length - ds.length) un) (t { nx := fun _ H' => Q .non H', rt := Q })) : FnOk P w K mg base CX0 (k + 1) f fd ps (spK K R) := by
  refine F.ok S (fun vs H Q E h => ?_) (fun cdv A outer s H vs Q E hr h => ?_)
  · obtain ⟨ds, d, hR, hds, _⟩ := h
    rw [dpa_len hds, hl ds d hR]
  · obtain ⟨ds, d, hR, hds, q⟩ := h
    obtain ⟨t, h1, h2⟩ := hb cdv A outer s H E ds d hr hR
    exact ⟨t, h1, h2 Q q H _ H (Same.refl H) (en_start hds)⟩
theorem okU {R : List PyData → Pt × Int → Prop} (F : Fun K x qual st f fd) (S : FnScope N ps (defScope st)) (hl : ∀ ds d, R ds d → ds.length = ps.length)
    (hb : ∀ (cdv : Value) (A : Around) (outer : List Env) (s : Shared) (H : Hp) (E : XK) (ds : List PyData) (d : Pt × Int), Room k (A.deeper (envOfC qual (defScope st) s.heap.objs.size f cdv)) → R ds d →
      ∃ t, PSs (cxOf CX0 P w K mg base N qual (defScope st) f cdv A outer s H E).nox (defBody st) t ∧
        ∀ Q : VK, (∀ t u H', Same H H' → H' t = some (.tup [.ref u, .int d.2]) → H' u = some (.tup [.int d.1.1, .int d.1.2]) → Q (.ref t) H') → Sk K H (ds.map par ++ List.replicate (N.length - ds.length) un) (t { nx := fun _ H' => Q .non H', rt := Q })) : FnOk P w K mg base CX0 (k + 1) f fd ps (spU K R) := by
  refine F.ok S (fun vs H Q E h => ?_) (fun cdv A outer s H vs Q E hr h => ?_)
  · obtain ⟨ds, d, hR, hds, _⟩ := h
    rw [dpa_len hds, hl ds d hR]
  · obtain ⟨ds, d, hR, hds, q⟩ := h
    obtain ⟨t, h1, h2⟩ := hb cdv A outer s H E ds d hr hR
    exact ⟨t, h1, h2 Q q H _ H (Same.refl H) (en_start hds)⟩
end
end Rs
namespace Rs
open PySem PySem.Spec PyProof.Rows L2 RsS
section
variable {K : PySem.W.Frag} {He : Hp} {env : List (Sl K)} {te ta tb : TE} {tz : TS} {D : Ends} {ds es : List PyData} {i : Int}
/-- l.extend(a new list) -/
theorem sk_extend {k : Nat} {l : Addr} (hk : env[k]? = some (own l ds)) (h : EdL te env es) (f : es.all flat = true) (hz : ds.length + es.length ≤ 100000) (q : Sk K He (env.set k (own l (ds ++ es))) D.nx) : Sk K He env (tDrop (tBM K "list" rExtend (tVar k) (tCons te tNil)) D) := fun H0 σ H b e => by
  obtain ⟨o, h1, rfl, fl1, vs, h3, h4⟩ := e.get hk
  refine ⟨_, h1, .inl ⟨rfl, vs, SqL.of h3⟩, h H0 σ H e _ fun p us H2 hp e2 g1 g2 => ?_⟩
  have h3' := e2 _ _ h3
  have st : SameT H2 (upd H2 l (.lst (vs ++ us))) := SameT.upd h3' trivial
  refine ⟨l, p, vs, us, rfl, rfl, h3', g1, by rw [dpa_len h4, dpa_len g2]; exact Nat.le_trans hz (by decide), ?_⟩
  refine q H0 σ _ b ((e.same e2).upd (s' := own l (ds ++ es)) hk rfl rfl fun o ho => ?_)
  rw [h1] at ho
  cases ho
  refine ⟨rfl, by rw [List.all_append, fl1, f] <;> rfl, _, upd_same, ?_⟩
  exact dpa_append (dpa_flat st fl1 (dpa_mono e2 _ h4)) (dpa_flat st f g2)
/-- a list times a whole number -/
theorem edl_rep (ha : EdL ta env ds) (hb : Ed tb env (.int i)) (hi : -100000 ≤ i ∧ i ≤ 100000) (hz : ds.length * i.toNat ≤ 100000) : EdL (tOp rRep ta tb) env (List.replicate i.toNat ds).flatten := fun H0 σ H e Q q =>
  ha H0 σ H e _ fun p vs H2 hp e2 g1 g2 => hb H0 σ H2 (e.same e2) _ fun v H3 e3 dv => by
    refine ⟨p, i, vs, rfl, dp_int dv, e3 _ _ g1, by omega, by omega, by rw [dpa_len g2]; exact Nat.le_trans hz (by decide), fun r hr => ?_⟩
    have g3 : ∀ n : Nat, DpAll K H3 (List.replicate n vs).flatten (List.replicate n ds).flatten := by
      intro n
      induction n with
      | zero => exact .nil
      | succ n ih =>
        rw [List.replicate_succ, List.replicate_succ, List.flatten_cons, List.flatten_cons]
        exact dpa_append (dpa_mono e3 _ g2) ih
    exact q r _ _ ((e2.trans e3).free hr) ((e2.trans e3).trans (same_new hr)) upd_same (dpa_mono (same_new hr) _ (g3 i.toNat))
end
end Rs
namespace Rw
open PySem PySem.Spec L2 Rs RsS Rm
def lenK (A : List Pt) : List (Pt × PyData) := A.map fun a => (unitP a, .int (gcdP a))
theorem lenK_put {A : List Pt} {a : Pt} (h : unitP a ∉ A.map unitP) : putP (lenK A) (unitP a) (.int (gcdP a)) = lenK (A ++ [a]) := by
  have hk : (lenK A).map (·.1) = A.map unitP := by
    unfold lenK
    rw [List.map_map] <;> rfl
  unfold putP
  rw [if_neg]
  · unfold lenK
    rw [List.map_append] <;> rfl
  · rw [any_key, hk]
    exact h
theorem lenK_len (A : List Pt) : (lenK A).length = A.length := List.length_map ..
theorem lenK_flat (A : List Pt) : ∀ kd ∈ lenK A, flat kd.2 = true := fun kd h => by
  obtain ⟨a, _, rfl⟩ := List.mem_map.mp h
  rfl
theorem lenK_get {A : List Pt} {i : Nat} {p : Pt} {d : PyData} (h : (lenK A)[i]? = some (p, d)) : i < A.length ∧ p = unitP (at_ A i) ∧ d = .int (gcdP (at_ A i)) := by
  have hi : i < A.length := by
    have := (List.getElem?_eq_some_iff.mp h).1
    rw [lenK_len] at this
    exact this
  unfold lenK at h
  rw [List.getElem?_map, at_get hi] at h
  cases h
  exact ⟨hi, rfl, rfl⟩
end Rw

/-! # a comprehension over the pairs of an own dict, that is forgotten then -/
namespace Rs
open PySem PySem.Spec PyProof.Rows L2 RsS RsI
open Rm (Pt)
section
variable {K : PySem.W.Frag} {He : Hp} {env : List (Sl K)} {te : TE} {tt : TT} {tz : TS} {D : Ends} {kvs : List (Pt × PyData)}
theorem not_after : ∀ {env : List (Sl K)} {k : Nat} {s : Sl K} {l : Addr}, env[k]? = some s → l ∈ s.as → (owns env).Nodup → l ∉ owns (env.set k un)
  | [], _, _, _, h, _, _ => by simp at h
  | t :: env, 0, s, l, h, hl, nd => by
    simp at h
    subst h
    rw [List.set_cons_zero, owns_cons]
    rw [owns_cons] at nd
    intro hm
    rcases List.mem_append.mp hm with z | z
    · cases z
    · exact (List.nodup_append.mp nd).2.2 l hl l z rfl
  | t :: env, k + 1, s, l, h, hl, nd => by
    rw [List.set_cons_succ, owns_cons]
    rw [owns_cons] at nd
    have h' : env[k]? = some s := by simpa using h
    obtain ⟨n1, n2, n3⟩ := List.nodup_append.mp nd
    intro hm
    rcases List.mem_append.mp hm with z | z
    · exact n3 l z l (mem_owns (List.mem_of_getElem? h') hl) rfl
    · exact not_after h' hl n2 z
/-- a dict's unlocking turns no flat data -/
theorem dp_unlock {H : Hp} {l : Addr} {od : Obj} {ents : List (List L2.Key × V)} (hl : H l = some (.frz od (.dT ents))) : ∀ {d : PyData} {v : V}, flat d = true → Dp K H v d → Dp K (upd H l (.dT ents)) v d := by
  intro d v f h
  cases h with
  | non => exact .non
  | bl b => exact .bl b
  | int i => exact .int i
  | str x => exact .str x
  | lst _ _ => cases f
  | @tup a xs ds h1 h2 =>
    refine .tup ?_ (dpa_flat0 f h2)
    rcases h1 with h1 | h1
    · left
      rcases h1 with h1 | ⟨o, h1⟩
      · left
        rw [upd_ne (fun z => by rw [z, hl] at h1; cases h1)]
        exact h1
      · right
        refine ⟨o, ?_⟩
        rw [upd_ne (fun z => by rw [z, hl] at h1; cases h1)]
        exact h1
    · exact .inr h1
theorem dpa_unlock {H : Hp} {l : Addr} {od : Obj} {ents : List (List L2.Key × V)} (hl : H l = some (.frz od (.dT ents))) : ∀ {ds : List PyData} {vs : List V}, ds.all flat = true → DpAll K H vs ds → DpAll K (upd H l (.dT ents)) vs ds
  | [], _, _, .nil => .nil
  | d :: ds, _, f, .cons h t => by
    rw [List.all_cons, Bool.and_eq_true] at f
    exact .cons (dp_unlock hl f.1 h) (dpa_unlock hl f.2 t)
theorem sk_itemsLc {k i j m : Nat} {l : Addr} {os : List (Option PyData)} (h : env[k]? = some (dic l kvs)) (hij : i ≠ j) (hf : (kept os).all flat = true) (hz : os.length ≤ 100000) (hl : os.length = kvs.length)
    (ht : ∀ (n : Nat) (p : Pt) (d : PyData) (oo : Option PyData), kvs[n]? = some (p, d) → os[n]? = some oo → EdT tt (((wipeE (env.set k un) [i, j]).set i (hp p)).set j (fl d)) oo.isSome) (he : ∀ (n : Nat) (p : Pt) (d o : PyData), kvs[n]? = some (p, d) → os[n]? = some (some o) → Ed te (((wipeE (env.set k un) [i, j]).set i (hp p)).set j (fl d)) o)
    (q : Sk K He (env.set m (par (.list (kept os)))) D.nx) : Sk K He env (tLock (tAsg (tLc (iItemsT (tVar k)) (gTup K 2 (gCons (gName i) (gCons (gName j) gNil))) tt te [i, j]) (gName m)) D) := fun H0 σ H b e => by
  obtain ⟨o, h1, rfl, f, ents, h2, h3⟩ := e.get h
  have hlo : l ∈ owns env := mem_owns (List.mem_of_getElem? h) (List.mem_singleton.mpr rfl)
  have hl0 : H0 l = none := e.fr l hlo
  have nl : l ∉ owns (env.set k un) := not_after h (List.mem_singleton.mpr rfl) e.nd
  refine ⟨l, .dT ents, h2, True.intro, fun od => ?_⟩
  have e1 : En K H0 σ H (env.set k un) := e.kill1 k
  have st : SameT H (upd H l (.frz od (.dT ents))) := SameT.upd h2 trivial
  have eL : En K H0 σ (upd H l (.frz od (.dT ents))) (env.set k un) := e1.step (Same.refl _) (same_mut e1.sm hl0) st (fun a ha v hv => by
    rw [upd_ne (show a ≠ l from fun z => nl (by rw [← z]; exact ha))]
    exact hv) e1.fr
  refine ⟨_, h1, l, od, ents, rfl, upd_same, fun Dl hD => lc_it walk_itemsT (Cw K (upd H l (.frz od (.dT ents))) os Dl) (cw_zero hD) (fun n H' _ c => c.2.1 _ _ upd_same) (fun n x H' H'' hn c y => ?_) (fun H' c => ?_)⟩
  · obtain ⟨T, key, v, qq, y1, y2, rfl, y3, rfl⟩ := y
    obtain ⟨kd, g1, g2, g3⟩ := L2.paired_get h3 y1
    have ff := f kd (List.mem_of_getElem? g1)
    have hlt : n < os.length := by
      rw [hl]
      exact (List.getElem?_eq_some_iff.mp g1).1
    have sn : Same H' (upd H' T (.tup [.ref qq, v])) := same_new y3
    obtain ⟨c1, c2, us, c3, c4⟩ := c
    have c' : Cw K (upd H l (.frz od (.dT ents))) os Dl n (upd H' T (.tup [.ref qq, v])) := ⟨c1, c2.trans sn, us, sn _ _ c3, dpa_mono sn _ c4⟩
    have en1 := ((eL.same c2).same sn).wipe [i, j]
    have dv : Dp K (upd H' T (.tup [.ref qq, v])) v kd.2 := dp_mono (c2.trans sn) _ (dp_flat st ff g3)
    have key2 : H' qq = some (.tup [.int kd.1.1, .int kd.1.2]) := by
      rw [show key = kP kd.1 from g2] at y2
      exact y2
    have en2 := (en1.set (s := hp kd.1) rfl ⟨qq, rfl, sn _ _ key2⟩ i).set (s := fl kd.2) rfl ⟨ff, v, rfl, dv⟩ j
    refine ⟨T, _, rfl, SqT.of upd_same, rfl, _, _, rfl, _, _, rfl, rfl, ?_⟩
    refine ⟨by rw [wipe_set (by simp), wipe_set (by simp), wipe_wipe], ?_⟩
    obtain ⟨oo, ho⟩ : ∃ oo, os[n]? = some oo := ⟨_, List.getElem?_eq_getElem hlt⟩
    exact cw_turn hf hz ho c' en2 (ht n kd.1 kd.2 oo g1 ho) (fun o eo => he n kd.1 kd.2 o g1 (by rw [ho, eo]))
  · obtain ⟨c1, c2, us, c3, c4⟩ := c
    have hlen : ents.length = os.length := by rw [h3.len, hl]
    rw [hlen, List.take_length] at c4
    have hlf : H' l = some (.frz od (.dT ents)) := c2 _ _ upd_same
    have e2 := eL.same c2
    have nDl : Dl ≠ l := fun z => by
      rw [z, upd_same] at c1
      cases c1
    have hf2 : (upd H' l (.dT ents)) Dl = some (.lst us) := by
      rw [upd_ne nDl]
      exact c3
    have sf : Same H (upd H' l (.dT ents)) := fun a u ha => by
      by_cases z : a = l
      · subst z
        rw [h2] at ha
        rw [upd_same]
        exact ha
      · rw [upd_ne z]
        refine c2 a u ?_
        rw [upd_ne z]
        exact ha
    have hDH : H Dl = none := by
      rw [upd_ne nDl] at c1
      exact c1
    have e3 := e.same sf
    refine ⟨hlf, q _ _ _ (b.trans e3.base_same) (e3.base.set (s := par (.list (kept os))) rfl ⟨_, rfl, .lst (.inl (.inl ?_)) (dpa_flat e3.base_T hf (dpa_unlock hlf hf c4))⟩ m)⟩
    rw [bas_out (e.not_own hDH)]
    exact hf2
end
end Rs
namespace Rs
open PySem PySem.Spec PyProof.Rows L2 RsS RsI
open Rm (Pt)
section
variable {K : PySem.W.Frag} {He : Hp} {env : List (Sl K)} {te : TE} {tt : TT} {tz : TS} {D : Ends} {kvs : List (Pt × PyData)}
theorem sk_asgK {k : Nat} (h : EdD te env kvs) (f : ∀ kd ∈ kvs, flat kd.2 = true) (q : ∀ l, Sk K He (env.set k (dic l kvs)) D.nx) : Sk K He env (tAsg te (gName k) D) := fun H0 σ H w e =>
  h H0 σ H e _ fun p ents H2 hp e2 h1 h2 => q p H0 _ H2 w (e.setO e2 (s := dic p kvs) hp rfl ⟨rfl, f, ents, h1, h2⟩ k)
theorem q_asgK {k : Nat} (h : EdD te env kvs) (f : ∀ kd ∈ kvs, flat kd.2 = true) (q : ∀ l, Sk K He (env.set k (dic l kvs)) (tz D)) : Sk K He env (tSeq (tAsg te (gName k)) tz D) := sk_asgK (D := { D with nx := tz D }) h f q
theorem q_itemsLc {k i j m : Nat} {l : Addr} {os : List (Option PyData)} (h : env[k]? = some (dic l kvs)) (hij : i ≠ j) (hf : (kept os).all flat = true) (hz : os.length ≤ 100000) (hl : os.length = kvs.length)
    (ht : ∀ (n : Nat) (p : Pt) (d : PyData) (oo : Option PyData), kvs[n]? = some (p, d) → os[n]? = some oo → EdT tt (((wipeE (env.set k un) [i, j]).set i (hp p)).set j (fl d)) oo.isSome) (he : ∀ (n : Nat) (p : Pt) (d o : PyData), kvs[n]? = some (p, d) → os[n]? = some (some o) → Ed te (((wipeE (env.set k un) [i, j]).set i (hp p)).set j (fl d)) o)
    (q : Sk K He (env.set m (par (.list (kept os)))) (tz D)) : Sk K He env (tSeq (tLock (tAsg (tLc (iItemsT (tVar k)) (gTup K 2 (gCons (gName i) (gCons (gName j) gNil))) tt te [i, j]) (gName m))) tz D) := sk_itemsLc (D := { D with nx := tz D }) h hij hf hz hl ht he q
end
end Rs
namespace Rw
open PySem PySem.Spec L2 Rs RsS Rm
/-- the table while the second shape's sides are gone through -/
def subK (M B : List Pt) : List (Pt × PyData) := M.map fun a => (unitP a, .int (gcdP a - cnt (unitP a) B))
theorem subK_nil (M : List Pt) : subK M [] = lenK M := by
  unfold subK lenK
  refine List.map_congr_left fun a _ => ?_
  show (unitP a, PyData.int (gcdP a - 0)) = _
  rw [Int.sub_zero]
theorem subK_flat (M B : List Pt) : ∀ kd ∈ subK M B, flat kd.2 = true := fun kd h => by
  obtain ⟨a, _, rfl⟩ := List.mem_map.mp h
  rfl
theorem cnt_snoc (u : Pt) (B : List Pt) (b : Pt) : cnt u (B ++ [b]) = cnt u B + cntf u b := by
  unfold cnt
  rw [isum_append]
  show _ + (cntf u b + 0) = _
  omega
theorem subK_val {M B : List Pt} (hM : M.Pairwise Ah) (nM : Nz M) {u : Pt} (hB : (∀ a ∈ M, unitP a ≠ u) → cnt u B = 0) : (valP (subK M B) u).getD (.int 0) = .int (cnt u M - cnt u B) ∧ (0 < cnt u M → valP (subK M B) u = some (.int (cnt u M - cnt u B))) := by
  unfold valP subK
  cases e : (M.map fun a => (unitP a, PyData.int (gcdP a - cnt (unitP a) B))).find? fun kv => decide (kv.1 = u) with
  | none =>
    rw [List.find?_eq_none] at e
    have hn : ∀ a ∈ M, unitP a ≠ u := fun a ha z => e _ (List.mem_map.mpr ⟨a, ha, rfl⟩) (decide_eq_true z)
    have h1 := hB hn
    have h2 := cnt_none hn
    refine ⟨?_, fun z => by omega⟩
    show PyData.int 0 = _
    rw [h1, h2]
    rfl
  | some kv =>
    have h1 : kv.1 = u := by
      have := List.find?_some e
      simpa using this
    obtain ⟨a, ha, rfl⟩ := List.mem_map.mp (List.mem_of_find?_eq_some e)
    have h2 := cnt_at hM nM ha
    simp only at h1
    rw [h1] at h2
    have : PyData.int (gcdP a - cnt (unitP a) B) = .int (cnt u M - cnt u B) := by rw [h1, h2]
    exact ⟨this, fun _ => congrArg some this⟩
theorem subK_put {M B : List Pt} (nM : Nz M) (hM : M.Pairwise Ah) {b : Pt} (hb : b ≠ pt0) (hc : 0 < cnt (unitP b) M) : putP (subK M B) (unitP b) (.int (cnt (unitP b) M - cnt (unitP b) B - gcdP b)) = subK M (B ++ [b]) := by
  have hk : (subK M B).map (·.1) = M.map unitP := by
    unfold subK
    rw [List.map_map] <;> rfl
  obtain ⟨a, ha, ea⟩ := cnt_pos hc
  unfold putP
  rw [if_pos (by rw [any_key, hk]; exact List.mem_map.mpr ⟨a, ha, ea⟩)]
  unfold subK
  rw [List.map_map]
  refine List.map_congr_left fun x hx => ?_
  show (if unitP x = unitP b then (unitP x, PyData.int (cnt (unitP b) M - cnt (unitP b) B - gcdP b)) else (unitP x, PyData.int (gcdP x - cnt (unitP x) B))) = (unitP x, PyData.int (gcdP x - cnt (unitP x) (B ++ [b])))
  have hx2 := cnt_at hM nM hx
  by_cases z : unitP x = unitP b
  · rw [if_pos z, cnt_snoc]
    unfold cntf
    rw [if_pos z.symm, ← z, hx2]
    congr 2
    omega
  · rw [if_neg z, cnt_snoc]
    unfold cntf
    rw [if_neg (fun y => z y.symm), Int.add_zero]
end Rw
namespace Rw
open PySem PySem.Spec L2 Rs RsS Rm
def yesD (c : List Pt) : PyData := .tuple [.str "yes", psD c]
def noD (p : Pt) : PyData := .tuple [.str "no", pT p]
def takenD (c d : List Pt) : PyData := match lacks (sidesBy c) (sidesBy d) with
  | some b => noD (unitP b)
  | none => yesD (takenS c d)
theorem shaped_yes (c : List Pt) : SeqAt.shaped (yesD c) = true := by
  have h1 : (yesD c).canLay0 = true := by
    have hp : (psD c).canLay0 = true := by
      rw [PyData.canLay0]
      exact lay_ps c
    unfold yesD
    rw [PyData.canLay0, PyData.canLayAll0, PyData.canLayAll0, PyData.canLayAll0, PyData.canLay0, hp]
    decide +kernel
  have h2 : (yesD c).depth ≤ 64 := by
    unfold yesD psD
    rw [PyData.depth, PyData.depthAll, PyData.depthAll, PyData.depthAll, PyData.depth, PyData.depth]
    have := depth_ps c
    omega
  unfold SeqAt.shaped
  rw [h1, decide_eq_true h2]
  rfl
theorem eqv_yes (a c : List Pt) : PyData.eqv (yesD a) (yesD c) = decide (a = c) := by
  unfold yesD
  rw [PyData.eqv, PyData.eqvAll, PyData.eqvAll, PyData.eqvAll, eqv_ps, PyData.eqv]
  simp
end Rw

/-! # an empty dict compared with {}; pop of a dict with pairs as keys, in a test -/
namespace RsI
open PySem PySem.Spec PyProof.Rows L2
def rEqD0 : R2 := fun x y H Q => ∃ a b, x = .ref a ∧ y = .ref b ∧ H a = some (.dT []) ∧ H b = some (.dT []) ∧ Q (.bl true) H
theorem empty_dict {X : Cx} {pins : List (Addr × Obj)} {σ : L2.St} {H : Hp} {s : Shared} {a : Addr} (I : L2.Inv X pins σ H s) (e : H a = some (.dT [])) : (a == sysModules) = false ∧ s.heap.DictOf (mixKind X.prog X.w) a [] := by
  obtain ⟨_, ya, xs, r, o, es, ep, ho, hx, hd, he, _⟩ := (show ObjOk X.prog X.w H s.heap a (.dT []) from I.hok a _ e)
  cases r
  have hes : es = #[] := by
    have : es.toList = [] := he
    simpa using this
  subst hes
  exact ⟨ya, o, #[], ep, ho, hx, hd, fun _ h => by simp at h, Pairs.nil, List.nodup_nil⟩
theorem op_eqDT0 {X : Cx} (hu : X.A.units < cLine) : OpR X (compareOp .Eq) rEqD0 := by
  intro pins s σ H x y v u Q I rx ry h
  obtain ⟨a, b, rfl, rfl, ea, eb, q⟩ := h
  obtain rfl : v = Value.ref a := rx
  obtain rfl : u = Value.ref b := ry
  obtain ⟨ya, da⟩ := empty_dict I ea
  obtain ⟨yb, db⟩ := empty_dict I eb
  exact PySem.W.keq_eq (knd := mixKind X.prog X.w) (r := true) ya yb da db hu (fun _ => hits_all (κ := L2.Key) (kvs := []) (vb := []) .nil (ks := []) (va := []) .nil fun p hp => (by cases hp)) (fin_bl I q (by simp))
end RsI
namespace Rs
open PySem PySem.Spec PyProof.Rows L2 RsS RsI
open Rm (Pt)
def dropP (kvs : List (Pt × PyData)) (p : Pt) : List (Pt × PyData) := kvs.filter fun kv => decide (kv.1 ≠ p)
theorem Ents.drop {K : PySem.W.Frag} {H : Hp} {ents : List (List L2.Key × V)} {kvs : List (Pt × PyData)} (h : Ents K H ents kvs) (p : Pt) : Ents K H (dropK ents (kP p)) (dropP kvs p) := by
  unfold Ents dropK dropP at *
  induction h with
  | nil => exact .nil
  | @cons e kd es ks h t ih =>
    rw [List.filter_cons, List.filter_cons]
    by_cases z : kd.1 = p
    · rw [if_neg (by simp [h.1, z]), if_neg (by simp [z])]
      exact ih
    · have z2 : e.1 ≠ kP p := fun y => z (kP_inj (h.1.symm.trans y))
      rw [if_pos (by simp [z2]), if_pos (by simp [z])]
      exact .cons h ih
section
variable {K : PySem.W.Frag} {He : Hp} {env : List (Sl K)} {te tx ty : TE} {t u tz : TS} {D : Ends} {kvs : List (Pt × PyData)} {p : Pt}
theorem ed_eqD0 {k : Nat} {l : Addr} (h : env[k]? = some (dic l [])) : Ed (tOp rEqD0 (tVar k) tDNewT) env (.bool true) := fun H0 σ H e Q q => by
  obtain ⟨o, h1, rfl, f, ents, h2, h3⟩ := e.get h
  cases h3
  refine ⟨_, h1, fun b hb => ⟨l, b, rfl, rfl, ?_, upd_same, q _ _ (same_new hb) (.bl true)⟩⟩
  exact same_new hb _ _ h2
theorem sk_ifPop {k : Nat} {l : Addr} {v m : Int} (h : env[k]? = some (dic l kvs)) (hi : EdH te env p) (hx : Ed tx env (.int 0)) (hv : valP kvs p = some (.int v)) (hy : Ed ty (env.set k (dic l (dropP kvs p))) (.int m))
    (h1 : v ≠ m → Sk K He (env.set k (dic l (dropP kvs p))) (t D)) (h2 : v = m → Sk K He (env.set k (dic l (dropP kvs p))) (u D)) : Sk K He env (tIfS (tTest (tOp rNe (tBM K "dict" L2.DX.rPopT (tVar k) (tCons te (tCons tx tNil))) ty)) t u D) := fun H0 σ H b e => by
  obtain ⟨o, g1, rfl, f, ents, g2, g3⟩ := e.get h
  refine ⟨_, g1, .inr (.inr (.inl ⟨rfl, .inr ⟨ents, g2⟩⟩)), hi H0 σ H e _ fun q H2 e2 hb => hx H0 σ H2 (e.same e2) _ fun w H3 e3 dw => ?_⟩
  obtain ⟨o, g1', g4, f', ents', g5, g6⟩ := ((e.same e2).same e3).get h
  obtain ⟨x, k1, k2⟩ := (g6.val p).1 _ hv
  cases dp_int k2
  refine ⟨l, ents', kP p, q, w, rfl, rfl, g5, e3 _ _ hb, fun v' hv' => ?_, fun hn => ?_⟩
  · rw [k1] at hv'
    cases hv'
    have st : SameT H3 (upd H3 l (.dT (dropK ents' (kP p)))) := SameT.upd g5 trivial
    have fd : ∀ kd ∈ dropP kvs p, flat kd.2 = true := fun kd hk => f kd (List.mem_filter.mp hk).1
    have en : En K H0 σ (upd H3 l (.dT (dropK ents' (kP p)))) (env.set k (dic l (dropP kvs p))) := ((e.same e2).same e3).upd (s' := dic l (dropP kvs p)) h rfl rfl fun o ho => by
      rw [g1] at ho
      cases ho
      exact ⟨rfl, fd, _, upd_same, (g6.drop p).keep st fd⟩
    have ne := ed_neI (ta := fun σ H Q => Q (.int v) H) (i := v) (fun _ _ H _ _ q => q _ H (Same.refl H) (.int v)) hy
    refine ne H0 σ _ en _ fun z H5 e5 dz => ?_
    cases dp_bool dz
    refine ⟨_, rfl, ?_⟩
    show (if (!decide (v = m)) = true then t D σ H5 else u D σ H5)
    by_cases c : v = m
    · rw [if_neg (by simp [c])]
      exact h2 c H0 σ H5 b (en.same e5)
    · rw [if_pos (by simp [c])]
      exact h1 c H0 σ H5 b (en.same e5)
  · rw [k1] at hn
    cases hn
end
end Rs
namespace Rw
open PySem PySem.Spec L2 Rs RsS Rm
/-! the tally of arrows by their least ones -/
theorem valP_put (kvs : List (Pt × PyData)) (p : Pt) (d : PyData) (u : Pt) : valP (putP kvs p d) u = if u = p then some d else valP kvs u := by
  have hm : ∀ kvs : List (Pt × PyData), valP (kvs.map fun kv => if kv.1 = p then (kv.1, d) else kv) u = if u = p then (valP kvs u).map (fun _ => d) else valP kvs u := by
    intro kvs
    induction kvs with
    | nil => by_cases z : u = p <;> simp [valP, z]
    | cons kv kvs ih =>
      unfold valP at ih ⊢
      rw [List.map_cons, List.find?_cons, List.find?_cons]
      by_cases y : kv.1 = u
      · have y2 : (if kv.1 = p then (kv.1, d) else kv).1 = u := by split <;> exact y
        rw [decide_eq_true y, decide_eq_true y2]
        by_cases z : u = p
        · simp [z, y]
        · have : kv.1 ≠ p := fun e => z (y.symm.trans e)
          simp [z, this]
      · have y2 : (if kv.1 = p then (kv.1, d) else kv).1 ≠ u := by split <;> exact y
        rw [decide_eq_false y, decide_eq_false y2]
        exact ih
  unfold putP
  split
  · next h =>
    rw [hm]
    by_cases z : u = p
    · rw [if_pos z, if_pos z]
      rw [any_key] at h
      unfold valP
      cases e : kvs.find? fun kv => decide (kv.1 = u) with
      | none =>
        rw [List.find?_eq_none] at e
        obtain ⟨kv, h1, h2⟩ := List.mem_map.mp h
        exact absurd (decide_eq_true (h2.trans z.symm)) (e kv h1)
      | some kv => rfl
    · rw [if_neg z, if_neg z]
  · next h =>
    rw [any_key] at h
    unfold valP
    rw [List.find?_append]
    by_cases z : u = p
    · rw [if_pos z]
      have : (kvs.find? fun kv => decide (kv.1 = u)) = none := by
        rw [List.find?_eq_none]
        intro kv hk e
        have := of_decide_eq_true e
        exact h (List.mem_map.mpr ⟨kv, hk, this.trans z⟩)
      rw [this]
      simp [z]
    · rw [if_neg z]
      have : ([(p, d)].find? fun kv => decide (kv.1 = u)) = none := by
        simp [Ne.symm z]
      rw [this]
      simp
theorem valP_drop (kvs : List (Pt × PyData)) (p u : Pt) : valP (dropP kvs p) u = if u = p then none else valP kvs u := by
  unfold valP dropP
  induction kvs with
  | nil => simp
  | cons kv kvs ih =>
    rw [List.filter_cons]
    by_cases y : kv.1 = p
    · rw [if_neg (by simp [y]), ih, List.find?_cons]
      by_cases z : u = p
      · rw [if_pos z, if_pos z]
      · rw [if_neg z, if_neg z, decide_eq_false (fun e => z (e.symm.trans y))]
    · rw [if_pos (by simp [y]), List.find?_cons, List.find?_cons]
      by_cases z : kv.1 = u
      · rw [decide_eq_true z, if_neg (fun e => y (z.trans e))]
      · rw [decide_eq_false z]
        exact ih
theorem dropP_len (kvs : List (Pt × PyData)) (p : Pt) : (dropP kvs p).length ≤ kvs.length := List.length_filter_le _ _
/-- no value anywhere: nothing is there -/
theorem empty_of {kvs : List (Pt × PyData)} (h : ∀ u, valP kvs u = none) : kvs = [] := by
  cases kvs with
  | nil => rfl
  | cons kv kvs =>
    have := h kv.1
    unfold valP at this
    rw [List.find?_cons, decide_eq_true rfl] at this
    cases this
def getI (kvs : List (Pt × PyData)) (u : Pt) : Int := match valP kvs u with
  | some (.int v) => v
  | _ => 0
def tally (P : List Pt) : List (Pt × PyData) := P.foldl (fun kvs a => putP kvs (unitP a) (.int (getI kvs (unitP a) + gcdP a))) []
/-- what stands at u -/
def tv (P : List Pt) (u : Pt) : Option PyData := if 0 < cnt u P then some (.int (cnt u P)) else none
theorem tally_val : ∀ (P : List Pt), Nz P → ∀ u, valP (tally P) u = tv P u := by
  intro P
  have key : ∀ (n : Nat) (P : List Pt), P.length = n → Nz P → ∀ u, valP (tally P) u = tv P u := by
    intro n
    induction n with
    | zero =>
      intro P hn _ u
      rw [List.length_eq_zero_iff] at hn
      subst hn
      unfold tv
      rw [if_neg (by show ¬ (0 : Int) < 0; decide)]
      rfl
    | succ n ih =>
      intro P hn nz u
      have hne : P ≠ [] := fun e => by rw [e] at hn; cases hn
      obtain ⟨Q, a, rfl⟩ : ∃ Q a, P = Q ++ [a] := ⟨P.dropLast, P.getLast hne, (List.dropLast_concat_getLast hne).symm⟩
      have hq : Q.length = n := by simpa using hn
      have nq : Nz Q := fun x hx => nz x (List.mem_append_left _ hx)
      have na := nz a (by simp)
      have pa := gcdP_pos na
      have hi := ih Q hq nq
      have e : tally (Q ++ [a]) = putP (tally Q) (unitP a) (.int (getI (tally Q) (unitP a) + gcdP a)) := by
        unfold tally
        rw [List.foldl_append]
        rfl
      have hg : getI (tally Q) (unitP a) = cnt (unitP a) Q := by
        unfold getI
        rw [hi (unitP a)]
        unfold tv
        have := cnt_nonneg (unitP a) nq
        by_cases k : 0 < cnt (unitP a) Q
        · rw [if_pos k]
        · rw [if_neg k]
          show 0 = _
          omega
      rw [e, valP_put, hg]
      unfold tv
      rw [cnt_snoc]
      unfold cntf
      by_cases z : u = unitP a
      · have := cnt_nonneg (unitP a) nq
        rw [if_pos z, if_pos z.symm, z, if_pos (by omega)]
      · rw [if_neg z, if_neg (show ¬ unitP a = u from fun y => z y.symm), Int.add_zero]
        exact hi u
  exact key _ P rfl
def dropAll (kvs : List (Pt × PyData)) (L : List Pt) : List (Pt × PyData) := L.foldl (fun k a => dropP k (unitP a)) kvs
theorem dropAll_val : ∀ (L : List Pt) (kvs : List (Pt × PyData)) (u : Pt), ((∃ a ∈ L, unitP a = u) → valP (dropAll kvs L) u = none) ∧ ((∀ a ∈ L, unitP a ≠ u) → valP (dropAll kvs L) u = valP kvs u)
  | [], kvs, u => ⟨(fun ⟨_, h, _⟩ => nomatch h), (fun _ => rfl)⟩
  | a :: L, kvs, u => by
    obtain ⟨h1, h2⟩ := dropAll_val L (dropP kvs (unitP a)) u
    have e : dropAll kvs (a :: L) = dropAll (dropP kvs (unitP a)) L := rfl
    rw [e]
    constructor
    · rintro ⟨b, hb, eb⟩
      by_cases k : ∃ a ∈ L, unitP a = u
      · exact h1 k
      · rw [h2 (fun x hx y => k ⟨x, hx, y⟩), valP_drop]
        rcases List.mem_cons.mp hb with z | z
        · rw [if_pos (by rw [← eb, z])]
        · exact absurd ⟨b, z, eb⟩ k
    · intro hn
      rw [h2 (fun x hx => hn x (List.mem_cons_of_mem _ hx)), valP_drop, if_neg (fun z => hn a List.mem_cons_self z.symm)]
theorem tally_len (P : List Pt) : (tally P).length ≤ P.length := by
  have key : ∀ (P : List Pt) (kvs : List (Pt × PyData)), (P.foldl (fun kvs a => putP kvs (unitP a) (.int (getI kvs (unitP a) + gcdP a))) kvs).length ≤ kvs.length + P.length := by
    intro P
    induction P with
    | nil => intro kvs; exact Nat.le_refl _
    | cons a P ih =>
      intro kvs
      have h1 := ih (putP kvs (unitP a) (.int (getI kvs (unitP a) + gcdP a)))
      have h2 := putP_len kvs (unitP a) (.int (getI kvs (unitP a) + gcdP a))
      rw [List.length_cons]
      show (P.foldl _ (putP kvs (unitP a) (.int (getI kvs (unitP a) + gcdP a)))).length ≤ _
      omega
  have := key P []
  rw [List.length_nil, Nat.zero_add] at this
  exact this
theorem tally_get {P : List Pt} (nz : Nz P) (u : Pt) : (valP (tally P) u).getD (.int 0) = .int (cnt u P) ∧ getI (tally P) u = cnt u P := by
  have h := tally_val P nz u
  have h0 := cnt_nonneg u nz
  unfold getI
  rw [h]
  unfold tv
  by_cases k : 0 < cnt u P
  · rw [if_pos k]
    exact ⟨rfl, rfl⟩
  · rw [if_neg k]
    have : cnt u P = 0 := by omega
    rw [this]
    exact ⟨rfl, rfl⟩
end Rw
namespace Rw
open PySem PySem.Spec L2 Rs RsS Rm
theorem tally_step {P : List Pt} {i : Nat} (hi : i < P.length) : tally (P.take (i + 1)) = putP (tally (P.take i)) (unitP (at_ P i)) (.int (getI (tally (P.take i)) (unitP (at_ P i)) + gcdP (at_ P i))) := by
  have step : P.take (i + 1) = P.take i ++ [at_ P i] := by
    rw [List.take_add_one, at_get hi]
    rfl
  rw [step]
  unfold tally
  rw [List.foldl_append]
  rfl
theorem drop_step {kvs : List (Pt × PyData)} {M : List Pt} {i : Nat} (hi : i < M.length) : dropAll kvs (M.take (i + 1)) = dropP (dropAll kvs (M.take i)) (unitP (at_ M i)) := by
  have step : M.take (i + 1) = M.take i ++ [at_ M i] := by
    rw [List.take_add_one, at_get hi]
    rfl
  rw [step]
  unfold dropAll
  rw [List.foldl_append]
  rfl
theorem drop_next {P M : List Pt} (nP : Nz P) (hM : Ang M) (hc : ∀ u, cnt u P = cnt u M) {i : Nat} (hi : i < M.length) : valP (dropAll (tally P) (M.take i)) (unitP (at_ M i)) = some (.int (gcdP (at_ M i))) := by
  have h := dropAll_val (M.take i) (tally P) (unitP (at_ M i))
  rw [h.2 ?_, tally_val P nP]
  · unfold tv
    have g0 := gcdP_pos (hM.nz' _ (at_mem hi))
    rw [hc, cnt_at hM.pw hM.nz' (at_mem hi), if_pos g0]
  · intro a ha e
    have step : M.take (i + 1) = M.take i ++ [at_ M i] := by
      rw [List.take_add_one, at_get hi]
      rfl
    have h1 : ((M.take (i + 1)).map unitP).Nodup := by
      rw [List.map_take]
      exact (List.take_sublist _ _).nodup (units_apart hM)
    rw [step, List.map_append, List.nodup_append] at h1
    exact h1.2.2 _ (List.mem_map.mpr ⟨a, ha, rfl⟩) _ (List.mem_singleton.mpr rfl) e
theorem drop_end {P M : List Pt} (nP : Nz P) (hc : ∀ u, cnt u P = cnt u M) : dropAll (tally P) M = [] := by
  have hn : ∀ u, valP (dropAll (tally P) M) u = none := fun u => by
    have h := dropAll_val M (tally P) u
    by_cases k : ∃ a ∈ M, unitP a = u
    · exact h.1 k
    · have k2 : ∀ a ∈ M, unitP a ≠ u := fun a ha e => k ⟨a, ha, e⟩
      rw [h.2 k2, tally_val P nP]
      unfold tv
      rw [hc, cnt_none k2]
      rfl
  generalize dropAll (tally P) M = kvs at hn
  cases kvs with
  | nil => rfl
  | cons kv kvs =>
    have := hn kv.1
    unfold valP at this
    rw [List.find?_cons, decide_eq_true rfl] at this
    cases this
end Rw

/-! # a def that answers with a pair of a text and a new list, or of a text and a pair of whole numbers -/
namespace Rs
open PySem PySem.Spec PyProof.Rows L2 RsS RsI
open Rm (Pt)
abbrev Yn := List Pt ⊕ Pt
section
variable {K : PySem.W.Frag}
def Told (K : PySem.W.Frag) (He : Hp) (y : Yn) (Q : VK) : Prop := match y with
  | .inl c => ∀ t l us H, He l = none → Same He H → H t = some (.tup [.str "yes", .ref l]) → H l = some (.lst us) → DpAll K H us (c.map pT) → Q (.ref t) H
  | .inr p => ∀ t b H, Same He H → H t = some (.tup [.str "no", .ref b]) → H b = some (.tup [.int p.1, .int p.2]) → Q (.ref t) H
def spX (K : PySem.W.Frag) (R : List PyData → Yn → Prop) : Sp := fun vs H Q _ => ∃ ds y, R ds y ∧ DpAll K H vs ds ∧ Told K H y Q
/-- the answer yes, with a list of the frame's own -/
def yl (l : Addr) (ds : List PyData) : Sl K := ⟨fun _ H o => ∃ t, o = some (.ref t) ∧ H t = some (.tup [.str "yes", .ref l]) ∧ ds.all flat = true ∧ ∃ vs, H l = some (.lst vs) ∧ DpAll K H vs ds, [l],
  fun _ _ e k ⟨t, h1, h0, f, vs, h2, h3⟩ => ⟨t, h1, e _ _ h0 id, f, vs, k l (List.mem_singleton.mpr rfl) _ h2, dpa_flat e f h3⟩,
  fun ⟨_, _, _, _, vs, h2, _⟩ a ha => ⟨.lst vs, (List.mem_singleton.mp ha) ▸ h2, True.intro⟩⟩
/-- the answer no, with a pair -/
def nt (p : Pt) : Sl K := ⟨fun _ H o => ∃ t b, o = some (.ref t) ∧ H t = some (.tup [.str "no", .ref b]) ∧ H b = some (.tup [.int p.1, .int p.2]), [],
  fun _ _ e _ ⟨t, b, h1, h2, h3⟩ => ⟨t, b, h1, e _ _ h2 id, e _ _ h3 id⟩, fun _ _ h => nomatch h⟩
end
section
variable {K : PySem.W.Frag} {He : Hp} {env : List (Sl K)} {te ta tb : TE} {tz : TS} {D : Ends} {d : PyData} {ds : List PyData} {p : Pt} {c : List Pt}
theorem ed_yl {k : Nat} {l : Addr} (h : env[k]? = some (yl l ds)) : Ed (tVar k) env (.tuple [.str "yes", .list ds]) := fun H0 σ H e Q q => by
  obtain ⟨o, h1, t, rfl, h2, f, vs, h3, h4⟩ := e.get h
  exact ⟨_, h1, q _ H (Same.refl H) (.tup (SqT.of h2) (.cons (.str _) (.cons (dp_own h3 h4) .nil)))⟩
theorem ed_nt {k : Nat} (h : env[k]? = some (nt p)) : Ed (tVar k) env (.tuple [.str "no", pT p]) := fun H0 σ H e Q q => by
  obtain ⟨o, h1, t, b, rfl, h2, h3⟩ := e.get h
  exact ⟨_, h1, q _ H (Same.refl H) (.tup (SqT.of h2) (.cons (.str _) (.cons (hp_dp h3) .nil)))⟩
def EdX (te : TE) (env : List (Sl K)) (y : Yn) : Prop := ∀ (H0 : Hp) (σ : L2.St) (H : Hp), En K H0 σ H env → ∀ Q : VK, Told K H y Q → te σ H Q
theorem edx_call {R : List PyData → Yn → Prop} {E : XK} {ta : TA} {y : Yn} (ha : EdA ta env ds) (hR : R ds y) : EdX (tCall (spX K R) [] E ta) env y := fun H0 σ H e Q q =>
  ha H0 σ H e _ fun vs H2 e2 dv => by
    rw [List.append_nil]
    refine ⟨ds, y, hR, dv, ?_⟩
    cases y with
    | inl c => exact fun t l us H3 hp e3 h1 h2 h3 => q t l us H3 (e2.free hp) (e2.trans e3) h1 h2 h3
    | inr p => exact fun t b H3 e3 h1 h2 => q t b H3 (e2.trans e3) h1 h2
theorem sk_asgY {k : Nat} (h : EdX te env (.inl c)) (q : ∀ l, Sk K He (env.set k (yl l (c.map pT))) D.nx) : Sk K He env (tAsg te (gName k) D) := fun H0 σ H w e =>
  h H0 σ H e _ fun t l us H2 hp e2 h1 h2 h3 => q l H0 _ H2 w (e.setO e2 (s := yl l (c.map pT)) hp rfl ⟨t, rfl, h1, Rw.flat_ps c, us, h2, h3⟩ k)
theorem sk_asgN {k : Nat} (h : EdX te env (.inr p)) (q : Sk K He (env.set k (nt p)) D.nx) : Sk K He env (tAsg te (gName k) D) := fun H0 σ H w e =>
  h H0 σ H e _ fun t b H2 e2 h1 h2 => q H0 _ H2 w ((e.same e2).set (s := nt p) rfl ⟨t, b, rfl, h1, h2⟩ k)
theorem q_asgY {k : Nat} (h : EdX te env (.inl c)) (q : ∀ l, Sk K He (env.set k (yl l (c.map pT))) (tz D)) : Sk K He env (tSeq (tAsg te (gName k)) tz D) := sk_asgY (D := { D with nx := tz D }) h q
theorem q_asgN {k : Nat} (h : EdX te env (.inr p)) (q : Sk K He (env.set k (nt p)) (tz D)) : Sk K He env (tSeq (tAsg te (gName k)) tz D) := sk_asgN (D := { D with nx := tz D }) h q
theorem sk_retY (h : EdL te env (c.map pT)) (q : Told K He (.inl c) D.rt) : Sk K He env (tRet (tTup (tCons (tC (.str "yes")) (tCons te tNil))) D) := fun H0 σ H b e =>
  h H0 σ H e _ fun l us H2 hl e2 h1 h2 => ⟨by show 2 ≤ sizeLine; decide, fun t ht => q t l us _ (b.free (e.sm.free hl)) (((b.trans e.sm).trans e2).trans (same_new ht)) upd_same (same_new ht _ _ h1) (dpa_mono (same_new ht) _ h2)⟩
theorem sk_retN (h : EdH te env p) (q : Told K He (.inr p) D.rt) : Sk K He env (tRet (tTup (tCons (tC (.str "no")) (tCons te tNil))) D) := fun H0 σ H b e =>
  h H0 σ H e _ fun u H2 e2 h1 => ⟨by show 2 ≤ sizeLine; decide, fun t ht => q t u _ (((b.trans e.sm).trans e2).trans (same_new ht)) upd_same (same_new ht _ _ h1)⟩
end
theorem Told.up {K : PySem.W.Frag} {He He' : Hp} {y : Yn} {Q : VK} (b : Same He He') (q : Told K He y Q) : Told K He' y Q := by
  cases y with
  | inl c => exact fun t l us H h e h1 h2 h3 => q t l us H (b.free h) (b.trans e) h1 h2 h3
  | inr p => exact fun t u H e h1 h2 => q t u H (b.trans e) h1 h2
section
variable {K : PySem.W.Frag} {He : Hp} {env : List (Sl K)} {te : TE} {tz : TS} {D : Ends} {d : PyData} {ds : List PyData}
/-- a[1].append(e), a the answer yes -/
theorem sk_appendY {k : Nat} {l : Addr} (h : env[k]? = some (yl l ds)) (hv : Ed te env d) (f : flat d = true) (hz : ds.length < 100000) (q : Sk K He (env.set k (yl l (ds ++ [d]))) D.nx) : Sk K He env (tDrop (tBM K "list" rAppend (tOp (rIxT K) (tVar k) (tC (.int 1))) (tCons te tNil)) D) := fun H0 σ H w e => by
  obtain ⟨o, h1, t, rfl, h2, fl1, vs, h3, h4⟩ := e.get h
  refine ⟨_, h1, t, [.str "yes", .ref l], 1, .ref l, rfl, rfl, SqT.of h2, rfl, .inl ⟨rfl, _, SqL.of h3⟩, hv H0 σ H e _ fun v H2 e2 dv => ?_⟩
  have h3' := e2 _ _ h3
  have st : SameT H2 (upd H2 l (.lst (vs ++ [v]))) := SameT.upd h3' trivial
  refine ⟨l, vs, v, rfl, rfl, h3', by rw [dpa_len h4]; exact Nat.lt_of_lt_of_le hz (by decide), ?_⟩
  refine q H0 σ _ w ((e.same e2).upd (s' := yl l (ds ++ [d])) h rfl rfl fun o ho => ?_)
  rw [h1] at ho
  cases ho
  exact ⟨t, rfl, st _ _ (e2 _ _ h2) id, by rw [List.all_append, fl1, List.all_cons, f] <;> rfl, _, upd_same, dpa_append (dpa_flat st fl1 (dpa_mono e2 _ h4)) (.cons (dp_flat st f dv) .nil)⟩
theorem q_appendY {k : Nat} {l : Addr} (h : env[k]? = some (yl l ds)) (hv : Ed te env d) (f : flat d = true) (hz : ds.length < 100000) (q : Sk K He (env.set k (yl l (ds ++ [d]))) (tz D)) : Sk K He env (tSeq (tDrop (tBM K "list" rAppend (tOp (rIxT K) (tVar k) (tC (.int 1))) (tCons te tNil))) tz D) := sk_appendY (D := { D with nx := tz D }) h hv f hz q
end
section
variable {P : Program} {w : World} {K : PySem.W.Frag} {mg : Str → Option Value} {base : Heap} {x qual : Str} {st : Stmt} {f : Addr} {fd : FuncData} {N ps : List Str} {k : Nat}
theorem okX {R : List PyData → Yn → Prop} (F : Fun K x qual st f fd) (S : FnScope N ps (defScope st)) (hl : ∀ ds d, R ds d → ds.length = ps.length)
    (hb : ∀ (cdv : Value) (A : Around) (outer : List Env) (s : Shared) (H : Hp) (E : XK) (ds : List PyData) (d : Yn), Room k (A.deeper (envOfC qual (defScope st) s.heap.objs.size f cdv)) → R ds d →
      ∃ t, PSs (cxOf CX0 P w K mg base N qual (defScope st) f cdv A outer s H E).nox (defBody st) t ∧
        ∀ Q : VK, Told K H d Q → Sk K H (ds.map par ++ List.replicate (N.length - ds.length) un) (t { nx := fun _ H' => Q .non H', rt := Q })) : FnOk P w K mg base CX0 (k + 1) f fd ps (spX K R) := by
  refine F.ok S (fun vs H Q E h => ?_) (fun cdv A outer s H vs Q E hr h => ?_)
  · obtain ⟨ds, d, hR, hds, _⟩ := h
    rw [dpa_len hds, hl ds d hR]
  · obtain ⟨ds, d, hR, hds, q⟩ := h
    obtain ⟨t, h1, h2⟩ := hb cdv A outer s H E ds d hr hR
    exact ⟨t, h1, h2 Q q H _ H (Same.refl H) (en_start hds)⟩
end
end Rs
namespace Rw
open PySem PySem.Spec L2 Rs RsS Rm
def takenY (c d : List Pt) : Yn := match lacks (sidesBy c) (sidesBy d) with
  | some b => .inr (unitP b)
  | none => .inl (takenS c d)
def yD : Yn → PyData
  | .inl c => yesD c
  | .inr p => noD p
theorem takenY_D (c d : List Pt) : yD (takenY c d) = takenD c d := by
  unfold takenY takenD
  cases lacks (sidesBy c) (sidesBy d) <;> rfl
def R_takenX : List PyData → Yn → Prop := fun ds y => ∃ c e : List Pt, c.length ≤ 500 ∧ e.length ≤ 500 ∧ Sms 400000 c ∧ Sms 400000 e ∧ IsShape c ∧ IsShape e ∧ ds = [psD c, psD e] ∧ y = takenY c e
theorem edx_taken {K : PySem.W.Frag} {env : List (Sl K)} {ta tb : TE} {c e : List Pt} (ha : Ed ta env (psD c)) (hb : Ed tb env (psD e)) (h1 : c.length ≤ 500) (h2 : e.length ≤ 500) (h3 : Sms 400000 c) (h4 : Sms 400000 e) (hc : IsShape c) (he : IsShape e) : EdX (tCall (spX K R_takenX) [] E0 (tCons ta (tCons tb tNil))) env (takenY c e) := edx_call (eda_cons ha (eda_cons hb eda_nil)) ⟨c, e, h1, h2, h3, h4, hc, he, rfl, rfl⟩
theorem ed_X {K : PySem.W.Frag} {env : List (Sl K)} {te : TE} {y : Yn} (h : EdX te env y) : Ed te env (yD y) := fun H0 σ H e Q q => h H0 σ H e Q (by
  cases y with
  | inl c => exact fun t l us H2 _ e2 h1 h2 h3 => q _ H2 e2 (.tup (SqT.of h1) (.cons (.str _) (.cons (dp_own h2 h3) .nil)))
  | inr p => exact fun t b H2 e2 h1 h2 => q _ H2 e2 (.tup (SqT.of h1) (.cons (.str _) (.cons (hp_dp h2) .nil))))
def R_law_shown9 : List PyData → PyData → Prop := fun ds d => ∃ c e : List Pt, c.length ≤ 500 ∧ e.length ≤ 60 ∧ Sms 400000 c ∧ Sms 400000 e ∧ IsShape c ∧ IsShape e ∧ (lacks (sidesBy c) (sidesBy e) = none → (takenS c e).length * e.length ≤ 64 ∧ Sms 1000000000 (takenS c e)) ∧ ds = [takenD c e, psD c, psD e] ∧ d = .bool true
theorem ed_shown9 {K : PySem.W.Frag} {env : List (Sl K)} {tx ta tb : TE} {c e : List Pt} (hx : Ed tx env (takenD c e)) (ha : Ed ta env (psD c)) (hb : Ed tb env (psD e)) (h1 : c.length ≤ 500) (h2 : e.length ≤ 60) (h3 : Sms 400000 c) (h4 : Sms 400000 e) (hc : IsShape c) (he : IsShape e) (h5 : lacks (sidesBy c) (sidesBy e) = none → (takenS c e).length * e.length ≤ 64 ∧ Sms 1000000000 (takenS c e)) : Ed (tCall (spD K R_law_shown9) [] E0 (tCons tx (tCons ta (tCons tb tNil)))) env (.bool true) := ed_call (eda_cons hx (eda_cons ha (eda_cons hb eda_nil))) ⟨c, e, h1, h2, h3, h4, hc, he, h5, rfl, rfl⟩
end Rw

/-! # rules on texts -/
namespace Rs
open PySem PySem.Spec PyProof.Rows L2 RsS
abbrev rAddS : R2 := fun x y H Q => ∃ i j : Str, x = V.str i ∧ y = V.str j ∧ i.length + j.length ≤ sizeLine ∧ Q (V.str (i ++ j)) H
abbrev rStrI : List V → Hp → VK → Prop := fun xs H Q => ∃ i : Int, xs = [V.int i] ∧ i.natAbs.log2 < 1920 ∧ Q (V.str (Str.ofString (toString i))) H
abbrev rIntS : List V → Hp → VK → Prop := fun xs H Q => ∃ (a : Str) (n : Int), xs = [V.str a] ∧ PySem.intText? a = some n ∧ a.length ≤ 640 ∧ Q (V.int n) H
abbrev rSplit : V → List V → Hp → VK → Prop := fun x xs H Q => ∃ a b : Str, x = V.str a ∧ xs = [V.str b] ∧ (b.length == 0) = false ∧ a.length + 2 ≤ sizeLine ∧ rNewStrs (Txt.split a b) H Q
abbrev rJoin (K : PySem.W.Frag) : V → List V → Hp → VK → Prop := fun x xs H Q => ∃ (a : Str) (p : Addr) (ys : List Str), x = V.str a ∧ xs = [V.ref p] ∧ (SqL K H p (ys.map V.str) ∨ SqT K H p (ys.map V.str)) ∧ (ys.map (·.length)).sum + ys.length * a.length ≤ 16777216 ∧ Q (V.str (Txt.join a ys)) H
abbrev rNotInSign : R2 := fun x y H Q => ∃ (c : Nat) (z : Str), x = V.str ⟨#[c]⟩ ∧ y = V.str z ∧ Q (V.bl (!decide (c ∈ z.cps.toList))) H
def numS (i : Int) : Str := Str.ofString (toString i)
section
variable {K : PySem.W.Frag} {env : List (Sl K)} {te ta tb : TE} {i : Int} {a b z : Str}
theorem ed_addS (ha : Ed ta env (.str a)) (hb : Ed tb env (.str b)) (hl : a.length + b.length ≤ 100000) : Ed (tOp rAddS ta tb) env (.str (a ++ b)) := ed_op ha hb fun v w H hv hw Q q => by
  cases dp_str hv
  cases dp_str hw
  exact ⟨a, b, rfl, rfl, Nat.le_trans hl (by decide), q _ H (Same.refl H) (.str _)⟩
theorem ed_strI (h : Ed ta env (.int i)) (hi : i.natAbs < 2 ^ 1000) : Ed (tCB rStrI (tCons ta tNil)) env (.str (numS i)) := ed_cb (eda_cons h eda_nil) fun vs H hv Q q => by
  obtain ⟨v, rfl, hd⟩ := dpa_one hv
  cases dp_int hd
  refine ⟨i, rfl, ?_, q _ H (Same.refl H) (.str _)⟩
  by_cases z : i.natAbs = 0
  · rw [z]
    decide
  · exact Nat.lt_of_lt_of_le ((Nat.log2_lt z).mpr hi) (by decide)
theorem ed_intS (h : Ed ta env (.str a)) (hn : PySem.intText? a = some i) (hl : a.length ≤ 640) : Ed (tCB rIntS (tCons ta tNil)) env (.int i) := ed_cb (eda_cons h eda_nil) fun vs H hv Q q => by
  obtain ⟨v, rfl, hd⟩ := dpa_one hv
  cases dp_str hd
  exact ⟨a, i, rfl, hn, hl, q _ H (Same.refl H) (.int _)⟩
theorem dpa_strs {H : Hp} : ∀ ys : List Str, DpAll K H (ys.map V.str) (ys.map PyData.str)
  | [] => .nil
  | y :: ys => .cons (.str y) (dpa_strs ys)
theorem dpa_strs' {H : Hp} : ∀ {ys : List Str} {vs : List V}, DpAll K H vs (ys.map PyData.str) → vs = ys.map V.str
  | [], _, h => by cases h; rfl
  | y :: ys, _, h => by
    cases h with
    | cons h1 h2 => rw [dp_str h1, dpa_strs' h2] <;> rfl
theorem flat_strs (ys : List Str) : (ys.map PyData.str).all flat = true := by
  rw [List.all_eq_true]
  intro x hx
  obtain ⟨y, _, rfl⟩ := List.mem_map.mp hx
  rfl
theorem edl_split (ha : Ed ta env (.str a)) (hb : Ed tb env (.str b)) (h0 : (b.length == 0) = false) (hl : a.length ≤ 100000) : EdL (tBM K "str" rSplit ta (tCons tb tNil)) env ((Txt.split a b).map .str) := fun H0 σ H e Q q =>
  ha H0 σ H e _ fun v H2 e2 dv => by
    cases dp_str dv
    refine ⟨rfl, hb H0 σ H2 (e.same e2) _ fun w H3 e3 dw => ?_⟩
    cases dp_str dw
    exact ⟨a, b, rfl, rfl, h0, by have : 100002 ≤ sizeLine := by decide
                                  omega, fun p hp => q p _ _ ((e2.trans e3).free hp) ((e2.trans e3).trans (same_new hp)) upd_same (dpa_strs _)⟩
theorem ed_join {ys : List Str} (ha : Ed ta env (.str a)) (hb : Ed tb env (.list (ys.map .str))) (hl : (ys.map (·.length)).sum + ys.length * a.length ≤ 16777216) : Ed (tBM K "str" (rJoin K) ta (tCons tb tNil)) env (.str (Txt.join a ys)) := fun H0 σ H e Q q =>
  ha H0 σ H e _ fun v H2 e2 dv => by
    cases dp_str dv
    refine ⟨rfl, hb H0 σ H2 (e.same e2) _ fun w H3 e3 dw => ?_⟩
    obtain ⟨p, xs, rfl, h1, h2⟩ := dp_list dw
    have := dpa_strs' h2
    subst this
    exact ⟨a, p, ys, rfl, rfl, .inl h1, hl, q _ H3 (e2.trans e3) (.str _)⟩
theorem ed_notInS {c : Nat} (ha : Ed ta env (.str ⟨#[c]⟩)) (hb : Ed tb env (.str z)) : Ed (tOp rNotInSign ta tb) env (.bool (!decide (c ∈ z.cps.toList))) := ed_op ha hb fun v w H hv hw Q q => by
  cases dp_str hv
  cases dp_str hw
  exact ⟨c, z, rfl, rfl, q _ H (Same.refl H) (.bl _)⟩
theorem ed_sliceS {tl th : TO} {lo hi : Option Int} (h : Ed te env (.str z)) (hl : EdO tl env lo) (hh : EdO th env hi) (hz : z.length ≤ 100000) : Ed (tSl rSlS te tl th) env (.str (cutS z lo hi)) := fun H0 σ H e Q q =>
  h H0 σ H e _ fun v H2 e2 dv => hl H0 σ H2 (e.same e2) _ fun H3 e3 => hh H0 σ H3 ((e.same e2).same e3) _ fun H4 e4 => by
    cases dp_str dv
    exact ⟨z, rfl, Nat.le_trans hz (by decide), q _ H4 ((e2.trans e3).trans e4) (.str _)⟩
end
section
variable {K : PySem.W.Frag} {He : Hp} {env : List (Sl K)} {te ta tb : TE} {tt : TT} {t u tz : TS} {D : Ends} {z : Str} {k : Nat}
/-- for over a text, sign by sign -/
theorem sk_forS (hz : Ed te env (.str z)) (I : Nat → List (Sl K)) (P : Nat → Prop) (h0 : env = I 0) (p0 : P 0)
    (hs : ∀ (i c : Nat), z.cps.toList[i]? = some c → P i → Sk K He ((I i).set k (fl (.str ⟨#[c]⟩))) (t { D with nx := Nx K He (fun e => e = I (i + 1) ∧ P (i + 1)), ct := Nx K He (fun e => e = I (i + 1) ∧ P (i + 1)), bk := D.nx }))
    (hd : P z.cps.size → Sk K He (I z.cps.size) D.nx) : Sk K He env (tFor (iStr te) (gName k) t D) := fun H0 σ H b e =>
  hz H0 σ H e _ fun v H1 e1 dv => by
    cases dp_str dv
    refine ⟨z, rfl, for_it walk_str (fun i => Nx K He (fun e => e = I i ∧ P i)) ⟨H0, env, b, ⟨h0, p0⟩, e.same e1⟩ (fun _ _ _ _ _ => trivial) (fun i x σ' H' H'' hi p y => ?_) (fun σ' H' p => ?_)⟩
    · obtain ⟨H0', env', b', ⟨rfl, pi⟩, e'⟩ := p
      obtain ⟨rfl, c, hc, rfl⟩ := y
      exact hs i c (by rw [Array.getElem?_toList]; exact hc) pi H0' _ _ b' (e'.set (s := fl (.str ⟨#[c]⟩)) rfl ⟨rfl, _, rfl, .str _⟩ k)
    · obtain ⟨H0', env', b', ⟨rfl, pi⟩, e'⟩ := p
      exact hd pi H0' σ' H' b' e'
theorem q_forS (hz : Ed te env (.str z)) (I : Nat → List (Sl K)) (P : Nat → Prop) (h0 : env = I 0) (p0 : P 0)
    (hs : ∀ (i c : Nat), z.cps.toList[i]? = some c → P i → Sk K He ((I i).set k (fl (.str ⟨#[c]⟩))) (t { D with nx := Nx K He (fun e => e = I (i + 1) ∧ P (i + 1)), ct := Nx K He (fun e => e = I (i + 1) ∧ P (i + 1)), bk := tz D }))
    (hd : P z.cps.size → Sk K He (I z.cps.size) (tz D)) : Sk K He env (tSeq (tFor (iStr te) (gName k) t) tz D) := sk_forS (D := { D with nx := tz D }) hz I P h0 p0 hs hd
/-- a comprehension over a text -/
theorem edl_lcS {tl : TE} {os : List (Option PyData)} {vs : List Nat} (hs : Ed tl env (.str z)) (hf : (kept os).all flat = true) (hz : os.length ≤ 100000) (hl : os.length = z.cps.size) (hj : k ∈ vs)
    (ht : ∀ (i c : Nat) oo, z.cps.toList[i]? = some c → os[i]? = some oo → EdT tt ((wipeE env vs).set k (fl (.str ⟨#[c]⟩))) oo.isSome) (he : ∀ (i c : Nat) o, z.cps.toList[i]? = some c → os[i]? = some (some o) → Ed te ((wipeE env vs).set k (fl (.str ⟨#[c]⟩))) o) :
    EdL (tLc (iStr tl) (gName k) tt te vs) env (kept os) := fun H0 σ H e Q q => by
  refine hs H0 σ H e _ fun v H1 e1 dv => ?_
  cases dp_str dv
  refine ⟨z, rfl, fun D hD => lc_it walk_str (Cw K H1 os D) (cw_zero hD) (fun _ _ _ _ => trivial) (fun i x H' H'' hi c y => ?_) (fun H' c => ?_)⟩
  · obtain ⟨rfl, s, hc, rfl⟩ := y
    have hlt : i < os.length := by omega
    obtain ⟨oo, ho⟩ : ∃ oo, os[i]? = some oo := ⟨_, List.getElem?_eq_getElem hlt⟩
    have hc' : z.cps.toList[i]? = some s := by rw [Array.getElem?_toList]; exact hc
    refine ⟨by rw [wipe_set hj, wipe_wipe], ?_⟩
    have en2 := (((e.same e1).same c.2.1).wipe vs).set (s := fl (.str ⟨#[s]⟩)) (o := some (V.str ⟨#[s]⟩)) rfl ⟨rfl, _, rfl, .str _⟩ k
    exact cw_turn hf hz ho c en2 (ht i s oo hc' ho) (fun o eo => he i s o hc' (by rw [ho, eo]))
  · obtain ⟨c1, c2, us, c3, c4⟩ := c
    rw [← hl, List.take_length] at c4
    exact q D us H' (e1.free c1) (e1.trans c2) c3 c4
end
end Rs

/-! # numbers and shapes as texts -/
namespace Rw
open PySem PySem.Spec L2 Rs RsS Rm
open TL (tl numL)
open NumText (AllDigits digitsVal)
theorem tl_cutTo (w : Str) : tl (cutS w none (some 1)) = (tl w).take 1 := by
  show (w.cps.toList.drop (HT.sIx w.length 0 none)).take (HT.sIx w.length w.length (some 1) - HT.sIx w.length 0 none) = _
  rw [HT.sIx_none, show (some (1 : Int)) = some ((1 : Nat) : Int) from rfl, HT.sIx_nat, List.drop_zero, Nat.sub_zero]
  have h : w.length = w.cps.toList.length := by simp [Str.length]
  rw [h]
  by_cases k : 1 ≤ w.cps.toList.length
  · rw [Nat.min_eq_left k]
  · have h0 : (tl w).length ≤ 1 := by show w.cps.toList.length ≤ 1; omega
    rw [Nat.min_eq_right (by omega), List.take_of_length_le (Nat.le_refl _)]
    exact (List.take_of_length_le h0).symm
theorem tl_cutFrom (w : Str) (a : Nat) : tl (cutS w (some (a : Int)) none) = (tl w).drop a := by
  show (w.cps.toList.drop (HT.sIx w.length 0 (some (a : Int)))).take (HT.sIx w.length w.length none - HT.sIx w.length 0 (some (a : Int))) = _
  have h : w.length = w.cps.toList.length := by simp [Str.length]
  rw [HT.sIx_none, HT.sIx_nat, h]
  by_cases k : a ≤ w.cps.toList.length
  · rw [Nat.min_eq_left k, List.take_of_length_le (by rw [List.length_drop]; exact Nat.le_refl _)]
  · have h0 : (tl w).length ≤ a := by show w.cps.toList.length ≤ a; omega
    rw [Nat.min_eq_right (by omega), List.drop_of_length_le (Nat.le_refl _), List.take_nil]
    exact (List.drop_of_length_le h0).symm
theorem cutFrom_len (w : Str) (a : Nat) : (cutS w (some (a : Int)) none).length = w.length - a := by
  rw [TL.len_tl, tl_cutFrom, List.length_drop, ← TL.len_tl]
/-! numbers -/
theorem numS_nat (n : Nat) : tl (numS (n : Int)) = numL n := TL.tl_num n
theorem numS_neg (n : Nat) : tl (numS (Int.negSucc n)) = 45 :: numL (n + 1) := by
  unfold numS
  rw [TL.tl_ofString]
  show (("-" ++ Nat.repr (n + 1) : String).toList).map Char.toNat = _
  rw [String.toList_append, List.map_append, Nat.toList_repr]
  rfl
theorem numS_len {i : Int} {k : Nat} (hk : 0 < k) (h : i.natAbs < 10 ^ k) : (numS i).length ≤ k + 1 := by
  rw [TL.len_tl]
  cases i with
  | ofNat n =>
    rw [show Int.ofNat n = (n : Int) from rfl, numS_nat]
    have := TL.numL_len (n := n) hk (by simpa using h)
    omega
  | negSucc n =>
    rw [numS_neg, List.length_cons]
    have := TL.numL_len (n := n + 1) hk (by simpa using h)
    omega
theorem numS_signs {i : Int} {c : Nat} (h : c ∈ tl (numS i)) : c = 45 ∨ (48 ≤ c ∧ c ≤ 57) := by
  cases i with
  | ofNat n =>
    rw [show Int.ofNat n = (n : Int) from rfl, numS_nat] at h
    exact .inr (TL.numL_digits n c h)
  | negSucc n =>
    rw [numS_neg] at h
    rcases List.mem_cons.mp h with h | h
    · exact .inl h
    · exact .inr (TL.numL_digits _ c h)
def isDig (c : Nat) : Bool := decide (48 ≤ c) && decide (c ≤ 57)
def figL (l : List Nat) : List Nat := if l.take 1 = [45] then l.drop 1 else l
/-- the number that a word writes -/
def numOf (l : List Nat) : Option Int :=
  if (1 ≤ (figL l).length ∧ (figL l).length ≤ 7) ∧ ¬ (1 < (figL l).length ∧ (figL l).take 1 = [48]) ∧ l ≠ [45, 48] ∧ (figL l).all isDig = true then
    some (if l.take 1 = [45] then -((digitsVal (figL l) : Nat) : Int) else ((digitsVal (figL l) : Nat) : Int)) else none
theorem isDig_iff {c : Nat} : isDig c = true ↔ 48 ≤ c ∧ c ≤ 57 := by
  unfold isDig
  rw [Bool.and_eq_true, decide_eq_true_iff, decide_eq_true_iff]
theorem all_dig {l : List Nat} : l.all isDig = true ↔ AllDigits l := by
  rw [List.all_eq_true]
  exact ⟨fun h c hc => isDig_iff.mp (h c hc), fun h c hc => isDig_iff.mpr (h c hc)⟩
theorem dig_mem {c : Nat} : decide (c ∈ (Str.ofString "0123456789").cps.toList) = isDig c := by
  rw [show (Str.ofString "0123456789").cps.toList = [48, 49, 50, 51, 52, 53, 54, 55, 56, 57] from by rw [show (Str.ofString "0123456789").cps.toList = tl (Str.ofString "0123456789") from rfl, TL.tl_ofString]; rfl]
  by_cases h : isDig c = true
  · rw [h]
    have := isDig_iff.mp h
    refine decide_eq_true ?_
    simp only [List.mem_cons, List.not_mem_nil, or_false]
    omega
  · rw [Bool.not_eq_true] at h
    rw [h]
    refine decide_eq_false fun m => ?_
    simp only [List.mem_cons, List.not_mem_nil, or_false] at m
    have : isDig c = true := isDig_iff.mpr (by omega)
    rw [h] at this
    cases this
theorem numL_zero {n : Nat} (h : (numL n).take 1 = [48]) : n = 0 := by
  induction n using Nat.strongRecOn with
  | _ n ih =>
    by_cases k : n < 10
    · rw [TL.numL_lt k] at h
      simp at h
      exact h
    · have e := TL.numL_step (n := n) (by omega)
      rw [e] at h
      have ne := TL.numL_ne (n / 10)
      have : (numL (n / 10)).take 1 = [48] := by
        cases q : numL (n / 10) with
        | nil => exact absurd q ne
        | cons a l =>
          rw [q] at h
          simpa using h
      have := ih (n / 10) (by omega) this
      omega
theorem numOf_numS {i : Int} (h : i.natAbs < 10 ^ 7) : numOf (tl (numS i)) = some i := by
  cases i with
  | ofNat n =>
    rw [show Int.ofNat n = (n : Int) from rfl, numS_nat]
    have ne := TL.numL_ne n
    have hl := TL.numL_len (n := n) (k := 7) (by decide) (by simpa using h)
    have hd := TL.numL_digits n
    have h45 : ¬ (numL n).take 1 = [45] := fun z => by
      cases q : numL n with
      | nil => exact ne q
      | cons a l =>
        rw [q] at z
        have := hd a (by rw [q]; simp)
        simp at z
        omega
    have hf : figL (numL n) = numL n := by
      unfold figL
      rw [if_neg h45]
    unfold numOf
    rw [hf, if_pos, if_neg h45, TL.numL_val]
    refine ⟨⟨List.length_pos_iff.mpr ne, hl⟩, fun z => ?_, fun z => ?_, all_dig.mpr hd⟩
    · have := numL_zero z.2
      rw [this] at z
      exact absurd z.1 (by decide)
    · rw [z] at h45
      exact h45 rfl
  | negSucc n =>
    rw [numS_neg]
    have ne := TL.numL_ne (n + 1)
    have hl := TL.numL_len (n := n + 1) (k := 7) (by decide) (by simpa using h)
    have hd := TL.numL_digits (n + 1)
    have hf : figL (45 :: numL (n + 1)) = numL (n + 1) := by
      unfold figL
      exact if_pos rfl
    unfold numOf
    rw [hf, if_pos, if_pos (show (45 :: numL (n + 1)).take 1 = [45] from rfl), TL.numL_val]
    · rfl
    refine ⟨⟨List.length_pos_iff.mpr ne, hl⟩, fun z => ?_, fun z => ?_, all_dig.mpr hd⟩
    · have := numL_zero z.2
      omega
    · injection z with _ z
      have := numL_zero (n := n + 1) (by rw [z]; rfl)
      omega
theorem digitsVal_lt : ∀ (l : List Nat), AllDigits l → digitsVal l < 10 ^ l.length := by
  have key : ∀ (l : List Nat) (a : Nat), AllDigits l → l.foldl (fun acc c => acc * 10 + (c - 48)) a < (a + 1) * 10 ^ l.length := by
    intro l
    induction l with
    | nil =>
      intro a _
      show a < (a + 1) * 1
      omega
    | cons c l ih =>
      intro a h
      have hc := h.head
      rw [List.foldl_cons, List.length_cons]
      refine Nat.lt_of_lt_of_le (ih _ h.tail) ?_
      rw [Nat.pow_succ, Nat.mul_comm (10 ^ l.length) 10, ← Nat.mul_assoc]
      exact Nat.mul_le_mul_right _ (by omega)
  intro l h
  have := key l 0 h
  unfold digitsVal
  rw [Nat.zero_add, Nat.one_mul] at this
  exact this
theorem numOf_lt {l : List Nat} {i : Int} (h : numOf l = some i) : i.natAbs < 10 ^ 7 := by
  unfold numOf at h
  split at h
  · next k =>
    obtain ⟨⟨_, k1⟩, _, _, k2⟩ := k
    have hv := digitsVal_lt _ (all_dig.mp k2)
    have hp : 10 ^ (figL l).length ≤ 10 ^ 7 := Nat.pow_le_pow_right (by decide) k1
    have := Option.some.inj h
    split at this <;> omega
  · cases h
/-! what a slice, a sign are -/
theorem one_sign {w : Str} (s : Str) {c : Nat} (hs : tl s = [c]) : decide (cutS w none (some 1) = s) = decide ((tl w).take 1 = [c]) := by
  by_cases h : (tl w).take 1 = [c]
  · rw [decide_eq_true h]
    exact decide_eq_true (TL.ext_tl (by rw [tl_cutTo, h, hs]))
  · rw [decide_eq_false h]
    refine decide_eq_false fun z => h ?_
    rw [← tl_cutTo, z, hs]
def figS (w : Str) : Str := if (tl w).take 1 = [45] then cutS w (some 1) none else w
theorem tl_figS (w : Str) : tl (figS w) = figL (tl w) := by
  unfold figS figL
  split
  · exact tl_cutFrom w 1
  · rfl
/-! words -/
def wordS (p : Pt) : Str := numS p.1 ++ "," ++ numS p.2
def ptOf (w : Str) : Option Pt := match Txt.split w "," with
  | [a, b] => (match numOf (tl a), numOf (tl b) with
    | some x, some y => some (x, y)
    | _, _ => none)
  | _ => none
theorem tl_blank : tl (" " : Str) = [32] := by
  show tl (Str.ofString " ") = _
  rw [TL.tl_ofString]
  rfl
theorem tl_comma : tl ("," : Str) = [44] := by
  show tl (Str.ofString ",") = _
  rw [TL.tl_ofString]
  rfl
theorem tl_dash : tl ("-" : Str) = [45] := by
  show tl (Str.ofString "-") = _
  rw [TL.tl_ofString]
  rfl
theorem tl_nought : tl ("0" : Str) = [48] := by
  show tl (Str.ofString "0") = _
  rw [TL.tl_ofString]
  rfl
theorem tl_dash0 : tl ("-0" : Str) = [45, 48] := by
  show tl (Str.ofString "-0") = _
  rw [TL.tl_ofString]
  rfl
theorem split_word (p : Pt) : Txt.split (wordS p) "," = [numS p.1, numS p.2] := by
  have h := TL.split_join (y := ",") (s := 44) (S := []) tl_comma (by decide +kernel) (parts := [numS p.1, numS p.2]) (by simp) (fun q hq => by
    rcases List.mem_cons.mp hq with rfl | hq
    · intro z
      have := numS_signs z
      omega
    · rw [List.mem_singleton.mp hq]
      intro z
      have := numS_signs z
      omega)
  rw [TL.join_eq] at h
  exact h
theorem ptOf_word {p : Pt} (h1 : p.1.natAbs < 10 ^ 7) (h2 : p.2.natAbs < 10 ^ 7) : ptOf (wordS p) = some p := by
  unfold ptOf
  rw [split_word]
  show (match numOf (tl (numS p.1)), numOf (tl (numS p.2)) with
    | some x, some y => some (x, y)
    | _, _ => none) = _
  rw [numOf_numS h1, numOf_numS h2]
theorem tl_word (p : Pt) : tl (wordS p) = tl (numS p.1) ++ 44 :: tl (numS p.2) := by
  unfold wordS
  rw [TL.tl_append, TL.tl_append, tl_comma, List.append_assoc]
  rfl
theorem word_signs {p : Pt} {c : Nat} (h : c ∈ tl (wordS p)) : c = 44 ∨ c = 45 ∨ (48 ≤ c ∧ c ≤ 57) := by
  rw [tl_word] at h
  rcases List.mem_append.mp h with h | h
  · exact .inr (numS_signs h)
  · rcases List.mem_cons.mp h with h | h
    · exact .inl h
    · exact .inr (numS_signs h)
theorem word_len {p : Pt} {k : Nat} (hk : 0 < k) (h1 : p.1.natAbs < 10 ^ k) (h2 : p.2.natAbs < 10 ^ k) : (wordS p).length ≤ 2 * k + 3 := by
  rw [TL.len_tl, tl_word, List.length_append, List.length_cons, ← TL.len_tl, ← TL.len_tl]
  have := numS_len hk h1
  have := numS_len hk h2
  omega
/-! the text of a shape -/
def shownS (c : List Pt) : Str := Txt.join " " (c.map wordS)
theorem split_shown {c : List Pt} (hn : c ≠ []) : Txt.split (shownS c) " " = c.map wordS :=
  TL.split_join (y := " ") (s := 32) (S := []) tl_blank (by decide +kernel) (fun e => hn (List.map_eq_nil_iff.mp e)) (fun q hq => by
    obtain ⟨p, _, rfl⟩ := List.mem_map.mp hq
    intro z
    have := word_signs z
    omega)
theorem tl_shown (c : List Pt) : tl (shownS c) = TL.joinL [32] (c.map fun p => tl (wordS p)) := by
  unfold shownS
  rw [TL.join_eq, TL.tl_join, tl_blank, List.map_map]
  rfl
def dueS : List Pt → Str → Str
  | [], d => d
  | p :: c, d => dueS c (d ++ " " ++ numS p.1 ++ "," ++ numS p.2)
theorem tl_due : ∀ (c : List Pt) (d : Str), tl (dueS c d) = tl d ++ (c.map fun p => 32 :: tl (wordS p)).flatten
  | [], d => by
    show tl d = _
    rw [List.map_nil, List.flatten_nil, List.append_nil]
  | p :: c, d => by
    show tl (dueS c (d ++ " " ++ numS p.1 ++ "," ++ numS p.2)) = _
    rw [tl_due c, TL.tl_append, TL.tl_append, TL.tl_append, TL.tl_append, tl_blank, tl_comma, List.map_cons, List.flatten_cons, tl_word]
    simp only [List.append_assoc, List.cons_append, List.nil_append]
theorem joinL_due : ∀ (ls : List (List Nat)), ls ≠ [] → (ls.map fun l => 32 :: l).flatten = 32 :: TL.joinL [32] ls
  | [], h => absurd rfl h
  | [l], _ => by
    show 32 :: l ++ [] = _
    rw [List.append_nil]
    rfl
  | l :: m :: ls, _ => by
    have h := joinL_due (m :: ls) (by simp)
    rw [List.map_cons, List.flatten_cons, h]
    rfl
theorem due_shown {c : List Pt} (hn : c ≠ []) : cutS (dueS c Str.empty) (some 1) none = shownS c := by
  refine TL.ext_tl ?_
  have h := tl_cutFrom (dueS c Str.empty) 1
  rw [show ((1 : Nat) : Int) = 1 from rfl] at h
  rw [h, tl_due, tl_shown, show tl Str.empty = [] from rfl, List.nil_append]
  have h2 := joinL_due (c.map fun p => tl (wordS p)) (fun e => hn (List.map_eq_nil_iff.mp e))
  rw [List.map_map] at h2
  rw [show (c.map fun p => 32 :: tl (wordS p)) = c.map ((fun l => 32 :: l) ∘ fun p => tl (wordS p)) from rfl, h2]
  rfl
theorem due_len {k : Nat} (hk : 0 < k) : ∀ (c : List Pt) (d : Str), (∀ p ∈ c, p.1.natAbs < 10 ^ k ∧ p.2.natAbs < 10 ^ k) → (dueS c d).length ≤ d.length + c.length * (2 * k + 4)
  | [], d, _ => by
    show d.length ≤ _
    omega
  | p :: c, d, h => by
    have h1 := due_len hk c (d ++ " " ++ numS p.1 ++ "," ++ numS p.2) fun q hq => h q (List.mem_cons_of_mem _ hq)
    have h2 := word_len hk (h p List.mem_cons_self).1 (h p List.mem_cons_self).2
    have h3 : (d ++ " " ++ numS p.1 ++ "," ++ numS p.2).length = d.length + 1 + (wordS p).length := by
      rw [TL.len_tl, TL.tl_append, TL.tl_append, TL.tl_append, TL.tl_append, tl_blank, tl_comma, TL.len_tl (wordS p), tl_word, TL.len_tl d]
      simp only [List.length_append, List.length_cons, List.length_nil]
      omega
    show (dueS c (d ++ " " ++ numS p.1 ++ "," ++ numS p.2)).length ≤ _
    rw [List.length_cons, Nat.add_mul, Nat.one_mul]
    omega
theorem due_take {c : List Pt} {i : Nat} (hi : i < c.length) (d : Str) : dueS (c.take (i + 1)) d = dueS (c.take i) d ++ " " ++ numS (at_ c i).1 ++ "," ++ numS (at_ c i).2 := by
  have key : ∀ (l : List Pt) (p : Pt) (d : Str), dueS (l ++ [p]) d = dueS l d ++ " " ++ numS p.1 ++ "," ++ numS p.2 := by
    intro l
    induction l with
    | nil => intro p d; rfl
    | cons q l ih => intro p d; exact ih p _
  rw [List.take_add_one, at_get hi]
  exact key _ _ _
theorem shown_len {k : Nat} (hk : 0 < k) {c : List Pt} (hn : c ≠ []) (h : ∀ p ∈ c, p.1.natAbs < 10 ^ k ∧ p.2.natAbs < 10 ^ k) : (shownS c).length ≤ c.length * (2 * k + 4) := by
  have h1 := due_len hk c Str.empty h
  rw [← due_shown hn, show (1 : Int) = ((1 : Nat) : Int) from rfl, cutFrom_len]
  have : Str.empty.length = 0 := rfl
  omega
theorem join_size {ys : List Str} {m n : Nat} (h : ∀ y ∈ ys, y.length ≤ m) : (ys.map (·.length)).sum + ys.length * n ≤ ys.length * (m + n) := by
  induction ys with
  | nil => simp
  | cons y ys ih =>
    have h1 := h y List.mem_cons_self
    have h2 := ih fun z hz => h z (List.mem_cons_of_mem _ hz)
    rw [List.map_cons, List.sum_cons, List.length_cons, Nat.add_mul, Nat.add_mul, Nat.one_mul, Nat.one_mul]
    omega
/-! int(..) of a word -/
theorem int_fig {w : Str} {i : Int} (h : numOf (tl w) = some i) : ∃ n : Int, PySem.intText? (figS w) = some n ∧ (figS w).length ≤ 7 ∧ i = if (tl w).take 1 = [45] then -n else n := by
  have hf := tl_figS w
  unfold numOf at h
  rw [← hf] at h
  split at h
  · next k =>
    obtain ⟨⟨k0, k1⟩, _, _, k2⟩ := k
    have hl : (figS w).length ≤ 7 := by
      rw [TL.len_tl]
      exact k1
    refine ⟨_, PySem.intText_digits (all_dig.mp k2) (List.length_pos_iff.mp (by show 0 < (tl (figS w)).length; omega)) (by omega), hl, ?_⟩
    exact (Option.some.inj h).symm
  · cases h
end Rw
namespace Rw
open PySem PySem.Spec L2 Rs RsS Rm
open TL (tl numL)
theorem spl_piece (S : List Nat) : ∀ (l : List Nat) (k : Nat) (acc p : List Nat), p ∈ TL.spl S k acc l → p.length ≤ acc.length + l.length
  | [], k, acc, p, h => by
    rw [TL.spl_nil] at h
    rw [List.mem_singleton.mp h]
    omega
  | c :: r, 0, acc, p, h => by
    by_cases z : TL.pre S (c :: r) = true
    · rw [TL.spl_hit z] at h
      rcases List.mem_cons.mp h with h | h
      · rw [h]
        omega
      · have := spl_piece S r _ _ p h
        rw [List.length_nil] at this
        rw [List.length_cons]
        omega
    · rw [Bool.not_eq_true] at z
      rw [TL.spl_miss z] at h
      have := spl_piece S r _ _ p h
      rw [List.length_append, List.length_singleton] at this
      rw [List.length_cons]
      omega
  | c :: r, k + 1, acc, p, h => by
    have h' : p ∈ TL.spl S k acc r := h
    have := spl_piece S r _ _ p h'
    rw [List.length_cons]
    omega
theorem spl_count (S : List Nat) : ∀ (l : List Nat) (k : Nat) (acc : List Nat), (TL.spl S k acc l).length ≤ l.length + 1
  | [], k, acc => by
    rw [TL.spl_nil]
    exact Nat.le_refl _
  | c :: r, 0, acc => by
    by_cases z : TL.pre S (c :: r) = true
    · rw [TL.spl_hit z, List.length_cons, List.length_cons]
      have := spl_count S r (S.length - 1) []
      omega
    · rw [Bool.not_eq_true] at z
      rw [TL.spl_miss z, List.length_cons]
      have := spl_count S r 0 (acc ++ [c])
      omega
  | c :: r, k + 1, acc => by
    have := spl_count S r k acc
    show (TL.spl S k acc r).length ≤ _
    rw [List.length_cons]
    omega
theorem split_piece {x y w : Str} (hy : tl y ≠ []) (hk : y.cps.all (· < 256) = true) (h : w ∈ Txt.split x y) : w.length ≤ x.length := by
  have e := TL.split_spl x y hy (TL.kind_ok hk)
  have m : tl w ∈ TL.spl (tl y) 0 [] (tl x) := by
    rw [← e]
    exact List.mem_map.mpr ⟨w, h, rfl⟩
  have := spl_piece _ _ _ _ _ m
  rw [List.length_nil, Nat.zero_add, ← TL.len_tl, ← TL.len_tl] at this
  exact this
theorem split_count {x y : Str} (hy : tl y ≠ []) (hk : y.cps.all (· < 256) = true) : (Txt.split x y).length ≤ x.length + 1 := by
  have e := congrArg List.length (TL.split_spl x y hy (TL.kind_ok hk))
  rw [List.length_map] at e
  have := spl_count (tl y) (tl x) 0 []
  rw [← TL.len_tl] at this
  omega
theorem blank_ok : tl (" " : Str) ≠ [] ∧ (" " : Str).cps.all (· < 256) = true := ⟨by rw [tl_blank]; simp, by decide +kernel⟩
theorem comma_ok : tl ("," : Str) ≠ [] ∧ ("," : Str).cps.all (· < 256) = true := ⟨by rw [tl_comma]; simp, by decide +kernel⟩
theorem fig_len (l : List Nat) : l.length ≤ (figL l).length + 1 := by
  unfold figL
  split
  · rw [List.length_drop]
    omega
  · omega
theorem numOf_len {l : List Nat} {i : Int} (h : numOf l = some i) : l.length ≤ 8 := by
  unfold numOf at h
  split at h
  · next k =>
    have := fig_len l
    omega
  · cases h
/-- what a word that writes a point looks like -/
theorem ptOf_some {w : Str} {p : Pt} (h : ptOf w = some p) : ∃ a b : Str, Txt.split w "," = [a, b] ∧ numOf (tl a) = some p.1 ∧ numOf (tl b) = some p.2 := by
  unfold ptOf at h
  split at h
  · next a b e =>
    refine ⟨a, b, e, ?_⟩
    split at h
    · next x y ex ey =>
      cases h
      exact ⟨ex, ey⟩
    · cases h
  · cases h
theorem sm_of_num {p : Pt} (h1 : p.1.natAbs < 10 ^ 7) (h2 : p.2.natAbs < 10 ^ 7) : Sm 10000000 p := by
  unfold Sm
  omega
theorem big1000 {n : Nat} (h : n < 10 ^ 7) : n < 2 ^ 1000 := Nat.lt_of_lt_of_le h (Nat.le_trans (show 10 ^ 7 ≤ 2 ^ 24 by decide) (Nat.pow_le_pow_right (by decide) (by decide)))
theorem atI_head {α : Type} (c : α) (r : List α) : atI (c :: r) 0 = some c := atI_nat (by rfl)
end Rw

/-! # a display of one pair whose key is a pair; data of lists that is tracked strictly; dicts that hold such -/
namespace RsU
open PySem PySem.Spec PyProof.Rows L2
def tDisp1 (ty tv : TE) : TE := fun σ H Q => ∀ p, H p = none → ty σ (upd H p (.dT [])) fun y H1 => tv σ H1 fun v H2 => ∃ (k : List L2.Key) (b : Addr), y = .ref b ∧ H2 b = some (.tup (k.map kV)) ∧ H2 p = some (.dT []) ∧ Q (.ref p) (upd H2 p (.dT [(k, v)]))
theorem pe_disp1 {X : Cx} {pos : Pos} {ke ve : Expr} {ty tv : TE} (hu : X.A.units + 1 < cLine) (hk : PE X ke ty) (hv : PE X ve tv) : PE X (.Dict [some ke] [ve] pos) (tDisp1 ty tv) := by
  refine ⟨fun pins s σ H Q I q => ?_⟩
  have hn := I.hok.fresh (Nat.le_refl s.heap.objs.size)
  have I1 := I.laid (a := s.heap.objs.size) (o := .dT []) (h' := s.heap.push { cls := .type "dict", data := .dict #[] }) (t' := s.toks) (fun _ _ q => Heap.get?_push_of_some _ q) (Nat.le_refl _) (dt_empty s.heap I.big)
  rw [arm_eval_Dict, zip_pairTrees [some ke] [ve] X.env pos rfl rfl, dictDisplay_pairs _ (by simp [pairTrees]) (by simp [pairTrees])]
  refine wpAny_bind (wpAny_standAt (wpAny_bind (wpAny_subDictH (knd := tupleKind (mixKind X.prog X.w)) (Q := fun d s' => wpAny (model X.prog X.w) X.A (pure (Value.ref d)) _ X.xe s') (show X.A.units < cLine from Nat.lt_of_succ_lt hu) (by simp [pairTrees]) ?_)))
  refine pairTrees_cons_walk (thn (hk.run pins _ σ _ _ I1 (q _ hn)) fun u s1 ⟨y, H1, I1', ry, q1⟩ => thn (hv.run pins s1 σ H1 _ I1' q1) fun r s2 ⟨v, H2, I2, rv, k, b, ey, eb, ed, q2⟩ => pairTrees_nil_walk ?_)
  subst ey
  cases (show u = Value.ref b from ry)
  obtain ⟨z, hd, xs0, r0, dd⟩ := dt_of I2.hok ed
  cases r0
  refine ⟨[(k, b, r)], ⟨rfl, rfl, key_of I2.hok eb, True.intro⟩, dd, fun h' tk dd' hs => wpAny_pure ⟨.ref s.heap.objs.size, _, ?_, rfl, q2⟩⟩
  obtain ⟨qo, es, ep, hq, h2, h3, h4, _, h5⟩ := dd'
  have e : storedAllH ([] : List (List L2.Key × Addr × Value)) [(k, b, r)] = [(k, b, r)] := rfl
  rw [e] at h4 h5
  refine d_write (t' := tk) I2 (by rw [ed]; exact True.intro) hs ⟨qo, hq⟩ ⟨by show 1 ≤ sizeLine; decide, hd, [(k, b, r)], .cons ⟨rfl, ?_, rv⟩ .nil, qo, es, ep, hq, h2, h3, h4, h5⟩
  rw [upd_ne (ne_of eb ed (fun z => nomatch z))]
  exact eb
end RsU
namespace Rs
open PySem PySem.Spec PyProof.Rows L2 RsS RsI
open Rm (Pt)
/-! ## strict data -/
mutual
inductive Ds (H : Hp) : V → PyData → Prop
  | int (i : Int) : Ds H (.int i) (.int i)
  | bl (b : Bool) : Ds H (.bl b) (.bool b)
  | lst {a : Addr} {xs : List V} {ds : List PyData} : H a = some (.lst xs) → DsAll H xs ds → Ds H (.ref a) (.list ds)
inductive DsAll (H : Hp) : List V → List PyData → Prop
  | nil : DsAll H [] []
  | cons {v : V} {d : PyData} {vs : List V} {ds : List PyData} : Ds H v d → DsAll H vs ds → DsAll H (v :: vs) (d :: ds)
end
def LK (H H' : Hp) : Prop := ∀ a xs, H a = some (.lst xs) → H' a = some (.lst xs)
theorem LK.of {H H' : Hp} (e : Same H H') : LK H H' := fun a _ h => e a _ h
section
variable {H H' : Hp} {K : PySem.W.Frag}
mutual
theorem ds_keep (e : LK H H') : ∀ (d : PyData) {v : V}, Ds H v d → Ds H' v d
  | .none, _, h => by cases h
  | .bool b, _, h => by cases h; exact .bl b
  | .int i, _, h => by cases h; exact .int i
  | .str x, _, h => by cases h
  | .list ds, _, h => by
    cases h with
    | lst hs ha => exact .lst (e _ _ hs) (dsa_keep e ds ha)
  | .tuple ds, _, h => by cases h
  | .dict _, _, h => by cases h
theorem dsa_keep (e : LK H H') : ∀ (ds : List PyData) {vs : List V}, DsAll H vs ds → DsAll H' vs ds
  | [], _, h => by cases h; exact .nil
  | d :: ds, _, h => by
    cases h with
    | cons h1 h2 => exact .cons (ds_keep e d h1) (dsa_keep e ds h2)
end
mutual
theorem ds_dp : ∀ (d : PyData) {v : V}, Ds H v d → Dp K H v d
  | .none, _, h => by cases h
  | .bool b, _, h => by cases h; exact .bl b
  | .int i, _, h => by cases h; exact .int i
  | .str x, _, h => by cases h
  | .list ds, _, h => by
    cases h with
    | lst hs ha => exact .lst (SqL.of hs) (dsa_dp ds ha)
  | .tuple ds, _, h => by cases h
  | .dict _, _, h => by cases h
theorem dsa_dp : ∀ (ds : List PyData) {vs : List V}, DsAll H vs ds → DpAll K H vs ds
  | [], _, h => by cases h; exact .nil
  | d :: ds, _, h => by
    cases h with
    | cons h1 h2 => exact .cons (ds_dp d h1) (dsa_dp ds h2)
end
theorem ds_mono (e : Same H H') (d : PyData) {v : V} (h : Ds H v d) : Ds H' v d := ds_keep (.of e) d h
theorem dsa_mono (e : Same H H') (ds : List PyData) {vs : List V} (h : DsAll H vs ds) : DsAll H' vs ds := dsa_keep (.of e) ds h
theorem dsa_len : ∀ {ds : List PyData} {vs : List V}, DsAll H vs ds → vs.length = ds.length
  | _, _, .nil => rfl
  | _, _, .cons _ t => by rw [List.length_cons, List.length_cons, dsa_len t]
theorem dsa_append : ∀ {ds es : List PyData} {vs ws : List V}, DsAll H vs ds → DsAll H ws es → DsAll H (vs ++ ws) (ds ++ es)
  | _, _, _, _, .nil, h => h
  | _, _, _, _, .cons h t, g => .cons h (dsa_append t g)
theorem dsa_get' : ∀ {ds : List PyData} {vs : List V} {i : Nat} {v : V}, DsAll H vs ds → vs[i]? = some v → ∃ d, ds[i]? = some d ∧ Ds H v d
  | _, _, _, _, .nil, e => by simp at e
  | _, _, 0, _, .cons h _, e => by
    simp at e
    subst e
    exact ⟨_, rfl, h⟩
  | _, _, i + 1, d, .cons _ t, e => by
    obtain ⟨v, h1, h2⟩ := dsa_get' (i := i) (v := d) t (by simpa using e)
    exact ⟨v, by simpa using h1, h2⟩
theorem ds_list {v : V} {ds : List PyData} (h : Ds H v (.list ds)) : ∃ a xs, v = .ref a ∧ H a = some (.lst xs) ∧ DsAll H xs ds := by
  cases h with
  | lst hs ha => exact ⟨_, _, rfl, hs, ha⟩
end
/-- what is new since F -/
def nw (F H : Hp) : Hp := fun a => match F a with
  | none => H a
  | some _ => none
theorem nw_at {F H : Hp} {a : Addr} (h : F a = none) : nw F H a = H a := by
  unfold nw
  rw [h]
theorem nw_some {F H : Hp} {a : Addr} {u : HO} (h : nw F H a = some u) : F a = none ∧ H a = some u := by
  unfold nw at h
  cases e : F a with
  | none =>
    rw [e] at h
    exact ⟨rfl, h⟩
  | some _ =>
    rw [e] at h
    cases h
theorem nw_mono {F H H' : Hp} (e : Same H H') : Same (nw F H) (nw F H') := fun a u h => by
  obtain ⟨h1, h2⟩ := nw_some h
  rw [nw_at h1]
  exact e a u h2
theorem nw_same (F H : Hp) : Same (nw F H) H := fun a u h => (nw_some h).2
theorem bas_mono {H H' : Hp} (as : List Addr) (e : Same H H') : Same (bas H as) (bas H' as) := fun a u h => by
  by_cases m : a ∈ as
  · rw [bas_in m] at h
    cases h
  · rw [bas_out m] at h ⊢
    exact e a u h
/-! entries -/
def EntR (R : V → PyData → Prop) (ents : List (List L2.Key × V)) (kvs : List (Pt × PyData)) : Prop := Paired (fun e kd => e.1 = kP kd.1 ∧ R e.2 kd.2) ents kvs
section
variable {R R' : V → PyData → Prop}
theorem EntR.len {ents : List (List L2.Key × V)} {kvs : List (Pt × PyData)} (h : EntR R ents kvs) : ents.length = kvs.length := Paired.length h
theorem EntR.mono (k : ∀ v d, R v d → R' v d) {ents : List (List L2.Key × V)} {kvs : List (Pt × PyData)} (h : EntR R ents kvs) : EntR R' ents kvs := paired_mono h fun _ _ _ r => ⟨r.1, k _ _ r.2⟩
theorem EntR.any {ents : List (List L2.Key × V)} {kvs : List (Pt × PyData)} (h : EntR R ents kvs) (p : Pt) : (ents.any fun kv => decide (kv.1 = kP p)) = kvs.any fun kv => decide (kv.1 = p) := by
  unfold EntR at h
  induction h with
  | nil => rfl
  | @cons e kd es ks h t ih =>
    rw [List.any_cons, List.any_cons, ih, h.1]
    congr 1
    by_cases z : kd.1 = p
    · rw [z]
      simp
    · rw [decide_eq_false z, decide_eq_false (fun y => z (kP_inj y))]
theorem EntR.put {ents : List (List L2.Key × V)} {kvs : List (Pt × PyData)} (h : EntR R ents kvs) (p : Pt) {v : V} {d : PyData} (hv : R v d) : EntR R (putK ents (kP p) v) (putP kvs p d) := by
  unfold putK putP
  rw [h.any p]
  split
  · next hany =>
    clear hany
    unfold EntR at h ⊢
    induction h with
    | nil => exact .nil
    | @cons e kd es ks h t ih =>
      rw [List.map_cons, List.map_cons]
      refine .cons ?_ ih
      by_cases z : kd.1 = p
      · rw [if_pos z, if_pos (by rw [h.1, z])]
        exact ⟨h.1, hv⟩
      · rw [if_neg z, if_neg (fun y => z (kP_inj (h.1.symm.trans y)))]
        exact h
  · exact paired_app (show Paired _ ents kvs from h) (.cons ⟨rfl, hv⟩ .nil)
theorem EntR.val {ents : List (List L2.Key × V)} {kvs : List (Pt × PyData)} (h : EntR R ents kvs) (p : Pt) : (∀ d, valP kvs p = some d → ∃ v, valV ents (kP p) = some v ∧ R v d) ∧ (valP kvs p = none → valV ents (kP p) = none) := by
  unfold EntR at h
  induction h with
  | nil => exact ⟨fun d hd => (by cases hd), fun _ => rfl⟩
  | @cons e kd es ks h t ih =>
    by_cases z : kd.1 = p
    · have h1 : valP (kd :: ks) p = some kd.2 := by
        unfold valP
        rw [List.find?_cons, decide_eq_true z]
        rfl
      have h2 : valV (e :: es) (kP p) = some e.2 := valV_pos (by rw [h.1, z])
      rw [h1, h2]
      refine ⟨fun d hd => ?_, fun hd => (by cases hd)⟩
      cases hd
      exact ⟨e.2, rfl, h.2⟩
    · have h1 : valP (kd :: ks) p = valP ks p := by
        unfold valP
        rw [List.find?_cons, decide_eq_false z]
      have h2 : valV (e :: es) (kP p) = valV es (kP p) := valV_neg (fun y => z (kP_inj (h.1.symm.trans y)))
      rw [h1, h2]
      exact ih
end
/-! slots -/
section
variable {K : PySem.W.Frag}
/-- strict data, new since F, that stands -/
def sp (F : Hp) (d : PyData) : Sl K := ⟨fun H0 _ o => ∃ v, o = some v ∧ Ds (nw F H0) v d, [], fun e _ _ _ ⟨v, h1, h2⟩ => ⟨v, h1, ds_mono (nw_mono e) d h2⟩, fun _ _ h => nomatch h⟩
/-- a dict of the frame's own of strict data that stands -/
def cdic (F : Hp) (l : Addr) (kvs : List (Pt × PyData)) : Sl K := ⟨fun H0 H o => o = some (.ref l) ∧ F l = none ∧ ∃ ents, H l = some (.dT ents) ∧ EntR (Ds (nw F H0)) ents kvs, [l],
  fun e _ _ k ⟨h1, f, ents, h2, h3⟩ => ⟨h1, f, ents, k l (List.mem_singleton.mpr rfl) _ h2, h3.mono fun v d r => ds_mono (nw_mono e) d r⟩,
  fun ⟨_, _, ents, h2, _⟩ a ha => ⟨.dT ents, (List.mem_singleton.mp ha) ▸ h2, True.intro⟩⟩
/-- the same, the dict stands too -/
def cpar (F : Hp) (kvs : List (Pt × PyData)) : Sl K := ⟨fun H0 _ o => ∃ l ents, o = some (.ref l) ∧ F l = none ∧ H0 l = some (.dT ents) ∧ EntR (Ds (nw F H0)) ents kvs, [],
  fun e _ _ _ ⟨l, ents, h1, f, h2, h3⟩ => ⟨l, ents, h1, f, e _ _ h2, h3.mono fun v d r => ds_mono (nw_mono e) d r⟩, fun _ _ h => nomatch h⟩
end
section
variable {K : PySem.W.Frag} {F : Hp} {env : List (Sl K)} {te ta tb tx td ty tv : TE} {p : Pt} {d x y : PyData} {ds es : List PyData} {kvs : List (Pt × PyData)} {i j : Int} {b : Bool}
def EdS (F : Hp) (te : TE) (env : List (Sl K)) (d : PyData) : Prop := ∀ (H0 : Hp) (σ : L2.St) (H : Hp), Same F H0 → En K H0 σ H env → ∀ Q : VK, (∀ v H2, Same H H2 → Ds (nw F (bas H2 (owns env))) v d → Q v H2) → te σ H Q
def EdSA (F : Hp) (ta : TA) (env : List (Sl K)) (ds : List PyData) : Prop := ∀ (H0 : Hp) (σ : L2.St) (H : Hp), Same F H0 → En K H0 σ H env → ∀ Q : List V → Hp → Prop, (∀ vs H2, Same H H2 → DsAll (nw F (bas H2 (owns env))) vs ds → Q vs H2) → ta σ H Q
theorem ds_up {H H' : Hp} {as : List Addr} (e : Same H H') : Same (nw F (bas H as)) (nw F (bas H' as)) := nw_mono (bas_mono as e)
theorem ds_real {H : Hp} {as : List Addr} : Same (nw F (bas H as)) H := fun a u h => bas_same _ _ a u (nw_same _ _ a u h)
theorem eds_is (h : EdS F te env d) (e : d = x) : EdS F te env x := e ▸ h
theorem eds_var {k : Nat} (h : env[k]? = some (sp F d)) : EdS F (tVar k) env d := fun H0 σ H hF e Q q => by
  obtain ⟨o, h1, v, rfl, h3⟩ := e.get h
  exact ⟨v, h1, q v H (Same.refl H) (ds_mono (nw_mono e.base_same) d h3)⟩
theorem ed_sp {k : Nat} (h : env[k]? = some (sp F d)) : Ed (tVar k) env d := ed_var h fun e ⟨v, h1, h2⟩ => ⟨v, h1, ds_dp d (ds_mono (fun a u z => e a u (nw_same _ _ a u z)) d h2)⟩
theorem ed_S (hF : ∀ (H0 : Hp) (σ : L2.St) (H : Hp), En K H0 σ H env → Same F H0) (h : EdS F te env d) : Ed te env d := fun H0 σ H e Q q => h H0 σ H (hF H0 σ H e) e Q fun v H2 e2 dv => q v H2 e2 (ds_dp d (ds_mono ds_real d dv))
theorem eds_bl (h : Ed te env (.bool b)) : EdS F te env (.bool b) := fun H0 σ H hF e Q q => h H0 σ H e Q fun v H2 e2 dv => by
  cases dp_bool dv
  exact q _ H2 e2 (.bl b)
theorem edsa_nil : EdSA F tNil env [] := fun _ _ H _ _ _ q => q [] H (Same.refl H) .nil
theorem edsa_cons {tr : TA} (ha : EdS F ta env x) (hr : EdSA F tr env ds) : EdSA F (tCons ta tr) env (x :: ds) := fun H0 σ H hF e Q q =>
  ha H0 σ H hF e _ fun v H2 e2 dv => hr H0 σ H2 hF (e.same e2) _ fun vs H3 e3 dvs => q (v :: vs) H3 (e2.trans e3) (.cons (ds_mono (ds_up e3) x dv) dvs)
theorem new_at {H0 H H2 : Hp} {σ : L2.St} {l : Addr} {o : HO} (hF : Same F H0) (e : En K H0 σ H env) (e2 : Same H H2) (hl : H2 l = none) : nw F (bas (upd H2 l o) (owns env)) l = some o := by
  have h1 := e2.free hl
  rw [nw_at ((hF.trans e.sm).free h1), bas_out (e.not_own h1), upd_same]
theorem eds_lst {ta : TA} (ha : EdSA F ta env ds) (hl : ds.length ≤ 100000) : EdS F (tLst ta) env (.list ds) := fun H0 σ H hF e Q q =>
  ha H0 σ H hF e _ fun vs H2 e2 dv => ⟨by rw [dsa_len dv]; exact Nat.le_trans hl (by decide), fun l hl => q _ _ (e2.trans (same_new hl)) (.lst (new_at hF e e2 hl) (dsa_mono (ds_up (same_new hl)) ds dv))⟩
theorem eds_cat (ha : EdS F ta env (.list ds)) (hb : EdS F tb env (.list es)) (hz : ds.length + es.length ≤ 100000) : EdS F (tOp rCat ta tb) env (.list (ds ++ es)) := fun H0 σ H hF e Q q =>
  ha H0 σ H hF e _ fun v H2 e2 dv => hb H0 σ H2 hF (e.same e2) _ fun w H3 e3 dw => by
    obtain ⟨p, vs, rfl, h1, h2⟩ := ds_list dv
    obtain ⟨p', ws, rfl, h3, h4⟩ := ds_list dw
    exact ⟨p, p', vs, ws, rfl, rfl, e3 _ _ (ds_real _ _ h1), ds_real _ _ h3, by rw [dsa_len h2, dsa_len h4]; exact Nat.le_trans hz (by decide), fun l hl => q _ _ ((e2.trans e3).trans (same_new hl))
      (.lst (new_at hF e (e2.trans e3) hl) (dsa_mono (ds_up (same_new hl)) _ (dsa_append (dsa_mono (ds_up e3) _ h2) h4)))⟩
/-- d.get(p, x) -/
theorem eds_get2 {k : Nat} {l : Addr} (h : env[k]? = some (cdic F l kvs)) (hi : EdH te env p) (hx : EdS F tx env x) : EdS F (tDGet2 (tVar k) te tx) env ((valP kvs p).getD x) := fun H0 σ H hF e Q q => by
  obtain ⟨o, h1, rfl, _, ents0, h40, _⟩ := e.get h
  refine ⟨_, h1, l, rfl, .inr ⟨ents0, .inl h40⟩, hi H0 σ H e _ fun b H2 e2 hb => hx H0 σ H2 hF (e.same e2) _ fun z H3 e3 dz => ?_⟩
  have e' := (e.same e2).same e3
  obtain ⟨o, h1', h3, _, ents, h4, h5⟩ := e'.get h
  obtain ⟨g1, g2⟩ := h5.val p
  refine ⟨_, DGet.t (k := kP p) h4 (e3 _ _ hb), ?_⟩
  cases hv : valP kvs p with
  | none =>
    rw [hv] at q
    rw [g2 hv]
    exact q z H3 (e2.trans e3) dz
  | some d =>
    obtain ⟨v, k1, k2⟩ := g1 d hv
    rw [hv] at q
    rw [k1]
    exact q v H3 (e2.trans e3) (ds_mono (nw_mono e'.base_same) d k2)
/-- d[p], d standing -/
theorem eds_get {k : Nat} (h : env[k]? = some (cpar F kvs)) (hi : EdH te env p) (hv : valP kvs p = some d) : EdS F (tDGet (tVar k) te) env d := fun H0 σ H hF e Q q => by
  obtain ⟨o, h1, l, ents, rfl, hn, h4, h5⟩ := e.get h
  refine ⟨_, h1, hi H0 σ H e _ fun b H2 e2 hb => ?_⟩
  obtain ⟨v, g1, g2⟩ := (h5.val p).1 d hv
  exact ⟨l, v, rfl, g1 ▸ DGet.t ((e.same e2).sm _ _ h4) hb, q v H2 e2 (ds_mono (nw_mono (e.same e2).base_same) d g2)⟩
/-- a call that gives a dict of strict data -/
def spC (K : PySem.W.Frag) (R : List PyData → List (Pt × PyData) → Prop) : Sp := fun vs H Q _ => ∃ ds kvs, R ds kvs ∧ DpAll K H vs ds ∧ ∀ l ents H', H l = none → Same H H' → H' l = some (.dT ents) → EntR (Ds (nw H H')) ents kvs → Q (.ref l) H'
theorem eds_getC {R : List PyData → List (Pt × PyData) → Prop} {E : XK} {ta : TA} (ha : EdA ta env ds) (hR : R ds kvs) (hi : EdH te env p) (hx : EdS F tx env x) : EdS F (tDGet2 (tCall (spC K R) [] E ta) te tx) env ((valP kvs p).getD x) := fun H0 σ H hF e Q q =>
  ha H0 σ H e _ fun vs H1 e1 dv => by
    rw [List.append_nil]
    refine ⟨ds, kvs, hR, dv, fun l ents H2 hl e2 h4 h5 => ⟨l, rfl, .inr ⟨ents, .inl h4⟩, hi H0 σ H2 ((e.same e1).same e2) _ fun b H3 e3 hb => hx H0 σ H3 hF (((e.same e1).same e2).same e3) _ fun z H4 e4 dz => ?_⟩⟩
    obtain ⟨g1, g2⟩ := h5.val p
    have eq1 := e.same e1
    refine ⟨_, DGet.t (k := kP p) (e4 _ _ (e3 _ _ h4)) (e4 _ _ hb), ?_⟩
    cases hv : valP kvs p with
    | none =>
      rw [hv] at q
      rw [g2 hv]
      exact q z H4 (((e1.trans e2).trans e3).trans e4) dz
    | some d =>
      obtain ⟨v, k1, k2⟩ := g1 d hv
      rw [hv] at q
      rw [k1]
      refine q v H4 (((e1.trans e2).trans e3).trans e4) (ds_mono (fun a u h => ?_) d k2)
      obtain ⟨z1, z2⟩ := nw_some h
      rw [nw_at ((hF.trans eq1.sm).free z1), bas_out (eq1.not_own z1)]
      exact e4 _ _ (e3 _ _ z2)
end
section
variable {K : PySem.W.Frag} {F He : Hp} {env : List (Sl K)} {te ta tb tx td ty tv : TE} {tt : TT} {t u tz : TS} {D : Ends} {p : Pt} {d x y : PyData} {ds es : List PyData} {kvs : List (Pt × PyData)} {i j : Int} {b : Bool}
theorem sk_asgS {k : Nat} (hF : Same F He) (h : EdS F te env d) (q : Sk K He (env.set k (sp F d)) D.nx) : Sk K He env (tAsg te (gName k) D) := fun H0 σ H w e =>
  h H0 σ H (hF.trans w) e _ fun v H2 e2 dv => q _ _ H2 (w.trans (e.same e2).base_same) ((e.same e2).base.set (s := sp F d) rfl ⟨v, rfl, dv⟩ k)
theorem q_asgS {k : Nat} (hF : Same F He) (h : EdS F te env d) (q : Sk K He (env.set k (sp F d)) (tz D)) : Sk K He env (tSeq (tAsg te (gName k)) tz D) := sk_asgS (D := { D with nx := tz D }) hF h q
theorem sk_asgH {k : Nat} (h : EdH te env p) (q : Sk K He (env.set k (hp p)) D.nx) : Sk K He env (tAsg te (gName k) D) := fun H0 σ H w e =>
  h H0 σ H e _ fun b H2 e2 hb => q _ _ H2 w ((e.same e2).set (s := hp p) rfl ⟨b, rfl, hb⟩ k)
theorem q_asgH {k : Nat} (h : EdH te env p) (q : Sk K He (env.set k (hp p)) (tz D)) : Sk K He env (tSeq (tAsg te (gName k)) tz D) := sk_asgH (D := { D with nx := tz D }) h q
/-- d = {p: v} -/
theorem sk_disp1 {k : Nat} (hF : Same F He) (hi : EdH ty env p) (hv : EdS F tv env d) (q : Sk K He (env.set k (cpar F [(p, d)])) D.nx) : Sk K He env (tAsg (RsU.tDisp1 ty tv) (gName k) D) := fun H0 σ H w e l hl => by
  have e1 : Same H (upd H l (.dT [])) := same_new hl
  refine hi H0 σ _ (e.same e1) _ fun b H2 e2 hb => hv H0 σ H2 (hF.trans w) ((e.same e1).same e2) _ fun v H3 e3 dv => ?_
  have s3 : Same H H3 := (e1.trans e2).trans e3
  have hl3 : H3 l = some (.dT []) := e3 _ _ (e2 _ _ upd_same)
  refine ⟨kP p, b, rfl, e3 _ _ hb, hl3, ?_⟩
  have nl : l ∉ owns env := e.not_own hl
  have hl0 : H0 l = none := e.sm.free hl
  have e4 : En K H0 σ (upd H3 l (.dT [(kP p, v)])) env := (e.same s3).step (Same.refl _) (same_mut (e.same s3).sm hl0) (SameT.upd hl3 trivial) (fun a ha u hu => by
    rw [upd_ne (show a ≠ l from fun z => nl (z ▸ ha))]
    exact hu) e.fr
  refine q _ _ _ (w.trans e4.base_same) (e4.base.set (s := cpar F [(p, d)]) rfl ⟨l, [(kP p, v)], rfl, (hF.trans w).free hl0, ?_, .cons ⟨rfl, ds_keep (fun a xs h => ?_) d dv⟩ .nil⟩ k)
  · rw [bas_out nl, upd_same]
  · obtain ⟨z1, z2⟩ := nw_some h
    have ne : a ≠ l := fun z => by
      rw [z, bas_out nl, hl3] at z2
      cases z2
    have na : a ∉ owns env := fun z => by
      rw [bas_in z] at z2
      cases z2
    rw [nw_at z1, bas_out na, upd_ne ne]
    rw [bas_out na] at z2
    exact z2
theorem q_disp1 {k : Nat} (hF : Same F He) (hi : EdH ty env p) (hv : EdS F tv env d) (q : Sk K He (env.set k (cpar F [(p, d)])) (tz D)) : Sk K He env (tSeq (tAsg (RsU.tDisp1 ty tv) (gName k)) tz D) := sk_disp1 (D := { D with nx := tz D }) hF hi hv q
/-- d = {} -/
theorem sk_asgC {k : Nat} (hF : Same F He) (q : ∀ l, Sk K He (env.set k (cdic F l [])) D.nx) : Sk K He env (tAsg tDNewT (gName k) D) := fun H0 σ H w e l hl =>
  q l H0 _ _ w (e.setO (same_new hl) (s := cdic F l []) hl rfl ⟨rfl, ((hF.trans w).trans e.sm).free hl, [], upd_same, .nil⟩ k)
theorem q_asgC {k : Nat} (hF : Same F He) (q : ∀ l, Sk K He (env.set k (cdic F l [])) (tz D)) : Sk K He env (tSeq (tAsg tDNewT (gName k)) tz D) := sk_asgC (D := { D with nx := tz D }) hF q
/-- d[p] = v -/
theorem sk_cput {k : Nat} {l : Addr} (hF : Same F He) (h : env[k]? = some (cdic F l kvs)) (hi : EdH te env p) (hv : EdS F tv env d) (hz : kvs.length < 10000000) (q : Sk K He (env.set k (cdic F l (putP kvs p d))) D.nx) : Sk K He env (sDPut (tVar k) te tv D) := fun H0 σ H w e =>
  hv H0 σ H (hF.trans w) e _ fun v H1 e1 dv => by
    obtain ⟨o, h1, rfl, _, _⟩ := (e.same e1).get h
    refine ⟨_, h1, hi H0 σ H1 (e.same e1) _ fun b H2 e2 hb => ?_⟩
    have e' := (e.same e1).same e2
    obtain ⟨o, h1', h3, g, ents, h4, h5⟩ := e'.base.get h
    refine ⟨l, _, rfl, DPut.t (k := kP p) h4 hb (by rw [h5.len]; exact Nat.lt_of_lt_of_le hz (by decide)), ?_⟩
    refine q _ σ _ (w.trans e'.base_same) (e'.base.upd (s' := cdic F l (putP kvs p d)) h rfl rfl fun o ho => ?_)
    rw [h1] at ho
    cases ho
    exact ⟨rfl, g, _, upd_same, h5.put p (ds_mono (ds_up e2) d dv)⟩
/-- e = d, the dict d of the frame's own is no longer changed -/
theorem sk_move {k j : Nat} {l : Addr} (h : env[k]? = some (cdic F l kvs)) (q : Sk K He ((env.set k un).set j (cpar F kvs)) D.nx) : Sk K He env (tAsg (tVar k) (gName j) D) := fun H0 σ H w e => by
  obtain ⟨o, h1, rfl, hn, ents, h4, h5⟩ := e.get h
  have nl : l ∉ owns (env.set k un) := not_after h (List.mem_singleton.mpr rfl) e.nd
  have e1 := e.kill1 k
  refine ⟨_, h1, q _ _ H (w.trans e1.base_same) (e1.base.set (s := cpar F kvs) rfl ⟨l, ents, rfl, hn, ?_, h5.mono fun v d r => ds_mono (nw_mono e1.base_same) d r⟩ j)⟩
  rw [bas_out nl]
  exact h4
theorem sk_retC {k : Nat} (h : env[k]? = some (cpar He kvs)) (q : ∀ l ents H', He l = none → Same He H' → H' l = some (.dT ents) → EntR (Ds (nw He H')) ents kvs → D.rt (.ref l) H') : Sk K He env (tRet (tVar k) D) := fun H0 σ H w e => by
  obtain ⟨o, h1, l, ents, rfl, hn, h4, h5⟩ := e.get h
  exact ⟨_, h1, q l ents H hn (w.trans e.sm) (e.sm _ _ h4) (h5.mono fun v d r => ds_mono (nw_mono e.sm) d r)⟩
/-- for over list(d), d standing -/
theorem sk_forKeys {k m : Nat} (h : env[k]? = some (cpar F kvs)) (I : Nat → List (Sl K)) (P : Nat → Prop) (h0 : env = I 0) (p0 : P 0)
    (hs : ∀ (He' : Hp), Same He He' → ∀ i p d, kvs[i]? = some (p, d) → P i → Sk K He' ((I i).set m (hp p)) (t { D with nx := Nx K He' (fun e => e = I (i + 1) ∧ P (i + 1)), ct := Nx K He' (fun e => e = I (i + 1) ∧ P (i + 1)), bk := D.nx }))
    (hdn : P kvs.length → Sk K He (I kvs.length) D.nx) : Sk K He env (tFor (iList K (tCB rListDT (tCons (tVar k) tNil))) (gName m) t D) := fun H0 σ H w e => by
  obtain ⟨o, h1, l, ents, rfl, hn, h4, h5⟩ := e.get h
  refine ⟨_, h1, l, ents, rfl, .inl (e.sm _ _ h4), fun p1 bs hp1 hk => ?_⟩
  have s1 : Same H (upd H p1 (.lst (bs.map V.ref))) := same_new hp1
  have e' := e.same s1
  have hpb : (bas (upd H p1 (.lst (bs.map V.ref))) (owns env)) p1 = some (.lst (bs.map V.ref)) := by
    rw [bas_out (e.not_own hp1), upd_same]
  have bb := w.trans e'.base_same
  have hit : ∀ i x, (bs.map V.ref)[i]? = some x → ∃ (p : Pt) (d : PyData), kvs[i]? = some (p, d) ∧ ∃ b : Addr, x = V.ref b ∧ (bas (upd H p1 (.lst (bs.map V.ref))) (owns env)) b = some (.tup [.int p.1, .int p.2]) := fun i x hx => by
    rw [List.getElem?_map] at hx
    cases hb : bs[i]? with
    | none => rw [hb] at hx; cases hx
    | some b =>
      rw [hb] at hx
      cases hx
      have hl := Paired.length hk
      have hi : i < ents.length := by
        rw [hl]
        exact (List.getElem?_eq_some_iff.mp hb).1
      obtain ⟨b', g1, g2⟩ := L2.paired_get hk (List.getElem?_eq_getElem hi)
      rw [hb] at g1
      cases g1
      obtain ⟨kd, g3, g4, _⟩ := L2.paired_get h5 (List.getElem?_eq_getElem hi)
      rw [g4] at g2
      refine ⟨kd.1, kd.2, g3, b, rfl, e'.base_T _ _ (s1 _ _ g2) id⟩
  have hlen : (bs.map V.ref).length = kvs.length := by
    rw [List.length_map, ← Paired.length hk, h5.len]
  subst h0
  refine ⟨p1, rfl, ⟨_, SqL.of upd_same⟩, for_list (K := K) (a := p1) (xs := bs.map V.ref) (fun i => Nx K (bas (upd H p1 (.lst (bs.map V.ref))) (owns (I 0))) (fun e => e = I i ∧ P i)) ⟨_, _, Same.refl _, ⟨rfl, p0⟩, e'.base⟩ (fun i σ' H' _ q => ?_) (fun i x σ' H' hi q => ?_) (fun σ' H' q => ?_)⟩
  · obtain ⟨H0', env', s0, ⟨rfl, pi⟩, e3⟩ := q
    exact (s0.trans e3.sm).seq (SqL.of hpb)
  · obtain ⟨H0', env', s0, ⟨rfl, pi⟩, e3⟩ := q
    obtain ⟨p, d, g1, b, rfl, g2⟩ := hit i x hi
    exact hs _ bb i p d g1 pi H0' _ H' s0 (e3.set (s := hp p) rfl ⟨b, rfl, e3.sm _ _ (s0 _ _ g2)⟩ m)
  · obtain ⟨H0', env', s0, ⟨rfl, pi⟩, e3⟩ := q
    rw [hlen] at e3 pi
    exact hdn pi H0' σ' H' (bb.trans s0) e3
/-- for over a list of strict data -/
theorem sk_forSt {k : Nat} (hF : Same F He) (hl : EdS F te env (.list ds)) (I : Nat → List (Sl K)) (P : Nat → Prop) (h0 : env = I 0) (p0 : P 0)
    (hs : ∀ (He' : Hp), Same He He' → ∀ i d, ds[i]? = some d → P i → Sk K He' ((I i).set k (sp F d)) (t { D with nx := Nx K He' (fun e => e = I (i + 1) ∧ P (i + 1)), ct := Nx K He' (fun e => e = I (i + 1) ∧ P (i + 1)), bk := D.nx }))
    (hdn : P ds.length → Sk K He (I ds.length) D.nx) : Sk K He env (tFor (iList K te) (gName k) t D) := fun H0 σ H w e =>
  hl H0 σ H (hF.trans w) e _ fun v H2 e2 dv => by
    obtain ⟨a, xs, rfl, h1, h2⟩ := ds_list dv
    have e' := e.same e2
    have bb := w.trans e'.base_same
    have hlen := dsa_len h2
    subst h0
    refine ⟨a, rfl, ⟨xs, SqL.of (ds_real _ _ h1)⟩, for_list (K := K) (a := a) (xs := xs) (fun i => Nx K (bas H2 (owns (I 0))) (fun e => e = I i ∧ P i)) ⟨_, _, Same.refl _, ⟨rfl, p0⟩, e'.base⟩ (fun i σ' H' _ q => ?_) (fun i x σ' H' hi q => ?_) (fun σ' H' q => ?_)⟩
    · obtain ⟨H0', env', s0, ⟨rfl, pi⟩, e3⟩ := q
      exact (s0.trans e3.sm).seq (SqL.of (nw_same _ _ _ _ h1))
    · obtain ⟨H0', env', s0, ⟨rfl, pi⟩, e3⟩ := q
      obtain ⟨d, g1, g2⟩ := dsa_get' h2 hi
      exact hs _ bb i d g1 pi H0' _ H' s0 (e3.set (s := sp F d) rfl ⟨x, rfl, ds_mono (nw_mono s0) d g2⟩ k)
    · obtain ⟨H0', env', s0, ⟨rfl, pi⟩, e3⟩ := q
      rw [hlen] at e3 pi
      exact hdn pi H0' σ' H' (bb.trans s0) e3
theorem q_forSt {k : Nat} (hF : Same F He) (hl : EdS F te env (.list ds)) (I : Nat → List (Sl K)) (P : Nat → Prop) (h0 : env = I 0) (p0 : P 0)
    (hs : ∀ (He' : Hp), Same He He' → ∀ i d, ds[i]? = some d → P i → Sk K He' ((I i).set k (sp F d)) (t { D with nx := Nx K He' (fun e => e = I (i + 1) ∧ P (i + 1)), ct := Nx K He' (fun e => e = I (i + 1) ∧ P (i + 1)), bk := tz D }))
    (hdn : P ds.length → Sk K He (I ds.length) (tz D)) : Sk K He env (tSeq (tFor (iList K te) (gName k) t) tz D) := sk_forSt (D := { D with nx := tz D }) hF hl I P h0 p0 hs hdn
/-- for over a tuple of plain data -/
theorem sk_forTup {k : Nat} (hl : Ed te env (.tuple ds)) (f : ds.all flat0 = true) (I : Nat → List (Sl K)) (P : Nat → Prop) (h0 : env = I 0) (p0 : P 0)
    (hs : ∀ (He' : Hp), Same He He' → ∀ i d, ds[i]? = some d → P i → Sk K He' ((I i).set k (fl d)) (t { D with nx := Nx K He' (fun e => e = I (i + 1) ∧ P (i + 1)), ct := Nx K He' (fun e => e = I (i + 1) ∧ P (i + 1)), bk := D.nx }))
    (hdn : P ds.length → Sk K He (I ds.length) D.nx) : Sk K He env (tFor (iTup K te) (gName k) t D) := fun H0 σ H w e =>
  hl H0 σ H e _ fun v H2 e2 dv => by
    obtain ⟨a, xs, rfl, h1, h2⟩ := dp_tup dv
    have e' := e.same e2
    have bb := w.trans e'.base_same
    have hlen := dpa_len h2
    have hb : SqT K (bas H2 (owns env)) a xs := sqT_keep e'.base_T h1
    subst h0
    refine ⟨a, rfl, ⟨xs, h1⟩, for_tup (K := K) (a := a) (xs := xs) (fun i => Nx K (bas H2 (owns (I 0))) (fun e => e = I i ∧ P i)) ⟨_, _, Same.refl _, ⟨rfl, p0⟩, e'.base⟩ (fun i σ' H' _ q => ?_) (fun i x σ' H' hi q => ?_) (fun σ' H' q => ?_)⟩
    · obtain ⟨H0', env', s0, ⟨rfl, pi⟩, e3⟩ := q
      exact sqT_same (s0.trans e3.sm) hb
    · obtain ⟨H0', env', s0, ⟨rfl, pi⟩, e3⟩ := q
      obtain ⟨d, g1, g2⟩ := dpa_get' h2 hi
      have fd : flat0 d = true := (List.all_eq_true.mp f) d (List.mem_of_getElem? g1)
      have fd' : flat d = true := by cases d <;> first | rfl | cases fd
      exact hs _ bb i d g1 pi H0' _ H' s0 (e3.set (s := fl d) rfl ⟨fd', x, rfl, dp_flat0 fd g2⟩ k)
    · obtain ⟨H0', env', s0, ⟨rfl, pi⟩, e3⟩ := q
      rw [hlen] at e3 pi
      exact hdn pi H0' σ' H' (bb.trans s0) e3
end
section
variable {P : Program} {w : World} {K : PySem.W.Frag} {mg : Str → Option Value} {base : Heap} {x qual : Str} {st : Stmt} {f : Addr} {fd : FuncData} {N ps : List Str} {k : Nat}
theorem okC {R : List PyData → List (Pt × PyData) → Prop} (F : Fun K x qual st f fd) (S : FnScope N ps (defScope st)) (hl : ∀ ds d, R ds d → ds.length = ps.length)
    (hb : ∀ (cdv : Value) (A : Around) (outer : List Env) (s : Shared) (H : Hp) (E : XK) (ds : List PyData) (d : List (Pt × PyData)), Room k (A.deeper (envOfC qual (defScope st) s.heap.objs.size f cdv)) → R ds d →
      ∃ t, PSs (cxOf CX0 P w K mg base N qual (defScope st) f cdv A outer s H E).nox (defBody st) t ∧
        ∀ Q : VK, (∀ l ents H', H l = none → Same H H' → H' l = some (.dT ents) → EntR (Ds (nw H H')) ents d → Q (.ref l) H') → Sk K H (ds.map par ++ List.replicate (N.length - ds.length) un) (t { nx := fun _ H' => Q .non H', rt := Q })) : FnOk P w K mg base CX0 (k + 1) f fd ps (spC K R) := by
  refine F.ok S (fun vs H Q E h => ?_) (fun cdv A outer s H vs Q E hr h => ?_)
  · obtain ⟨ds, d, hR, hds, _⟩ := h
    rw [dpa_len hds, hl ds d hR]
  · obtain ⟨ds, d, hR, hds, q⟩ := h
    obtain ⟨t, h1, h2⟩ := hb cdv A outer s H E ds d hr hR
    exact ⟨t, h1, h2 Q q H _ H (Same.refl H) (en_start hds)⟩
end
end Rs

/-! # lists of pairs that are tracked strictly; a def that answers with nothing or two new lists -/
namespace Rs
open PySem PySem.Spec PyProof.Rows L2 RsS RsI
open Rm (Pt)
def HpA (H : Hp) (vs : List V) (ps : List Pt) : Prop := Paired (fun v (p : Pt) => ∃ b, v = V.ref b ∧ H b = some (.tup [.int p.1, .int p.2])) vs ps
section
variable {H H' : Hp} {K : PySem.W.Frag} {vs ws : List V} {ps qs : List Pt}
theorem HpA.keep (e : SameT H H') (h : HpA H vs ps) : HpA H' vs ps := paired_mono h fun v p _ ⟨b, h1, h2⟩ => ⟨b, h1, e _ _ h2 id⟩
theorem HpA.mono (e : Same H H') (h : HpA H vs ps) : HpA H' vs ps := h.keep (.of e)
theorem HpA.len (h : HpA H vs ps) : vs.length = ps.length := Paired.length h
theorem HpA.app (h : HpA H vs ps) (g : HpA H ws qs) : HpA H (vs ++ ws) (ps ++ qs) := paired_app h g
theorem HpA.dpa (h : HpA H vs ps) : DpAll K H vs (ps.map pT) := by
  unfold HpA at h
  induction h with
  | nil => exact .nil
  | @cons v p vs ps h t ih =>
    obtain ⟨b, rfl, h2⟩ := h
    rw [List.map_cons]
    exact .cons (hp_dp h2) ih
theorem HpA.get {i : Nat} {p : Pt} (h : HpA H vs ps) (hp : ps[i]? = some p) : ∃ b, vs[i]? = some (V.ref b) ∧ H b = some (.tup [.int p.1, .int p.2]) := by
  have hl := h.len
  have hi : i < vs.length := by
    rw [hl]
    exact (List.getElem?_eq_some_iff.mp hp).1
  obtain ⟨p', g1, b, g2, g3⟩ := L2.paired_get h (List.getElem?_eq_getElem hi)
  rw [hp] at g1
  cases g1
  exact ⟨b, by rw [List.getElem?_eq_getElem hi, g2], g3⟩
end
section
variable {K : PySem.W.Frag}
/-- a list of the frame's own of pairs, that are tracked strictly -/
def ownH (l : Addr) (ps : List Pt) : Sl K := ⟨fun _ H o => o = some (.ref l) ∧ ∃ vs, H l = some (.lst vs) ∧ HpA H vs ps, [l],
  fun _ _ e k ⟨h1, vs, h2, h3⟩ => ⟨h1, vs, k l (List.mem_singleton.mpr rfl) _ h2, h3.keep e⟩,
  fun ⟨_, vs, h2, _⟩ a ha => ⟨.lst vs, (List.mem_singleton.mp ha) ▸ h2, True.intro⟩⟩
/-- the same, standing -/
def parH (ps : List Pt) : Sl K := ⟨fun H0 _ o => ∃ l vs, o = some (.ref l) ∧ H0 l = some (.lst vs) ∧ HpA H0 vs ps, [],
  fun e _ _ _ ⟨l, vs, h1, h2, h3⟩ => ⟨l, vs, h1, e _ _ h2, h3.mono e⟩, fun _ _ h => nomatch h⟩
variable {F He : Hp} {env : List (Sl K)} {te ta tb tx td : TE} {tt : TT} {t u tz : TS} {D : Ends} {p : Pt} {d x y : PyData} {ds es : List PyData} {ps qs : List Pt} {i j : Int} {b : Bool}
def EdLH (te : TE) (env : List (Sl K)) (ps : List Pt) : Prop := ∀ (H0 : Hp) (σ : L2.St) (H : Hp), En K H0 σ H env → ∀ Q : VK, (∀ p vs H2, H p = none → Same H H2 → H2 p = some (.lst vs) → HpA H2 vs ps → Q (.ref p) H2) → te σ H Q
def EdKH (te : TE) (env : List (Sl K)) (ps : List Pt) : Prop := ∀ (H0 : Hp) (σ : L2.St) (H : Hp), En K H0 σ H env → ∀ Q : VK, (∀ p vs H2, Same H H2 → H2 p = some (.lst vs) → HpA H2 vs ps → Q (.ref p) H2) → te σ H Q
theorem edlh_is (h : EdLH te env ps) (e : ps = qs) : EdLH te env qs := e ▸ h
theorem edl_ofH (h : EdLH te env ps) : EdL te env (ps.map pT) := fun H0 σ H e Q q => h H0 σ H e Q fun p vs H2 hp e2 h1 h2 => q p vs H2 hp e2 h1 h2.dpa
theorem edkh_of (h : EdLH te env ps) : EdKH te env ps := fun H0 σ H e Q q => h H0 σ H e Q fun p vs H2 _ => q p vs H2
theorem edk_ofH (h : EdKH te env ps) : EdK te env (ps.map pT) := fun H0 σ H e Q q => h H0 σ H e Q fun p vs H2 e2 h1 h2 => q p vs H2 e2 h1 h2.dpa
theorem ed_ofKH (h : EdKH te env ps) : Ed te env (.list (ps.map pT)) := ed_ofK (edk_ofH h)
theorem edkh_own {k : Nat} {l : Addr} (h : env[k]? = some (ownH l ps)) : EdKH (tVar k) env ps := fun H0 σ H e Q q => by
  obtain ⟨o, h1, rfl, vs, h3, h4⟩ := e.get h
  exact ⟨_, h1, q l vs H (Same.refl H) h3 h4⟩
theorem edkh_par {k : Nat} (h : env[k]? = some (parH ps)) : EdKH (tVar k) env ps := fun H0 σ H e Q q => by
  obtain ⟨o, h1, l, vs, rfl, h3, h4⟩ := e.get h
  exact ⟨_, h1, q l vs H (Same.refl H) (e.sm _ _ h3) (h4.mono e.sm)⟩
theorem ed_ownH {k : Nat} {l : Addr} (h : env[k]? = some (ownH l ps)) : Ed (tVar k) env (.list (ps.map pT)) := ed_ofKH (edkh_own h)
theorem atI_hpa {H : Hp} {vs : List V} (h : HpA H vs ps) (e : atI ps i = some p) : ∃ b, atI vs i = some (V.ref b) ∧ H b = some (.tup [.int p.1, .int p.2]) := by
  unfold atI at e ⊢
  rw [h.len]
  cases c : ixN ps.length i with
  | none => rw [c] at e; cases e
  | some j =>
    rw [c] at e
    exact h.get e
theorem edh_ix (h : EdKH ta env ps) (hb : Ed tb env (.int i)) (e : atI ps i = some p) : EdH (tOp (rIxL K) ta tb) env p := fun H0 σ H en Q q =>
  h H0 σ H en _ fun l vs H2 e2 h1 h2 => hb H0 σ H2 (en.same e2) _ fun w H3 e3 dw => by
    cases dp_int dw
    obtain ⟨b, g1, g2⟩ := atI_hpa h2 e
    exact ⟨l, vs, i, _, rfl, rfl, SqL.of (e3 _ _ h1), g1, q b H3 (e2.trans e3) (e3 _ _ g2)⟩
theorem edlh_one (h : EdH te env p) : EdLH (tLst (tCons te tNil)) env [p] := fun H0 σ H e Q q =>
  h H0 σ H e _ fun b H2 e2 hb => ⟨by show 1 ≤ sizeLine; decide, fun l hl => q l _ _ (e2.free hl) (e2.trans (same_new hl)) upd_same (.cons ⟨b, rfl, same_new hl _ _ hb⟩ .nil)⟩
theorem edlh_nil : EdLH (tLst tNil) env [] := fun H0 σ H e Q q => ⟨by show 0 ≤ sizeLine; decide, fun l hl => q l _ _ hl (same_new hl) upd_same .nil⟩
theorem edlh_cat (ha : EdKH ta env ps) (hb : EdKH tb env qs) (hl : ps.length + qs.length ≤ 100000) : EdLH (tOp rCat ta tb) env (ps ++ qs) := fun H0 σ H e Q q =>
  ha H0 σ H e _ fun p vs H2 e2 h1 h2 => hb H0 σ H2 (e.same e2) _ fun p' ws H3 e3 h3 h4 =>
    ⟨p, p', vs, ws, rfl, rfl, e3 _ _ h1, h3, by rw [h2.len, h4.len]; exact Nat.le_trans hl (by decide), fun l hl => q l _ _ ((e2.trans e3).free hl) ((e2.trans e3).trans (same_new hl)) upd_same
      (((h2.mono e3).app h4).mono (same_new hl))⟩
/-! comprehensions over a range -/
def keptP (os : List (Option Pt)) : List Pt := os.filterMap id
def CwH (H : Hp) (os : List (Option Pt)) (D : Addr) (n : Nat) (H' : Hp) : Prop := H D = none ∧ Same H H' ∧ ∃ vs, H' D = some (.lst vs) ∧ HpA H' vs (keptP (os.take n))
theorem keptP_len (os : List (Option Pt)) : (keptP os).length ≤ os.length := List.length_filterMap_le _ _
theorem keptP_next {os : List (Option Pt)} {n : Nat} {oo : Option Pt} (h : os[n]? = some oo) : keptP (os.take (n + 1)) = keptP (os.take n) ++ oo.toList := by
  unfold keptP
  rw [List.take_add_one, h, List.filterMap_append]
  cases oo <;> rfl
theorem cwh_turn {H : Hp} {os : List (Option Pt)} {D : Addr} {n : Nat} {H' : Hp} {oo : Option Pt} {σ2 : L2.St} {H0 : Hp} {env2 : List (Sl K)} (hz : os.length ≤ 100000) (ho : os[n]? = some oo) (c : CwH H os D n H')
    (en : En K H0 σ2 H' env2) (ht : EdT tt env2 oo.isSome) (he : ∀ o, oo = some o → EdH te env2 o) :
    tt σ2 H' fun b H3 => if b = true then te σ2 H3 fun y H4 => ∃ acc, H4 D = some (.lst acc) ∧ acc.length < sizeLine ∧ CwH H os D (n + 1) (upd H4 D (.lst (acc ++ [y]))) else CwH H os D (n + 1) H3 := by
  obtain ⟨c1, c2, vs, c3, c4⟩ := c
  have hn : n < os.length := (List.getElem?_eq_some_iff.mp ho).1
  have kn := keptP_next ho
  refine ht H0 σ2 H' en _ fun H3 e3 => ?_
  cases oo with
  | none =>
    rw [if_neg (by simp)]
    refine ⟨c1, c2.trans e3, vs, e3 _ _ c3, ?_⟩
    rw [kn, Option.toList_none, List.append_nil]
    exact c4.mono e3
  | some o =>
    rw [if_pos (by rfl)]
    refine he o rfl H0 σ2 H3 (en.same e3) _ fun b H4 e4 hb => ⟨vs, e4 _ _ (e3 _ _ c3), ?_, c1, same_mut ((c2.trans e3).trans e4) c1, _, upd_same, ?_⟩
    · rw [c4.len]
      have q := keptP_len (os.take n)
      rw [List.length_take] at q
      exact Nat.lt_of_le_of_lt (Nat.le_trans q (Nat.min_le_left _ _)) (Nat.lt_of_lt_of_le (Nat.lt_of_lt_of_le hn hz) (by decide))
    · have st : SameT H4 (upd H4 D (.lst (vs ++ [V.ref b]))) := SameT.upd (e4 _ _ (e3 _ _ c3)) trivial
      rw [kn]
      exact ((c4.mono (e3.trans e4)).keep st).app (.cons ⟨b, rfl, st _ _ hb id⟩ .nil)
theorem edlh_lcRT {ta : TA} {os : List (Option Pt)} {k : Nat} {vs : List Nat} {n : Int} (ha : EdA ta env [.int n]) (hz : os.length ≤ 100000) (hl : os.length = n.toNat)
    (hj : k ∈ vs) (ht : ∀ (i : Nat) oo, os[i]? = some oo → EdT tt ((wipeE env vs).set k (fl (.int (i : Int)))) oo.isSome) (he : ∀ (i : Nat) o, os[i]? = some (some o) → EdH te ((wipeE env vs).set k (fl (.int (i : Int)))) o) (hn : n ≤ 100000 ∧ -100000 ≤ n) :
    EdLH (tLc (iRng1 ta) (gName k) tt te vs) env (keptP os) := fun H0 σ H e Q q => by
  refine ha H0 σ H e _ fun us H1 e1 dv => ?_
  obtain ⟨v, rfl, hv⟩ := dpa_one dv
  cases dp_int hv
  refine ⟨n, rfl, by omega, by omega, fun D hD => lc_range (lo := 0) (n := n.toNat) (CwH H1 os D) ⟨hD, same_new hD, [], upd_same, .nil⟩ (fun i H' hi c => ?_) (fun H' c => ?_)⟩
  · have e0 : (0 : Int) + (i : Int) = (i : Int) := Int.zero_add _
    rw [e0]
    have hlt : i < os.length := by omega
    obtain ⟨oo, ho⟩ : ∃ oo, os[i]? = some oo := ⟨_, List.getElem?_eq_getElem hlt⟩
    refine ⟨by rw [wipe_set hj, wipe_wipe], ?_⟩
    have en2 : En K H0 ((L2.wipe σ vs).set k (some (.int (i : Int)))) H' ((wipeE env vs).set k (fl (.int (i : Int)))) := (((e.same e1).same c.2.1).wipe vs).set (s := fl (.int (i : Int))) rfl ⟨rfl, _, rfl, .int _⟩ k
    exact cwh_turn hz ho c en2 (ht i oo ho) (fun o eo => he i o (by rw [ho, eo]))
  · obtain ⟨c1, c2, us, c3, c4⟩ := c
    rw [← hl, List.take_length] at c4
    exact q D us H' (e1.free c1) (e1.trans c2) c3 c4
theorem keptP_some (l : List Pt) : keptP (l.map some) = l := by
  unfold keptP
  induction l with
  | nil => rfl
  | cons x xs ih => rw [List.map_cons, List.filterMap_cons_some (b := x) (by rfl), ih]
/-! statements -/
theorem sk_asgLH {k : Nat} (h : EdLH te env ps) (q : ∀ l, Sk K He (env.set k (ownH l ps)) D.nx) : Sk K He env (tAsg te (gName k) D) := fun H0 σ H w e =>
  h H0 σ H e _ fun p vs H2 hp e2 h1 h2 => q p H0 _ H2 w (e.setO e2 (s := ownH p ps) hp rfl ⟨rfl, vs, h1, h2⟩ k)
theorem q_asgLH {k : Nat} (h : EdLH te env ps) (q : ∀ l, Sk K He (env.set k (ownH l ps)) (tz D)) : Sk K He env (tSeq (tAsg te (gName k)) tz D) := sk_asgLH (D := { D with nx := tz D }) h q
theorem sk_extendH {k : Nat} {l : Addr} (hk : env[k]? = some (ownH l ps)) (h : EdLH te env qs) (hz : ps.length + qs.length ≤ 100000) (q : Sk K He (env.set k (ownH l (ps ++ qs))) D.nx) : Sk K He env (tDrop (tBM K "list" rExtend (tVar k) (tCons te tNil)) D) := fun H0 σ H b e => by
  obtain ⟨o, h1, rfl, vs, h3, h4⟩ := e.get hk
  refine ⟨_, h1, .inl ⟨rfl, vs, SqL.of h3⟩, h H0 σ H e _ fun p us H2 hp e2 g1 g2 => ?_⟩
  have h3' := e2 _ _ h3
  have st : SameT H2 (upd H2 l (.lst (vs ++ us))) := SameT.upd h3' trivial
  refine ⟨l, p, vs, us, rfl, rfl, h3', g1, by rw [h4.len, g2.len]; exact Nat.le_trans hz (by decide), ?_⟩
  refine q H0 σ _ b ((e.same e2).upd (s' := ownH l (ps ++ qs)) hk rfl rfl fun o ho => ?_)
  rw [h1] at ho
  cases ho
  exact ⟨rfl, _, upd_same, ((h4.mono e2).app g2).keep st⟩
theorem sk_retLH {k : Nat} {l : Addr} (h : env[k]? = some (ownH l ps)) (q : ∀ p us H', He p = none → Same He H' → H' p = some (.lst us) → HpA H' us ps → D.rt (.ref p) H') : Sk K He env (tRet (tVar k) D) := fun H0 σ H b e => by
  obtain ⟨o, h1, rfl, vs, h3, h4⟩ := e.get h
  exact ⟨_, h1, q l vs H (b.free (e.fr l (mem_owns (List.mem_of_getElem? h) (List.mem_singleton.mpr rfl)))) (b.trans e.sm) h3 h4⟩
def spH (K : PySem.W.Frag) (R : List PyData → List Pt → Prop) : Sp := fun vs H Q _ => ∃ ds ps, R ds ps ∧ DpAll K H vs ds ∧ ∀ p us H', H p = none → Same H H' → H' p = some (.lst us) → HpA H' us ps → Q (.ref p) H'
theorem edlh_call {R : List PyData → List Pt → Prop} {E : XK} {ta : TA} (ha : EdA ta env ds) (hR : R ds ps) : EdLH (tCall (spH K R) [] E ta) env ps := fun H0 σ H e Q q =>
  ha H0 σ H e _ fun vs H2 e2 dv => by
    rw [List.append_nil]
    exact ⟨ds, ps, hR, dv, fun p us H' hp e3 h1 h2 => q p us H' (e2.free hp) (e2.trans e3) h1 h2⟩
/-- a def whose parameter is a list of pairs, tracked strictly -/
def spG (K : PySem.W.Frag) (R : List Pt → List PyData → Prop) : Sp := fun vs H Q _ => ∃ ps out, R ps out ∧ (∃ a us, vs = [V.ref a] ∧ H a = some (.lst us) ∧ HpA H us ps) ∧ ∀ p us H', H p = none → Same H H' → H' p = some (.lst us) → DpAll K H' us out → Q (.ref p) H'
theorem edl_callG {R : List Pt → List PyData → Prop} {E : XK} (ha : EdKH te env ps) (hR : R ps ds) : EdL (tCall (spG K R) [] E (tCons te tNil)) env ds := fun H0 σ H e Q q =>
  ha H0 σ H e _ fun a vs H2 e2 h1 h2 => by
    show spG K R ([V.ref a] ++ []) H2 Q E
    rw [List.append_nil]
    exact ⟨ps, ds, hR, ⟨a, vs, rfl, h1, h2⟩, fun p us H' hp e3 g1 g2 => q p us H' (e2.free hp) (e2.trans e3) g1 g2⟩
/-- for over such a list that stands -/
theorem sk_forPH {k m : Nat} (h : env[k]? = some (parH ps)) (I : Nat → List (Sl K)) (P : Nat → Prop) (h0 : env = I 0) (p0 : P 0)
    (hs : ∀ (He' : Hp), Same He He' → ∀ i p, ps[i]? = some p → P i → Sk K He' ((I i).set m (hp p)) (t { D with nx := Nx K He' (fun e => e = I (i + 1) ∧ P (i + 1)), ct := Nx K He' (fun e => e = I (i + 1) ∧ P (i + 1)), bk := D.nx }))
    (hdn : P ps.length → Sk K He (I ps.length) D.nx) : Sk K He env (tFor (iList K (tVar k)) (gName m) t D) := fun H0 σ H w e => by
  obtain ⟨o, h1, l, vs, rfl, h3, h4⟩ := e.get h
  have hlen := h4.len
  subst h0
  refine ⟨_, h1, l, rfl, ⟨vs, SqL.of (e.sm _ _ h3)⟩, for_list (K := K) (a := l) (xs := vs) (fun i => Nx K H0 (fun e => e = I i ∧ P i)) ⟨_, _, Same.refl _, ⟨rfl, p0⟩, e⟩ (fun i σ' H' _ q => ?_) (fun i x σ' H' hi q => ?_) (fun σ' H' q => ?_)⟩
  · obtain ⟨H0', env', s0, ⟨rfl, pi⟩, e3⟩ := q
    exact (s0.trans e3.sm).seq (SqL.of h3)
  · obtain ⟨H0', env', s0, ⟨rfl, pi⟩, e3⟩ := q
    obtain ⟨p, g1, b, rfl, g2⟩ := L2.paired_get h4 hi
    exact hs H0 w i p g1 pi H0' _ H' s0 (e3.set (s := hp p) rfl ⟨b, rfl, e3.sm _ _ (s0 _ _ g2)⟩ m)
  · obtain ⟨H0', env', s0, ⟨rfl, pi⟩, e3⟩ := q
    rw [hlen] at e3 pi
    exact hdn pi H0' σ' H' (w.trans s0) e3
theorem q_forPH {k m : Nat} (h : env[k]? = some (parH ps)) (I : Nat → List (Sl K)) (P : Nat → Prop) (h0 : env = I 0) (p0 : P 0)
    (hs : ∀ (He' : Hp), Same He He' → ∀ i p, ps[i]? = some p → P i → Sk K He' ((I i).set m (hp p)) (t { D with nx := Nx K He' (fun e => e = I (i + 1) ∧ P (i + 1)), ct := Nx K He' (fun e => e = I (i + 1) ∧ P (i + 1)), bk := tz D }))
    (hdn : P ps.length → Sk K He (I ps.length) (tz D)) : Sk K He env (tSeq (tFor (iList K (tVar k)) (gName m) t) tz D) := sk_forPH (D := { D with nx := tz D }) h I P h0 p0 hs hdn
end
section
variable {K : PySem.W.Frag} {He : Hp} {env : List (Sl K)} {te : TE} {tt : TT} {tz : TS} {D : Ends} {kvs : List (Pt × PyData)}
/-- return [.. for .. in d.items()] -/
theorem sk_itemsRet {k i j : Nat} {l : Addr} {os : List (Option PyData)} (h : env[k]? = some (dic l kvs)) (hij : i ≠ j) (hf : (kept os).all flat = true) (hz : os.length ≤ 100000) (hl : os.length = kvs.length)
    (ht : ∀ (n : Nat) (p : Pt) (d : PyData) (oo : Option PyData), kvs[n]? = some (p, d) → os[n]? = some oo → EdT tt (((wipeE (env.set k un) [i, j]).set i (hp p)).set j (fl d)) oo.isSome) (he : ∀ (n : Nat) (p : Pt) (d o : PyData), kvs[n]? = some (p, d) → os[n]? = some (some o) → Ed te (((wipeE (env.set k un) [i, j]).set i (hp p)).set j (fl d)) o)
    (q : ∀ p us H', He p = none → Same He H' → H' p = some (.lst us) → DpAll K H' us (kept os) → D.rt (.ref p) H') : Sk K He env (tLock (tRet (tLc (iItemsT (tVar k)) (gTup K 2 (gCons (gName i) (gCons (gName j) gNil))) tt te [i, j])) D) := fun H0 σ H b e => by
  obtain ⟨o, h1, rfl, f, ents, h2, h3⟩ := e.get h
  have hlo : l ∈ owns env := mem_owns (List.mem_of_getElem? h) (List.mem_singleton.mpr rfl)
  have hl0 : H0 l = none := e.fr l hlo
  have nl : l ∉ owns (env.set k un) := not_after h (List.mem_singleton.mpr rfl) e.nd
  refine ⟨l, .dT ents, h2, True.intro, fun od => ?_⟩
  have e1 : En K H0 σ H (env.set k un) := e.kill1 k
  have st : SameT H (upd H l (.frz od (.dT ents))) := SameT.upd h2 trivial
  have eL : En K H0 σ (upd H l (.frz od (.dT ents))) (env.set k un) := e1.step (Same.refl _) (same_mut e1.sm hl0) st (fun a ha v hv => by
    rw [upd_ne (show a ≠ l from fun z => nl (by rw [← z]; exact ha))]
    exact hv) e1.fr
  refine ⟨_, h1, l, od, ents, rfl, upd_same, fun Dl hD => lc_it walk_itemsT (Cw K (upd H l (.frz od (.dT ents))) os Dl) (cw_zero hD) (fun n H' _ c => c.2.1 _ _ upd_same) (fun n x H' H'' hn c y => ?_) (fun H' c => ?_)⟩
  · obtain ⟨T, key, v, qq, y1, y2, rfl, y3, rfl⟩ := y
    obtain ⟨kd, g1, g2, g3⟩ := L2.paired_get h3 y1
    have ff := f kd (List.mem_of_getElem? g1)
    have hlt : n < os.length := by
      rw [hl]
      exact (List.getElem?_eq_some_iff.mp g1).1
    have sn : Same H' (upd H' T (.tup [.ref qq, v])) := same_new y3
    obtain ⟨c1, c2, us, c3, c4⟩ := c
    have c' : Cw K (upd H l (.frz od (.dT ents))) os Dl n (upd H' T (.tup [.ref qq, v])) := ⟨c1, c2.trans sn, us, sn _ _ c3, dpa_mono sn _ c4⟩
    have en1 := ((eL.same c2).same sn).wipe [i, j]
    have dv : Dp K (upd H' T (.tup [.ref qq, v])) v kd.2 := dp_mono (c2.trans sn) _ (dp_flat st ff g3)
    have key2 : H' qq = some (.tup [.int kd.1.1, .int kd.1.2]) := by
      rw [show key = kP kd.1 from g2] at y2
      exact y2
    have en2 := (en1.set (s := hp kd.1) rfl ⟨qq, rfl, sn _ _ key2⟩ i).set (s := fl kd.2) rfl ⟨ff, v, rfl, dv⟩ j
    refine ⟨T, _, rfl, SqT.of upd_same, rfl, _, _, rfl, _, _, rfl, rfl, ?_⟩
    refine ⟨by rw [wipe_set (by simp), wipe_set (by simp), wipe_wipe], ?_⟩
    obtain ⟨oo, ho⟩ : ∃ oo, os[n]? = some oo := ⟨_, List.getElem?_eq_getElem hlt⟩
    exact cw_turn hf hz ho c' en2 (ht n kd.1 kd.2 oo g1 ho) (fun o eo => he n kd.1 kd.2 o g1 (by rw [ho, eo]))
  · obtain ⟨c1, c2, us, c3, c4⟩ := c
    have hlen : ents.length = os.length := by rw [h3.len, hl]
    rw [hlen, List.take_length] at c4
    have hlf : H' l = some (.frz od (.dT ents)) := c2 _ _ upd_same
    have nDl : Dl ≠ l := fun z => by
      rw [z, upd_same] at c1
      cases c1
    have hf2 : (upd H' l (.dT ents)) Dl = some (.lst us) := by
      rw [upd_ne nDl]
      exact c3
    have sf : Same H (upd H' l (.dT ents)) := fun a u ha => by
      by_cases z : a = l
      · subst z
        rw [h2] at ha
        rw [upd_same]
        exact ha
      · rw [upd_ne z]
        refine c2 a u ?_
        rw [upd_ne z]
        exact ha
    have hDH : H Dl = none := by
      rw [upd_ne nDl] at c1
      exact c1
    exact ⟨hlf, q Dl us _ ((b.trans e.sm).free hDH) ((b.trans e.sm).trans sf) hf2 (dpa_unlock hlf hf c4)⟩
end
/-! ## nothing, or a pair of two new lists -/
abbrev Two := Option (List Pt × List Pt)
section
variable {K : PySem.W.Frag} {He : Hp} {env : List (Sl K)} {te ta tb : TE} {tz : TS} {D : Ends} {d : PyData} {ds es : List PyData} {c e : List Pt}
def ToldP (K : PySem.W.Frag) (He : Hp) (y : Two) (Q : VK) : Prop := match y with
  | none => ∀ H, Same He H → Q .non H
  | some (c, e) => ∀ t l m us ws H, He l = none → He m = none → l ≠ m → Same He H → H t = some (.tup [.ref l, .ref m]) → H l = some (.lst us) → DpAll K H us (c.map pT) → H m = some (.lst ws) → DpAll K H ws (e.map pT) → Q (.ref t) H
def spP (K : PySem.W.Frag) (R : List PyData → Two → Prop) : Sp := fun vs H Q _ => ∃ ds y, R ds y ∧ DpAll K H vs ds ∧ ToldP K H y Q
theorem ToldP.up {He He' : Hp} {y : Two} {Q : VK} (b : Same He He') (q : ToldP K He y Q) : ToldP K He' y Q := by
  cases y with
  | none => exact fun H e => q H (b.trans e)
  | some ce => exact fun t l m us ws H h1 h2 h3 h4 => q t l m us ws H (b.free h1) (b.free h2) h3 (b.trans h4)
def EdP (te : TE) (env : List (Sl K)) (y : Two) : Prop := ∀ (H0 : Hp) (σ : L2.St) (H : Hp), En K H0 σ H env → ∀ Q : VK, ToldP K H y Q → te σ H Q
theorem edp_call {R : List PyData → Two → Prop} {E : XK} {ta : TA} {y : Two} (ha : EdA ta env ds) (hR : R ds y) : EdP (tCall (spP K R) [] E ta) env y := fun H0 σ H e Q q =>
  ha H0 σ H e _ fun vs H2 e2 dv => by
    rw [List.append_nil]
    exact ⟨ds, y, hR, dv, q.up e2⟩
def twoD : Two → PyData
  | none => .none
  | some (c, e) => .tuple [.list (c.map pT), .list (e.map pT)]
theorem ed_P {y : Two} (h : EdP te env y) : Ed te env (twoD y) := fun H0 σ H e Q q => h H0 σ H e Q (by
  cases y with
  | none => exact fun H2 e2 => q _ H2 e2 .non
  | some ce => exact fun t l m us ws H2 _ _ _ e2 h1 h2 h3 h4 h5 => q _ H2 e2 (.tup (SqT.of h1) (.cons (dp_own h2 h3) (.cons (dp_own h4 h5) .nil))))
theorem sk_retP (h1 : EdL ta env (c.map pT)) (h2 : EdL tb env (e.map pT)) (q : ToldP K He (some (c, e)) D.rt) : Sk K He env (tRet (tTup (tCons ta (tCons tb tNil))) D) := fun H0 σ H b en =>
  h1 H0 σ H en _ fun l us H1 hl e1 a1 a2 => h2 H0 σ H1 (en.same e1) _ fun m ws H2 hm e2 b1 b2 => ⟨by show 2 ≤ sizeLine; decide, fun t ht =>
    q t l m us ws _ ((b.trans en.sm).free hl) ((b.trans en.sm).free (e1.free hm)) (fun z => by
      rw [z, hm] at a1
      cases a1) (((b.trans en.sm).trans (e1.trans e2)).trans (same_new ht)) upd_same (same_new ht _ _ (e2 _ _ a1)) (dpa_mono (e2.trans (same_new ht)) _ a2) (same_new ht _ _ b1) (dpa_mono (same_new ht) _ b2)⟩
theorem sk_retP0 (q : ToldP K He none D.rt) : Sk K He env (tRet (tC .non) D) := fun H0 σ H b en => q H (b.trans en.sm)
end
section
variable {P : Program} {w : World} {K : PySem.W.Frag} {mg : Str → Option Value} {base : Heap} {x qual : Str} {st : Stmt} {f : Addr} {fd : FuncData} {N ps : List Str} {k : Nat}
theorem okH {R : List PyData → List Pt → Prop} (F : Fun K x qual st f fd) (S : FnScope N ps (defScope st)) (hl : ∀ ds d, R ds d → ds.length = ps.length)
    (hb : ∀ (cdv : Value) (A : Around) (outer : List Env) (s : Shared) (H : Hp) (E : XK) (ds : List PyData) (d : List Pt), Room k (A.deeper (envOfC qual (defScope st) s.heap.objs.size f cdv)) → R ds d →
      ∃ t, PSs (cxOf CX0 P w K mg base N qual (defScope st) f cdv A outer s H E).nox (defBody st) t ∧
        ∀ Q : VK, (∀ p us H', H p = none → Same H H' → H' p = some (.lst us) → HpA H' us d → Q (.ref p) H') → Sk K H (ds.map par ++ List.replicate (N.length - ds.length) un) (t { nx := fun _ H' => Q .non H', rt := Q })) : FnOk P w K mg base CX0 (k + 1) f fd ps (spH K R) := by
  refine F.ok S (fun vs H Q E h => ?_) (fun cdv A outer s H vs Q E hr h => ?_)
  · obtain ⟨ds, d, hR, hds, _⟩ := h
    rw [dpa_len hds, hl ds d hR]
  · obtain ⟨ds, d, hR, hds, q⟩ := h
    obtain ⟨t, h1, h2⟩ := hb cdv A outer s H E ds d hr hR
    exact ⟨t, h1, h2 Q q H _ H (Same.refl H) (en_start hds)⟩
theorem en_startG {H : Hp} {a : Addr} {us : List V} {qs : List Pt} {N : List Str} (h1 : H a = some (.lst us)) (h2 : HpA H us qs) : En K H (L2.start N [V.ref a]) H (parH qs :: List.replicate (N.length - 1) un) := by
  refine ⟨Same.refl H, ?_, ?_, ?_⟩
  · unfold L2.start
    exact .cons ⟨a, us, rfl, h1, h2⟩ (paired_rep (F := fun o (s : Sl K) => s.R H H o) trivial _)
  · rw [owns_cons, show owns (List.replicate (N.length - 1) (un : Sl K)) = [] from owns_par [] _]
    exact List.nodup_nil
  · rw [owns_cons, show owns (List.replicate (N.length - 1) (un : Sl K)) = [] from owns_par [] _]
    intro b hb
    cases hb
theorem okG {R : List Pt → List PyData → Prop} (F : Fun K x qual st f fd) (S : FnScope N ps (defScope st)) (hl : ps.length = 1)
    (hb : ∀ (cdv : Value) (A : Around) (outer : List Env) (s : Shared) (H : Hp) (E : XK) (ds : List Pt) (d : List PyData), Room k (A.deeper (envOfC qual (defScope st) s.heap.objs.size f cdv)) → R ds d →
      ∃ t, PSs (cxOf CX0 P w K mg base N qual (defScope st) f cdv A outer s H E).nox (defBody st) t ∧
        ∀ Q : VK, (∀ p us H', H p = none → Same H H' → H' p = some (.lst us) → DpAll K H' us d → Q (.ref p) H') → Sk K H (parH ds :: List.replicate (N.length - 1) un) (t { nx := fun _ H' => Q .non H', rt := Q })) : FnOk P w K mg base CX0 (k + 1) f fd ps (spG K R) := by
  refine F.ok S (fun vs H Q E h => ?_) (fun cdv A outer s H vs Q E hr h => ?_)
  · obtain ⟨qs, d, hR, ⟨a, us, rfl, _⟩, _⟩ := h
    exact hl.symm
  · obtain ⟨qs, d, hR, ⟨a, us, rfl, h3, h4⟩, q⟩ := h
    obtain ⟨t, h1, h2⟩ := hb cdv A outer s H E qs d hr hR
    exact ⟨t, h1, h2 Q q H _ H (Same.refl H) (en_startG h3 h4)⟩
theorem okP {R : List PyData → Two → Prop} (F : Fun K x qual st f fd) (S : FnScope N ps (defScope st)) (hl : ∀ ds d, R ds d → ds.length = ps.length)
    (hb : ∀ (cdv : Value) (A : Around) (outer : List Env) (s : Shared) (H : Hp) (E : XK) (ds : List PyData) (d : Two), Room k (A.deeper (envOfC qual (defScope st) s.heap.objs.size f cdv)) → R ds d →
      ∃ t, PSs (cxOf CX0 P w K mg base N qual (defScope st) f cdv A outer s H E).nox (defBody st) t ∧
        ∀ Q : VK, ToldP K H d Q → Sk K H (ds.map par ++ List.replicate (N.length - ds.length) un) (t { nx := fun _ H' => Q .non H', rt := Q })) : FnOk P w K mg base CX0 (k + 1) f fd ps (spP K R) := by
  refine F.ok S (fun vs H Q E h => ?_) (fun cdv A outer s H vs Q E hr h => ?_)
  · obtain ⟨ds, d, hR, hds, _⟩ := h
    rw [dpa_len hds, hl ds d hR]
  · obtain ⟨ds, d, hR, hds, q⟩ := h
    obtain ⟨t, h1, h2⟩ := hb cdv A outer s H E ds d hr hR
    exact ⟨t, h1, h2 Q q H _ H (Same.refl H) (en_start hds)⟩
end
end Rs

/-! # k16: tables as data, relations of the defs -/
namespace Rs
open PySem PySem.Spec PyProof.Rows L2 RsS RsI
open Rm (Pt)
section
variable {K : PySem.W.Frag} {F He : Hp} {env : List (Sl K)} {te ta tb tx td : TE} {tt : TT} {t u tz : TS} {D : Ends} {p : Pt} {d x y : PyData} {ds es : List PyData} {kvs : List (Pt × PyData)} {i j : Int} {b : Bool}
theorem q_forKeys {k m : Nat} (h : env[k]? = some (cpar F kvs)) (I : Nat → List (Sl K)) (P : Nat → Prop) (h0 : env = I 0) (p0 : P 0)
    (hs : ∀ (He' : Hp), Same He He' → ∀ i p d, kvs[i]? = some (p, d) → P i → Sk K He' ((I i).set m (hp p)) (t { D with nx := Nx K He' (fun e => e = I (i + 1) ∧ P (i + 1)), ct := Nx K He' (fun e => e = I (i + 1) ∧ P (i + 1)), bk := tz D }))
    (hdn : P kvs.length → Sk K He (I kvs.length) (tz D)) : Sk K He env (tSeq (tFor (iList K (tCB rListDT (tCons (tVar k) tNil))) (gName m) t) tz D) := sk_forKeys (D := { D with nx := tz D }) h I P h0 p0 hs hdn
/-- a part of a tuple, not all of it -/
theorem ed_sliceT {tl th : TO} {lo hi : Option Int} (h : Ed te env (.tuple ds)) (hl : EdO tl env lo) (hh : EdO th env hi) (hc : ¬ (HT.sIx ds.length 0 lo = 0 ∧ HT.sIx ds.length ds.length hi = ds.length)) : Ed (tSl (rSlT K) te tl th) env (.tuple (cutD ds lo hi)) := fun H0 σ H e Q q =>
  h H0 σ H e _ fun v H2 e2 dv => hl H0 σ H2 (e.same e2) _ fun H3 e3 => hh H0 σ H3 ((e.same e2).same e3) _ fun H4 e4 => by
    obtain ⟨a, xs, rfl, h1, h2⟩ := dp_tup (dp_mono (e3.trans e4) _ dv)
    refine ⟨a, xs, rfl, h1, by rw [dpa_len h2]; exact hc, fun p hp => q _ _ (((e2.trans e3).trans e4).trans (same_new hp)) (.tup (SqT.of upd_same) ?_)⟩
    unfold cutV cutD
    rw [dpa_len h2]
    exact dpa_mono (same_new hp) _ (dpa_take _ (dpa_drop _ h2))
theorem ed_chainLt {tc : TE} {k : Int} (ha : Ed ta env (.int i)) (hb : Ed tb env (.int j)) (hc : Ed tc env (.int k)) :
    Ed (tChain (rI0 fun i j => .bl (decide (i < j))) (rI0 fun i j => .bl (decide (i < j))) ta tb tc) env (.bool (decide (i < j) && decide (j < k))) :=
  ed_chain ha hb (rv_I0 fun _ => .bl _) (fun _ => hc) (fun h => by rw [h, Bool.true_and]; exact rv_I0 fun _ => .bl _) (fun h => by rw [h, Bool.false_and])
end
end Rs
namespace Rw
open PySem PySem.Spec L2 Rs RsS Rm
def rowD (r : Mask) : PyData := .list (r.map PyData.bool)
def rowsD (rs : List Mask) : PyData := .list (rs.map rowD)
def encT (M : TabM) : List (Pt × PyData) := M.map fun kr => (kr.1, rowsD kr.2)
def encI (M : List (Pt × Int)) : List (Pt × PyData) := M.map fun kn => (kn.1, PyData.int kn.2)
theorem enc_any {α : Type} (f : α → PyData) (M : List (Pt × α)) (p : Pt) : ((M.map fun kr => (kr.1, f kr.2)).any fun kv => decide (kv.1 = p)) = M.any fun kv => decide (kv.1 = p) := by
  rw [List.any_map] <;> rfl
theorem enc_put {α : Type} (f : α → PyData) (M : List (Pt × α)) (p : Pt) (x : α) : putP (M.map fun kr => (kr.1, f kr.2)) p (f x) = (putA M p x).map fun kr => (kr.1, f kr.2) := by
  unfold putP putA
  rw [enc_any]
  split
  · rw [List.map_map, List.map_map]
    refine List.map_congr_left fun kv _ => ?_
    show (if kv.1 = p then (kv.1, f x) else (kv.1, f kv.2)) = ((if kv.1 = p then (kv.1, x) else kv).1, f (if kv.1 = p then (kv.1, x) else kv).2)
    split <;> rfl
  · rw [List.map_append] <;> rfl
theorem enc_val {α : Type} (f : α → PyData) (M : List (Pt × α)) (p : Pt) : valP (M.map fun kr => (kr.1, f kr.2)) p = (valA M p).map f := by
  unfold valP valA
  rw [List.find?_map, Option.map_map, Option.map_map]
  rfl
theorem encT_put (M : TabM) (p : Pt) (rs : List Mask) : putP (encT M) p (rowsD rs) = encT (putA M p rs) := enc_put rowsD M p rs
theorem encT_val (M : TabM) (p : Pt) : valP (encT M) p = (valA M p).map rowsD := enc_val rowsD M p
theorem encT_rows (M : TabM) (p : Pt) : (valP (encT M) p).getD (.list []) = rowsD (rowsA M p) := by
  rw [encT_val]
  unfold rowsA
  cases valA M p <;> rfl
theorem encT_len (M : TabM) : (encT M).length = M.length := List.length_map ..
theorem encT_get {M : TabM} {i : Nat} {p : Pt} {d : PyData} (h : (encT M)[i]? = some (p, d)) : ∃ rs, M[i]? = some (p, rs) ∧ d = rowsD rs := by
  unfold encT at h
  rw [List.getElem?_map] at h
  cases e : M[i]? with
  | none => rw [e] at h; cases h
  | some tr =>
    rw [e] at h
    cases h
    exact ⟨tr.2, rfl, rfl⟩
theorem encI_put (M : List (Pt × Int)) (p : Pt) (n : Int) : putP (encI M) p (.int n) = encI (putA M p n) := enc_put PyData.int M p n
theorem encI_val (M : List (Pt × Int)) (p : Pt) : (valP (encI M) p).getD (.int 0) = .int ((valA M p).getD 0) := by
  unfold encI
  rw [enc_val]
  cases valA M p <;> rfl
theorem encI_len (M : List (Pt × Int)) : (encI M).length = M.length := List.length_map ..
theorem encI_flat (M : List (Pt × Int)) : ∀ kd ∈ encI M, flat kd.2 = true := fun kd h => by
  obtain ⟨a, _, rfl⟩ := List.mem_map.mp h
  rfl
theorem bools_lay : ∀ r : Mask, PyData.canLayAll0 (r.map PyData.bool) = true
  | [] => by rw [List.map_nil, PyData.canLayAll0]
  | b :: r => by rw [List.map_cons, PyData.canLayAll0, bools_lay r, PyData.canLay0] <;> rfl
theorem bools_depth : ∀ r : Mask, PyData.depthAll (r.map PyData.bool) ≤ 1
  | [] => by rw [List.map_nil, PyData.depthAll]; omega
  | b :: r => by
    have := bools_depth r
    rw [List.map_cons, PyData.depthAll, PyData.depth]
    omega
theorem shaped_row (r : Mask) : SeqAt.shaped (rowD r) = true := by
  have h1 : (rowD r).canLay0 = true := by
    unfold rowD
    rw [PyData.canLay0]
    exact bools_lay r
  have h2 : (rowD r).depth ≤ 64 := by
    unfold rowD
    rw [PyData.depth]
    have := bools_depth r
    omega
  unfold SeqAt.shaped
  rw [h1, decide_eq_true h2]
  rfl
theorem has_false (r : Mask) : ((r.map PyData.bool).any fun z => PyData.eqv z (.bool false)) = r.any fun b => !b := by
  rw [List.any_map]
  congr 1
  funext b
  show PyData.eqv (.bool b) (.bool false) = !b
  rw [PyData.eqv]
  cases b <;> rfl
theorem row_at {r : Mask} {i : Nat} (h : i < r.length) : atI (r.map PyData.bool) (i : Int) = some (.bool r[i]) := atI_nat (by rw [List.getElem?_map, List.getElem?_eq_getElem h] <;> rfl)
/-! the relations -/
def R_stepsH : List PyData → List Pt → Prop := fun ds ps => ∃ c : List Pt, c.length ≤ 20 ∧ Sms 2000 c ∧ IsShape c ∧ ds = [psD c] ∧ ps = stepsP c
theorem edlh_stepsOf {K : PySem.W.Frag} {env : List (Sl K)} {ta : TE} {c : List Pt} (ha : Ed ta env (psD c)) (hl : c.length ≤ 20) (hs : Sms 2000 c) (hc : IsShape c) : EdLH (tCall (spH K R_stepsH) [] E0 (tCons ta tNil)) env (stepsP c) := edlh_call (eda_cons ha eda_nil) ⟨c, hl, hs, hc, rfl, rfl⟩
def R_choices : List PyData → List (Pt × PyData) → Prop := fun ds kvs => ∃ ss : List Pt, ss.length ≤ 10 ∧ ds = [psD ss] ∧ kvs = encT (choicesF ss)
def R_gathered : List Pt → List PyData → Prop := fun ps out => ps.length ≤ 1000 ∧ out = (gath ps).map pT
theorem edl_gath {K : PySem.W.Frag} {env : List (Sl K)} {ta : TE} {ps : List Pt} (ha : EdKH ta env ps) (hl : ps.length ≤ 1000) : EdL (tCall (spG K R_gathered) [] E0 (tCons ta tNil)) env ((gath ps).map pT) := edl_callG ha ⟨hl, rfl⟩
def R_parted : List PyData → Two → Prop := fun ds y => ∃ c : List Pt, c.length ≤ 20 ∧ Sms 2000 c ∧ IsShape c ∧ (stepsP c).length ≤ 10 ∧ ds = [psD c] ∧ y = Rm.parted c
theorem edp_parted {K : PySem.W.Frag} {env : List (Sl K)} {ta : TE} {c : List Pt} (ha : Ed ta env (psD c)) (hl : c.length ≤ 20) (hs : Sms 2000 c) (hc : IsShape c) (h10 : (stepsP c).length ≤ 10) : EdP (tCall (spP K R_parted) [] E0 (tCons ta tNil)) env (Rm.parted c) := edp_call (eda_cons ha eda_nil) ⟨c, hl, hs, hc, h10, rfl, rfl⟩
theorem two_none (y : Two) : (!isNone (twoD y)) = y.isSome := by cases y <;> rfl
theorem steps_cut (s : Pt) (l : List Pt) : cutD ((s :: l).map pT) (some 1) none = l.map pT := cut_from (s :: l) 1
def R_comes : List PyData → PyData → Prop := fun ds d => ∃ ss : List Pt, ss.length ≤ 10 ∧ ds = [psD ss] ∧ d = .bool (comesRound ss)
theorem ed_comes {K : PySem.W.Frag} {env : List (Sl K)} {ta : TE} {ss : List Pt} (ha : Ed ta env (psD ss)) (hl : ss.length ≤ 10) : Ed (tCall (spD K R_comes) [] E0 (tCons ta tNil)) env (.bool (comesRound ss)) := ed_call (eda_cons ha eda_nil) ⟨ss, hl, rfl, rfl⟩
def R_small : List PyData → List PyData → Prop := fun ds out => ∃ (ns : List Int) (a : Nat), ns.length ≤ 63 ∧ ds = [nsD ns, .int (a : Int)] ∧ out = (lawSmall ns a).map pT
theorem edl_small {K : PySem.W.Frag} {env : List (Sl K)} {ta tb : TE} {ns : List Int} {a : Nat} (ha : Ed ta env (nsD ns)) (hb : Ed tb env (.int (a : Int))) (hl : ns.length ≤ 63) : EdL (tCall (spL K R_small) [] E0 (tCons ta (tCons tb tNil))) env ((lawSmall ns a).map pT) := edl_call (eda_cons ha (eda_cons hb eda_nil)) ⟨ns, a, hl, rfl, rfl⟩
def triD (o : Tri) : PyData := .tuple [.int o.1.1, .int o.1.2, .int o.2]
def trisD (l : List Tri) : PyData := .list (l.map triD)
theorem flat_tris (l : List Tri) : (l.map triD).all flat = true := by
  rw [List.all_eq_true]
  intro x hx
  obtain ⟨o, _, rfl⟩ := List.mem_map.mp hx
  rfl
theorem get_tris {l : List Tri} {k : Nat} {d : PyData} (h : (l.map triD)[k]? = some d) : ∃ o, l[k]? = some o ∧ d = triD o := by
  rw [List.getElem?_map] at h
  cases e : l[k]? with
  | none => rw [e] at h; cases h
  | some o =>
    rw [e] at h
    cases h
    exact ⟨o, rfl, rfl⟩
theorem kept_tris (p : Tri → Bool) (l : List Tri) : kept (l.map fun o => if p o = true then some (triD o) else none) = (l.filter p).map triD := by
  unfold kept
  induction l with
  | nil => rfl
  | cons o l ih =>
    rw [List.map_cons, List.filterMap_cons, List.filter_cons]
    by_cases h : p o = true
    · rw [if_pos h, if_pos h, List.map_cons, ← ih]
      rfl
    · rw [if_neg h, if_neg h, ← ih]
      rfl
theorem keptP_pickT : ∀ (ss : List Pt) (m : Mask), keptP ((ss.zip m).map fun x => if x.2 = true then some x.1 else none) = pickT ss m := by
  intro ss m
  unfold keptP pickT
  induction ss.zip m with
  | nil => rfl
  | cons o l ih =>
    rw [List.map_cons, List.filterMap_cons, List.filter_cons]
    by_cases h : o.2 = true
    · rw [if_pos h, if_pos h, List.map_cons, ← ih]
      rfl
    · rw [if_neg h, if_neg h, ← ih]
      rfl
theorem keptP_pickF : ∀ (ss : List Pt) (m : Mask), keptP ((ss.zip m).map fun x => if (!x.2) = true then some x.1 else none) = pickF ss m := by
  intro ss m
  unfold keptP pickF
  induction ss.zip m with
  | nil => rfl
  | cons o l ih =>
    rw [List.map_cons, List.filterMap_cons, List.filter_cons]
    by_cases h : (!o.2) = true
    · rw [if_pos h, if_pos h, List.map_cons, ← ih]
      rfl
    · rw [if_neg h, if_neg h, ← ih]
      rfl
end Rw

/-! # defs that raise, try, what is asked of the exception that is caught -/
namespace RsX
open PySem PySem.Spec PyProof.Rows L2
open L2H (RoomH PinOk cxH inv_startH)
theorem cnt_of {y : V} : ∀ {ys : List V} {us : List Value}, Vals ys us → ys.all flatV = true → us.countP (eqU y) = ys.countP fun z => eqV z y
  | _, _, .nil, _ => rfl
  | z :: ys, u :: us, .cons r t, f => by
    rw [List.all_cons, Bool.and_eq_true] at f
    rw [List.countP_cons, List.countP_cons, cnt_of t f.2, eqU_of r f.1]
def rCntB (K : PySem.W.Frag) : V → List V → Hp → VK → Prop := fun x xs H Q => ∃ (p : Addr) (ys : List V) (y : V), x = .ref p ∧ xs = [y] ∧ SqL K H p ys ∧ flatV y = true ∧ ys.all flatV = true ∧ Q (.int ((ys.countP fun z => eqV z y : Nat) : Int)) H
theorem mt_lcnt {X : Cx} : MtR X "list.count" (rCntB X.K) := by
  intro pins s σ H x xs v us Q I rx rxs h
  obtain ⟨p, ys, y, rfl, rfl, seq, fy, fys, q⟩ := h
  cases rx
  obtain ⟨u, rfl, ru⟩ := rxs.one
  obtain ⟨items, rel, ⟨⟨c1, d1, dat, s1⟩, m, got, e1, e2, e3⟩, hln⟩ := I.list seq
  simp only at e1 e3
  subst e1 e3
  refine call_meets PySem.F.slot_list_count ⟨_, got, rfl⟩ PySem.F.entry_list_count (PySem.F.args_list_count_2 _ _)
    (SeqAt.list_countAt p items.toArray m d1 s1 u (eqU y)) ⟨got, fun u2 h2 => mem_eqAt ru fy rel fys u2 (by simpa using h2), ?_⟩
  have ec : items.toArray.toList.countP (eqU y) = ys.countP fun z => eqV z y := cnt_of rel fys
  refine ⟨.int ((ys.countP fun z => eqV z y : Nat) : Int), H, I.tok _, ⟨s.toks, ?_⟩, q⟩
  show Value.int ((items.toArray.toList.countP (eqU y) : Nat) : Int) s.toks = Value.int ((ys.countP fun z => eqV z y : Nat) : Int) s.toks
  rw [ec]
/-- isinstance of the exception that the context pins -/
theorem call_isX {X : Cx} {a D : Addr} {oe : Obj} (C : ExcC X.K D) (hz : Zc (.ref D) none oe) (hf : ∃ vs, oe.data = .fields vs) (hp : (a, oe) ∈ X.pn) : CallR X (.builtin "isinstance") (rIsE X.K D a) := by
  intro pins s σ H xs us Q I r h
  obtain ⟨c, cv, b, rfl, hcv, e, q⟩ := h
  cases r with
  | cons r1 r2 =>
    cases r2 with
    | cons r3 r4 =>
      cases r4
      cases r1
      have ec := hcv _ r3
      subst ec
      obtain ⟨got, _⟩ := I.pin (a, oe) (List.mem_append.mpr (.inl hp))
      have at1 : PySem.W.InstAt s.heap a oe D none := by
        obtain ⟨oc, od, oda, osl⟩ := oe
        obtain ⟨vs, hv⟩ := hf
        obtain ⟨z1, z2⟩ := hz
        dsimp only at z1 z2 hv
        subst z1 z2 hv
        exact ⟨got, rfl, rfl, trivial⟩
      exact PySem.W.kia_one (PySem.W.handS_kitx_exc C.hg C.hk C.hs C.hd C.ha C.hn C.ht C.hm) I.kIn at1 e (fun y => nomatch y) fun t => ⟨.bl b, H, I.kept (t' := t) fun _ _ y => y, rfl, q⟩
/-- a def that is handed the caught exception within the suite: a the exception, of the class at C, without a dict -/
structure FnE (P : Program) (w : World) (K : PySem.W.Frag) (mg : Str → Option Value) (base : Heap) (k : Nat) (f : Addr) (fd : FuncData) (x : Str) (sp : Addr → Hp → VK → Prop) : Prop where
  run : ∀ (A : Around) (outer : List Env) (s : Shared) (H : Hp) (args : Args) (Q : VK) (a C : Addr) (oe : Obj), RoomH k A → PinOk outer H s (a, oe) → Zc (.ref C) none oe → (∃ vs, oe.data = .fields vs) → Env0 P w K mg base A outer s H → BindsTo s fd args (([x] : List Str).zip [Value.ref a]) → sp C H Q →
    codeAny (model P w) A (.call (.ref f) args) (CR CX0 outer P w H s Q E0) s
theorem fn_ofE {P : Program} {w : World} {K : PySem.W.Frag} {mg : Str → Option Value} {base : Heap} {k : Nat} {f : Addr} {qual x : Str} {st : Stmt} {fd : FuncData} {N : List Str} {name : Str} {sp : Addr → Hp → VK → Prop} (F : Fun K name qual st f fd) (S : FnScope N [x] (defScope st))
    (hbody : ∀ (cdv : Value) (A : Around) (outer : List Env) (s : Shared) (H : Hp) (Q : VK) (a C : Addr) (oe : Obj), RoomH k (A.deeper (envOfC qual (defScope st) s.heap.objs.size f cdv)) → Zc (.ref C) none oe → (∃ vs, oe.data = .fields vs) → sp C H Q →
      ∃ t, PSs (cxH CX0 P w K mg base N qual (defScope st) f cdv A outer s H E0 (a, oe)) (defBody st) t ∧ t { nx := fun _ H' => Q .non H', rt := Q } (L2.start N [V.ref a]) H) :
    FnE P w K mg base (k + 1) f fd x sp := by
  obtain ⟨oc, od, kV, doc, pm, an, cdv, ct, osl, rfl, look, code⟩ := F.ex
  refine ⟨fun A outer s H args Q a C oe room pin zc fv env0 binds hsp => ?_⟩
  have inn : K.In s.heap := env0.mod.kin.keeps fun b o e => (env0.bs b o e).1
  have noLim : s.heap.NoLimit := env0.mod.nolimit.keeps fun b o e => (env0.bs b o e).1
  have kinds : ∀ y ∈ ([x] : List Str).zip [Value.ref a], (defScope st).names.lookup y.1 = some .local ∨ ((defScope st).names.lookup y.1 = some .cell ∧ ((cellsFrom (s.heap.objs.size + 1) (defScope st).names []).lookup y.1).isSome = true) := fun ⟨n, v⟩ hy => by
    rcases S.par n (List.of_mem_zip hy).1 with z | z
    · exact .inl z
    · exact .inr ⟨z, PySem.W.cellsFrom_some _ _ _ (.inl z)⟩
  refine codeAny_call_function room.depth (inn _ _ look) rfl S.co S.gen rfl (PySem.W.codeRec_of inn code) (binds _ _ _ _ ?_)
  refine wpAny_newFunctionEnv_cells S.kind kinds fun env made s1 inC => ?_
  subst made
  refine ⟨noLim.keeps inC.toInCall.keep, codeAny_func ?_⟩
  obtain ⟨t, der, run⟩ := hbody cdv A outer s H Q a C oe (room.deeper _) zc fv hsp
  have start : Inv (cxH CX0 P w K mg base N qual (defScope st) f cdv A outer s H E0 (a, oe)) [] (L2.start N [V.ref a]) H s1 := inv_startH S pin env0 rfl (.cons rfl .nil) inC
  refine wpAny_mono (der.run [] s1 (L2.start N [V.ref a]) H _ start run) (fun fl s2 told => ?_) fun e s2 told => told
  cases fl with
  | ret u =>
    obtain ⟨v, σ2, H2, J, rv, z⟩ := told
    exact ⟨v, H2, J.os, J.bare, J.base, J.hok, rv, z⟩
  | next =>
    obtain ⟨σ2, H2, J, z⟩ := told
    exact ⟨V.non, H2, J.os, J.bare, J.base, J.hok, rfl, z⟩
  | brk =>
    obtain ⟨_, _, _, z⟩ := told
    exact z.elim
  | cont =>
    obtain ⟨_, _, _, z⟩ := told
    exact z.elim
structure HasE (P : Program) (w : World) (K : PySem.W.Frag) (mg : Str → Option Value) (base : Heap) (x : Str) (k : Nat) (x1 : Str) (sp : Addr → Hp → VK → Prop) : Prop where
  ex : ∃ (f : Addr) (fd : FuncData), mg x = some (.ref f) ∧ PySem.W.keepIn K (.ref f) = true ∧ Binds K fd [x1] [] ∧ FnE P w K mg base k f fd x1 sp
def tCallE (a : Addr) (cls : Value) (d : Option Addr) (sp : Addr → Hp → VK → Prop) (t : TA) : TE := fun σ H Q => t σ H fun vs H1 => vs = [V.ref a] ∧ ∃ C, cls = .ref C ∧ d = none ∧ sp C H1 Q
theorem pe_callE {X : Cx} {x x1 : Str} {k : Nat} {sp : Addr → Hp → VK → Prop} {a : Addr} {oe : Obj} {cls : Value} {d : Option Addr} {pn : List (Addr × Obj)} {e : Expr} {te : TE} {q pos : Pos} (h : HasE X.prog X.w X.K X.mg X.base x k x1 sp) (hr : RoomH k X.A) (hz : Zc cls d oe) (hf : ∃ vs, oe.data = .fields vs)
    (hg : Gl X x) (he : PE (X.suite a ((a, oe) :: pn)) e te) (hdb : (x == ("__debug__" : Str)) = false := by decide) (hst : starEach [e] X.env = (false, eval e X.env) :: starEach [] X.env := by rfl) (hpl : (backTo pos (starEach [] X.env)).any (·.1) = false := by rfl) :
    PE (X.suite a ((a, oe) :: pn)) (.Call (.Name x q) [e] [] pos) (tCallE a cls d sp (tCons te tNil)) := by
  obtain ⟨f, fd, hm, hk, hb, F⟩ := h.ex
  refine ⟨fun pins s σ H Q I h => ?_⟩
  refine wpAny_Call_Name_kw (ld_glob I hg hm ?_ hdb)
  refine PySem.W.callWith_K (h₀ := X.base) I.ok.mod.kin hk (thn ((pa_cons (hs := hst) he pa_nil).run pos pins s σ H _ I h) fun us s1 ⟨vs, H1, I1, r, ev, C, ec, ed, hs⟩ => ⟨I1.kIn, ?_⟩) hst hpl
  subst ev ec ed
  cases r with
  | cons r1 r2 =>
    cases r2
    cases r1
    have b1 := hb s1 [Value.ref a] I1.kIn rfl
    rw [List.append_nil] at b1
    have pin1 := I1.pin (a, oe) (List.mem_append_left _ List.mem_cons_self)
    have pin2 : PinOk X.stack H1 s1 (a, oe) := ⟨pin1.1, pin1.2.1, fun hm => (List.mem_cons.mp (I1.stkSub a hm)).elim pin1.2.2.1 pin1.2.2.2.1, pin1.2.2.2.2⟩
    have hr2 : RoomH k (X.suite a ((a, oe) :: pn)).A := ⟨hr.dp, hr.un⟩
    refine wpAny_call (codeAny_mono (F.run _ X.stack s1 H1 ⟨[Value.ref a], []⟩ Q a C oe hr2 pin2 hz hf I1.env0 b1 hs) fun r s2 told => ?_)
    cases r with
    | error e => exact told.elim
    | ok fl =>
      cases fl with
      | ret u => exact I1.after told
      | next => exact told.elim
      | brk => exact told.elim
      | cont => exact told.elim
theorem hasE_of {P : Program} {w : World} {K : PySem.W.Frag} {mg : Str → Option Value} {base : Heap} {x x1 : Str} {k : Nat} {sp : Addr → Hp → VK → Prop} {f : Addr} {fd : FuncData} (hm : mg x = some (.ref f)) (hk : PySem.W.keepIn K (.ref f) = true) (hb : Binds K fd [x1] []) (F : FnE P w K mg base k f fd x1 sp) : HasE P w K mg base x k x1 sp := ⟨⟨f, fd, hm, hk, hb, F⟩⟩
/-! ### the five classes -/
def c5 (c0 c1 c2 c3 c4 : Addr) : Nat → Addr
  | 0 => c0
  | 1 => c1
  | 2 => c2
  | 3 => c3
  | _ => c4
def whichS : Nat → Str
  | 0 => "note"
  | 1 => "number"
  | 2 => "points"
  | 3 => "shape"
  | _ => "long"
/-- what the written part says of the class of number j -/
structure ErrF (K : PySem.W.Frag) (R : Addr) (c : Nat → Addr) (j : Nat) : Prop where
  lt : j < 5
  xp : PySem.W.excIn K (c j) [.type "ValueError", .type "Exception", .type "BaseException", .type "object"] "ValueError.__new__" = true
  kp : PySem.W.keepIn K (.ref (c j)) = true
  sb : PySem.W.subIn K (.ref (c j)) (.type "BaseException") = some true
  ty : PySem.W.typeIn K (.ref (c j)) = some (.type "type")
  ec : ExcC K (c j)
  ex : PySem.W.exmOne K (.ref (c j)) (.ref R) = some true
  kv : PySem.W.kitOne K (.ref (c j)) (.type "ValueError") = some true
  ki : ∀ i, i < 5 → PySem.W.kitOne K (.ref (c j)) (.ref (c i)) = some (decide (i = j))
/-- the names of the classes -/
structure ClsN (mg : Str → Option Value) (R : Addr) (c : Nat → Addr) : Prop where
  gR : mg "RoundError" = some (.ref R)
  g0 : mg "NoNote" = some (.ref (c 0))
  g1 : mg "NoNumber" = some (.ref (c 1))
  g2 : mg "NoPoints" = some (.ref (c 2))
  g3 : mg "NoShape" = some (.ref (c 3))
  g4 : mg "TooLong" = some (.ref (c 4))
theorem kit_own {K : PySem.W.Frag} {D C : Addr} {b : Bool} (h1 : PySem.W.isClsIn K C = true) (h2 : PySem.W.typeIn K (.ref C) = some (.type "type")) (h3 : PySem.W.subIn K (.ref D) (.ref C) = some b) (e : D = C → b = true) : PySem.W.kitOne K (.ref D) (.ref C) = some b := by
  unfold PySem.W.kitOne
  by_cases z : D = C
  · rw [e z, if_pos (by rw [z]; exact beq_self_eq_true _)]
  · rw [if_neg (fun y => z (Value.ref.inj (beq_iff_eq.mp y)))]
    have h1' : (PySem.W.clsIn K C).isSome = true := h1
    show (if ((PySem.W.clsIn K C).isSome && PySem.W.typeIn K (.ref C) == some (.type "type")) = true then PySem.W.subIn K (.ref D) (.ref C) else none) = some b
    rw [h1', h2, if_pos (by rfl)]
    exact h3
theorem kit_val {K : PySem.W.Frag} {D : Addr} (h : PySem.W.subIn K (.ref D) (.type "ValueError") = some true) : PySem.W.kitOne K (.ref D) (.type "ValueError") = some true := by
  unfold PySem.W.kitOne
  rw [if_neg (by exact Bool.false_ne_true)]
  show (if PySem.W.kitMeta "ValueError" = true then PySem.W.subIn K (.ref D) (.type "ValueError") else none) = some true
  rw [if_pos (by decide +kernel)]
  exact h
/-! ### raise, calls of defs that raise -/
def tRaise (C : Addr) (E : XK) : TS := fun _ _ H => E (.ref C) none H
theorem ps_raiseE {X : Cx} {E : XK} {R : Addr} {c : Nat → Addr} {j : Nat} {x m : Str} {jj : Nat} {p p2 pos pos2 : Pos} (hc : X.calm = true) (tk : Takes X (fun cls d _ H => E cls d H)) (e : ErrF X.K R c j) (gx : X.mg x = some (.ref (c j))) (hg : Gl X x) (hdb : (x == ("__debug__" : Str)) = false := by decide) :
    PS X (.Raise (some (.Call (.Name x p) [.Constant (.str m) jj p2] [] pos)) none pos2) (tRaise (c j) E) := ps_raise hc tk (pmk_own PySem.F.excBase_ValueError e.xp gx e.kp (raises_own e.sb e.ty) hg hdb)
end RsX
namespace Rs
open PySem PySem.Spec PyProof.Rows L2 RsS RsI RsX
open Rm (Pt)
section
variable {K : PySem.W.Frag} {β : Type}
/-- what a def that may raise promises: an answer, or the class of number j -/
def Ans (c : Nat → Addr) (P : Hp → β → VK → Prop) (H : Hp) (y : β ⊕ Nat) (Q : VK) (E : XK) : Prop := match y with
  | .inl b => P H b Q
  | .inr j => ∀ H', Same H H' → E (.ref (c j)) none H'
def spE (K : PySem.W.Frag) (c : Nat → Addr) (P : Hp → β → VK → Prop) (R : List PyData → β ⊕ Nat → Prop) : Sp := fun vs H Q E => ∃ ds y, R ds y ∧ DpAll K H vs ds ∧ Ans c P H y Q E
def PD (K : PySem.W.Frag) : Hp → PyData → VK → Prop := fun H d Q => ∀ v H', Same H H' → Dp K H' v d → Q v H'
/-- the exception that is caught -/
def exS (a : Addr) : Sl K := ⟨fun _ _ o => o = some (.ref a), [], fun _ _ _ _ h => h, fun _ _ h => nomatch h⟩
variable {He : Hp} {env : List (Sl K)} {te ta tb : TE} {t u tz : TS} {D : Ends} {d x y : PyData} {ds es : List PyData} {c : Nat → Addr} {P : Hp → β → VK → Prop} {j : Nat} {E : L2.St → XK} {tA : TA} {Rc : Addr}
theorem ed_callS {R : List PyData → PyData ⊕ Nat → Prop} (ha : EdA tA env ds) (hR : R ds (.inl d)) : Ed (tCallS (spE K c (PD K) R) E tA) env d := fun H0 σ H e Q q =>
  ha H0 σ H e _ fun vs H2 e2 dv => ⟨ds, .inl d, hR, dv, fun v H' e3 h => q v H' (e2.trans e3) h⟩
theorem edp_callS {R : List PyData → Two ⊕ Nat → Prop} {y : Two} (ha : EdA tA env ds) (hR : R ds (.inl y)) : EdP (tCallS (spE K c (ToldP K) R) E tA) env y := fun H0 σ H e Q q =>
  ha H0 σ H e _ fun vs H2 e2 dv => ⟨ds, .inl y, hR, dv, ToldP.up e2 q⟩
/-- an expression that raises -/
def Er (He : Hp) (te : TE) (env : List (Sl K)) : Prop := ∀ (H0 : Hp) (σ : L2.St) (H : Hp), Same He H0 → En K H0 σ H env → ∀ Q : VK, te σ H Q
theorem er_call {R : List PyData → β ⊕ Nat → Prop} {E' : XK} (ha : EdA tA env ds) (hR : R ds (.inr j)) (hE : ∀ H', Same He H' → E' (.ref (c j)) none H') : Er He (tCallS (spE K c P R) (fun _ => E') tA) env := fun H0 σ H b e Q =>
  ha H0 σ H e _ fun vs H2 e2 dv => ⟨ds, .inr j, hR, dv, fun H' e3 => hE H' (((b.trans e.sm).trans e2).trans e3)⟩
theorem er_tup1 {tr : TA} (h : Er He ta env) : Er He (tTup (tCons ta tr)) env := fun H0 σ H b e Q => h H0 σ H b e _
theorem er_tup2 {tr : TA} (ha : Ed ta env x) (h : Er He tb env) : Er He (tTup (tCons ta (tCons tb tr))) env := fun H0 σ H b e Q => ha H0 σ H e _ fun v H2 e2 _ => h H0 σ H2 b (e.same e2) _
theorem sk_asgEr {g : TG} (h : Er He te env) : Sk K He env (tAsg te g D) := fun H0 σ H b e => h H0 σ H b e _
theorem sk_dropEr (h : Er He te env) : Sk K He env (tDrop te D) := fun H0 σ H b e => h H0 σ H b e _
theorem sk_retEr (h : Er He te env) : Sk K He env (tRet te D) := fun H0 σ H b e => h H0 σ H b e _
theorem sk_appendEr {k : Nat} {l : Addr} (hk : env[k]? = some (own l ds)) (h : Er He te env) : Sk K He env (tDrop (tBM K "list" rAppend (tVar k) (tCons te tNil)) D) := fun H0 σ H b e => by
  obtain ⟨o, h1, h2, fl1, vs, h3, h4⟩ := e.get hk
  subst h2
  exact ⟨_, h1, .inl ⟨rfl, vs, SqL.of h3⟩, h H0 σ H b e _⟩
theorem sk_raise {C : Addr} {E' : XK} (q : ∀ H', Same He H' → E' (.ref C) none H') : Sk K He env (tRaise C E' D) := fun H0 σ H b e => q H (b.trans e.sm)
/-- data that stands, where the frame has nothing of its own -/
theorem sk_asgP0 {k : Nat} (h : Ed te env d) (ho : owns env = []) (q : Sk K He (env.set k (par d)) D.nx) : Sk K He env (tAsg te (gName k) D) := fun H0 σ H b e =>
  h H0 σ H e _ fun v H2 e2 dv => by
    have e' := (e.same e2).base
    have eb : bas H2 (owns env) = H2 := by
      rw [ho]
      funext a
      exact bas_out (fun z => nomatch z)
    rw [eb] at e'
    exact q H2 _ H2 (b.trans (e.same e2).sm) (e'.set (s := par d) rfl ⟨v, rfl, dv⟩ k)
theorem q_asgP0 {k : Nat} (h : Ed te env d) (ho : owns env = []) (q : Sk K He (env.set k (par d)) (tz D)) : Sk K He env (tSeq (tAsg te (gName k)) tz D) := sk_asgP0 (D := { D with nx := tz D }) h ho q
/-! try -/
def tTry (K : PySem.W.Frag) (R : Addr) (i : Nat) (ts : Addr → Value → Option Addr → TS) (tb : WX → TS) : TS := fun D σ H => tb (wAs K (.ref R) i ts (fun _ _ _ _ => False) D) D σ H
theorem sk_try {i : Nat} {ts : Addr → Value → Option Addr → TS} {tB : WX → TS} (h : Sk K He env (tB (wAs K (.ref Rc) i ts (fun _ _ _ _ => False) D) D)) : Sk K He env (tTry K Rc i ts tB D) := h
theorem q_try {i : Nat} {ts : Addr → Value → Option Addr → TS} {tB : WX → TS} (h : Sk K He env (tB (wAs K (.ref Rc) i ts (fun _ _ _ _ => False) { D with nx := tz D }) { D with nx := tz D })) : Sk K He env (tSeq (tTry K Rc i ts tB) tz D) := h
theorem sk_unset {P : L2.St → Hp → Prop} (i : Nat) (h : Sk K He (env.set i un) P) : Sk K He env (fun σ H => P (σ.set i none) H) := fun H0 σ H b e => h H0 _ H b (e.set (s := un) rfl trivial i)
/-- the call in the try's body raises: the suite is run -/
theorem er_suite {R : List PyData → β ⊕ Nat → Prop} {i : Nat} {ts : Addr → Value → Option Addr → TS} (ha : EdA tA env ds) (hR : R ds (.inr j)) (hx : PySem.W.exmOne K (.ref (c j)) (.ref Rc) = some true)
    (q : ∀ a, Sk K He (env.set i (exS a)) (ts a (.ref (c j)) none { nx := fun σ' H' => D.nx (σ'.set i none) H', rt := D.rt, bk := fun σ' H' => D.bk (σ'.set i none) H', ct := fun σ' H' => D.ct (σ'.set i none) H' })) :
    Er He (tCallS (spE K c P R) (WE (wAs K (.ref Rc) i ts (fun _ _ _ _ => False) D)) tA) env := fun H0 σ H b e Q =>
  ha H0 σ H e _ fun vs H2 e2 dv => ⟨ds, .inr j, hR, dv, fun H' e3 => ⟨true, hx, fun _ a _ => q a H0 _ H' b (((e.same e2).same e3).set (s := exS a) rfl rfl i), fun z => nomatch z⟩⟩
def spW (c : Nat → Addr) (J : List Nat) : Addr → Hp → VK → Prop := fun C H Q => ∃ j, j ∈ J ∧ C = c j ∧ ∀ H', Same H H' → Q (.str (whichS j)) H'
theorem ed_which {J : List Nat} {a : Addr} {k : Nat} (hk : env[k]? = some (exS a)) (hj : j ∈ J) : Ed (tCallE a (.ref (c j)) none (spW c J) (tCons (tVar k) tNil)) env (.str (whichS j)) := fun H0 σ H e Q q => by
  obtain ⟨o, h1, rfl⟩ := e.get hk
  exact ⟨_, h1, rfl, c j, rfl, rfl, j, hj, rfl, fun H' e2 => q _ H' e2 (.str _)⟩
end
section
variable {P : Program} {w : World} {K : PySem.W.Frag} {mg : Str → Option Value} {base : Heap} {x qual : Str} {st : Stmt} {f : Addr} {fd : FuncData} {N ps : List Str} {k : Nat} {β : Type}
theorem okE {c : Nat → Addr} {PP : Hp → β → VK → Prop} {R : List PyData → β ⊕ Nat → Prop} (F : Fun K x qual st f fd) (S : FnScope N ps (defScope st)) (hl : ∀ ds d, R ds d → ds.length = ps.length)
    (hb : ∀ (cdv : Value) (A : Around) (outer : List Env) (s : Shared) (H : Hp) (E : XK) (ds : List PyData) (d : β ⊕ Nat), Room k (A.deeper (envOfC qual (defScope st) s.heap.objs.size f cdv)) → R ds d →
      ∃ t, PSs (cxOf (L2.CX P w) P w K mg base N qual (defScope st) f cdv A outer s H E) (defBody st) t ∧
        ∀ Q : VK, Ans c PP H d Q E → Sk K H (ds.map par ++ List.replicate (N.length - ds.length) un) (t { nx := fun _ H' => Q .non H', rt := Q })) : FnOk P w K mg base (L2.CX P w) (k + 1) f fd ps (spE K c PP R) := by
  refine F.okX S (fun vs H Q E h => ?_) (fun cdv A outer s H vs Q E hr h => ?_)
  · obtain ⟨ds, d, hR, hds, _⟩ := h
    rw [dpa_len hds, hl ds d hR]
  · obtain ⟨ds, d, hR, hds, q⟩ := h
    obtain ⟨t, h1, h2⟩ := hb cdv A outer s H E ds d hr hR
    exact ⟨t, h1, h2 Q q H _ H (Same.refl H) (en_start hds)⟩
theorem okW {sp : Addr → Hp → VK → Prop} {x1 : Str} (F : Fun K x qual st f fd) (S : FnScope N [x1] (defScope st))
    (hb : ∀ (cdv : Value) (A : Around) (outer : List Env) (s : Shared) (H : Hp) (a C : Addr) (oe : Obj) (Q : VK), L2H.RoomH k (A.deeper (envOfC qual (defScope st) s.heap.objs.size f cdv)) → Zc (.ref C) none oe → (∃ vs, oe.data = .fields vs) → sp C H Q →
      ∃ t, PSs (L2H.cxH CX0 P w K mg base N qual (defScope st) f cdv A outer s H E0 (a, oe)) (defBody st) t ∧
        Sk K H (exS a :: List.replicate (N.length - 1) un) (t { nx := fun _ H' => Q .non H', rt := Q })) : FnE P w K mg base (k + 1) f fd x1 sp := by
  refine fn_ofE F S fun cdv A outer s H Q a C oe hr hz hf hs => ?_
  obtain ⟨t, h1, h2⟩ := hb cdv A outer s H a C oe Q hr hz hf hs
  refine ⟨t, h1, h2 H _ H (Same.refl H) ⟨Same.refl H, ?_, ?_, ?_⟩⟩
  · unfold L2.start
    exact .cons rfl (paired_rep (F := fun o (s : Sl K) => s.R H H o) trivial _)
  · rw [owns_cons, show owns (List.replicate (N.length - 1) (un : Sl K)) = [] from owns_par [] _]
    exact List.nodup_nil
  · rw [owns_cons, show owns (List.replicate (N.length - 1) (un : Sl K)) = [] from owns_par [] _]
    intro b hb
    cases hb
end
section
variable {X : Cx} {x : Str} {k : Nat} {ps : List Str} {sp : Sp} {e : Expr} {es : List Expr} {t : TA} {p pos : Pos} {E : L2.St → XK}
/-- the call of a def that may raise; what it lets out goes on -/
theorem pe_callX (h : Has X.prog X.w X.K X.mg X.base (L2.CX X.prog X.w) x k ps sp) (hr : Room k X.A) (hg : Gl X x) (hx : ∀ σ, PassesAt (L2.CX X.prog X.w) X σ (E σ)) (ha : PA X (e :: es) t) (hdb : (x == ("__debug__" : Str)) = false := by decide)
    (he : starEach (e :: es) X.env = (false, eval e X.env) :: starEach es X.env := by rfl) (hpl : (backTo pos (starEach es X.env)).any (·.1) = false := by rfl) : PE X (.Call (.Name x p) (e :: es) [] pos) (tCallS sp E t) := by
  obtain ⟨f, fd, hm, hk, hb, F⟩ := h.ex
  exact pe_callS F hr hg hm hk hb hx ha hdb he hpl
/-- in a def's own body -/
theorem passE {E' : XK} (tk : Takes X (fun cls d _ H => E' cls d H)) : ∀ σ, PassesAt (L2.CX X.prog X.w) X σ ((fun _ => E') σ) := fun σ => passAt (W := fun cls d _ H => E' cls d H) tk σ
theorem ps_tryAs {n : Str} {R : Addr} {i : Nat} {body suite : List Stmt} {b₀ : Stmt} {np pos pos' : Pos} {tb : WX → TS} {ts : Addr → Value → Option Addr → TS} (hs : X.stack = X.env :: X.outer) (hf : X.env.frame = some X.env.locals) (hN : X.N.Nodup) (hi : X.N[i]? = some n) (hln : X.env.kindOf n = some .local) (hg : Gl X x) (hm : X.mg x = some (.ref R)) (hdb : (x == ("__debug__" : Str)) = false)
    (hb : ∀ (W : WX) (pn : List (Addr × Obj)) (xe : Value → Shared → Prop), Takes (X.tr pn xe) W → PassesOwn (model X.prog X.w) X.A X.env xe → PSs (X.tr pn xe) body (tb W))
    (hsu : ∀ (a : Addr) (oe : Obj) (cls : Value) (d : Option Addr) (pn : List (Addr × Obj)), Zc cls d oe → (∃ vs, oe.data = .fields vs) → PSs (X.suite a ((a, oe) :: pn)) (b₀ :: suite) (ts a cls d)) :
    PS X (.Try body [.ExceptHandler (some (.Name x np)) (some n) (b₀ :: suite) pos'] [] [] pos) (tTry X.K R i ts tb) := ps_try_as hs hf hN hi hln ⟨hg, hdb, .inl hm⟩ takes0 hb hsu
end
theorem cxH_K {CX : CXT} {P : Program} {w : World} {K : PySem.W.Frag} {mg : Str → Option Value} {base : Heap} {N : List Str} {qual : Str} {sc : Scope} {f : Addr} {cd : Value} {A : Around} {outer : List Env} {s : Shared} {H : Hp} {E : XK} {p : Addr × Obj} : (L2H.cxH CX P w K mg base N qual sc f cd A outer s H E p).K = K := rfl
/-! the body of what tells the class -/
section
variable {K : PySem.W.Frag} {He : Hp} {env : List (Sl K)} {te ta tb : TE} {d x : PyData} {ds : List PyData} {bs : List Bool}
theorem ed_isX {a D : Addr} {cv : Value} {v : V} {b : Bool} {k : Nat} (hk : env[k]? = some (exS a)) (hv : ∀ u, RelV v u → u = cv) (h : PySem.W.kitOne K (.ref D) cv = some b) : Ed (tCB (rIsE K D a) (tCons (tVar k) (tCons (tC v) tNil))) env (.bool b) := fun H0 σ H e Q q => by
  obtain ⟨o, h1, rfl⟩ := e.get hk
  exact ⟨_, h1, v, cv, b, rfl, hv, h, q _ H (Same.refl H) (.bl b)⟩
theorem dpa_bools' {H : Hp} : ∀ {bs : List Bool} {vs : List V}, DpAll K H vs (bs.map .bool) → vs = bs.map V.bl
  | [], _, h => by cases h; rfl
  | n :: ns, _, h => by
    cases h with
    | cons h1 h2 => rw [dp_bool h1, dpa_bools' h2] <;> rfl
theorem flat_bls (bs : List Bool) : (bs.map V.bl).all flatV = true := by
  rw [List.all_eq_true]
  intro x hx
  obtain ⟨b, _, rfl⟩ := List.mem_map.mp hx
  rfl
theorem ed_cntB (h : Ed te env (.list (bs.map .bool))) : Ed (tBM K "list" (rCntB K) te (tCons (tC (.bl true)) tNil)) env (.int ((bs.count true : Nat) : Int)) := fun H0 σ H e Q q => h H0 σ H e _ fun v H2 e2 dv => by
  obtain ⟨a, xs, rfl, h1, h2⟩ := dp_list dv
  have := dpa_bools' h2
  subst this
  refine ⟨.inl ⟨rfl, _, h1⟩, a, _, .bl true, rfl, rfl, h1, rfl, flat_bls bs, ?_⟩
  have ec : (bs.map V.bl).countP (fun z => eqV z (.bl true)) = bs.count true := by
    rw [List.countP_map]
    rfl
  rw [ec]
  exact q _ H2 e2 (.int _)
theorem ed_indexB {n : Nat} (h : Ed te env (.list (bs.map .bool))) (h1 : bs[n]? = some true) (h2 : ∀ m, m < n → bs[m]? = some false) : Ed (tBM K "list" (rIndex K) te (tCons (tC (.bl true)) tNil)) env (.int (n : Int)) := fun H0 σ H e Q q => h H0 σ H e _ fun v H2 e2 dv => by
  obtain ⟨a, xs, rfl, g1, g2⟩ := dp_list dv
  have := dpa_bools' g2
  subst this
  refine ⟨.inl ⟨rfl, _, g1⟩, a, _, .bl true, n, .bl true, rfl, rfl, g1, rfl, flat_bls bs, by rw [List.getElem?_map, h1] <;> rfl, rfl, fun m z hm hz => ?_, q _ H2 e2 (.int _)⟩
  rw [List.getElem?_map, h2 m hm] at hz
  cases hz
  rfl
end
end Rs

/-! # k18: what texts write; changed texts -/
namespace Rw
open PySem PySem.Spec L2 Rs RsS Rm RsX
open TL (tl numL)
def NumOk (l : List Nat) : Prop := (1 ≤ (figL l).length ∧ (figL l).length ≤ 7) ∧ ¬ (1 < (figL l).length ∧ (figL l).take 1 = [48]) ∧ l ≠ [45, 48] ∧ (figL l).all isDig = true
theorem num_none {l : List Nat} (h : ¬ NumOk l) : numOf l = none := if_neg h
theorem num_some {l : List Nat} (h : NumOk l) : ∃ i, numOf l = some i := ⟨_, if_pos h⟩
theorem num_ok {l : List Nat} {i : Int} (h : numOf l = some i) : NumOk l := by
  unfold numOf at h
  split at h
  · next k => exact k
  · cases h
theorem int_word {w : Str} {i : Int} (h : numOf (tl w) = some i) : PySem.intText? w = some i ∧ w.length ≤ 640 := by
  have hl := numOf_len h
  have hk := num_ok h
  obtain ⟨⟨k0, k1⟩, k2, k3, k4⟩ := hk
  have hw : w.length = (tl w).length := TL.len_tl w
  unfold numOf at h
  rw [if_pos ⟨⟨k0, k1⟩, k2, k3, k4⟩] at h
  have h' := Option.some.inj h
  unfold figL at h' k0 k4
  by_cases z : (tl w).take 1 = [45]
  · rw [if_pos z] at h' k0 k4
    rw [if_pos z] at h'
    obtain ⟨cs, ec⟩ : ∃ cs, tl w = 45 :: cs := by
      cases e : tl w with
      | nil => rw [e] at z; simp at z
      | cons a r =>
        rw [e] at z
        have : a = 45 := by simpa using z
        rw [this]
        exact ⟨r, rfl⟩
    rw [ec] at h' k0 k4
    refine ⟨?_, by omega⟩
    rw [← h']
    exact PySem.intText_neg (x := w) (cs := cs) ec (all_dig.mp k4) (List.length_pos_iff.mp k0) (by omega)
  · rw [if_neg z] at h' k0 k4
    rw [if_neg z] at h'
    refine ⟨?_, by omega⟩
    rw [← h']
    exact PySem.intText_digits (all_dig.mp k4) (List.length_pos_iff.mp k0) (by omega)
def numRes (l : List Nat) : PyData ⊕ Nat := match numOf l with
  | some i => .inl (.int i)
  | none => .inr 0
theorem numRes_some {l : List Nat} {i : Int} (h : numOf l = some i) : numRes l = .inl (.int i) := by
  unfold numRes
  rw [h]
theorem numRes_none {l : List Nat} (h : numOf l = none) : numRes l = .inr 0 := by
  unfold numRes
  rw [h]
def optI : Option Int → PyData
  | some i => .int i
  | none => .none
/-! what a text writes -/
def allS {α : Type} : List (Option α) → Option (List α)
  | [] => some []
  | none :: _ => none
  | some x :: r => (allS r).map (x :: ·)
theorem allS_map {α : Type} (l : List α) : allS (l.map some) = some l := by
  induction l with
  | nil => rfl
  | cons x r ih =>
    show (allS (r.map some)).map (x :: ·) = _
    rw [ih]
    rfl
theorem allS_none {α : Type} : ∀ {l : List (Option α)}, none ∈ l → allS l = none
  | [], h => by cases h
  | none :: _, _ => rfl
  | some x :: r, h => by
    have h' : none ∈ r := by
      rcases List.mem_cons.mp h with z | z
      · cases z
      · exact z
    show (allS r).map (x :: ·) = none
    rw [allS_none h']
    rfl
open Classical in
noncomputable def writtenOf (t : Str) : Option (List Pt) := match allS ((Txt.split t " ").map ptOf) with
  | some ps => if IsShape ps then some ps else none
  | none => none
noncomputable def readRes (t : Str) : PyData ⊕ Nat := match writtenOf t with
  | some ps => .inl (psD ps)
  | none => .inr 0
def wrD : Option (List Pt) → PyData
  | some ps => psD ps
  | none => .none
noncomputable def askedD (t : Str) : PyData := match writtenOf t with
  | some ps => psD ps
  | none => .str "note"
theorem written_none {t : Str} {w : Str} (hw : w ∈ Txt.split t " ") (h : ptOf w = none) : writtenOf t = none := by
  unfold writtenOf
  rw [allS_none (List.mem_map.mpr ⟨w, hw, h⟩)]
def ptG (w : Str) : Pt := (ptOf w).getD pt0
theorem written_all {t : Str} (h : ∀ w ∈ Txt.split t " ", (ptOf w).isSome = true) : (Txt.split t " ").map ptOf = ((Txt.split t " ").map ptG).map some := by
  rw [List.map_map]
  refine List.map_congr_left fun w hw => ?_
  obtain ⟨p, hp⟩ := Option.isSome_iff_exists.mp (h w hw)
  show ptOf w = some ((ptOf w).getD pt0)
  rw [hp]
  rfl
theorem written_yes {t : Str} {ps : List Pt} (h : (Txt.split t " ").map ptOf = ps.map some) (hc : IsShape ps) : writtenOf t = some ps := by
  unfold writtenOf
  rw [h, allS_map]
  exact if_pos hc
theorem written_no {t : Str} {ps : List Pt} (h : (Txt.split t " ").map ptOf = ps.map some) (hc : ¬ IsShape ps) : writtenOf t = none := by
  unfold writtenOf
  rw [h, allS_map]
  exact if_neg hc
theorem ptG_sm (w : Str) : Sm 10000000 (ptG w) := by
  unfold ptG
  cases h : ptOf w with
  | none =>
    show Sm 10000000 pt0
    unfold Sm pt0
    simp only
    omega
  | some p =>
    obtain ⟨a, b, _, n1, n2⟩ := ptOf_some h
    exact sm_of_num (numOf_lt n1) (numOf_lt n2)
theorem written_sm {t : Str} {ps : List Pt} (h : writtenOf t = some ps) : ps.length ≤ t.length + 1 := by
  unfold writtenOf at h
  split at h
  · next qs e =>
    split at h
    · cases h
      have key : ∀ {l : List (Option Pt)} {qs : List Pt}, allS l = some qs → qs.length = l.length := by
        intro l
        induction l with
        | nil =>
          intro qs h
          cases h
          rfl
        | cons o r ih =>
          intro qs h
          cases o with
          | none => cases h
          | some x =>
            have h' : (allS r).map (x :: ·) = some qs := h
            cases e2 : allS r with
            | none => rw [e2] at h'; cases h'
            | some rs =>
              rw [e2] at h'
              cases h'
              rw [List.length_cons, List.length_cons, ih e2]
      have := key e
      rw [List.length_map] at this
      have := split_count (x := t) blank_ok.1 blank_ok.2
      omega
    · cases h
  · cases h
/-- a word's parts -/
theorem ptOf_two {w a b : Str} {x y : Int} (h : Txt.split w "," = [a, b]) (h1 : numOf (tl a) = some x) (h2 : numOf (tl b) = some y) : ptOf w = some (x, y) := by
  unfold ptOf
  rw [h]
  simp only [h1, h2]
theorem ptOf_no1 {w a b : Str} (h : Txt.split w "," = [a, b]) (h1 : numOf (tl a) = none) : ptOf w = none := by
  unfold ptOf
  rw [h]
  simp only [h1]
theorem ptOf_no2 {w a b : Str} (h : Txt.split w "," = [a, b]) (h2 : numOf (tl b) = none) : ptOf w = none := by
  unfold ptOf
  rw [h]
  simp only [h2]
  cases numOf (tl a) <;> rfl
theorem ptOf_len {w : Str} (h : (Txt.split w ",").length ≠ 2) : ptOf w = none := by
  unfold ptOf
  split
  · next a b e =>
    rw [e] at h
    exact absurd rfl h
  · rfl
theorem two_of {α : Type} {l : List α} (h : l.length = 2) : ∃ a b, l = [a, b] := by
  match l, h with
  | [a, b], _ => exact ⟨a, b, rfl⟩
/-! none among parts -/
def optsD (l : List Str) : List PyData := l.map fun p => optI (numOf (tl p))
theorem flat_opts (l : List Str) : (optsD l).all flat = true := by
  rw [List.all_eq_true]
  intro x hx
  obtain ⟨p, _, rfl⟩ := List.mem_map.mp hx
  show flat (optI (numOf (tl p))) = true
  cases numOf (tl p) <;> rfl
theorem opts_lay : ∀ l : List Str, PyData.canLayAll0 (optsD l) = true
  | [] => by
    show PyData.canLayAll0 [] = true
    rw [PyData.canLayAll0]
  | p :: l => by
    show PyData.canLayAll0 (optI (numOf (tl p)) :: optsD l) = true
    rw [PyData.canLayAll0, opts_lay l]
    cases numOf (tl p) with
    | none => rw [show optI none = PyData.none from rfl, PyData.canLay0]; rfl
    | some i => rw [show optI (some i) = PyData.int i from rfl, PyData.canLay0]; rfl
theorem opts_depth : ∀ l : List Str, PyData.depthAll (optsD l) ≤ 1
  | [] => by
    show PyData.depthAll [] ≤ 1
    rw [PyData.depthAll]
    omega
  | p :: l => by
    have ih := opts_depth l
    show PyData.depthAll (optI (numOf (tl p)) :: optsD l) ≤ 1
    cases numOf (tl p) with
    | none =>
      rw [show optI none = PyData.none from rfl, PyData.depthAll, PyData.depth]
      omega
    | some i =>
      rw [show optI (some i) = PyData.int i from rfl, PyData.depthAll, PyData.depth]
      omega
theorem shaped_opts (l : List Str) : SeqAt.shaped (.list (optsD l)) = true := by
  have h1 : (PyData.list (optsD l)).canLay0 = true := by
    rw [PyData.canLay0]
    exact opts_lay l
  have h2 : (PyData.list (optsD l)).depth ≤ 64 := by
    rw [PyData.depth]
    have := opts_depth l
    omega
  unfold SeqAt.shaped
  rw [h1, decide_eq_true h2]
  rfl
theorem has_none (l : List Str) : ((optsD l).any fun z => PyData.eqv z .none) = l.any fun p => (numOf (tl p)).isNone := by
  unfold optsD
  rw [List.any_map]
  congr 1
  funext p
  show PyData.eqv (optI (numOf (tl p))) .none = (numOf (tl p)).isNone
  cases numOf (tl p) with
  | none => rw [show optI none = PyData.none from rfl, PyData.eqv]; rfl
  | some i => rw [show optI (some i) = PyData.int i from rfl, PyData.eqv]; rfl
/-! changed texts -/
def signL : List Nat := tl ("0123456789, -\n\t+_x." : Str)
def sgS (cell : Int) : Str := ⟨#[signL.getD (cell / 8192 % 19).toNat 0]⟩
theorem sg_len (cell : Int) : (sgS cell).length = 1 := rfl
def swapL (ws : List Str) (i j : Nat) : List Str := (ws.set i (ws.getD j Str.empty)).set j (ws.getD i Str.empty)
def changedS (t : Str) (cell : Int) : Str :=
  if cell % 8 < 2 then cutS t none (some (cell / 8 % ((t.length : Int) + 1))) ++ cutS t (some (cell / 8 % ((t.length : Int) + 1) + 1)) none
  else if cell % 8 < 4 then cutS t none (some (cell / 8 % ((t.length : Int) + 1))) ++ sgS cell ++ cutS t (some (cell / 8 % ((t.length : Int) + 1))) none
  else if cell % 8 < 6 then cutS t none (some (cell / 8 % ((t.length : Int) + 1))) ++ sgS cell ++ cutS t (some (cell / 8 % ((t.length : Int) + 1) + 1)) none
  else if cell % 8 = 6 then Txt.join " " ((Txt.split t " ").drop (cell / 8 % ((Txt.split t " ").length : Int)).toNat ++ (Txt.split t " ").take (cell / 8 % ((Txt.split t " ").length : Int)).toNat)
  else Txt.join " " (swapL (Txt.split t " ") (cell / 8 % ((Txt.split t " ").length : Int)).toNat (cell / 512 % ((Txt.split t " ").length : Int)).toNat)
theorem len_app (a b : Str) : (a ++ b).length = a.length + b.length := by rw [TL.len_tl, TL.tl_append, List.length_append, ← TL.len_tl, ← TL.len_tl]
theorem cutTo_len (w : Str) (a : Nat) : (cutS w none (some (a : Int))).length ≤ a := by
  rw [TL.len_tl]
  show ((w.cps.toList.drop (HT.sIx w.length 0 none)).take (HT.sIx w.length w.length (some (a : Int)) - HT.sIx w.length 0 none)).length ≤ a
  rw [HT.sIx_none, HT.sIx_nat, List.length_take]
  omega
theorem cutTo_len2 (w : Str) (a : Nat) : (cutS w none (some (a : Int))).length ≤ w.length := by
  rw [TL.len_tl]
  show ((w.cps.toList.drop (HT.sIx w.length 0 none)).take (HT.sIx w.length w.length (some (a : Int)) - HT.sIx w.length 0 none)).length ≤ _
  rw [HT.sIx_none, HT.sIx_nat, List.length_take]
  omega
theorem joinL_len : ∀ ls : List (List Nat), ls ≠ [] → (TL.joinL [32] ls).length + 1 = (ls.map fun l => l.length + 1).sum
  | [], h => absurd rfl h
  | [p], _ => by
    show p.length + 1 = _
    simp
  | p :: q :: r, _ => by
    have ih := joinL_len (q :: r) (by simp)
    show (p ++ ([32] ++ TL.joinL [32] (q :: r))).length + 1 = _
    rw [List.map_cons, List.sum_cons, ← ih, List.length_append, List.length_append, List.length_singleton]
    omega
def wsum (ws : List Str) : Nat := (ws.map fun w => w.length + 1).sum
theorem join_len (ws : List Str) (h : ws ≠ []) : (Txt.join " " ws).length + 1 = wsum ws := by
  rw [TL.len_tl, TL.join_eq, TL.tl_join, tl_blank, joinL_len _ (fun z => h (List.map_eq_nil_iff.mp z)), List.map_map]
  unfold wsum
  congr 1
theorem split_sum (t : Str) : t.length + 1 = wsum (Txt.split t " ") := by
  have hne : Txt.split t " " ≠ [] := fun z => by
    have e := TL.split_spl t " " blank_ok.1 (TL.kind_ok blank_ok.2)
    rw [z] at e
    have key : ∀ (S l : List Nat) (k : Nat) (acc : List Nat), TL.spl S k acc l ≠ [] := by
      intro S l
      induction l with
      | nil =>
        intro k acc h
        rw [TL.spl_nil] at h
        cases h
      | cons c r ih =>
        intro k acc h
        cases k with
        | zero =>
          by_cases z : TL.pre S (c :: r) = true
          · rw [TL.spl_hit z] at h
            cases h
          · rw [Bool.not_eq_true] at z
            rw [TL.spl_miss z] at h
            exact ih _ _ h
        | succ k => exact ih k acc h
    exact key _ _ _ _ e.symm
  have h := join_len _ hne
  rw [TL.join_eq, PySem.StrLaws.join_split] at h
  exact h
theorem split_ne (t : Str) : Txt.split t " " ≠ [] := fun z => by
  have := split_sum t
  rw [z] at this
  have e : wsum [] = 0 := rfl
  omega
theorem sum_set : ∀ (l : List Nat) (i x : Nat), i < l.length → (l.set i x).sum + l.getD i 0 = l.sum + x
  | [], _, _, h => absurd h (by simp)
  | a :: l, 0, x, _ => by
    rw [List.set_cons_zero, List.sum_cons, List.sum_cons]
    show x + l.sum + a = _
    omega
  | a :: l, i + 1, x, h => by
    have ih := sum_set l i x (by simpa using h)
    rw [List.set_cons_succ, List.sum_cons, List.sum_cons]
    show a + (l.set i x).sum + l.getD i 0 = _
    omega
theorem swap_sum (ws : List Str) {i j : Nat} (hi : i < ws.length) (hj : j < ws.length) : wsum (swapL ws i j) = wsum ws := by
  unfold wsum swapL
  rw [List.map_set, List.map_set]
  have h1 := sum_set (ws.map fun w => w.length + 1) i ((ws.getD j Str.empty).length + 1) (by rw [List.length_map]; exact hi)
  have h2 := sum_set ((ws.map fun w => w.length + 1).set i ((ws.getD j Str.empty).length + 1)) j ((ws.getD i Str.empty).length + 1) (by rw [List.length_set, List.length_map]; exact hj)
  have g1 : (ws.map fun w => w.length + 1).getD i 0 = (ws.getD i Str.empty).length + 1 := by
    rw [List.getD_eq_getElem?_getD, List.getElem?_map, List.getD_eq_getElem?_getD, List.getElem?_eq_getElem hi]
    rfl
  have g2 : ((ws.map fun w => w.length + 1).set i ((ws.getD j Str.empty).length + 1)).getD j 0 = (ws.getD j Str.empty).length + 1 := by
    rw [List.getD_eq_getElem?_getD, List.getElem?_set]
    by_cases e : i = j
    · rw [if_pos e, if_pos (by rw [List.length_map]; exact hi)]
      rfl
    · rw [if_neg e, List.getElem?_map, List.getD_eq_getElem?_getD, List.getElem?_eq_getElem hj]
      rfl
  rw [g1] at h1
  rw [g2] at h2
  omega
theorem changed_len (t : Str) (cell : Int) : (changedS t cell).length ≤ t.length + 1 := by
  have hs := split_sum t
  have hne := split_ne t
  have hw : 0 < (Txt.split t " ").length := List.length_pos_iff.mpr hne
  have p1 := Int.emod_nonneg (cell / 8) (show ((t.length : Int) + 1) ≠ 0 by omega)
  have p2 := Int.emod_lt_of_pos (cell / 8) (show 0 < ((t.length : Int) + 1) by omega)
  obtain ⟨n, hn⟩ := Int.eq_ofNat_of_zero_le p1
  unfold changedS
  rw [hn]
  rw [hn] at p2
  have e1 : ((n : Int) + 1) = ((n + 1 : Nat) : Int) := by omega
  have l1 := cutTo_len t n
  have l2 := cutFrom_len t n
  have l3 := cutFrom_len t (n + 1)
  split
  · rw [len_app, e1, l3]
    omega
  · split
    · rw [len_app, len_app, sg_len, l2]
      omega
    · split
      · rw [len_app, len_app, sg_len, e1, l3]
        omega
      · have q1 := Int.emod_nonneg (cell / 8) (show (((Txt.split t " ").length : Int)) ≠ 0 by omega)
        have q2 := Int.emod_lt_of_pos (cell / 8) (show 0 < (((Txt.split t " ").length : Int)) by omega)
        have r1 := Int.emod_nonneg (cell / 512) (show (((Txt.split t " ").length : Int)) ≠ 0 by omega)
        have r2 := Int.emod_lt_of_pos (cell / 512) (show 0 < (((Txt.split t " ").length : Int)) by omega)
        generalize cell / 8 % ((Txt.split t " ").length : Int) = p at q1 q2
        generalize cell / 512 % ((Txt.split t " ").length : Int) = o at r1 r2
        generalize Txt.split t " " = ws at *
        split
        · have hj := join_len (ws.drop p.toNat ++ ws.take p.toNat) (fun z => by
            have := congrArg List.length z
            rw [List.length_append, List.length_drop, List.length_take, List.length_nil] at this
            omega)
          have hq : wsum (ws.drop p.toNat ++ ws.take p.toNat) = wsum ws := by
            unfold wsum
            rw [List.map_append, List.sum_append, Nat.add_comm, ← List.sum_append, ← List.map_append, List.take_append_drop]
          omega
        · have hsw : (swapL ws p.toNat o.toNat).length = ws.length := by
            unfold swapL
            rw [List.length_set, List.length_set]
          have hj := join_len (swapL ws p.toNat o.toNat) (fun z => by
            rw [z, List.length_nil] at hsw
            omega)
          have hq := swap_sum ws (i := p.toNat) (j := o.toNat) (by omega) (by omega)
          omega
theorem cutD_from (ds : List PyData) (a : Nat) : cutD ds (some (a : Int)) none = ds.drop a := by
  unfold cutD
  rw [HT.sIx_none, HT.sIx_nat]
  by_cases k : a ≤ ds.length
  · rw [Nat.min_eq_left k, List.take_of_length_le (by rw [List.length_drop]; exact Nat.le_refl _)]
  · rw [Nat.min_eq_right (by omega), List.drop_of_length_le (Nat.le_refl _), List.take_nil]
    exact (List.drop_of_length_le (by omega)).symm
theorem cutD_to (ds : List PyData) (a : Nat) : cutD ds none (some (a : Int)) = ds.take a := by
  unfold cutD
  rw [HT.sIx_none, HT.sIx_nat, List.drop_zero, Nat.sub_zero]
  by_cases k : a ≤ ds.length
  · rw [Nat.min_eq_left k]
  · rw [Nat.min_eq_right (by omega), List.take_of_length_le (Nat.le_refl _)]
    exact (List.take_of_length_le (by omega)).symm
/-! the relations -/
def R_numberE : List PyData → PyData ⊕ Nat → Prop := fun ds y => ∃ w : Str, w.length ≤ 900 ∧ ds = [.str w] ∧ y = numRes (tl w)
def R_readE : List PyData → PyData ⊕ Nat → Prop := fun ds y => ∃ t : Str, t.length ≤ 900 ∧ ds = [.str t] ∧ y = readRes t
def R_askedN : List PyData → PyData → Prop := fun ds d => ∃ t : Str, t.length ≤ 900 ∧ ds = [.str t] ∧ d = askedD t
def R_lawNumber : List PyData → PyData → Prop := fun ds d => ∃ w : Str, w.length ≤ 900 ∧ ds = [.str w] ∧ d = optI (numOf (tl w))
def R_lawWritten : List PyData → PyData → Prop := fun ds d => ∃ t : Str, t.length ≤ 900 ∧ ds = [.str t] ∧ d = wrD (writtenOf t)
def R_lawChanged : List PyData → PyData → Prop := fun ds d => ∃ (t : Str) (cell : Int), t.length ≤ 900 ∧ 0 ≤ cell ∧ ds = [.str t, .int cell] ∧ d = .str (changedS t cell)
end Rw
namespace Rw
open PySem PySem.Spec L2 Rs RsS Rm RsX
open TL (tl numL)
theorem wsum_eq : ∀ ys : List Str, (ys.map (·.length)).sum + ys.length * (" " : Str).length = wsum ys
  | [] => rfl
  | y :: ys => by
    have ih := wsum_eq ys
    have e1 : (" " : Str).length = 1 := by rw [TL.len_tl, tl_blank]; rfl
    rw [e1, Nat.mul_one] at ih ⊢
    unfold wsum at ih ⊢
    rw [List.map_cons, List.sum_cons, List.map_cons, List.sum_cons, List.length_cons, ← ih]
    omega
theorem sign_at (cell : Int) : atI (("0123456789, -\n\t+_x." : Str)).cps.toList (cell / 8192 % 19) = some (signL.getD (cell / 8192 % 19).toNat 0) := by
  have hl : signL.length = 19 := by decide +kernel
  have h1 := Int.emod_nonneg (cell / 8192) (show (19 : Int) ≠ 0 by decide)
  have h2 := Int.emod_lt_of_pos (cell / 8192) (show (0 : Int) < 19 by decide)
  generalize cell / 8192 % 19 = i at h1 h2
  obtain ⟨n, rfl⟩ := Int.eq_ofNat_of_zero_le h1
  show atI signL (n : Int) = some (signL.getD n 0)
  have hn : n < signL.length := by omega
  refine atI_nat ?_
  rw [List.getD_eq_getElem?_getD, List.getElem?_eq_getElem hn]
  rfl
def menuL : List Str := ["", " ", ",", "0", "0,", ",0", "0,0", "00,0", "0,-0", "+1,0", "1_0,0", "0,0 0,0", "0,0,0", "1;2", "12345678,0", "-1234567,1234567", "0,0 1,0 2,0", "1,0 0,0", "0, 0", "0,0\n", "-,0"]
theorem menu_len : menuL.length = 21 ∧ ∀ w ∈ menuL, w.length ≤ 20 := by decide +kernel
def chIter (ns : List Int) : Nat → Str → Str
  | 0, t => t
  | i + 1, t => changedS (chIter ns i t) (cellAt ns (5 + i) % 10 ^ 9)
theorem chIter_len (ns : List Int) (t : Str) : ∀ i, (chIter ns i t).length ≤ t.length + i
  | 0 => Nat.le_refl _
  | i + 1 => by
    have h1 := chIter_len ns t i
    have h2 := changed_len (chIter ns i t) (cellAt ns (5 + i) % 10 ^ 9)
    show (changedS (chIter ns i t) (cellAt ns (5 + i) % 10 ^ 9)).length ≤ _
    omega
theorem ed_askedN {K : PySem.W.Frag} {env : List (Sl K)} {ta : TE} {t : Str} (ha : Ed ta env (.str t)) (hl : t.length ≤ 900) : Ed (tCall (spD K R_askedN) [] E0 (tCons ta tNil)) env (askedD t) := ed_call (eda_cons ha eda_nil) ⟨t, hl, rfl, rfl⟩
theorem ed_written {K : PySem.W.Frag} {env : List (Sl K)} {ta : TE} {t : Str} (ha : Ed ta env (.str t)) (hl : t.length ≤ 900) : Ed (tCall (spD K R_lawWritten) [] E0 (tCons ta tNil)) env (wrD (writtenOf t)) := ed_call (eda_cons ha eda_nil) ⟨t, hl, rfl, rfl⟩
theorem ed_changed {K : PySem.W.Frag} {env : List (Sl K)} {ta tb : TE} {t : Str} {cell : Int} (ha : Ed ta env (.str t)) (hb : Ed tb env (.int cell)) (hl : t.length ≤ 900) (h0 : 0 ≤ cell) : Ed (tCall (spD K R_lawChanged) [] E0 (tCons ta (tCons tb tNil))) env (.str (changedS t cell)) := ed_call (eda_cons ha (eda_cons hb eda_nil)) ⟨t, cell, hl, h0, rfl, rfl⟩
end Rw

/-! # k15: two lists told, or a text -/
namespace Rs
open PySem PySem.Spec PyProof.Rows L2 RsS RsI RsX
open Rm (Pt)
section
variable {K : PySem.W.Frag} {He He0 : Hp} {env : List (Sl K)} {te ta tb : TE} {t tz : TS} {D : Ends} {d : PyData} {ds es : List PyData} {c e : List Pt}
def ToldA (K : PySem.W.Frag) (He : Hp) (y : Two ⊕ Nat) (Q : VK) : Prop := match y with
  | .inl z => ToldP K He z Q
  | .inr _ => ∀ H, Same He H → Q (.str "long") H
def spA (K : PySem.W.Frag) (R : List PyData → Two ⊕ Nat → Prop) : Sp := fun vs H Q _ => ∃ ds y, R ds y ∧ DpAll K H vs ds ∧ ToldA K H y Q
theorem ToldA.up {He He' : Hp} {y : Two ⊕ Nat} {Q : VK} (b : Same He He') (q : ToldA K He y Q) : ToldA K He' y Q := by
  cases y with
  | inl z => exact ToldP.up b q
  | inr j => exact fun H e => q H (b.trans e)
def EdAk (te : TE) (env : List (Sl K)) (y : Two ⊕ Nat) : Prop := ∀ (H0 : Hp) (σ : L2.St) (H : Hp), En K H0 σ H env → ∀ Q : VK, ToldA K H y Q → te σ H Q
theorem edak_call {R : List PyData → Two ⊕ Nat → Prop} {E : XK} {tA : TA} {y : Two ⊕ Nat} (ha : EdA tA env ds) (hR : R ds y) : EdAk (tCall (spA K R) [] E tA) env y := fun H0 σ H en Q q =>
  ha H0 σ H en _ fun vs H2 e2 dv => by
    rw [List.append_nil]
    exact ⟨ds, y, hR, dv, q.up e2⟩
theorem edp_ak {y : Two} (h : EdAk te env (.inl y)) : EdP te env y := fun H0 σ H en Q q => h H0 σ H en Q q
theorem ed_long {j : Nat} (h : EdAk te env (.inr j)) : Ed te env (.str "long") := fun H0 σ H en Q q => h H0 σ H en Q fun H2 e2 => q _ H2 e2 (.str _)
/-- a pair of two lists that were made since He0, standing -/
def pl2 (He0 : Hp) (c e : List Pt) : Sl K := ⟨fun H0 _ o => ∃ t l m us ws, o = some (.ref t) ∧ He0 l = none ∧ He0 m = none ∧ l ≠ m ∧ H0 t = some (.tup [.ref l, .ref m]) ∧ H0 l = some (.lst us) ∧ DpAll K H0 us (c.map pT) ∧ H0 m = some (.lst ws) ∧ DpAll K H0 ws (e.map pT), [],
  fun k _ _ _ ⟨t, l, m, us, ws, h1, h2, h3, h4, h5, h6, h7, h8, h9⟩ => ⟨t, l, m, us, ws, h1, h2, h3, h4, k _ _ h5, k _ _ h6, dpa_mono k _ h7, k _ _ h8, dpa_mono k _ h9⟩, fun _ _ h => nomatch h⟩
theorem sk_asgT2 {k : Nat} (h : EdP te env (some (c, e))) (hs : Same He0 He) (q : Sk K He (env.set k (pl2 He0 c e)) D.nx) : Sk K He env (tAsg te (gName k) D) := fun H0 σ H b en =>
  h H0 σ H en _ fun t l m us ws H2 hl hm ne e2 h1 h2 h3 h4 h5 => by
    have e' := en.same e2
    have nl := en.not_own hl
    have nm := en.not_own hm
    refine q _ _ H2 (b.trans e'.base_same) (e'.base.set (s := pl2 He0 c e) rfl ⟨t, l, m, us, ws, rfl, ((hs.trans b).trans en.sm).free hl, ((hs.trans b).trans en.sm).free hm, ne, e'.base_T _ _ h1 id, ?_, dpa_flat e'.base_T (Rw.flat_ps c) h3, ?_, dpa_flat e'.base_T (Rw.flat_ps e) h5⟩ k)
    · rw [bas_out nl]
      exact h2
    · rw [bas_out nm]
      exact h4
theorem sk_retT2 {k : Nat} (h : env[k]? = some (pl2 He c e)) (q : ToldP K He (some (c, e)) D.rt) : Sk K He env (tRet (tVar k) D) := fun H0 σ H b en => by
  obtain ⟨o, h1, t, l, m, us, ws, rfl, h2, h3, h4, h5, h6, h7, h8, h9⟩ := en.get h
  exact ⟨_, h1, q t l m us ws H h2 h3 h4 (b.trans en.sm) (en.sm _ _ h5) (en.sm _ _ h6) (dpa_mono en.sm _ h7) (en.sm _ _ h8) (dpa_mono en.sm _ h9)⟩
/-- the same, the lists the frame's own -/
def tw (l m : Addr) (ds es : List PyData) : Sl K := ⟨fun _ H o => ∃ t, o = some (.ref t) ∧ H t = some (.tup [.ref l, .ref m]) ∧ ds.all flat = true ∧ es.all flat = true ∧ ∃ us ws, H l = some (.lst us) ∧ DpAll K H us ds ∧ H m = some (.lst ws) ∧ DpAll K H ws es, [l, m],
  fun _ _ e k ⟨t, h1, h2, f, g, us, ws, h3, h4, h5, h6⟩ => ⟨t, h1, e _ _ h2 id, f, g, us, ws, k l (by simp) _ h3, dpa_flat e f h4, k m (by simp) _ h5, dpa_flat e g h6⟩,
  fun ⟨_, _, _, _, _, us, ws, h3, _, h5, _⟩ x hx => by
    rcases List.mem_cons.mp hx with rfl | hx
    · exact ⟨_, h3, True.intro⟩
    rw [List.mem_singleton.mp hx]
    exact ⟨_, h5, True.intro⟩⟩
theorem sk_asgTw {k : Nat} (h : EdP te env (some (c, e))) (q : ∀ l m, Sk K He (env.set k (tw l m (c.map pT) (e.map pT))) D.nx) : Sk K He env (tAsg te (gName k) D) := fun H0 σ H b en =>
  h H0 σ H en _ fun t l m us ws H2 hl hm ne e2 h1 h2 h3 h4 h5 => by
    refine q l m H0 _ H2 b (en.setM (s := tw l m (c.map pT) (e.map pT)) (ps := [l, m]) e2 (fun p hp => ?_) (by simp [ne]) rfl ⟨t, rfl, h1, Rw.flat_ps c, Rw.flat_ps e, us, ws, h2, h3, h4, h5⟩ k)
    rcases List.mem_cons.mp hp with rfl | hp
    · exact hl
    rw [List.mem_singleton.mp hp]
    exact hm
theorem q_asgTw {k : Nat} (h : EdP te env (some (c, e))) (q : ∀ l m, Sk K He (env.set k (tw l m (c.map pT) (e.map pT))) (tz D)) : Sk K He env (tSeq (tAsg te (gName k)) tz D) := sk_asgTw (D := { D with nx := tz D }) h q
theorem ed_tw {k : Nat} {l m : Addr} (h : env[k]? = some (tw l m ds es)) : Ed (tVar k) env (.tuple [.list ds, .list es]) := fun H0 σ H en Q q => by
  obtain ⟨o, h1, t, rfl, h2, f, g, us, ws, h3, h4, h5, h6⟩ := en.get h
  exact ⟨_, h1, q _ H (Same.refl H) (.tup (SqT.of h2) (.cons (dp_own h3 h4) (.cons (dp_own h5 h6) .nil)))⟩
theorem ne_tw {l m : Addr} (h : [l, m].Nodup) : l ≠ m := by
  simp at h
  exact h
/-- a[0].append(x) -/
theorem sk_appendTw0 {k : Nat} {l m : Addr} (h : env[k]? = some (tw l m ds es)) (hv : Ed te env d) (f : flat d = true) (hz : ds.length < 100000) (q : Sk K He (env.set k (tw l m (ds ++ [d]) es)) D.nx) : Sk K He env (tDrop (tBM K "list" rAppend (tOp (rIxT K) (tVar k) (tC (.int 0))) (tCons te tNil)) D) := fun H0 σ H w en => by
  obtain ⟨o, h1, t, rfl, h2, f1, g1, us, ws, h3, h4, h5, h6⟩ := en.get h
  refine ⟨_, h1, t, [.ref l, .ref m], 0, .ref l, rfl, rfl, SqT.of h2, rfl, .inl ⟨rfl, _, SqL.of h3⟩, hv H0 σ H en _ fun v H2 e2 dv => ?_⟩
  have h3' := e2 _ _ h3
  have nd := ne_tw (nodup_of_slot h en.nd)
  have st : SameT H2 (upd H2 l (.lst (us ++ [v]))) := SameT.upd h3' trivial
  refine ⟨l, us, v, rfl, rfl, h3', by rw [dpa_len h4]; exact Nat.lt_of_lt_of_le hz (by decide), ?_⟩
  refine q H0 σ _ w ((en.same e2).updM (s' := tw l m (ds ++ [d]) es) h (by show l ∈ [l, m]; simp) rfl fun o ho => ?_)
  rw [h1] at ho
  cases ho
  refine ⟨t, rfl, st _ _ (e2 _ _ h2) id, by rw [List.all_append, f1, List.all_cons, f] <;> rfl, g1, _, ws, upd_same, dpa_append (dpa_flat st f1 (dpa_mono e2 _ h4)) (.cons (dp_flat st f dv) .nil), ?_, dpa_flat st g1 (dpa_mono e2 _ h6)⟩
  rw [upd_ne nd.symm]
  exact e2 _ _ h5
/-- a[1].append(x) -/
theorem sk_appendTw1 {k : Nat} {l m : Addr} (h : env[k]? = some (tw l m ds es)) (hv : Ed te env d) (f : flat d = true) (hz : es.length < 100000) (q : Sk K He (env.set k (tw l m ds (es ++ [d]))) D.nx) : Sk K He env (tDrop (tBM K "list" rAppend (tOp (rIxT K) (tVar k) (tC (.int 1))) (tCons te tNil)) D) := fun H0 σ H w en => by
  obtain ⟨o, h1, t, rfl, h2, f1, g1, us, ws, h3, h4, h5, h6⟩ := en.get h
  refine ⟨_, h1, t, [.ref l, .ref m], 1, .ref m, rfl, rfl, SqT.of h2, rfl, .inl ⟨rfl, _, SqL.of h5⟩, hv H0 σ H en _ fun v H2 e2 dv => ?_⟩
  have h5' := e2 _ _ h5
  have nd := ne_tw (nodup_of_slot h en.nd)
  have st : SameT H2 (upd H2 m (.lst (ws ++ [v]))) := SameT.upd h5' trivial
  refine ⟨m, ws, v, rfl, rfl, h5', by rw [dpa_len h6]; exact Nat.lt_of_lt_of_le hz (by decide), ?_⟩
  refine q H0 σ _ w ((en.same e2).updM (s' := tw l m ds (es ++ [d])) h (by show m ∈ [l, m]; simp) rfl fun o ho => ?_)
  rw [h1] at ho
  cases ho
  refine ⟨t, rfl, st _ _ (e2 _ _ h2) id, f1, by rw [List.all_append, g1, List.all_cons, f] <;> rfl, us, _, ?_, dpa_flat st f1 (dpa_mono e2 _ h4), upd_same, dpa_append (dpa_flat st g1 (dpa_mono e2 _ h6)) (.cons (dp_flat st f dv) .nil)⟩
  rw [upd_ne nd]
  exact e2 _ _ h3
theorem q_appendTw0 {k : Nat} {l m : Addr} (h : env[k]? = some (tw l m ds es)) (hv : Ed te env d) (f : flat d = true) (hz : ds.length < 100000) (q : Sk K He (env.set k (tw l m (ds ++ [d]) es)) (tz D)) : Sk K He env (tSeq (tDrop (tBM K "list" rAppend (tOp (rIxT K) (tVar k) (tC (.int 0))) (tCons te tNil))) tz D) := sk_appendTw0 (D := { D with nx := tz D }) h hv f hz q
theorem q_appendTw1 {k : Nat} {l m : Addr} (h : env[k]? = some (tw l m ds es)) (hv : Ed te env d) (f : flat d = true) (hz : es.length < 100000) (q : Sk K He (env.set k (tw l m ds (es ++ [d]))) (tz D)) : Sk K He env (tSeq (tDrop (tBM K "list" rAppend (tOp (rIxT K) (tVar k) (tC (.int 1))) (tCons te tNil))) tz D) := sk_appendTw1 (D := { D with nx := tz D }) h hv f hz q
/-- for over a tuple that stands -/
theorem sk_forTP {k m : Nat} (hk : env[k]? = some (par (.tuple ds))) (I : Nat → List (Sl K)) (P : Nat → Prop) (h0 : env = I 0) (p0 : P 0)
    (hs : ∀ (He' : Hp), Same He He' → ∀ i d, ds[i]? = some d → P i → Sk K He' ((I i).set m (par d)) (t { D with nx := Nx K He' (fun e => e = I (i + 1) ∧ P (i + 1)), ct := Nx K He' (fun e => e = I (i + 1) ∧ P (i + 1)), bk := D.nx }))
    (hdn : P ds.length → Sk K He (I ds.length) D.nx) : Sk K He env (tFor (iTup K (tVar k)) (gName m) t D) := fun H0 σ H w en => by
  obtain ⟨o, h1, v, rfl, hv⟩ := en.get hk
  obtain ⟨a, xs, rfl, g1, g2⟩ := dp_tup hv
  have hlen := dpa_len g2
  subst h0
  refine ⟨_, h1, a, rfl, ⟨xs, sqT_same en.sm g1⟩, for_tup (K := K) (a := a) (xs := xs) (fun i => Nx K H0 (fun e => e = I i ∧ P i)) ⟨_, _, Same.refl _, ⟨rfl, p0⟩, en⟩ (fun i σ' H' _ q => ?_) (fun i x σ' H' hi q => ?_) (fun σ' H' q => ?_)⟩
  · obtain ⟨H0', env', s0, ⟨rfl, pi⟩, e3⟩ := q
    exact sqT_same (s0.trans e3.sm) g1
  · obtain ⟨H0', env', s0, ⟨rfl, pi⟩, e3⟩ := q
    obtain ⟨d, k1, k2⟩ := dpa_get' g2 hi
    exact hs H0 w i d k1 pi H0' _ H' s0 (e3.set (s := par d) rfl ⟨x, rfl, dp_mono s0 d k2⟩ m)
  · obtain ⟨H0', env', s0, ⟨rfl, pi⟩, e3⟩ := q
    rw [hlen] at e3 pi
    exact hdn pi H0' σ' H' (w.trans s0) e3
theorem q_forTP {k m : Nat} (hk : env[k]? = some (par (.tuple ds))) (I : Nat → List (Sl K)) (P : Nat → Prop) (h0 : env = I 0) (p0 : P 0)
    (hs : ∀ (He' : Hp), Same He He' → ∀ i d, ds[i]? = some d → P i → Sk K He' ((I i).set m (par d)) (t { D with nx := Nx K He' (fun e => e = I (i + 1) ∧ P (i + 1)), ct := Nx K He' (fun e => e = I (i + 1) ∧ P (i + 1)), bk := tz D }))
    (hdn : P ds.length → Sk K He (I ds.length) (tz D)) : Sk K He env (tSeq (tFor (iTup K (tVar k)) (gName m) t) tz D) := sk_forTP (D := { D with nx := tz D }) hk I P h0 p0 hs hdn
end
section
variable {P : Program} {w : World} {K : PySem.W.Frag} {mg : Str → Option Value} {base : Heap} {x qual : Str} {st : Stmt} {f : Addr} {fd : FuncData} {N ps : List Str} {k : Nat}
theorem okA {R : List PyData → Two ⊕ Nat → Prop} (F : Fun K x qual st f fd) (S : FnScope N ps (defScope st)) (hl : ∀ ds d, R ds d → ds.length = ps.length)
    (hb : ∀ (cdv : Value) (A : Around) (outer : List Env) (s : Shared) (H : Hp) (E : XK) (ds : List PyData) (d : Two ⊕ Nat), Room k (A.deeper (envOfC qual (defScope st) s.heap.objs.size f cdv)) → R ds d →
      ∃ t, PSs (cxOf CX0 P w K mg base N qual (defScope st) f cdv A outer s H E).nox (defBody st) t ∧
        ∀ Q : VK, ToldA K H d Q → Sk K H (ds.map par ++ List.replicate (N.length - ds.length) un) (t { nx := fun _ H' => Q .non H', rt := Q })) : FnOk P w K mg base CX0 (k + 1) f fd ps (spA K R) := by
  refine F.ok S (fun vs H Q E h => ?_) (fun cdv A outer s H vs Q E hr h => ?_)
  · obtain ⟨ds, d, hR, hds, _⟩ := h
    rw [dpa_len hds, hl ds d hR]
  · obtain ⟨ds, d, hR, hds, q⟩ := h
    obtain ⟨t, h1, h2⟩ := hb cdv A outer s H E ds d hr hR
    exact ⟨t, h1, h2 Q q H _ H (Same.refl H) (en_start hds)⟩
end
end Rs
namespace Rw
open PySem PySem.Spec L2 Rs RsS Rm RsX
def partRes (c : List Pt) : Two ⊕ Nat := if 10 < (stepsP c).length then .inr 4 else .inl (Rm.parted c)
def R_partedE : List PyData → Two ⊕ Nat → Prop := fun ds y => ∃ c : List Pt, c.length ≤ 20 ∧ Sms 2000 c ∧ IsShape c ∧ ds = [psD c] ∧ y = partRes c
theorem edak_asked {K : PySem.W.Frag} {env : List (Sl K)} {ta : TE} {c : List Pt} (ha : Ed ta env (psD c)) (hl : c.length ≤ 20) (hs : Sms 2000 c) (hc : IsShape c) : EdAk (tCall (spA K R_partedE) [] E0 (tCons ta tNil)) env (partRes c) := edak_call (eda_cons ha eda_nil) ⟨c, hl, hs, hc, rfl, rfl⟩
abbrev twoT (d e : List Pt) : PyData := .tuple [psD d, psD e]
def R_shownP : List PyData → PyData → Prop := fun ds x => ∃ d e c : List Pt, IsShape d ∧ IsShape e ∧ 2 ≤ d.length ∧ 2 ≤ e.length ∧ d.length + e.length ≤ 10 ∧ Sms 1000000 d ∧ Sms 1000000 e ∧ Rm.together d e = c ∧ ds = [twoT d e, psD c] ∧ x = .bool true
theorem ed_shownP {K : PySem.W.Frag} {env : List (Sl K)} {ta tb : TE} {d e c : List Pt} (ha : Ed ta env (twoT d e)) (hb : Ed tb env (psD c)) (h1 : IsShape d) (h2 : IsShape e) (h3 : 2 ≤ d.length) (h4 : 2 ≤ e.length) (h5 : d.length + e.length ≤ 10) (h6 : Sms 1000000 d) (h7 : Sms 1000000 e) (h8 : Rm.together d e = c) : Ed (tCall (spD K R_shownP) [] E0 (tCons ta (tCons tb tNil))) env (.bool true) := ed_call (eda_cons ha (eda_cons hb eda_nil)) ⟨d, e, c, h1, h2, h3, h4, h5, h6, h7, h8, rfl, rfl⟩
end Rw


namespace Rw
open PySem PySem.Spec L2 Rs RsS Rm
def R_law : List PyData → PyData → Prop := fun ds d => ∃ ns : List Int, ns.length ≤ 63 ∧ ds = [nsD ns] ∧ d = .bool true
def R__law_area : List PyData → PyData → Prop := fun ds d => ∃ c : List Pt, c.length ≤ 1000 ∧ Sms 1152921504606846976 c ∧ ds = [psD c] ∧ d = .int (area c)
def R_between : List PyData → PyData → Prop := fun ds d => ∃ a b : Pt, ds = [pT a, pT b] ∧ d = pT (btw a b)
def R__law_cell_at : List PyData → PyData → Prop := fun ds d => ∃ (ns : List Int) (k : Nat), ns.length ≤ 63 ∧ ds = [nsD ns, .int (k : Int)] ∧ d = .int (cellAt ns k)
def R__law_chain : List PyData → List PyData → Prop := fun ds out => ∃ ps : List Pt, ps.length ≤ 1000 ∧ Sms 1152921504606846976 ps ∧ ds = [psD ps] ∧ out = (chain ps).map pT
def R_common : List PyData → PyData → Prop := fun ds d => ∃ x y : Int, ds = [.int x, .int y] ∧ d = .int (gcdP (x, y))
def R_cross : List PyData → PyData → Prop := fun ds d => ∃ a b : Pt, Sm 2305843009213693952 a ∧ ds = [pT a, pT b] ∧ d = .int (cross a b)
def R_half : List PyData → PyData → Prop := fun ds d => ∃ a : Pt, ds = [pT a] ∧ d = .int (halfI a)
def R__law_hull : List PyData → List PyData → Prop := fun ds out => ∃ ps : List Pt, ps.length ≤ 64 ∧ ps ≠ [] ∧ Sms 1152921504606846976 ps ∧ ds = [psD ps] ∧ out = (hull ps).map pT
def R__law_pairs : List PyData → List PyData → Prop := fun ds out => ∃ c d : List Pt, c.length * d.length ≤ 10000 ∧ c.length ≤ 1000 ∧ d.length ≤ 1000 ∧ ds = [psD c, psD d] ∧ out = (pairs c d).map pT
def R__law_points : List PyData → List PyData → Prop := fun ds out => ∃ (ns : List Int) (a : Nat) (m : Int), ns.length ≤ 63 ∧ 0 < m ∧ m ≤ 1000 ∧ ds = [nsD ns, .int (a : Int), .int m] ∧ out = (lawPoints ns a m).map pT
def R__law_points_like : List PyData → PyData → Prop := fun ds d => ∃ ps qs : List Pt, ps.length ≤ 10000 ∧ ds = [psD ps, psD qs] ∧ d = .bool (decide (ps = qs))
def R__law_shape : List PyData → List PyData → Prop := fun ds out => ∃ (ns : List Int) (a : Nat) (m : Int), ns.length ≤ 63 ∧ 0 < m ∧ m ≤ 30 ∧ ds = [nsD ns, .int (a : Int), .int m] ∧ out = (lawShape ns a m).map pT
def R__law_spoilt : List PyData → List PyData → Prop := fun ds out => ∃ (c : List Pt) (way cell : Int), c.length ≤ 1000 ∧ Sms 1152921504606846976 c ∧ 0 ≤ way ∧ way < 8 ∧ 0 ≤ cell ∧ ds = [psD c, .int way, .int cell] ∧ out = (spoilt c way cell).map pT
def R__law_stir : List PyData → PyData → Prop := fun ds d => ∃ z : Int, ds = [.int z] ∧ d = .int (stir z)
def R__law_together : List PyData → List PyData → Prop := fun ds out => ∃ (c d : List Pt) (n m : Int), c.length * d.length ≤ 64 ∧ Sms n c ∧ Sms m d ∧ n + m ≤ 1152921504606846976 ∧ IsShape c ∧ IsShape d ∧ ds = [psD c, psD d] ∧ out = (Rm.together c d).map pT
def R__law_whole : List PyData → PyData → Prop := fun ds d => ∃ i : Int, ds = [.int i] ∧ d = .bool true
def R_comes_ahead : List PyData → PyData → Prop := fun ds d => ∃ a b : Pt, Sm 2305843009213693952 a ∧ ds = [pT a, pT b] ∧ d = .bool (ahead a b)
def R_double_area : List PyData → PyData → Prop := fun ds d => ∃ c : List Pt, c.length ≤ 1000 ∧ Sms 1152921504606846976 c ∧ IsShape c ∧ ds = [psD c] ∧ d = .int (area c)
def R_greater : List PyData → List PyData → Prop := fun ds out => ∃ (c : List Pt) (t : Int), c.length ≤ 1000 ∧ Sms 1152921504606846976 c ∧ IsShape c ∧ 0 ≤ t ∧ t ≤ 1000000 ∧ ds = [psD c, .int t] ∧ out = (greaterP c t).map pT
def R_holds : List PyData → PyData → Prop := fun ds d => ∃ (c : List Pt) (p : Pt) (b : Bool), c.length ≤ 1000 ∧ Sms 1152921504606846976 c ∧ Sm 1152921504606846976 p ∧ IsShape c ∧ (b = true ↔ holdsP c p) ∧ ds = [psD c, pT p] ∧ d = .bool b
def R_hull : List PyData → List PyData → Prop := fun ds out => ∃ ps : List Pt, ps.length ≤ 40 ∧ ps ≠ [] ∧ Sms 1152921504606846976 ps ∧ ds = [psD ps] ∧ out = (hull ps).map pT
def R_is_shape : List PyData → PyData → Prop := fun ds d => ∃ (c : List Pt) (b : Bool), c.length ≤ 1000 ∧ Sms 1152921504606846976 c ∧ (b = true ↔ IsShape c) ∧ ds = [psD c] ∧ d = .bool b
def R_key : List PyData → Pt → Prop := fun ds d => ∃ a : Pt, ds = [pT a] ∧ d = (a.2, a.1)
def R_lengths : List PyData → List (Pt × PyData) → Prop := fun ds kvs => ∃ c : List Pt, c.length ≤ 1000 ∧ Sms 400000 c ∧ IsShape c ∧ ds = [psD c] ∧ kvs = lenK (sidesBy c)
def R_merged : List PyData → List PyData → Prop := fun ds out => ∃ (l r : List Pt), l.length + r.length ≤ 2000 ∧ Sms 1125899906842624 l ∧ Sms 1125899906842624 r ∧ ds = [psD l, psD r] ∧ out = (merged l r).map pT
def R_mixed : List PyData → PyData → Prop := fun ds d => ∃ (c e : List Pt) (n m : Int), c.length + e.length ≤ 900 ∧ Sms n c ∧ Sms m e ∧ 0 ≤ n ∧ 0 ≤ m ∧ n + m ≤ 70000000000 ∧ IsShape c ∧ IsShape e ∧ ds = [psD c, psD e] ∧ d = .int (mixedP c e)
def R_must_be_shape : List PyData → PyData → Prop := fun ds d => ∃ c : List Pt, c.length ≤ 1000 ∧ Sms 1152921504606846976 c ∧ IsShape c ∧ ds = [psD c] ∧ d = .none
def R_number_of : List PyData → PyData → Prop := fun ds d => ∃ (w : Str) (i : Int), numOf (TL.tl w) = some i ∧ ds = [.str w] ∧ d = .int i
def R_reach : List PyData → PyData → Prop := fun ds d => ∃ (c : List Pt) (a : Pt), c.length ≤ 1000 ∧ Sms 1152921504606846976 c ∧ Sm 1152921504606846976 a ∧ IsShape c ∧ ds = [psD c, pT a] ∧ d = .int (reachP c a)
def R_read : List PyData → List PyData → Prop := fun ds out => ∃ (t : Str) (ps : List Pt), t.length ≤ 900 ∧ (Txt.split t " ").map ptOf = ps.map some ∧ IsShape ps ∧ ds = [.str t] ∧ out = ps.map pT
def R_shape_by : List PyData → List PyData → Prop := fun ds out => ∃ (s : Pt) (as : List Pt), as.length ≤ 2000 ∧ ds = [pT s, psD as] ∧ out = (shapeBy s as).map pT
def R_shown : List PyData → PyData → Prop := fun ds d => ∃ c : List Pt, c.length ≤ 1000 ∧ Sms 1000000 c ∧ IsShape c ∧ ds = [psD c] ∧ d = .str (shownS c)
def R_sides : List PyData → List PyData → Prop := fun ds out => ∃ c : List Pt, c.length ≤ 1000 ∧ Sms 1152921504606846976 c ∧ IsShape c ∧ ds = [psD c] ∧ out = (sidesBy c).map pT
def R_sides_by : List PyData → List PyData → Prop := fun ds out => ∃ c : List Pt, c.length ≤ 1000 ∧ ds = [psD c] ∧ out = (sidesBy c).map pT
def R_step_of : List PyData → Pt × Int → Prop := fun ds pm => ∃ a : Pt, a ≠ pt0 ∧ Sm 1000000 a ∧ ds = [pT a] ∧ pm = (unitP a, gcdP a)
def R_steps_of : List PyData → List PyData → Prop := fun ds out => ∃ c : List Pt, c.length ≤ 20 ∧ Sms 2000 c ∧ IsShape c ∧ ds = [psD c] ∧ out = (stepsP c).map pT
def R_taken_off : List PyData → PyData → Prop := fun ds d => ∃ c e : List Pt, c.length ≤ 500 ∧ e.length ≤ 500 ∧ Sms 400000 c ∧ Sms 400000 e ∧ IsShape c ∧ IsShape e ∧ ds = [psD c, psD e] ∧ d = takenD c e
def R_together : List PyData → List PyData → Prop := fun ds out => ∃ (c d : List Pt), c.length + d.length ≤ 1000 ∧ Sms 281474976710656 c ∧ Sms 281474976710656 d ∧ IsShape c ∧ IsShape d ∧ ds = [psD c, psD d] ∧ out = (together c d).map pT
theorem ed_lawArea {K : PySem.W.Frag} {env : List (Sl K)} {ta : TE} {c : List Pt} (ha : Ed ta env (psD c)) (hl : c.length ≤ 1000) (hs : Sms 1152921504606846976 c) : Ed (tCall (spD K R__law_area) [] E0 (tCons ta tNil)) env (.int (area c)) := ed_call (eda_cons ha eda_nil) ⟨c, hl, hs, rfl, rfl⟩
theorem ed_btw {K : PySem.W.Frag} {env : List (Sl K)} {ta tb : TE} {a b : Pt} (ha : Ed ta env (pT a)) (hb : Ed tb env (pT b)) : Ed (tCall (spD K R_between) [] E0 (tCons ta (tCons tb tNil))) env (pT (btw a b)) := ed_call (eda_cons ha (eda_cons hb eda_nil)) ⟨a, b, rfl, rfl⟩
theorem ed_cellAt {K : PySem.W.Frag} {env : List (Sl K)} {ta tb : TE} {ns : List Int} {k : Nat} (ha : Ed ta env (nsD ns)) (hb : Ed tb env (.int (k : Int))) (hl : ns.length ≤ 63) : Ed (tCall (spD K R__law_cell_at) [] E0 (tCons ta (tCons tb tNil))) env (.int (cellAt ns k)) := ed_call (eda_cons ha (eda_cons hb eda_nil)) ⟨ns, k, hl, rfl, rfl⟩
theorem edl_chain {K : PySem.W.Frag} {env : List (Sl K)} {ta : TE} {ps : List Pt} (ha : Ed ta env (psD ps)) (hl : ps.length ≤ 1000) (hs : Sms 1152921504606846976 ps) : EdL (tCall (spL K R__law_chain) [] E0 (tCons ta tNil)) env ((chain ps).map pT) := edl_call (eda_cons ha eda_nil) ⟨ps, hl, hs, rfl, rfl⟩
theorem ed_common {K : PySem.W.Frag} {env : List (Sl K)} {ta tb : TE} {x y : Int} (ha : Ed ta env (.int x)) (hb : Ed tb env (.int y)) : Ed (tCall (spD K R_common) [] E0 (tCons ta (tCons tb tNil))) env (.int (gcdP (x, y))) := ed_call (eda_cons ha (eda_cons hb eda_nil)) ⟨x, y, rfl, rfl⟩
theorem ed_cross {K : PySem.W.Frag} {env : List (Sl K)} {ta tb : TE} {a b : Pt} (ha : Ed ta env (pT a)) (hb : Ed tb env (pT b)) (hs : Sm 2305843009213693952 a) : Ed (tCall (spD K R_cross) [] E0 (tCons ta (tCons tb tNil))) env (.int (cross a b)) := ed_call (eda_cons ha (eda_cons hb eda_nil)) ⟨a, b, hs, rfl, rfl⟩
theorem ed_good {K : PySem.W.Frag} {env : List (Sl K)} {ta : TE} {c : List Pt} {b : Bool} (ha : Ed ta env (psD c)) (hl : c.length ≤ 1000) (hs : Sms 1152921504606846976 c) (hb : b = true ↔ IsShape c) : Ed (tCall (spD K R_is_shape) [] E0 (tCons ta tNil)) env (.bool b) := ed_call (eda_cons ha eda_nil) ⟨c, b, hl, hs, hb, rfl, rfl⟩
theorem ed_half {K : PySem.W.Frag} {env : List (Sl K)} {ta : TE} {a : Pt} (ha : Ed ta env (pT a)) : Ed (tCall (spD K R_half) [] E0 (tCons ta tNil)) env (.int (halfI a)) := ed_call (eda_cons ha eda_nil) ⟨a, rfl, rfl⟩
theorem edl_hull {K : PySem.W.Frag} {env : List (Sl K)} {ta : TE} {ps : List Pt} (ha : Ed ta env (psD ps)) (hl : ps.length ≤ 64) (hn : ps ≠ []) (hs : Sms 1152921504606846976 ps) : EdL (tCall (spL K R__law_hull) [] E0 (tCons ta tNil)) env ((hull ps).map pT) := edl_call (eda_cons ha eda_nil) ⟨ps, hl, hn, hs, rfl, rfl⟩
theorem ed_lawIn {K : PySem.W.Frag} {env : List (Sl K)} {ta tb : TE} {c : List Pt} {p : Pt} {b : Bool} (ha : Ed ta env (psD c)) (hp : Ed tb env (pT p)) (hl : c.length ≤ 1000) (hs : Sms 1152921504606846976 c) (hsp : Sm 1152921504606846976 p) (hc : IsShape c) (hb : b = true ↔ holdsP c p) : Ed (tCall (spD K R_holds) [] E0 (tCons ta (tCons tb tNil))) env (.bool b) := ed_call (eda_cons ha (eda_cons hp eda_nil)) ⟨c, p, b, hl, hs, hsp, hc, hb, rfl, rfl⟩
theorem edl_pairs {K : PySem.W.Frag} {env : List (Sl K)} {ta tb : TE} {c d : List Pt} (ha : Ed ta env (psD c)) (hb : Ed tb env (psD d)) (h0 : c.length * d.length ≤ 10000) (h1 : c.length ≤ 1000) (h2 : d.length ≤ 1000) : EdL (tCall (spL K R__law_pairs) [] E0 (tCons ta (tCons tb tNil))) env ((pairs c d).map pT) := edl_call (eda_cons ha (eda_cons hb eda_nil)) ⟨c, d, h0, h1, h2, rfl, rfl⟩
theorem edl_points {K : PySem.W.Frag} {env : List (Sl K)} {ta tb tc : TE} {ns : List Int} {a : Nat} {m : Int} (ha : Ed ta env (nsD ns)) (hb : Ed tb env (.int (a : Int))) (hc : Ed tc env (.int m)) (hl : ns.length ≤ 63) (h0 : 0 < m) (h1 : m ≤ 1000) : EdL (tCall (spL K R__law_points) [] E0 (tCons ta (tCons tb (tCons tc tNil)))) env ((lawPoints ns a m).map pT) := edl_call (eda_cons ha (eda_cons hb (eda_cons hc eda_nil))) ⟨ns, a, m, hl, h0, h1, rfl, rfl⟩
theorem ed_like {K : PySem.W.Frag} {env : List (Sl K)} {ta tb : TE} {ps qs : List Pt} (ha : Ed ta env (psD ps)) (hb : Ed tb env (psD qs)) (hl : ps.length ≤ 10000) : Ed (tCall (spD K R__law_points_like) [] E0 (tCons ta (tCons tb tNil))) env (.bool (decide (ps = qs))) := ed_call (eda_cons ha (eda_cons hb eda_nil)) ⟨ps, qs, hl, rfl, rfl⟩
theorem edl_shape {K : PySem.W.Frag} {env : List (Sl K)} {ta tb tc : TE} {ns : List Int} {a : Nat} {m : Int} (ha : Ed ta env (nsD ns)) (hb : Ed tb env (.int (a : Int))) (hc : Ed tc env (.int m)) (hl : ns.length ≤ 63) (h0 : 0 < m) (h1 : m ≤ 30) : EdL (tCall (spL K R__law_shape) [] E0 (tCons ta (tCons tb (tCons tc tNil)))) env ((lawShape ns a m).map pT) := edl_call (eda_cons ha (eda_cons hb (eda_cons hc eda_nil))) ⟨ns, a, m, hl, h0, h1, rfl, rfl⟩
theorem edl_spoilt {K : PySem.W.Frag} {env : List (Sl K)} {ta tb tc : TE} {c : List Pt} {way cell : Int} (ha : Ed ta env (psD c)) (hb : Ed tb env (.int way)) (hc : Ed tc env (.int cell)) (hl : c.length ≤ 1000) (hs : Sms 1152921504606846976 c) (h0 : 0 ≤ way) (h1 : way < 8) (h2 : 0 ≤ cell) : EdL (tCall (spL K R__law_spoilt) [] E0 (tCons ta (tCons tb (tCons tc tNil)))) env ((spoilt c way cell).map pT) := edl_call (eda_cons ha (eda_cons hb (eda_cons hc eda_nil))) ⟨c, way, cell, hl, hs, h0, h1, h2, rfl, rfl⟩
theorem edl_lawSteps {K : PySem.W.Frag} {env : List (Sl K)} {ta : TE} {c : List Pt} (ha : Ed ta env (psD c)) (hl : c.length ≤ 20) (hs : Sms 2000 c) (hc : IsShape c) : EdL (tCall (spL K R_steps_of) [] E0 (tCons ta tNil)) env ((stepsP c).map pT) := edl_call (eda_cons ha eda_nil) ⟨c, hl, hs, hc, rfl, rfl⟩
theorem ed_stir {K : PySem.W.Frag} {env : List (Sl K)} {ta : TE} {z : Int} (ha : Ed ta env (.int z)) : Ed (tCall (spD K R__law_stir) [] E0 (tCons ta tNil)) env (.int (stir z)) := ed_call (eda_cons ha eda_nil) ⟨z, rfl, rfl⟩
theorem edl_lawTogether {K : PySem.W.Frag} {env : List (Sl K)} {ta tb : TE} {c d : List Pt} {n m : Int} (ha : Ed ta env (psD c)) (hb : Ed tb env (psD d)) (h0 : c.length * d.length ≤ 64) (h1 : Sms n c) (h2 : Sms m d) (h3 : n + m ≤ 1152921504606846976) (hc : IsShape c) (hd : IsShape d) : EdL (tCall (spL K R__law_together) [] E0 (tCons ta (tCons tb tNil))) env ((Rm.together c d).map pT) := edl_call (eda_cons ha (eda_cons hb eda_nil)) ⟨c, d, n, m, h0, h1, h2, h3, hc, hd, rfl, rfl⟩
theorem ed_whole {K : PySem.W.Frag} {env : List (Sl K)} {ta : TE} {i : Int} (ha : Ed ta env (.int i)) : Ed (tCall (spD K R__law_whole) [] E0 (tCons ta tNil)) env (.bool true) := ed_call (eda_cons ha eda_nil) ⟨i, rfl, rfl⟩
theorem ed_ahead {K : PySem.W.Frag} {env : List (Sl K)} {ta tb : TE} {a b : Pt} (ha : Ed ta env (pT a)) (hb : Ed tb env (pT b)) (hs : Sm 2305843009213693952 a) : Ed (tCall (spD K R_comes_ahead) [] E0 (tCons ta (tCons tb tNil))) env (.bool (ahead a b)) := ed_call (eda_cons ha (eda_cons hb eda_nil)) ⟨a, b, hs, rfl, rfl⟩
theorem ed_dblArea {K : PySem.W.Frag} {env : List (Sl K)} {ta : TE} {c : List Pt} (ha : Ed ta env (psD c)) (hl : c.length ≤ 1000) (hs : Sms 1152921504606846976 c) (hc : IsShape c) : Ed (tCall (spD K R_double_area) [] E0 (tCons ta tNil)) env (.int (area c)) := ed_call (eda_cons ha eda_nil) ⟨c, hl, hs, hc, rfl, rfl⟩
theorem edl_greater {K : PySem.W.Frag} {env : List (Sl K)} {ta tb : TE} {c : List Pt} {t : Int} (ha : Ed ta env (psD c)) (hb : Ed tb env (.int t)) (hl : c.length ≤ 1000) (hs : Sms 1152921504606846976 c) (hc : IsShape c) (h0 : 0 ≤ t) (h1 : t ≤ 1000000) : EdL (tCall (spL K R_greater) [] E0 (tCons ta (tCons tb tNil))) env ((greaterP c t).map pT) := edl_call (eda_cons ha (eda_cons hb eda_nil)) ⟨c, t, hl, hs, hc, h0, h1, rfl, rfl⟩
theorem ed_holds {K : PySem.W.Frag} {env : List (Sl K)} {ta tb : TE} {c : List Pt} {p : Pt} {b : Bool} (ha : Ed ta env (psD c)) (hp : Ed tb env (pT p)) (hl : c.length ≤ 1000) (hs : Sms 1152921504606846976 c) (hsp : Sm 1152921504606846976 p) (hc : IsShape c) (hb : b = true ↔ holdsP c p) : Ed (tCall (spD K R_holds) [] E0 (tCons ta (tCons tb tNil))) env (.bool b) := ed_call (eda_cons ha (eda_cons hp eda_nil)) ⟨c, p, b, hl, hs, hsp, hc, hb, rfl, rfl⟩
theorem edl_hullP {K : PySem.W.Frag} {env : List (Sl K)} {ta : TE} {ps : List Pt} (ha : Ed ta env (psD ps)) (hl : ps.length ≤ 40) (hn : ps ≠ []) (hs : Sms 1152921504606846976 ps) : EdL (tCall (spL K R_hull) [] E0 (tCons ta tNil)) env ((hull ps).map pT) := edl_call (eda_cons ha eda_nil) ⟨ps, hl, hn, hs, rfl, rfl⟩
theorem ed_isShape {K : PySem.W.Frag} {env : List (Sl K)} {ta : TE} {c : List Pt} {b : Bool} (ha : Ed ta env (psD c)) (hl : c.length ≤ 1000) (hs : Sms 1152921504606846976 c) (hb : b = true ↔ IsShape c) : Ed (tCall (spD K R_is_shape) [] E0 (tCons ta tNil)) env (.bool b) := ed_call (eda_cons ha eda_nil) ⟨c, b, hl, hs, hb, rfl, rfl⟩
theorem edh_key {K : PySem.W.Frag} {env : List (Sl K)} {ta : TE} {a : Pt} (ha : Ed ta env (pT a)) : EdH (tCall (spT K R_key) [] E0 (tCons ta tNil)) env (a.2, a.1) := edh_call (eda_cons ha eda_nil) ⟨a, rfl, rfl⟩
theorem ed_key {K : PySem.W.Frag} {env : List (Sl K)} {ta : TE} {a : Pt} (ha : Ed ta env (pT a)) : Ed (tCall (spT K R_key) [] E0 (tCons ta tNil)) env (pT (a.2, a.1)) := ed_H (edh_key ha)
theorem edd_lengths {K : PySem.W.Frag} {env : List (Sl K)} {ta : TE} {c : List Pt} (ha : Ed ta env (psD c)) (hl : c.length ≤ 1000) (hs : Sms 400000 c) (hc : IsShape c) : EdD (tCall (spK K R_lengths) [] E0 (tCons ta tNil)) env (lenK (sidesBy c)) := edd_call (eda_cons ha eda_nil) ⟨c, hl, hs, hc, rfl, rfl⟩
theorem edl_merged {K : PySem.W.Frag} {env : List (Sl K)} {ta tb : TE} {l r : List Pt} (ha : Ed ta env (psD l)) (hb : Ed tb env (psD r)) (hl : l.length + r.length ≤ 2000) (h1 : Sms 1125899906842624 l) (h2 : Sms 1125899906842624 r) : EdL (tCall (spL K R_merged) [] E0 (tCons ta (tCons tb tNil))) env ((merged l r).map pT) := edl_call (eda_cons ha (eda_cons hb eda_nil)) ⟨l, r, hl, h1, h2, rfl, rfl⟩
theorem ed_mixed {K : PySem.W.Frag} {env : List (Sl K)} {ta tb : TE} {c e : List Pt} {n m : Int} (ha : Ed ta env (psD c)) (hb : Ed tb env (psD e)) (hl : c.length + e.length ≤ 900) (h1 : Sms n c) (h2 : Sms m e) (h3 : 0 ≤ n) (h4 : 0 ≤ m) (h5 : n + m ≤ 70000000000) (hc : IsShape c) (he : IsShape e) : Ed (tCall (spD K R_mixed) [] E0 (tCons ta (tCons tb tNil))) env (.int (mixedP c e)) := ed_call (eda_cons ha (eda_cons hb eda_nil)) ⟨c, e, n, m, hl, h1, h2, h3, h4, h5, hc, he, rfl, rfl⟩
theorem ed_must {K : PySem.W.Frag} {env : List (Sl K)} {ta : TE} {c : List Pt} (ha : Ed ta env (psD c)) (hl : c.length ≤ 1000) (hs : Sms 1152921504606846976 c) (hb : IsShape c) : Ed (tCall (spD K R_must_be_shape) [] E0 (tCons ta tNil)) env .none := ed_call (eda_cons ha eda_nil) ⟨c, hl, hs, hb, rfl, rfl⟩
theorem ed_number {K : PySem.W.Frag} {env : List (Sl K)} {ta : TE} {w : Str} {i : Int} (ha : Ed ta env (.str w)) (h : numOf (TL.tl w) = some i) : Ed (tCall (spD K R_number_of) [] E0 (tCons ta tNil)) env (.int i) := ed_call (eda_cons ha eda_nil) ⟨w, i, h, rfl, rfl⟩
theorem ed_reach {K : PySem.W.Frag} {env : List (Sl K)} {ta tb : TE} {c : List Pt} {a : Pt} (ha : Ed ta env (psD c)) (hp : Ed tb env (pT a)) (hl : c.length ≤ 1000) (hs : Sms 1152921504606846976 c) (hsa : Sm 1152921504606846976 a) (hc : IsShape c) : Ed (tCall (spD K R_reach) [] E0 (tCons ta (tCons tb tNil))) env (.int (reachP c a)) := ed_call (eda_cons ha (eda_cons hp eda_nil)) ⟨c, a, hl, hs, hsa, hc, rfl, rfl⟩
theorem edl_read {K : PySem.W.Frag} {env : List (Sl K)} {ta : TE} {t : Str} {ps : List Pt} (ha : Ed ta env (.str t)) (hl : t.length ≤ 900) (h : (Txt.split t " ").map ptOf = ps.map some) (hc : IsShape ps) : EdL (tCall (spL K R_read) [] E0 (tCons ta tNil)) env (ps.map pT) := edl_call (eda_cons ha eda_nil) ⟨t, ps, hl, h, hc, rfl, rfl⟩
theorem edl_shapeBy {K : PySem.W.Frag} {env : List (Sl K)} {ta tb : TE} {s : Pt} {as : List Pt} (ha : Ed ta env (pT s)) (hb : Ed tb env (psD as)) (hl : as.length ≤ 2000) : EdL (tCall (spL K R_shape_by) [] E0 (tCons ta (tCons tb tNil))) env ((shapeBy s as).map pT) := edl_call (eda_cons ha (eda_cons hb eda_nil)) ⟨s, as, hl, rfl, rfl⟩
theorem ed_shown {K : PySem.W.Frag} {env : List (Sl K)} {ta : TE} {c : List Pt} (ha : Ed ta env (psD c)) (hl : c.length ≤ 1000) (hs : Sms 1000000 c) (hc : IsShape c) : Ed (tCall (spD K R_shown) [] E0 (tCons ta tNil)) env (.str (shownS c)) := ed_call (eda_cons ha eda_nil) ⟨c, hl, hs, hc, rfl, rfl⟩
theorem edl_sides {K : PySem.W.Frag} {env : List (Sl K)} {ta : TE} {c : List Pt} (ha : Ed ta env (psD c)) (hl : c.length ≤ 1000) (hs : Sms 1152921504606846976 c) (hc : IsShape c) : EdL (tCall (spL K R_sides) [] E0 (tCons ta tNil)) env ((sidesBy c).map pT) := edl_call (eda_cons ha eda_nil) ⟨c, hl, hs, hc, rfl, rfl⟩
theorem edl_sidesBy {K : PySem.W.Frag} {env : List (Sl K)} {ta : TE} {c : List Pt} (ha : Ed ta env (psD c)) (hl : c.length ≤ 1000) : EdL (tCall (spL K R_sides_by) [] E0 (tCons ta tNil)) env ((sidesBy c).map pT) := edl_call (eda_cons ha eda_nil) ⟨c, hl, rfl, rfl⟩
theorem edu_step {K : PySem.W.Frag} {env : List (Sl K)} {ta : TE} {a : Pt} (ha : Ed ta env (pT a)) (na : a ≠ pt0) (hs : Sm 1000000 a) : EdU (tCall (spU K R_step_of) [] E0 (tCons ta tNil)) env (unitP a) (gcdP a) := edu_call (eda_cons ha eda_nil) ⟨a, na, hs, rfl, rfl⟩
theorem edl_stepsOf {K : PySem.W.Frag} {env : List (Sl K)} {ta : TE} {c : List Pt} (ha : Ed ta env (psD c)) (hl : c.length ≤ 20) (hs : Sms 2000 c) (hc : IsShape c) : EdL (tCall (spL K R_steps_of) [] E0 (tCons ta tNil)) env ((stepsP c).map pT) := edl_call (eda_cons ha eda_nil) ⟨c, hl, hs, hc, rfl, rfl⟩
theorem ed_taken {K : PySem.W.Frag} {env : List (Sl K)} {ta tb : TE} {c e : List Pt} (ha : Ed ta env (psD c)) (hb : Ed tb env (psD e)) (h1 : c.length ≤ 500) (h2 : e.length ≤ 500) (h3 : Sms 400000 c) (h4 : Sms 400000 e) (hc : IsShape c) (he : IsShape e) : Ed (tCall (spD K R_taken_off) [] E0 (tCons ta (tCons tb tNil))) env (takenD c e) := ed_call (eda_cons ha (eda_cons hb eda_nil)) ⟨c, e, h1, h2, h3, h4, hc, he, rfl, rfl⟩
theorem edl_together {K : PySem.W.Frag} {env : List (Sl K)} {ta tb : TE} {c d : List Pt} (ha : Ed ta env (psD c)) (hb : Ed tb env (psD d)) (hl : c.length + d.length ≤ 1000) (h1 : Sms 281474976710656 c) (h2 : Sms 281474976710656 d) (h3 : IsShape c) (h4 : IsShape d) : EdL (tCall (spL K R_together) [] E0 (tCons ta (tCons tb tNil))) env ((together c d).map pT) := edl_call (eda_cons ha (eda_cons hb eda_nil)) ⟨c, d, hl, h1, h2, h3, h4, rfl, rfl⟩
theorem dpa_ints {K : PySem.W.Frag} {H : Hp} : ∀ ns : List Int, DpAll K H (ns.map V.int) (ns.map PyData.int)
  | [] => .nil
  | n :: ns => .cons (.int n) (dpa_ints ns)
theorem law_start {K : PySem.W.Frag} {H : Hp} {a : Addr} {ns : List Int} (hl : ns.length ≤ 63) (hS : SqL K H a (ns.map V.int)) : spD K R_law [.ref a] H (fun v _ => v = .bl true) (fun _ _ _ => False) :=
  ⟨[nsD ns], .bool true, ⟨ns, hl, rfl, rfl⟩, .cons (.lst hS (dpa_ints ns)) .nil, fun v H' _ h => dp_bool h⟩
end Rw

namespace Wk15
open PySem PySem.Spec L2 Rs RsS Rm Rw RsX
local macro_rules | `(tactic| walk_at "cm") => `(tactic| first | exact Or.inl ⟨by omega, by omega⟩ | exact Or.inr ⟨by omega, by omega⟩)
local macro_rules | `(tactic| walk_at "ed") => `(tactic| first
  | with_reducible exact ed_int
  | with_reducible exact ed_str
  | with_reducible exact ed_bl
  | with_reducible exact ed_non
  | ((with_reducible apply ed_fl); exact rfl)
  | ((with_reducible apply ed_par); exact rfl)
  | ((with_reducible apply ed_own); exact rfl)
  | ((with_reducible apply ed_add); (walk_at "ed"); (walk_at "ed"))
  | ((with_reducible apply ed_sub); (walk_at "ed"); (walk_at "ed"))
  | ((with_reducible apply ed_mul); (walk_at "ed"); (walk_at "ed"); (try walk_at "cm"))
  | ((with_reducible apply ed_fdiv); (walk_at "ed"); (walk_at "ed"); (try exact ⟨by omega, by omega⟩))
  | ((with_reducible apply ed_mod); (walk_at "ed"); (walk_at "ed"); (try omega))
  | ((with_reducible apply ed_neg); (walk_at "ed"))
  | ((with_reducible apply ed_lt); (walk_at "ed"); (walk_at "ed"))
  | ((with_reducible apply ed_le); (walk_at "ed"); (walk_at "ed"))
  | ((with_reducible apply ed_gt); (walk_at "ed"); (walk_at "ed"))
  | ((with_reducible apply ed_ge); (walk_at "ed"); (walk_at "ed"))
  | ((with_reducible apply ed_eqI); (walk_at "ed"); (walk_at "ed"))
  | ((with_reducible apply ed_neI); (walk_at "ed"); (walk_at "ed"))
  | ((with_reducible apply ed_eqB); (walk_at "ed"); (walk_at "ed"))
  | ((with_reducible apply ed_neB); (walk_at "ed"); (walk_at "ed"))
  | ((with_reducible apply ed_eqS); (walk_at "ed"); (walk_at "ed"))
  | ((with_reducible apply ed_neS); (walk_at "ed"); (walk_at "ed"))
  | ((with_reducible apply ed_orV); (walk_at "ed"); (intro _; walk_at "ed"))
  | ((with_reducible apply ed_andV); (walk_at "ed"); (intro _; walk_at "ed"))
  | ((with_reducible apply ed_notV); (walk_at "ed"))
  | ((with_reducible apply ed_intB); (walk_at "ed"))
  | ((with_reducible apply ed_abs); (walk_at "ed"))
  | ((with_reducible apply ed_tup); (walk_at "ea"); (exact Nat.le_of_ble_eq_true rfl))
  | ((with_reducible apply ed_lenL); (walk_at "ed"))
  | ((with_reducible apply ed_ixT); (walk_at "ed"); (walk_at "ed"); (exact rfl)))
local macro_rules | `(tactic| walk_at "ea") => `(tactic| first
  | with_reducible exact eda_nil
  | ((with_reducible apply eda_cons); (walk_at "ed"); (walk_at "ea")))
local macro_rules | `(tactic| walk_at "ret") => `(tactic| ((with_reducible apply sk_retE); (assumption); (walk_at "ed"); (exact rfl)))
local macro_rules | `(tactic| walk_at "edi") => `(tactic| ((with_reducible apply ed_is); (walk_at "ed"); (exact rfl)))

def top (i : Nat) : Stmt := PySem.Challenge.pw_roundsum_k15_parted_in_two.main.body.getD i (.Pass ⟨0, 0, 0, 0⟩)
section
variable {P : Program} {w : World} {K : PySem.W.Frag} {mg : Str → Option Value} {base : Heap}
abbrev s__law_cross : Stmt := top 29
abbrev N__law_cross : List Str := ["one", "other"]
theorem sc__law_cross : FnScope N__law_cross ["one", "other"] (defScope s__law_cross) := ⟨rfl, rfl, rfl, by decide +kernel, rfl, by decide +kernel, by decide +kernel⟩
theorem ok__law_cross {f : Addr} {fd : FuncData} (F : Fun K "_law_cross" "_law_cross" s__law_cross f fd) : FnOk P w K mg base CX0 1 f fd ["one", "other"] (spD K R_cross) := by
  have nd := sc__law_cross.nd
  refine okD F sc__law_cross (fun _ _ ⟨_, _, _, e, _⟩ => by rw [e]; rfl) fun cdv A outer s H E ds d hr hR => ?_
  have hu65 := Rs.hu65 hr
  obtain ⟨a, b, ha, rfl, rfl⟩ := hR
  refine ⟨_, (pss_one (ps_ret (pe_op op_sub (pe_op op_mul (pe_ix (ixTK (K := K) rfl) (pv 0) pe_int (fun _ _ => rfl)) (pe_ix (ixTK (K := K) rfl) (pv 1) pe_int (fun _ _ => rfl))) (pe_op op_mul (pe_ix (ixTK (K := K) rfl) (pv 0) pe_int (fun _ _ => rfl)) (pe_ix (ixTK (K := K) rfl) (pv 1) pe_int (fun _ _ => rfl)))))), fun Q q => ?_⟩
  · try simp only [blk_K, cx_K, cx_P, cx_w, cx_K', cx_P', cx_w']
    show Sk K H ([par (pT a), par (pT b)]) _
    unfold Sm at ha
    walk_at "ret"
abbrev s__law_arrow : Stmt := top 30
abbrev N__law_arrow : List Str := ["one", "other"]
theorem sc__law_arrow : FnScope N__law_arrow ["one", "other"] (defScope s__law_arrow) := ⟨rfl, rfl, rfl, by decide +kernel, rfl, by decide +kernel, by decide +kernel⟩
theorem ok__law_arrow {f : Addr} {fd : FuncData} (F : Fun K "_law_arrow" "_law_arrow" s__law_arrow f fd) : FnOk P w K mg base CX0 1 f fd ["one", "other"] (spD K R_between) := by
  have nd := sc__law_arrow.nd
  refine okD F sc__law_arrow (fun _ _ ⟨_, _, e, _⟩ => by rw [e]; rfl) fun cdv A outer s H E ds d hr hR => ?_
  have hu65 := Rs.hu65 hr
  obtain ⟨a, b, rfl, rfl⟩ := hR
  refine ⟨_, (pss_one (ps_ret (pe_tup (pa_cons (pe_op op_sub (pe_ix (ixTK (K := K) rfl) (pv 1) pe_int (fun _ _ => rfl)) (pe_ix (ixTK (K := K) rfl) (pv 0) pe_int (fun _ _ => rfl))) (pa_cons (pe_op op_sub (pe_ix (ixTK (K := K) rfl) (pv 1) pe_int (fun _ _ => rfl)) (pe_ix (ixTK (K := K) rfl) (pv 0) pe_int (fun _ _ => rfl))) pa_nil))))), fun Q q => ?_⟩
  · try simp only [blk_K, cx_K, cx_P, cx_w, cx_K', cx_P', cx_w']
    show Sk K H ([par (pT a), par (pT b)]) _
    walk_at "ret"
abbrev s__law_chain : Stmt := top 31
abbrev N__law_chain : List Str := ["points", "found", "point"]
theorem sc__law_chain : FnScope N__law_chain ["points"] (defScope s__law_chain) := ⟨rfl, rfl, rfl, by decide +kernel, rfl, by decide +kernel, by decide +kernel⟩
theorem ok__law_chain {f : Addr} {fd : FuncData} (F : Fun K "_law_chain" "_law_chain" s__law_chain f fd) (h__law_cross : Has P w K mg base CX0 "_law_cross" 1 ["one", "other"] (spD K R_cross)) (h__law_arrow : Has P w K mg base CX0 "_law_arrow" 1 ["one", "other"] (spD K R_between)) (m_len : mg "len" = none) : FnOk P w K mg base CX0 2 f fd ["points"] (spL K R__law_chain) := by
  have nd := sc__law_chain.nd
  refine okL F sc__law_chain (fun _ _ ⟨_, _, _, e, _⟩ => by rw [e]; rfl) fun cdv A outer s H E ds d hr hR => ?_
  have hu65 := Rs.hu65 hr
  obtain ⟨ps, hl, hs, rfl, rfl⟩ := hR
  refine ⟨_, (pss_cons (ps_set (i := 1) nd rfl (by first | exact Or.inl rfl | exact Or.inr rfl) (pe_lst pa_nil))
      (pss_cons (ps_for PassesOwn.never rfl (pi_list (pv 0)) (pg_name (i := 2) nd rfl (by first | exact Or.inl rfl | exact Or.inr rfl)) (pss_cons (ps_while PassesOwn.never (pt_cmpR op_gt (pe_callB (call_lenK (K := K) rfl) (by rfl) m_len PySem.boot_len (pa_cons (pv 1) pa_nil)) pe_int (nomark _)) (pss_cons (ps_if (pt_cmpR op_gt (pe_callH h__law_cross (hr.mono (by decide)) (by rfl) (pa_cons (pe_callH h__law_arrow (hr.mono (by decide)) (by rfl) (pa_cons (pe_ix (ixLK (K := K) rfl) (pv 1) (pe_un un_neg pe_int) (fun _ _ => rfl)) (pa_cons (pe_ix (ixLK (K := K) rfl) (pv 1) (pe_un un_neg pe_int) (fun _ _ => rfl)) pa_nil))) (pa_cons (pe_callH h__law_arrow (hr.mono (by decide)) (by rfl) (pa_cons (pe_ix (ixLK (K := K) rfl) (pv 1) (pe_un un_neg pe_int) (fun _ _ => rfl)) (pa_cons (pv 2) pa_nil))) pa_nil))) pe_int (nomark _)) (pss_one ps_break) pss_nil)
      (pss_one (ps_expr (pe_bm0 PySem.F.plainAttrs_list PySem.F.slot_list_pop PySem.F.type_list_pop mt_pop (pv 1))))))
      (pss_one (ps_expr (pe_bm PySem.F.plainAttrs_list PySem.F.slot_list_append PySem.F.type_list_append mt_append (pv 1) (pa_cons (pv 2) pa_nil))))))
      (pss_one (ps_ret (pv 1))))), fun Q q => ?_⟩
  · try simp only [blk_K, cx_K, cx_P, cx_w, cx_K', cx_P', cx_w']
    show Sk K H ([par (psD ps), un, un]) _
    refine q_asgL (edl_lst eda_nil (Nat.zero_le _)) rfl fun l => ?_
    show Sk K H [par (psD ps), own l [], un] _
    refine q_forP [2] rfl (fun i => [par (psD ps), own l ((chainR [] (ps.take i)).reverse.map pT), un]) (fun _ => True) (fun i => [par (psD ps), own l ((chainR [] (ps.take i)).reverse.map pT), fl (pT (at_ ps i))]) rfl trivial (fun i d hd _ => ?_) (fun He' hb' i d hd _ => ?_) (fun _ => ?_)
    · obtain ⟨hi, rfl⟩ := get_ps hd
      exact gd_name rfl
    · obtain ⟨hi, rfl⟩ := get_ps hd
      have hst : ∀ x ∈ chainR [] (ps.take i), Sm 1152921504606846976 x := fun x hx => by
        rcases chainR_sub _ _ x hx with h | h
        · cases h
        · exact hs x (List.mem_of_mem_take h)
      have hn : (chainR [] (ps.take i)).length ≤ i := by
        have := chainR_len (ps.take i) []
        rw [List.length_take] at this
        simp at this
        omega
      have step : chainR [] (ps.take (i + 1)) = at_ ps i :: popW (at_ ps i) (chainR [] (ps.take i)) := by
        rw [List.take_add_one, at_get hi]
        unfold chainR
        rw [Option.toList_some, List.foldl_append]
        rfl
      rw [step]
      generalize chainR [] (ps.take i) = st at hst hn
      generalize at_ ps i = p
      refine q_while (α := List Pt) (fun s => [par (psD ps), own l (s.reverse.map pT), fl (pT p)]) (fun s => popW p s = popW p st ∧ s.length ≤ i ∧ ∀ x ∈ s, Sm 1152921504606846976 x) List.length st rfl ⟨rfl, hn, hst⟩ (fun s ⟨e1, e2, e3⟩ => ?_)
      refine ⟨decide (1 < (s.length : Int)), edt_test (ed_gt (ed_is (ed_lenL (ed_own rfl)) (by rw [List.length_map, List.length_reverse])) ed_int), fun h1 => ?_, fun h1 => ?_⟩
      · obtain ⟨b, a, r, rfl⟩ : ∃ b a r, s = b :: a :: r := by
          have := of_decide_eq_true h1
          match s, this with
          | b :: a :: r, _ => exact ⟨b, a, r, rfl⟩
          | [_], h => simp at h
          | [], h => simp at h
        have sa := e3 a (by simp)
        have sb := e3 b (by simp)
        refine q_if (b := decide (0 < cross (btw a b) (btw b p))) (edt_test (ed_gt (ed_cross (ed_btw (ed_ixL (ed_own rfl) (ed_neg ed_int) (atI_last2R b a r)) (ed_ixL (ed_own rfl) (ed_neg ed_int) (atI_lastR b (a :: r)))) (ed_btw (ed_ixL (ed_own rfl) (ed_neg ed_int) (atI_lastR b (a :: r))) (ed_fl rfl)) ((sm_btw sa sb).mono (by decide))) ed_int)) (fun hc => ?_) (fun hc => ?_)
        · have hc' := of_decide_eq_true hc
          refine sk_brk ?_
          refine sk_append rfl (ed_fl rfl) rfl (by rw [List.length_map, List.length_reverse]; omega) (sk_nxK [2] ⟨?_, trivial⟩)
          have : popW p st = b :: a :: r := by
            rw [← e1]
            show (if 0 < cross (btw a b) (btw b p) then b :: a :: r else popW p (a :: r)) = _
            rw [if_pos hc']
          rw [this]
          show [par (psD ps), own l ((b :: a :: r).reverse.map pT ++ [pT p]), un] = _
          rw [List.reverse_cons (a := p), List.map_append (l₁ := (b :: a :: r).reverse)]
          rfl
        · have hc' := of_decide_eq_false hc
          refine sk_pop (k := 1) (l := l) (ds := (b :: a :: r).reverse.map pT) rfl (by simp) (sk_nx ⟨a :: r, ⟨?_, by simp at e2 ⊢; omega, fun x hx => e3 x (List.mem_cons_of_mem _ hx)⟩, by simp, ?_⟩)
          · rw [← e1]
            show _ = (if 0 < cross (btw a b) (btw b p) then b :: a :: r else popW p (a :: r))
            rw [if_neg hc']
          · show [par (psD ps), own l ((b :: a :: r).reverse.map pT).dropLast, fl (pT p)] = [par (psD ps), own l ((a :: r).reverse.map pT), fl (pT p)]
            have : ((b :: a :: r).reverse.map pT).dropLast = (a :: r).reverse.map pT := by
              rw [List.reverse_cons, List.map_append, List.map_singleton, List.dropLast_concat]
            rw [this]
      · refine sk_append rfl (ed_fl rfl) rfl (by rw [List.length_map, List.length_reverse]; omega) (sk_nxK [2] ⟨?_, trivial⟩)
        have hs1 : s.length ≤ 1 := by
          have := of_decide_eq_false h1
          omega
        have : popW p st = s := by
          rw [← e1]
          match s, hs1 with
          | [], _ => rfl
          | [_], _ => rfl
        rw [this]
        show [par (psD ps), own l (s.reverse.map pT ++ [pT p]), un] = _
        rw [List.reverse_cons, List.map_append]
        rfl
    · rw [List.length_map, List.take_length]
      exact sk_retO (k := 1) (l := l) rfl q
abbrev s__law_hull : Stmt := top 32
abbrev N__law_hull : List Str := ["points", "order", "up", "right", "point"]
theorem sc__law_hull : FnScope N__law_hull ["points"] (defScope s__law_hull) := ⟨rfl, rfl, rfl, by decide +kernel, rfl, by decide +kernel, by decide +kernel⟩
theorem ok__law_hull {f : Addr} {fd : FuncData} (F : Fun K "_law_hull" "_law_hull" s__law_hull f fd) (h__law_chain : Has P w K mg base CX0 "_law_chain" 2 ["points"] (spL K R__law_chain)) (m_list : mg "list" = none) (m_reversed : mg "reversed" = none) (m_len : mg "len" = none) (m_sorted : mg "sorted" = none) (m_set : mg "set" = none) : FnOk P w K mg base CX0 3 f fd ["points"] (spL K R__law_hull) := by
  have nd := sc__law_hull.nd
  refine okL F sc__law_hull (fun _ _ ⟨_, _, _, _, e, _⟩ => by rw [e]; rfl) fun cdv A outer s H E ds d hr hR => ?_
  have hu65 := Rs.hu65 hr
  obtain ⟨ps, hl, hn, hs, rfl, rfl⟩ := hR
  refine ⟨_, (pss_cons (ps_setLc (i := 1) (own := [("up", 2), ("right", 3)]) (g := (gTup K 2 (gCons (gName 2) (gCons (gName 3) gNil)))) (tt := tYes) rfl nd rfl rfl (sw_true rfl rfl rfl (by decide +kernel)) (pi_list (pe_callB (cr_sortedBig rfl hr.units) (by rfl) m_sorted (by decide +kernel) (pa_cons (pe_callTy (cr_setBig rfl hr.units) (by rfl) m_set (by decide +kernel) (pa_cons (pe_lc (own := [("point", 4)]) (g := (gName 4)) (tt := tYes) rfl nd (pi_list (pv 0)) (blkOk_by (own := [("point", 4)]) (N := N__law_hull) (sc := defScope s__law_hull) (by decide +kernel)) (fun _ _ _ _ _ => (pg_name (i := 4) nd rfl (by first | exact Or.inl rfl | exact Or.inr rfl))) (fun _ _ _ _ _ => pts_nil) (fun _ _ _ _ _ => (pe_tup (pa_cons (pe_ix (ixTK (K := K) rfl) (pv 4) pe_int (fun _ _ => rfl)) (pa_cons (pe_ix (ixTK (K := K) rfl) (pv 4) pe_int (fun _ _ => rfl)) pa_nil))))) pa_nil)) pa_nil))) (blkOk_by (own := [("up", 2), ("right", 3)]) (N := N__law_hull) (sc := defScope s__law_hull) (by decide +kernel)) (fun _ _ _ _ _ => (pg_tup (by rfl) (pgs_cons (pg_name (i := 2) nd rfl (by first | exact Or.inl rfl | exact Or.inr rfl)) (pgs_cons (pg_name (i := 3) nd rfl (by first | exact Or.inl rfl | exact Or.inr rfl)) pgs_nil)))) (fun _ _ _ _ _ => pts_nil) (fun _ _ _ _ _ => (pe_tup (pa_cons (pv 3) (pa_cons (pv 2) pa_nil)))))
      (pss_cons (ps_if (pt_cmpR op_eq (pe_callB (call_lenK (K := K) rfl) (by rfl) m_len PySem.boot_len (pa_cons (pv 1) pa_nil)) pe_int (nomark _)) (pss_one (ps_ret (pv 1))) pss_nil)
      (pss_one (ps_ret (pe_op op_cat (pe_slice (slLK (K := K) rfl) (pe_callH h__law_chain (hr.mono (by decide)) (by rfl) (pa_cons (pv 1) pa_nil)) po_none (po_some (pe_un un_neg pe_int))) (pe_slice (slLK (K := K) rfl) (pe_callH h__law_chain (hr.mono (by decide)) (by rfl) (pa_cons (pe_lstRev rfl (by rfl) m_list (by rfl) m_reversed (pv 1)) pa_nil)) po_none (po_some (pe_un un_neg pe_int)))))))), fun Q q => ?_⟩
  · try simp only [blk_K, cx_K, cx_P, cx_w, cx_K', cx_P', cx_w']
    show Sk K H ([par (psD ps), un, un, un, un]) _
    have ho : Sms 1152921504606846976 (order ps) := fun p hp => hs p (mem_order.mp hp)
    have hol := order_len ps
    have src : Ed (K := K) (tLc (iList K (tVar 0)) (gName 4) tYes (tTup (tCons (tOp (rIxT K) (tVar 4) (tC (.int 1))) (tCons (tOp (rIxT K) (tVar 4) (tC (.int 0))) tNil))) [4]) [par (psD ps), un, un, un, un] (.list ((ps.map swap).map pT)) := by
      refine ed_ofL (edl_lc (js := [4]) (fun n => [par (psD ps), un, un, un, fl (pT (at_ ps n))]) (ed_par rfl) (flat_ps _) (by rw [List.length_map, List.length_map]; omega) (by rw [List.length_map, List.length_map, List.length_map]) (by simp) (fun n d hd => ?_) (fun n d o hd ho => ?_))
      · obtain ⟨hi, rfl⟩ := get_ps hd
        exact gd_name rfl
      · obtain ⟨hi, rfl⟩ := get_ps hd
        rw [List.getElem?_map, List.getElem?_map, at_get hi] at ho
        cases ho
        walk_at "edi"
    refine q_asgL (ds := (order ps).map pT) ?_ (flat_ps _) fun l => ?_
    · refine edl_lc (js := [2, 3]) (fun n => [par (psD ps), un, fl (.int (at_ (order ps) n).2), fl (.int (at_ (order ps) n).1), un]) (ed_ofL (edl_sortedBig (qs := sortU (ps.map swap)) src (by rw [List.length_map]; exact hl) (sortU_pw _) (fun x => mem_sortU))) (flat_ps _) (by rw [List.length_map]; omega) (by unfold order; rw [List.length_map, List.length_map, List.length_map]) (by simp) (fun n d hd => ?_) (fun n d o hd ho => ?_)
      · obtain ⟨p, hp, rfl⟩ := get_ps' hd
        have : at_ (order ps) n = swap p := by
          unfold order at_
          rw [List.getD_eq_getElem?_getD, List.getElem?_map, hp] <;> rfl
        rw [this]
        exact gd_tup2 rfl rfl
      · obtain ⟨hi, rfl⟩ := get_ps ho
        exact ed_tup (eda_cons (ed_fl rfl) (eda_cons (ed_fl rfl) eda_nil)) (Nat.le_of_ble_eq_true rfl)
    show Sk K H [par (psD ps), own l ((order ps).map pT), un, un, un] _
    have lo : Ed (K := K) (tVar 1) [par (psD ps), own l ((order ps).map pT), un, un, un] (psD (order ps)) := ed_own rfl
    refine q_if (b := decide (((order ps).length : Int) = 1)) (edt_test (ed_eqI (ed_len lo) ed_int)) (fun hb => ?_) (fun hb => ?_)
    · have h1 : (order ps).length = 1 := by
        have := of_decide_eq_true hb
        omega
      refine sk_retO (k := 1) (l := l) rfl ?_
      unfold hull at q
      rw [if_pos h1] at q
      exact q
    · have h1 : ¬ (order ps).length = 1 := fun e => of_decide_eq_false hb (by omega)
      have hc1 := chain_len (order ps)
      have hc2 := chain_len (order ps).reverse
      rw [List.length_reverse] at hc2
      refine sk_retLE q (edl_cat (edk_of (edl_slice (ed_ofL (edl_chain lo (by omega) ho)) edo_none (edo_some (ed_neg ed_int)))) (edk_of (edl_slice (ed_ofL (edl_chain (ed_ofL (edl_is (edl_rev lo) (by rw [← List.map_reverse]))) (by rw [List.length_reverse]; omega) (fun p hp => ho p (List.mem_reverse.mp hp)))) edo_none (edo_some (ed_neg ed_int)))) ?_) ?_
      · rw [cut_last, cut_last, List.length_map, List.length_map, List.length_dropLast, List.length_dropLast]
        omega
      · rw [cut_last, cut_last]
        unfold hull
        rw [if_neg h1, List.map_append]
abbrev s__law_pairs : Stmt := top 39
abbrev N__law_pairs : List Str := ["one", "other", "found", "left", "right"]
theorem sc__law_pairs : FnScope N__law_pairs ["one", "other"] (defScope s__law_pairs) := ⟨rfl, rfl, rfl, by decide +kernel, rfl, by decide +kernel, by decide +kernel⟩
theorem ok__law_pairs {f : Addr} {fd : FuncData} (F : Fun K "_law_pairs" "_law_pairs" s__law_pairs f fd) : FnOk P w K mg base CX0 1 f fd ["one", "other"] (spL K R__law_pairs) := by
  have nd := sc__law_pairs.nd
  refine okL F sc__law_pairs (fun _ _ ⟨_, _, _, _, _, e, _⟩ => by rw [e]; rfl) fun cdv A outer s H E ds d hr hR => ?_
  have hu65 := Rs.hu65 hr
  obtain ⟨c, d, h0, h1, h2, rfl, rfl⟩ := hR
  refine ⟨_, (pss_cons (ps_set (i := 2) nd rfl (by first | exact Or.inl rfl | exact Or.inr rfl) (pe_lst pa_nil))
      (pss_cons (ps_for PassesOwn.never rfl (pi_list (pv 0)) (pg_name (i := 3) nd rfl (by first | exact Or.inl rfl | exact Or.inr rfl)) (pss_one (ps_set (i := 2) nd rfl (by first | exact Or.inl rfl | exact Or.inr rfl) (pe_op op_cat (pv 2) (pe_lc (own := [("right", 4)]) (g := (gName 4)) (tt := tYes) rfl nd (pi_list (pv 1)) (blkOk_by (own := [("right", 4)]) (N := N__law_pairs) (sc := defScope s__law_pairs) (by decide +kernel)) (fun _ _ _ _ _ => (pg_name (i := 4) nd rfl (by first | exact Or.inl rfl | exact Or.inr rfl))) (fun _ _ _ _ _ => pts_nil) (fun _ _ _ _ _ => (pe_tup (pa_cons (pe_op op_add (pe_ix (ixTK (K := K) rfl) (pv 3) pe_int (fun _ _ => rfl)) (pe_ix (ixTK (K := K) rfl) (pv 4) pe_int (fun _ _ => rfl))) (pa_cons (pe_op op_add (pe_ix (ixTK (K := K) rfl) (pv 3) pe_int (fun _ _ => rfl)) (pe_ix (ixTK (K := K) rfl) (pv 4) pe_int (fun _ _ => rfl))) pa_nil)))))))))
      (pss_one (ps_ret (pv 2))))), fun Q q => ?_⟩
  · try simp only [blk_K, cx_K, cx_P, cx_w, cx_K', cx_P', cx_w']
    show Sk K H ([par (psD c), par (psD d), un, un, un]) _
    have len : ∀ n, (pairs (c.take n) d).length = (c.take n).length * d.length := fun n => pairs_len _ _
    refine q_asgPL (He0 := H) (ds := ([] : List Pt).map pT) (edl_lst eda_nil (Nat.zero_le _)) rfl (Same.refl H) ?_
    refine q_forP (ds := c.map pT) [3] rfl (fun i => [par (psD c), par (psD d), pl H ((pairs (c.take i) d).map pT), un, un]) (fun _ => True) (fun i => [par (psD c), par (psD d), pl H ((pairs (c.take i) d).map pT), fl (pT (at_ c i)), un]) rfl trivial (fun i x hx _ => ?_) (fun He' hb' i x hx _ => ?_) (fun _ => ?_)
    · obtain ⟨hi, rfl⟩ := get_ps hx
      exact gd_name rfl
    · obtain ⟨hi, rfl⟩ := get_ps hx
      have step : pairs (c.take (i + 1)) d = pairs (c.take i) d ++ d.map fun b => addp (at_ c i) b := by
        unfold pairs
        rw [List.take_add_one, at_get hi, List.flatMap_append]
        simp
      have l1 := len i
      have l2 : (c.take i).length * d.length ≤ c.length * d.length := Nat.mul_le_mul_right _ (by rw [List.length_take]; exact Nat.min_le_right _ _)
      generalize at_ c i = p at step
      refine sk_asgPL (He0 := H) (ds := (pairs (c.take (i + 1)) d).map pT) (edl_is (edl_cat (edk_pl rfl) (edk_of (edl_lc (js := [4]) (vs := [4]) (ds := d.map pT) (outs := (d.map fun b => addp p b).map pT) (fun n => [par (psD c), par (psD d), pl H ((pairs (c.take i) d).map pT), fl (pT p), fl (pT (at_ d n))]) (ed_par rfl) (flat_ps _) (by rw [List.length_map, List.length_map]; omega) (by rw [List.length_map, List.length_map, List.length_map]) (by simp) (fun n y hy => ?_) (fun n y o hy ho => ?_))) ?_) ?_) (flat_ps _) hb' (sk_nxK [3] ⟨rfl, trivial⟩)
      · obtain ⟨hi, rfl⟩ := get_ps hy
        exact gd_name rfl
      · obtain ⟨hi, rfl⟩ := get_ps hy
        rw [List.map_map, List.getElem?_map, at_get hi] at ho
        cases ho
        exact ed_tup (eda_cons (ed_add (ed_ixT (ed_fl rfl) ed_int rfl) (ed_ixT (ed_fl rfl) ed_int rfl)) (eda_cons (ed_add (ed_ixT (ed_fl rfl) ed_int rfl) (ed_ixT (ed_fl rfl) ed_int rfl)) eda_nil)) (Nat.le_of_ble_eq_true rfl)
      · rw [List.length_map, List.length_map, List.length_map]
        omega
      · rw [step, List.map_append]
    · rw [List.length_map, List.take_length]
      exact sk_retPL (k := 2) rfl q
abbrev s__law_together : Stmt := top 40
abbrev N__law_together : List Str := ["one", "other"]
theorem sc__law_together : FnScope N__law_together ["one", "other"] (defScope s__law_together) := ⟨rfl, rfl, rfl, by decide +kernel, rfl, by decide +kernel, by decide +kernel⟩
theorem ok__law_together {f : Addr} {fd : FuncData} (F : Fun K "_law_together" "_law_together" s__law_together f fd) (h__law_hull : Has P w K mg base CX0 "_law_hull" 3 ["points"] (spL K R__law_hull)) (h__law_pairs : Has P w K mg base CX0 "_law_pairs" 1 ["one", "other"] (spL K R__law_pairs)) : FnOk P w K mg base CX0 4 f fd ["one", "other"] (spL K R__law_together) := by
  have nd := sc__law_together.nd
  refine okL F sc__law_together (fun _ _ ⟨_, _, _, _, _, _, _, _, _, _, e, _⟩ => by rw [e]; rfl) fun cdv A outer s H E ds d hr hR => ?_
  have hu65 := Rs.hu65 hr
  obtain ⟨c, d, n, m, h0, h1, h2, h3, hc, hd, rfl, rfl⟩ := hR
  refine ⟨_, (pss_one (ps_ret (pe_callH h__law_hull (hr.mono (by decide)) (by rfl) (pa_cons (pe_callH h__law_pairs (hr.mono (by decide)) (by rfl) (pa_cons (pv 0) (pa_cons (pv 1) pa_nil))) pa_nil)))), fun Q q => ?_⟩
  · try simp only [blk_K, cx_K, cx_P, cx_w, cx_K', cx_P', cx_w']
    show Sk K H ([par (psD c), par (psD d)]) _
    have c0 : 0 < c.length := List.length_pos_iff.mpr hc.1
    have d0 : 0 < d.length := List.length_pos_iff.mpr hd.1
    have lc : c.length ≤ 64 := Nat.le_trans (Nat.le_mul_of_pos_right _ d0) h0
    have ld : d.length ≤ 64 := Nat.le_trans (Nat.le_mul_of_pos_left _ c0) h0
    have hpl : (pairs c d).length = c.length * d.length := pairs_len c d
    have hpn : pairs c d ≠ [] := fun e => by
      have := Nat.mul_pos c0 d0
      rw [e, List.length_nil] at hpl
      omega
    refine sk_retLE q (edl_hull (ed_ofL (edl_pairs (ed_par rfl) (ed_par rfl) (by omega) (by omega) (by omega))) (by omega) hpn (fun p hp => ?_)) (by rw [together_hull hc hd])
    obtain ⟨a, ha, b, hb, rfl⟩ := mem_pairs.mp hp
    exact (sm_add (h1 a ha) (h2 b hb)).mono h3
abbrev s__law_half : Stmt := top 36
abbrev N__law_half : List Str := ["arrow"]
theorem sc__law_half : FnScope N__law_half ["arrow"] (defScope s__law_half) := ⟨rfl, rfl, rfl, by decide +kernel, rfl, by decide +kernel, by decide +kernel⟩
theorem ok__law_half {f : Addr} {fd : FuncData} (F : Fun K "_law_half" "_law_half" s__law_half f fd) (m_int : mg "int" = none) : FnOk P w K mg base CX0 1 f fd ["arrow"] (spD K R_half) := by
  have nd := sc__law_half.nd
  refine okD F sc__law_half (fun _ _ ⟨_, e, _⟩ => by rw [e]; rfl) fun cdv A outer s H E ds d hr hR => ?_
  have hu65 := Rs.hu65 hr
  obtain ⟨a, rfl, rfl⟩ := hR
  refine ⟨_, (pss_one (ps_ret (pe_callTy call_int1 (by rfl) m_int (by decide +kernel) (pa_cons (pe_or (pe_cmpR op_lt (pe_ix (ixTK (K := K) rfl) (pv 0) pe_int (fun _ _ => rfl)) pe_int (nomark _)) (pe_one (pe_and (pe_cmpR op_eq (pe_ix (ixTK (K := K) rfl) (pv 0) pe_int (fun _ _ => rfl)) pe_int (nomark _)) (pe_one (pe_cmpR op_lt (pe_ix (ixTK (K := K) rfl) (pv 0) pe_int (fun _ _ => rfl)) pe_int (nomark _)))))) pa_nil)))), fun Q q => ?_⟩
  · try simp only [blk_K, cx_K, cx_P, cx_w, cx_K', cx_P', cx_w']
    show Sk K H ([par (pT a)]) _
    walk_at "ret"
abbrev s__law_sides : Stmt := top 37
abbrev N__law_sides : List Str := ["corners", "found", "k"]
theorem sc__law_sides : FnScope N__law_sides ["corners"] (defScope s__law_sides) := ⟨rfl, rfl, rfl, by decide +kernel, rfl, by decide +kernel, by decide +kernel⟩
theorem ok__law_sides {f : Addr} {fd : FuncData} (F : Fun K "_law_sides" "_law_sides" s__law_sides f fd) (h__law_arrow : Has P w K mg base CX0 "_law_arrow" 1 ["one", "other"] (spD K R_between)) (m_range : mg "range" = none) (m_len : mg "len" = none) : FnOk P w K mg base CX0 2 f fd ["corners"] (spL K R_sides_by) := by
  have nd := sc__law_sides.nd
  refine okL F sc__law_sides (fun _ _ ⟨_, _, e, _⟩ => by rw [e]; rfl) fun cdv A outer s H E ds d hr hR => ?_
  have hu65 := Rs.hu65 hr
  obtain ⟨c, hl, rfl, rfl⟩ := hR
  refine ⟨_, (pss_cons (ps_if (pt_cmpR op_lt (pe_callB (call_lenK (K := K) rfl) (by rfl) m_len PySem.boot_len (pa_cons (pv 0) pa_nil)) pe_int (nomark _)) (pss_one (ps_ret (pe_lst pa_nil))) pss_nil)
      (pss_cons (ps_set (i := 1) nd rfl (by first | exact Or.inl rfl | exact Or.inr rfl) (pe_lst pa_nil))
      (pss_cons (ps_for PassesOwn.never rfl (pi_range1 (by rfl) m_range (pa_cons (pe_callB (call_lenK (K := K) rfl) (by rfl) m_len PySem.boot_len (pa_cons (pv 0) pa_nil)) pa_nil)) (pg_name (i := 2) nd rfl (by first | exact Or.inl rfl | exact Or.inr rfl)) (pss_one (ps_expr (pe_bm PySem.F.plainAttrs_list PySem.F.slot_list_append PySem.F.type_list_append mt_append (pv 1) (pa_cons (pe_callH h__law_arrow (hr.mono (by decide)) (by rfl) (pa_cons (pe_ix (ixLK (K := K) rfl) (pv 0) (pv 2) (fun _ _ => rfl)) (pa_cons (pe_ix (ixLK (K := K) rfl) (pv 0) (pe_op op_mod (pe_op op_add (pv 2) pe_int) (pe_callB (call_lenK (K := K) rfl) (by rfl) m_len PySem.boot_len (pa_cons (pv 0) pa_nil))) (fun _ _ => rfl)) pa_nil))) pa_nil)))))
      (pss_one (ps_ret (pv 1)))))), fun Q q => ?_⟩
  · try simp only [blk_K, cx_K, cx_P, cx_w, cx_K', cx_P', cx_w']
    show Sk K H ([par (psD c), un, un]) _
    refine q_if (b := decide ((c.length : Int) < 2)) (edt_test (ed_lt (ed_len (ed_par rfl)) ed_int)) (fun hb => ?_) (fun hb => ?_)
    · have h2 : c.length < 2 := by
        have := of_decide_eq_true hb
        omega
      refine sk_retLE q (edl_lst eda_nil (Nat.zero_le _)) ?_
      unfold sidesBy
      rw [if_pos h2]
      rfl
    · have h2 : 2 ≤ c.length := by
        have := of_decide_eq_false hb
        omega
      have hs : (sidesBy c).length = c.length := by
        rw [sides_len, if_neg (by omega)]
      refine q_asgL (edl_lst eda_nil (Nat.zero_le _)) rfl fun l => ?_
      show Sk K H [par (psD c), own l [], un] _
      refine q_forR1 (eda_cons (ed_len (ed_par rfl)) eda_nil) ⟨by omega, by omega⟩ (fun i => [par (psD c), own l (((sidesBy c).take i).map pT), un]) (fun _ => True) rfl trivial (fun i hi _ => ?_) (fun _ => ?_)
      · have hi' : i < c.length := by omega
        have e2 : (sidesBy c).take (i + 1) = (sidesBy c).take i ++ [btw (at_ c i) (at_ c ((i + 1) % c.length))] := by
          rw [List.take_add_one, at_get (by omega), sides_at h2 hi']
          rfl
        refine sk_append (k := 1) (l := l) (ds := ((sidesBy c).take i).map pT) (d := pT (btw (at_ c i) (at_ c ((i + 1) % c.length)))) rfl ?_ rfl (by rw [List.length_map, List.length_take]; omega) (sk_nxK [2] ⟨?_, trivial⟩)
        · exact ed_btw (ed_at (ed_par rfl) (ed_fl rfl) hi') (ed_at (ed_par rfl) (ed_is (ed_mod (ed_add (ed_fl rfl) ed_int) (ed_len (ed_par rfl)) (by omega)) (by rw [modc])) (Nat.mod_lt _ (by omega)))
        · rw [e2, List.map_append]
          rfl
      · rw [show ((c.length : Int)).toNat = (sidesBy c).length by omega, List.take_length]
        exact sk_retO (k := 1) (l := l) rfl q
abbrev s__law_good : Stmt := top 38
abbrev N__law_good : List Str := ["corners", "arrows", "k", "ahead", "here"]
theorem sc__law_good : FnScope N__law_good ["corners"] (defScope s__law_good) := ⟨rfl, rfl, rfl, by decide +kernel, rfl, by decide +kernel, by decide +kernel⟩
theorem ok__law_good {f : Addr} {fd : FuncData} (F : Fun K "_law_good" "_law_good" s__law_good f fd) (h__law_cross : Has P w K mg base CX0 "_law_cross" 1 ["one", "other"] (spD K R_cross)) (h__law_half : Has P w K mg base CX0 "_law_half" 1 ["arrow"] (spD K R_half)) (h__law_sides : Has P w K mg base CX0 "_law_sides" 2 ["corners"] (spL K R_sides_by)) (m_range : mg "range" = none) (m_len : mg "len" = none) : FnOk P w K mg base CX0 3 f fd ["corners"] (spD K R_is_shape) := by
  have nd := sc__law_good.nd
  refine okD F sc__law_good (fun _ _ ⟨_, _, _, _, _, e, _⟩ => by rw [e]; rfl) fun cdv A outer s H E ds d hr hR => ?_
  have hu65 := Rs.hu65 hr
  obtain ⟨c, b, hl, hsm, hb, rfl, rfl⟩ := hR
  refine ⟨_, (pss_cons (ps_set (i := 1) nd rfl (by first | exact Or.inl rfl | exact Or.inr rfl) (pe_callH h__law_sides (hr.mono (by decide)) (by rfl) (pa_cons (pv 0) pa_nil)))
      (pss_cons (ps_if (PW.pt (pw_or (pt_cmpR op_eq (pe_callB (call_lenK (K := K) rfl) (by rfl) m_len PySem.boot_len (pa_cons (pv 0) pa_nil)) pe_int (nomark _)) (pw_or1 (pt_cmpR (inDK (K := K) rfl hu65) (pe_tup (pa_cons pe_int (pa_cons pe_int pa_nil))) (pv 1) (by with_unfolding_all rfl))))) (pss_one (ps_ret pe_bl)) pss_nil)
      (pss_cons (ps_if (PW.pt (pw_and (pt_cmpR op_gt (pe_callB (call_lenK (K := K) rfl) (by rfl) m_len PySem.boot_len (pa_cons (pv 1) pa_nil)) pe_int (nomark _)) (pw_and1 (pt_cmpR op_eq (pe_callH h__law_half (hr.mono (by decide)) (by rfl) (pa_cons (pe_ix (ixLK (K := K) rfl) (pv 1) pe_int (fun _ _ => rfl)) pa_nil)) pe_int (nomark _))))) (pss_one (ps_ret pe_bl)) pss_nil)
      (pss_cons (ps_for PassesOwn.never rfl (pi_range2 (by rfl) m_range (pa_cons pe_int (pa_cons (pe_callB (call_lenK (K := K) rfl) (by rfl) m_len PySem.boot_len (pa_cons (pv 1) pa_nil)) pa_nil))) (pg_name (i := 2) nd rfl (by first | exact Or.inl rfl | exact Or.inr rfl)) (pss_cons (ps_set (i := 3) nd rfl (by first | exact Or.inl rfl | exact Or.inr rfl) (pe_callH h__law_half (hr.mono (by decide)) (by rfl) (pa_cons (pe_ix (ixLK (K := K) rfl) (pv 1) (pe_op op_sub (pv 2) pe_int) (fun _ _ => rfl)) pa_nil)))
      (pss_cons (ps_set (i := 4) nd rfl (by first | exact Or.inl rfl | exact Or.inr rfl) (pe_callH h__law_half (hr.mono (by decide)) (by rfl) (pa_cons (pe_ix (ixLK (K := K) rfl) (pv 1) (pv 2) (fun _ _ => rfl)) pa_nil)))
      (pss_one (ps_if (PW.pt (pw_or (pt_cmpR op_gt (pv 3) (pv 4) (nomark _)) (pw_or1 (PW.pt (pw_and (pt_cmpR op_eq (pv 3) (pv 4) (nomark _)) (pw_and1 (pt_cmpR op_le (pe_callH h__law_cross (hr.mono (by decide)) (by rfl) (pa_cons (pe_ix (ixLK (K := K) rfl) (pv 1) (pe_op op_sub (pv 2) pe_int) (fun _ _ => rfl)) (pa_cons (pe_ix (ixLK (K := K) rfl) (pv 1) (pv 2) (fun _ _ => rfl)) pa_nil))) pe_int (nomark _)))))))) (pss_one (ps_ret pe_bl)) pss_nil)))))
      (pss_one (ps_ret pe_bl)))))), fun Q q => ?_⟩
  · try simp only [blk_K, cx_K, cx_P, cx_w, cx_K', cx_P', cx_w']
    show Sk K H ([par (psD c), un, un, un, un]) _
    have hsl : (sidesBy c).length ≤ 1000 := by
      rw [sides_len]
      split <;> omega
    have ss := sms_sides hsm (by decide)
    have no : ¬ IsShape c → ∀ (He : Hp), Same H He → ∀ env : List (Sl K), Sk K He env (tRet (tC (.bl false)) { nx := fun _ H' => Q .non H', rt := Q }) := fun hn He e0 env => sk_ret ed_bl fun v H' e h => q v H' (e0.trans e) (by
      have : b = false := by
        cases b with
        | false => rfl
        | true => exact absurd (hb.mp rfl) hn
      rw [this]
      exact h)
    refine q_asgP (edl_sidesBy (ed_par rfl) hl) (flat_ps _) ?_
    show Sk K H [par (psD c), par (psD (sidesBy c)), un, un, un] _
    refine q_if (b := decide ((c.length : Int) = 0) || decide (pt0 ∈ sidesBy c)) (edt_or (edt_test (ed_eqI (ed_len (ed_par rfl)) ed_int)) fun _ => edt_test (ed_is (ed_inD (ed_tup (eda_cons ed_int (eda_cons ed_int eda_nil)) (by decide)) (ed_par rfl) (shaped_pT pt0) (shaped_ps _)) (congrArg PyData.bool (any_ps (sidesBy c) pt0)))) (fun h0 => ?_) (fun h0 => ?_)
    · refine no (fun hn => ?_) H (Same.refl H) _
      rw [Bool.or_eq_true] at h0
      rcases h0 with h0 | h0
      · have := of_decide_eq_true h0
        exact hn.1 (List.length_eq_zero_iff.mp (by omega))
      · exact hn.2.2.2 (of_decide_eq_true h0)
    rw [Bool.or_eq_false_iff] at h0
    have hc : c ≠ [] := fun e => by
      rw [e] at h0
      exact absurd h0.1 (by decide)
    have f0 := of_decide_eq_false h0.2
    refine q_if (b := decide (0 < ((sidesBy c).length : Int)) && decide (halfI (at_ (sidesBy c) 0) = 1)) (edt_and (edt_test (ed_gt (ed_len (ed_par rfl)) ed_int)) fun h => edt_test (ed_eqI (ed_half (ed_at (k := 0) (ed_par rfl) ed_int (by have := of_decide_eq_true h; omega))) ed_int)) (fun h1 => ?_) (fun h1 => ?_)
    · refine no (fun hn => ?_) H (Same.refl H) _
      rw [Bool.and_eq_true] at h1
      have a1 := of_decide_eq_true h1.1
      have a2 := of_decide_eq_true h1.2
      have a3 := hn.2.1 (fun e => by
        rw [e] at a1
        exact absurd a1 (by decide))
      unfold halfI at a2
      rw [a3] at a2
      exact absurd a2 (by decide)
    have f1 : sidesBy c ≠ [] → half (at_ (sidesBy c) 0) = false := fun hne => by
      have a1 : 0 < ((sidesBy c).length : Int) := by
        have := List.length_pos_iff.mpr hne
        omega
      rw [decide_eq_true a1, Bool.true_and] at h1
      have a2 := of_decide_eq_false h1
      unfold halfI at a2
      cases e : half (at_ (sidesBy c) 0) with
      | false => rfl
      | true =>
        rw [e] at a2
        exact absurd rfl a2
    refine q_forR2 (eda_cons ed_int (eda_cons (ed_len (ed_par rfl)) eda_nil)) ⟨by decide, by decide, by omega, by omega⟩ (fun _ => [par (psD c), par (psD (sidesBy c)), un, un, un]) (fun i => ∀ k, k < i → ahead (at_ (sidesBy c) k) (at_ (sidesBy c) (k + 1)) = true) rfl (fun k hk => absurd hk (Nat.not_lt_zero _)) (fun i hi pi => ?_) (fun pn => ?_)
    · have hi1 : i + 1 < (sidesBy c).length := by omega
      refine q_asg (ed_half (ed_at (k := i) (ed_par rfl) (ed_is (ed_sub (ed_fl rfl) ed_int) (by congr 1; omega)) (by omega))) rfl ?_
      refine q_asg (ed_half (ed_at (k := i + 1) (ed_par rfl) (ed_is (ed_fl rfl) (by congr 1; omega)) hi1)) rfl ?_
      refine s_if (b := decide (halfI (at_ (sidesBy c) (i + 1)) < halfI (at_ (sidesBy c) i)) || (decide (halfI (at_ (sidesBy c) i) = halfI (at_ (sidesBy c) (i + 1))) && decide (cross (at_ (sidesBy c) i) (at_ (sidesBy c) (i + 1)) ≤ 0))) (edt_or (edt_test (ed_gt (ed_fl rfl) (ed_fl rfl))) fun _ => edt_and (edt_test (ed_eqI (ed_fl rfl) (ed_fl rfl))) fun _ => edt_test (ed_le (ed_cross (ed_at (k := i) (ed_par rfl) (ed_is (ed_sub (ed_fl rfl) ed_int) (by congr 1; omega)) (by omega)) (ed_at (k := i + 1) (ed_par rfl) (ed_is (ed_fl rfl) (by congr 1; omega)) hi1) (sms_at ss (by decide) i)) ed_int)) (fun ha => ?_) (fun ha => ?_)
      · refine no (fun hn => ?_) H (Same.refl H) _
        have h3 := hn.2.2.1 i hi1
        unfold Rm.ahead at h3
        rw [Bool.or_eq_true, Bool.and_eq_true] at ha
        rcases ha with ha | ⟨ha, hb2⟩
        · have := of_decide_eq_true ha
          rw [if_pos (by simp; omega)] at h3
          have := of_decide_eq_true h3
          omega
        · have e1 := of_decide_eq_true ha
          have e2 := of_decide_eq_true hb2
          rw [if_neg (by simp; omega)] at h3
          have := of_decide_eq_true h3
          omega
      · refine sk_nxK [2, 3, 4] ⟨rfl, fun k hk => ?_⟩
        rcases Nat.lt_succ_iff_lt_or_eq.mp hk with h | h
        · exact pi k h
        · rw [h]
          rw [Bool.or_eq_false_iff] at ha
          have e1 := of_decide_eq_false ha.1
          unfold Rm.ahead
          by_cases e : halfI (at_ (sidesBy c) i) = halfI (at_ (sidesBy c) (i + 1))
          · rw [if_neg (by simp; omega)]
            have h2 := ha.2
            rw [decide_eq_true e, Bool.true_and] at h2
            have := of_decide_eq_false h2
            exact decide_eq_true (by omega)
          · rw [if_pos (by simp; omega)]
            exact decide_eq_true (by omega)
    · refine sk_retE q ed_bl ?_
      congr 1
      refine Eq.symm (hb.mpr ⟨hc, f1, fun k hk => pn k (by omega), f0⟩)
abbrev s__law_points_like : Stmt := top 35
abbrev N__law_points_like : List Str := ["found", "due", "point", "one"]
theorem sc__law_points_like : FnScope N__law_points_like ["found", "due"] (defScope s__law_points_like) := ⟨rfl, rfl, rfl, by decide +kernel, rfl, by decide +kernel, by decide +kernel⟩
theorem ok__law_points_like {f : Addr} {fd : FuncData} (F : Fun K "_law_points_like" "_law_points_like" s__law_points_like f fd) (m_all : mg "all" = none) (m_isinstance : mg "isinstance" = none) (m_bool : mg "bool" = none) (m_int : mg "int" = none) (m_len : mg "len" = none) (m_tuple : mg "tuple" = none) (m_list : mg "list" = none) : FnOk P w K mg base CX0 1 f fd ["found", "due"] (spD K R__law_points_like) := by
  have nd := sc__law_points_like.nd
  refine okD F sc__law_points_like (fun _ _ ⟨_, _, _, e, _⟩ => by rw [e]; rfl) fun cdv A outer s H E ds d hr hR => ?_
  have hu65 := Rs.hu65 hr
  obtain ⟨ps, qs, hl, rfl, rfl⟩ := hR
  refine ⟨_, (pss_cons (ps_if (PW.pt (pw_or (pt_not (pt_val (pe_callB (isiK (K := K) rfl) (by rfl) m_isinstance (by decide +kernel) (pa_cons (pv 0) (pa_cons (pe_bltn (v := .ty "list") (by rfl) m_list (by decide +kernel) rfl) pa_nil))))) (pw_or1 (pt_cmpR op_ne (pe_callB (call_lenK (K := K) rfl) (by rfl) m_len PySem.boot_len (pa_cons (pv 0) pa_nil)) (pe_callB (call_lenK (K := K) rfl) (by rfl) m_len PySem.boot_len (pa_cons (pv 1) pa_nil)) (nomark _))))) (pss_one (ps_ret pe_bl)) pss_nil)
      (pss_cons (ps_for PassesOwn.never rfl (pi_list (pv 0)) (pg_name (i := 2) nd rfl (by first | exact Or.inl rfl | exact Or.inr rfl)) (pss_cons (ps_if (PW.pt (pw_or (pt_not (pt_val (pe_callB (isiK (K := K) rfl) (by rfl) m_isinstance (by decide +kernel) (pa_cons (pv 2) (pa_cons (pe_bltn (v := .ty "tuple") (by rfl) m_tuple (by decide +kernel) rfl) pa_nil))))) (pw_or1 (pt_cmpR op_ne (pe_callB (call_lenK (K := K) rfl) (by rfl) m_len PySem.boot_len (pa_cons (pv 2) pa_nil)) pe_int (nomark _))))) (pss_one (ps_ret pe_bl)) pss_nil)
      (pss_one (ps_if (pt_not (pt_val (pe_callB (allK (K := K) rfl rfl) (by rfl) m_all (by decide +kernel) (pa_cons (pe_lc (own := [("one", 3)]) (g := (gName 3)) (tt := tYes) rfl nd (pi_tup (pv 2)) (blkOk_by (own := [("one", 3)]) (N := N__law_points_like) (sc := defScope s__law_points_like) (by decide +kernel)) (fun _ _ _ _ _ => (pg_name (i := 3) nd rfl (by first | exact Or.inl rfl | exact Or.inr rfl))) (fun _ _ _ _ _ => pts_nil) (fun _ _ _ _ _ => (pe_and (pe_callB (isiK (K := K) rfl) (by rfl) m_isinstance (by decide +kernel) (pa_cons (pv 3) (pa_cons (pe_bltn (v := .ty "int") (by rfl) m_int (by decide +kernel) rfl) pa_nil))) (pe_one (pe_not (pe_callB (isiK (K := K) rfl) (by rfl) m_isinstance (by decide +kernel) (pa_cons (pv 3) (pa_cons (pe_bltn (v := .ty "bool") (by rfl) m_bool (by decide +kernel) rfl) pa_nil)))))))) pa_nil)))) (pss_one (ps_ret pe_bl)) pss_nil))))
      (pss_one (ps_ret (pe_cmpR (eqDK (K := K) rfl hr.units) (pv 0) (pv 1) (nomark _)))))), fun Q q => ?_⟩
  · try simp only [blk_K, cx_K, cx_P, cx_w, cx_K', cx_P', cx_w']
    show Sk K H ([par (psD ps), par (psD qs), un, un]) _
    refine q_if (b := !decide ((ps.length : Int) = (qs.length : Int))) (edt_is (edt_or (edt_not (edt_B (ed_isi (b := true) (ed_par rfl) rfl))) (fun _ => edt_test (ed_neI (ed_len (ed_par rfl)) (ed_len (ed_par rfl))))) (by simp)) (fun hn => ?_) (fun hn => ?_)
    · refine sk_retE q ed_bl ?_
      have : ps ≠ qs := fun e => by
        rw [e] at hn
        simp at hn
      rw [decide_eq_false this]
    refine q_forP (ds := ps.map pT) [2] rfl (fun i => [par (psD ps), par (psD qs), un, un]) (fun _ => True) (fun i => [par (psD ps), par (psD qs), fl (pT (at_ ps i)), un]) rfl trivial (fun i d hd _ => ?_) (fun He' hb' i d hd _ => ?_) (fun _ => ?_)
    · obtain ⟨hi, rfl⟩ := get_ps hd
      exact gd_name rfl
    · obtain ⟨hi, rfl⟩ := get_ps hd
      generalize at_ ps i = p
      refine q_if (b := false) (edt_is (edt_or (edt_not (edt_B (ed_isi (b := true) (ed_fl rfl) rfl))) (fun _ => edt_test (ed_neI (ed_lenT (ds := [.int p.1, .int p.2]) (ed_fl rfl)) ed_int))) (by simp)) (fun h => nomatch h) (fun _ => ?_)
      refine s_if (b := false) (edt_is (edt_not (edt_B (ed_all (bs := [true, true]) (ed_ofL (edl_lct (js := [3]) (vs := [3]) (ds := [.int p.1, .int p.2]) (outs := [.bool true, .bool true]) (fun n => [par (psD ps), par (psD qs), fl (pT p), fl (([.int p.1, .int p.2] : List PyData).getD n .none)]) (ed_fl rfl) rfl (by decide) rfl (by simp) (fun n d hd => ?_) (fun n d o hd ho => ?_)))))) rfl) (fun h => nomatch h) (fun _ => sk_nxK [2] ⟨rfl, trivial⟩)
      · match n, hd with
        | 0, hd => cases hd; exact gd_name rfl
        | 1, hd => cases hd; exact gd_name rfl
      · match n, hd, ho with
        | 0, hd, ho => cases hd; cases ho; exact ed_andV (ed_isi (b := true) (ed_fl rfl) rfl) fun _ => ed_notV (ed_isi (b := false) (ed_fl rfl) rfl)
        | 1, hd, ho => cases hd; cases ho; exact ed_andV (ed_isi (b := true) (ed_fl rfl) rfl) fun _ => ed_notV (ed_isi (b := false) (ed_fl rfl) rfl)
    · refine sk_retE q (ed_eqD (ed_par rfl) (ed_par rfl) (shaped_ps _) (shaped_ps _)) ?_
      rw [eqv_ps]
abbrev s__law_shown : Stmt := top 46
abbrev N__law_shown : List Str := ["found", "corners", "one"]
theorem sc__law_shown : FnScope N__law_shown ["found", "corners"] (defScope s__law_shown) := ⟨rfl, rfl, rfl, by decide +kernel, rfl, by decide +kernel, by decide +kernel⟩
theorem ok__law_shown {f : Addr} {fd : FuncData} (F : Fun K "_law_shown" "_law_shown" s__law_shown f fd) (h__law_together : Has P w K mg base CX0 "_law_together" 4 ["one", "other"] (spL K R__law_together)) (h__law_good : Has P w K mg base CX0 "_law_good" 3 ["corners"] (spD K R_is_shape)) (h__law_points_like : Has P w K mg base CX0 "_law_points_like" 1 ["found", "due"] (spD K R__law_points_like)) (m_list : mg "list" = none) (m_len : mg "len" = none) (m_isinstance : mg "isinstance" = none) (m_tuple : mg "tuple" = none) : FnOk P w K mg base CX0 6 f fd ["found", "corners"] (spD K R_shownP) := by
  have nd := sc__law_shown.nd
  refine okD F sc__law_shown (fun _ _ ⟨_, _, _, _, _, _, _, _, _, _, _, e, _⟩ => by rw [e]; rfl) fun cdv A outer s H E ds d hr hR => ?_
  have hu65 := Rs.hu65 hr
  obtain ⟨d, e, co, hd, he, d2, e2, hde, ds, es, ht, rfl, rfl⟩ := hR
  refine ⟨_, (pss_cons (ps_if (PW.pt (pw_or (pt_not (pt_val (pe_callB (isiK (K := K) rfl) (by rfl) m_isinstance (by decide +kernel) (pa_cons (pv 0) (pa_cons (pe_bltn (v := .ty "tuple") (by rfl) m_tuple (by decide +kernel) rfl) pa_nil))))) (pw_or1 (pt_cmpR op_ne (pe_callB (call_lenK (K := K) rfl) (by rfl) m_len PySem.boot_len (pa_cons (pv 0) pa_nil)) pe_int (nomark _))))) (pss_one (ps_ret pe_bl)) pss_nil)
      (pss_cons (ps_for PassesOwn.never rfl (pi_tup (pv 0)) (pg_name (i := 2) nd rfl (by first | exact Or.inl rfl | exact Or.inr rfl)) (pss_cons (ps_if (PW.pt (pw_or (pt_not (pt_val (pe_callB (isiK (K := K) rfl) (by rfl) m_isinstance (by decide +kernel) (pa_cons (pv 2) (pa_cons (pe_bltn (v := .ty "list") (by rfl) m_list (by decide +kernel) rfl) pa_nil))))) (pw_or (pt_cmpR op_lt (pe_callB (call_lenK (K := K) rfl) (by rfl) m_len PySem.boot_len (pa_cons (pv 2) pa_nil)) pe_int (nomark _)) (pw_or1 (pt_not (pt_val (pe_callH h__law_points_like (hr.mono (by decide)) (by rfl) (pa_cons (pv 2) (pa_cons (pe_callTy (call_listK (K := K) rfl) (by rfl) m_list (by decide +kernel) (pa_cons (pv 2) pa_nil)) pa_nil))))))))) (pss_one (ps_ret pe_bl)) pss_nil)
      (pss_one (ps_if (pt_not (pt_val (pe_callH h__law_good (hr.mono (by decide)) (by rfl) (pa_cons (pv 2) pa_nil)))) (pss_one (ps_ret pe_bl)) pss_nil))))
      (pss_one (ps_ret (pe_cmpR (eqDK (K := K) rfl hr.units) (pe_callH h__law_together (hr.mono (by decide)) (by rfl) (pa_cons (pe_ix (ixTK (K := K) rfl) (pv 0) pe_int (fun _ _ => rfl)) (pa_cons (pe_ix (ixTK (K := K) rfl) (pv 0) pe_int (fun _ _ => rfl)) pa_nil))) (pv 1) (nomark _)))))), fun Q q => ?_⟩
  · try simp only [blk_K, cx_K, cx_P, cx_w, cx_K', cx_P', cx_w']
    show Sk K H ([par (twoT d e), par (psD co), un]) _
    refine q_if (b := false) (edt_is (edt_or (edt_not (edt_B (ed_isi (b := true) (ed_par rfl) rfl))) (fun _ => edt_test (ed_neI (ed_lenT (ds := [psD d, psD e]) (ed_par rfl)) ed_int))) rfl) (fun h => nomatch h) (fun _ => ?_)
    refine q_forTP (k := 0) (m := 2) (ds := [psD d, psD e]) rfl (fun _ => [par (twoT d e), par (psD co), un]) (fun _ => True) rfl trivial (fun He' hb' i x hx _ => ?_) (fun _ => ?_)
    · obtain ⟨z, rfl, hz, z2, z10, zs⟩ : ∃ z : List Pt, x = psD z ∧ IsShape z ∧ 2 ≤ z.length ∧ z.length ≤ 10 ∧ Sms 1000000 z := by
        match i, hx with
        | 0, hx => cases hx; exact ⟨d, rfl, hd, d2, by omega, ds⟩
        | 1, hx => cases hx; exact ⟨e, rfl, he, e2, by omega, es⟩
        | n + 2, hx => simp at hx
      refine q_if (b := false) (edt_is (edt_or (edt_not (edt_B (ed_isi (b := true) (ed_par rfl) rfl))) (fun _ => edt_or (edt_test (ed_lt (ed_len (ed_par rfl)) ed_int)) (fun _ => edt_not (edt_B (ed_like (ed_par rfl) (ed_ofL (edl_list (ed_par rfl))) (by omega)))))) (by rw [decide_eq_false (by omega), decide_eq_true rfl]; rfl)) (fun h => nomatch h) (fun _ => ?_)
      refine s_if (b := false) (edt_not (a := true) (edt_B (ed_good (b := true) (ed_par rfl) (by omega) (fun p hp => (zs p hp).mono (by decide)) (by simp [hz])))) (fun h => nomatch h) (fun _ => sk_nxK [2] ⟨rfl, trivial⟩)
    · refine sk_retE q (ed_eqD (x := psD (Rm.together d e)) (y := psD co) (ed_ofL (edl_lawTogether (n := 1000000) (m := 1000000) (ed_ixT (ed_par rfl) ed_int rfl) (ed_ixT (ed_par rfl) ed_int rfl) ?_ ds es (by decide) hd he)) (ed_par rfl) (shaped_ps _) (shaped_ps _)) ?_
      · have h8 : d.length ≤ 8 := by omega
        have h9 : e.length ≤ 8 := by omega
        exact Nat.le_trans (Nat.mul_le_mul h8 h9) (by decide)
      · rw [eqv_ps, ht]
        simp
abbrev s_choices : Stmt := top 23
abbrev N_choices : List Str := ["steps", "found", "step", "more", "total", "choice", "taken", "there", "rows"]
theorem sc_choices : FnScope N_choices ["steps"] (defScope s_choices) := ⟨rfl, rfl, rfl, by decide +kernel, rfl, by decide +kernel, by decide +kernel⟩
theorem ok_choices {f : Addr} {fd : FuncData} (F : Fun K "choices" "choices" s_choices f fd) (m_list : mg "list" = none) (m_len : mg "len" = none) (m_int : mg "int" = none) : FnOk P w K mg base CX0 1 f fd ["steps"] (spC K R_choices) := by
  have nd := sc_choices.nd
  refine okC F sc_choices (fun _ _ ⟨_, _, e, _⟩ => by rw [e]; rfl) fun cdv A outer s H E ds d hr hR => ?_
  have hu65 := Rs.hu65 hr
  obtain ⟨ss, hl, rfl, rfl⟩ := hR
  refine ⟨_, (pss_cons (ps_set (i := 1) nd rfl (by first | exact Or.inl rfl | exact Or.inr rfl) (RsU.pe_disp1 (hu1 hu65) (pe_tup (pa_cons pe_int (pa_cons pe_int pa_nil))) (pe_lst (pa_cons (pe_lst pa_nil) pa_nil))))
      (pss_cons (ps_for PassesOwn.never rfl (pi_list (pv 0)) (pg_name (i := 2) nd rfl (by first | exact Or.inl rfl | exact Or.inr rfl)) (pss_cons (ps_set (i := 3) nd rfl (by first | exact Or.inl rfl | exact Or.inr rfl) pe_dnewT)
      (pss_cons (ps_for PassesOwn.never rfl (pi_list (pe_callTy (call_list_dT rfl) (by rfl) m_list (by decide +kernel) (pa_cons (pv 1) pa_nil))) (pg_name (i := 4) nd rfl (by first | exact Or.inl rfl | exact Or.inr rfl)) (pss_one (ps_for PassesOwn.never rfl (pi_list (pe_dget (hu1 hu65) (pv 1) (pv 4) (fun _ _ => rfl))) (pg_name (i := 5) nd rfl (by first | exact Or.inl rfl | exact Or.inr rfl)) (pss_one (ps_for PassesOwn.never rfl (pi_tup (pe_tup (pa_cons pe_bl (pa_cons pe_bl pa_nil)))) (pg_name (i := 6) nd rfl (by first | exact Or.inl rfl | exact Or.inr rfl)) (pss_cons (ps_set (i := 7) nd rfl (by first | exact Or.inl rfl | exact Or.inr rfl) (pe_tup (pa_cons (pe_op op_add (pe_ix (ixTK (K := K) rfl) (pv 4) pe_int (fun _ _ => rfl)) (pe_op op_mul (pe_ix (ixTK (K := K) rfl) (pv 2) pe_int (fun _ _ => rfl)) (pe_callTy call_int1 (by rfl) m_int (by decide +kernel) (pa_cons (pv 6) pa_nil)))) (pa_cons (pe_op op_add (pe_ix (ixTK (K := K) rfl) (pv 4) pe_int (fun _ _ => rfl)) (pe_op op_mul (pe_ix (ixTK (K := K) rfl) (pv 2) pe_int (fun _ _ => rfl)) (pe_callTy call_int1 (by rfl) m_int (by decide +kernel) (pa_cons (pv 6) pa_nil)))) pa_nil))))
      (pss_cons (ps_set (i := 8) nd rfl (by first | exact Or.inl rfl | exact Or.inr rfl) (pe_dget2 (hu1 hu65) (pv 3) (pv 7) (pe_lst pa_nil) ⟨rfl, rfl, rfl, rfl⟩))
      (pss_one (ps_if (pt_cmpR op_lt (pe_callB (call_lenK (K := K) rfl) (by rfl) m_len PySem.boot_len (pa_cons (pv 8) pa_nil)) pe_int (nomark _)) (pss_one (ps_dput (hu1 hu65) (pv 3) (pv 7) (pe_op op_cat (pv 8) (pe_lst (pa_cons (pe_op op_cat (pv 5) (pe_lst (pa_cons (pv 6) pa_nil))) pa_nil))) rfl)) pss_nil)))))))))
      (pss_one (ps_set (i := 1) nd rfl (by first | exact Or.inl rfl | exact Or.inr rfl) (pv 3))))))
      (pss_one (ps_ret (pv 1))))), fun Q q => ?_⟩
  · try simp only [blk_K, cx_K, cx_P, cx_w, cx_K', cx_P', cx_w']
    show Sk K H ([par (psD ss), un, un, un, un, un, un, un, un]) _
    refine q_disp1 (k := 1) (F := H) (p := pt0) (d := rowsD [[]]) (Same.refl H) (edh_tup ed_int ed_int) (eds_lst (edsa_cons (eds_lst edsa_nil (Nat.zero_le _)) edsa_nil) (Nat.le_of_ble_eq_true rfl)) ?_
    show Sk K H [par (psD ss), cpar H (encT (choicesF [])), un, un, un, un, un, un, un] _
    refine q_forP (ds := ss.map pT) [2] rfl (fun i => [par (psD ss), cpar H (encT (choicesF (ss.take i))), un, un, un, un, un, un, un]) (fun _ => True) (fun i => [par (psD ss), cpar H (encT (choicesF (ss.take i))), fl (pT (at_ ss i)), un, un, un, un, un, un]) rfl trivial (fun i d hd _ => ?_) (fun He1 hb1 i d hd _ => ?_) (fun _ => ?_)
    · obtain ⟨hi, rfl⟩ := get_ps hd
      exact gd_name rfl
    · obtain ⟨hi, rfl⟩ := get_ps hd
      have step : ss.take (i + 1) = ss.take i ++ [at_ ss i] := by
        rw [List.take_add_one, at_get hi]
        rfl
      have hsn := choices_snoc (ss.take i) (at_ ss i)
      rw [← step] at hsn
      have hMl := choices_len (ss.take i)
      have hMr : ∀ tr ∈ choicesF (ss.take i), tr.2.length ≤ 2 ∧ ∀ r ∈ tr.2, r.length ≤ 10 := fun tr ht => ⟨(choices_row ht).1, fun r hr => by
        rw [(choices_row ht).2 r hr, List.length_take]
        omega⟩
      have hMk : ((choicesF (ss.take i)).map (·.1)).Nodup := (choices_ok _).ks
      have hpow : (choicesF (ss.take i)).length ≤ 4 ^ 9 := Nat.le_trans hMl (Nat.pow_le_pow_right (by decide) (by rw [List.length_take]; omega))
      generalize at_ ss i = s at hsn
      generalize choicesF (ss.take i) = M at hsn hMr hMk hpow
      refine q_asgC (k := 3) (F := H) hb1 fun l => ?_
      show Sk K He1 [par (psD ss), cpar H (encT M), fl (pT s), cdic H l (encT (foldM s [] (M.take 0))), un, un, un, un, un] _
      refine q_forKeys (k := 1) (m := 4) (F := H) (kvs := encT M) rfl (fun j => [par (psD ss), cpar H (encT M), fl (pT s), cdic H l (encT (foldM s [] (M.take j))), un, un, un, un, un]) (fun _ => True) rfl trivial (fun He2 hb2 j t x hx _ => ?_) (fun _ => ?_)
      · obtain ⟨rows, hj, rfl⟩ := encT_get hx
        have hjl : j < M.length := (List.getElem?_eq_some_iff.mp hj).1
        have hm := List.mem_of_getElem? hj
        have hv : valP (encT M) t = some (rowsD rows) := by
          rw [encT_val, valA_mem hMk hm]
          rfl
        obtain ⟨hr2, hrl⟩ := hMr _ hm
        have hr2 : rows.length ≤ 2 := hr2
        have stepM : M.take (j + 1) = M.take j ++ [(t, rows)] := by
          rw [List.take_add_one, hj]
          rfl
        have hfl := foldM_len s (M.take j) [] fun tr ht => (hMr tr (List.mem_of_mem_take ht)).1
        rw [List.length_nil, List.length_take] at hfl
        have hsnM := foldM_snoc s [] (M.take j) (t, rows)
        rw [← stepM] at hsnM
        generalize foldM s [] (M.take j) = N at hfl hsnM ⊢
        have hF2 := hb1.trans hb2
        refine sk_forSt (k := 5) (F := H) (ds := rows.map rowD) hF2 (eds_get (k := 1) rfl (edh_var rfl) hv) (fun r => [par (psD ss), cpar H (encT M), fl (pT s), cdic H l (encT (foldR s t N (rows.take r))), hp t, un, un, un, un]) (fun _ => True) rfl trivial (fun He3 hb3 r x hx _ => ?_) (fun _ => ?_)
        · obtain ⟨ch, hch, rfl⟩ : ∃ ch, rows[r]? = some ch ∧ x = rowD ch := by
            rw [List.getElem?_map] at hx
            cases e : rows[r]? with
            | none => rw [e] at hx; cases hx
            | some ch =>
              rw [e] at hx
              exact ⟨ch, rfl, (Option.some.inj hx).symm⟩
          have hchl := hrl ch (List.mem_of_getElem? hch)
          have hrr : r < rows.length := (List.getElem?_eq_some_iff.mp hch).1
          have stepR : rows.take (r + 1) = rows.take r ++ [ch] := by
            rw [List.take_add_one, hch]
            rfl
          have hfl3 := foldRw_len s t (rows.take r) N
          rw [List.length_take] at hfl3
          have hsnR := foldR_snoc s t N (rows.take r) ch
          rw [← stepR] at hsnR
          generalize foldR s t N (rows.take r) = N2 at hfl3 hsnR ⊢
          have hF3 := hF2.trans hb3
          refine sk_forTup (k := 6) (ds := [PyData.bool true, PyData.bool false]) (ed_tup (eda_cons ed_bl (eda_cons ed_bl eda_nil)) (Nat.le_of_ble_eq_true rfl)) rfl (fun n => [par (psD ss), cpar H (encT M), fl (pT s), cdic H l (encT (foldB s t ch N2 ([true, false].take n))), hp t, sp H (rowD ch), un, un, un]) (fun _ => True) rfl trivial (fun He4 hb4 n x hx _ => ?_) (fun _ => ?_)
          · obtain ⟨b, hb, rfl⟩ : ∃ b, ([true, false] : List Bool)[n]? = some b ∧ x = .bool b := by
              match n, hx with
              | 0, hx => cases hx; exact ⟨true, rfl, rfl⟩
              | 1, hx => cases hx; exact ⟨false, rfl, rfl⟩
              | n + 2, hx => simp at hx
            have stepB : ([true, false] : List Bool).take (n + 1) = ([true, false] : List Bool).take n ++ [b] := by
              rw [List.take_add_one, hb]
              rfl
            have hfl4 := foldB_len s t ch (([true, false] : List Bool).take n) N2
            rw [List.length_take] at hfl4
            have h2l : ([true, false] : List Bool).length = 2 := rfl
            have hsnB := foldB_snoc s t ch N2 (([true, false] : List Bool).take n) b
            rw [← stepB] at hsnB
            generalize foldB s t ch N2 (([true, false] : List Bool).take n) = N3 at hfl4 hsnB ⊢
            have hF4 := hF3.trans hb4
            have sT : ∀ e : List (Sl K), e[4]? = some (hp t) → Ed (K := K) (tVar 4) e (pT t) := fun e h => ed_H (edh_var h)
            have hmb : ∀ z : Int, CMul z (if b = true then 1 else 0) := fun z => by
              cases b <;> exact Or.inr ⟨by decide, by decide⟩
            refine q_asgH (k := 7) (p := thereF t s b) (edh_tup (ed_add (ed_ixT (sT _ rfl) ed_int rfl) (ed_mul (ed_ixT (ed_fl rfl) ed_int rfl) (ed_intB (ed_fl rfl)) (hmb _))) (ed_add (ed_ixT (sT _ rfl) ed_int rfl) (ed_mul (ed_ixT (ed_fl rfl) ed_int rfl) (ed_intB (ed_fl rfl)) (hmb _)))) ?_
            refine q_asgS (k := 8) (F := H) (d := rowsD (rowsA N3 (thereF t s b))) hF4 (eds_is (eds_get2 (k := 3) rfl (edh_var rfl) (eds_lst edsa_nil (Nat.zero_le _))) (encT_rows _ _)) ?_
            refine s_if (b := decide ((rowsA N3 (thereF t s b)).length < 2)) (edt_is (edt_test (ed_lt (ed_lenL (ds := (rowsA N3 (thereF t s b)).map rowD) (ed_sp rfl)) ed_int)) (by rw [List.length_map]; exact decide_eq_decide.mpr (by omega))) (fun hlt => ?_) (fun hge => ?_)
            · have hlt' := of_decide_eq_true hlt
              refine sk_cput (k := 3) (F := H) (p := thereF t s b) (d := rowsD (rowsA N3 (thereF t s b) ++ [ch ++ [b]])) hF4 rfl (edh_var rfl) (eds_is (eds_cat (ds := (rowsA N3 (thereF t s b)).map rowD) (eds_var rfl) (eds_lst (edsa_cons (eds_cat (ds := ch.map PyData.bool) (eds_var rfl) (eds_lst (edsa_cons (eds_bl (ed_fl rfl)) edsa_nil) (Nat.le_of_ble_eq_true rfl)) (by rw [List.length_map, List.length_singleton]; omega)) edsa_nil) (Nat.le_of_ble_eq_true rfl)) (by rw [List.length_map, List.length_singleton]; omega)) (by unfold rowsD rowD; rw [List.map_append, List.map_singleton, List.map_append, List.map_singleton])) (by rw [encT_len]; omega) ?_
              rw [encT_put]
              refine sk_nxK [6, 7, 8] ⟨?_, trivial⟩
              rw [hsnB]
              unfold putC
              rw [if_pos hlt']
              rfl
            · have hge' := of_decide_eq_false hge
              refine sk_nxK [6, 7, 8] ⟨?_, trivial⟩
              rw [hsnB]
              unfold putC
              rw [if_neg hge']
              rfl
          · refine sk_nxK [5] ⟨?_, trivial⟩
            rw [hsnR]
            rfl
        · refine sk_nxK [4] ⟨?_, trivial⟩
          rw [hsnM, List.length_map, List.take_length]
          rfl
      · rw [encT_len, List.take_length]
        refine sk_move (k := 3) (j := 1) (F := H) rfl (sk_nxK [2] ⟨?_, trivial⟩)
        rw [hsn]
        rfl
    · rw [List.length_map, List.take_length]
      exact sk_retC (k := 1) rfl q
abbrev s_shape_by : Stmt := top 16
abbrev N_shape_by : List Str := ["start", "arrows", "found", "arrow"]
theorem sc_shape_by : FnScope N_shape_by ["start", "arrows"] (defScope s_shape_by) := ⟨rfl, rfl, rfl, by decide +kernel, rfl, by decide +kernel, by decide +kernel⟩
theorem ok_shape_by {f : Addr} {fd : FuncData} (F : Fun K "shape_by" "shape_by" s_shape_by f fd) : FnOk P w K mg base CX0 1 f fd ["start", "arrows"] (spL K R_shape_by) := by
  have nd := sc_shape_by.nd
  refine okL F sc_shape_by (fun _ _ ⟨_, _, _, e, _⟩ => by rw [e]; rfl) fun cdv A outer s H E ds d hr hR => ?_
  have hu65 := Rs.hu65 hr
  obtain ⟨s, as, hl, rfl, rfl⟩ := hR
  refine ⟨_, (pss_cons (ps_set (i := 2) nd rfl (by first | exact Or.inl rfl | exact Or.inr rfl) (pe_lst (pa_cons (pv 0) pa_nil)))
      (pss_cons (ps_for PassesOwn.never rfl (pi_list (pe_slice (slLK (K := K) rfl) (pv 1) po_none (po_some (pe_un un_neg pe_int)))) (pg_name (i := 3) nd rfl (by first | exact Or.inl rfl | exact Or.inr rfl)) (pss_one (ps_expr (pe_bm PySem.F.plainAttrs_list PySem.F.slot_list_append PySem.F.type_list_append mt_append (pv 2) (pa_cons (pe_tup (pa_cons (pe_op op_add (pe_ix (ixTK (K := K) rfl) (pe_ix (ixLK (K := K) rfl) (pv 2) (pe_un un_neg pe_int) (fun _ _ => rfl)) pe_int (fun _ _ => rfl)) (pe_ix (ixTK (K := K) rfl) (pv 3) pe_int (fun _ _ => rfl))) (pa_cons (pe_op op_add (pe_ix (ixTK (K := K) rfl) (pe_ix (ixLK (K := K) rfl) (pv 2) (pe_un un_neg pe_int) (fun _ _ => rfl)) pe_int (fun _ _ => rfl)) (pe_ix (ixTK (K := K) rfl) (pv 3) pe_int (fun _ _ => rfl))) pa_nil))) pa_nil)))))
      (pss_one (ps_ret (pv 2))))), fun Q q => ?_⟩
  · try simp only [blk_K, cx_K, cx_P, cx_w, cx_K', cx_P', cx_w']
    show Sk K H ([par (pT s), par (psD as), un, un]) _
    refine q_asgL (edl_lst (eda_cons (ed_par rfl) eda_nil) (Nat.le_of_ble_eq_true rfl)) rfl fun l => ?_
    show Sk K H [par (pT s), par (psD as), own l [pT s], un] _
    refine q_forN (ds := as.dropLast.map pT) [3] (edl_is (edl_slice (ed_par rfl) edo_none (edo_some (ed_neg ed_int))) (cut_last as)) (flat_ps _) (fun i => [par (pT s), par (psD as), own l ((pathF s (as.dropLast.take i)).map pT), un]) (fun _ => True) (fun i => [par (pT s), par (psD as), own l ((pathF s (as.dropLast.take i)).map pT), fl (pT (at_ as.dropLast i))]) rfl trivial (fun i d hd _ => ?_) (fun He' hb' i d hd _ => ?_) (fun _ => ?_)
    · obtain ⟨hi, rfl⟩ := get_ps hd
      exact gd_name rfl
    · obtain ⟨hi, rfl⟩ := get_ps hd
      have step : as.dropLast.take (i + 1) = as.dropLast.take i ++ [at_ as.dropLast i] := by
        rw [List.take_add_one, at_get hi]
        rfl
      have hn := pathF_len (as.dropLast.take i) s
      have hm : (as.dropLast.take i).length ≤ 2000 := by
        rw [List.length_take, List.length_dropLast]
        omega
      have el : atI ((pathF s (as.dropLast.take i)).map pT) (-1) = some (pT (endF s (as.dropLast.take i))) := by
        obtain ⟨r, hr⟩ := pathF_last (as.dropLast.take i) s
        rw [hr]
        exact atI_lastR _ _
      generalize hx : endF s (as.dropLast.take i) = x at el
      generalize hy : at_ as.dropLast i = y at step
      have hlast : ∀ e : List (Sl K), e[2]? = some (own l ((pathF s (as.dropLast.take i)).map pT)) → Ed (tOp (rIxL K) (tVar 2) (tUn (rU fun i => .int (-i)) (tC (.int 1)))) e (pT x) := fun e he => ed_ixL (ed_own he) (ed_neg ed_int) el
      refine sk_append (ds := (pathF s (as.dropLast.take i)).map pT) (d := pT (addp x y)) rfl ?_ rfl (by rw [List.length_map]; omega) (sk_nxK [3] ⟨?_, trivial⟩)
      · exact ed_tup (eda_cons (ed_add (ed_ixT (hlast _ rfl) ed_int rfl) (ed_ixT (ed_fl rfl) ed_int rfl)) (eda_cons (ed_add (ed_ixT (hlast _ rfl) ed_int rfl) (ed_ixT (ed_fl rfl) ed_int rfl)) eda_nil)) (Nat.le_of_ble_eq_true rfl)
      · rw [step, pathF_snoc, hx, List.map_append]
        rfl
    · rw [List.length_map, List.take_length]
      exact sk_retO (k := 2) (l := l) rfl q
abbrev s_gathered : Stmt := top 24
abbrev N_gathered : List Str := ["steps", "found", "step", "many"]
theorem sc_gathered : FnScope N_gathered ["steps"] (defScope s_gathered) := ⟨rfl, rfl, rfl, by decide +kernel, rfl, by decide +kernel, by decide +kernel⟩
theorem ok_gathered {f : Addr} {fd : FuncData} (F : Fun K "gathered" "gathered" s_gathered f fd) : FnOk P w K mg base CX0 1 f fd ["steps"] (spG K R_gathered) := by
  have nd := sc_gathered.nd
  refine okG F sc_gathered (rfl) fun cdv A outer s H E ds d hr hR => ?_
  have hu65 := Rs.hu65 hr
  obtain ⟨hl, rfl⟩ := hR
  refine ⟨_, (pss_cons (ps_set (i := 1) nd rfl (by first | exact Or.inl rfl | exact Or.inr rfl) pe_dnewT)
      (pss_cons (ps_for PassesOwn.never rfl (pi_list (pv 0)) (pg_name (i := 2) nd rfl (by first | exact Or.inl rfl | exact Or.inr rfl)) (pss_one (ps_dput (hu1 hu65) (pv 1) (pv 2) (pe_op op_add (pe_dget2 (hu1 hu65) (pv 1) (pv 2) pe_int ⟨rfl, rfl, rfl, rfl⟩) pe_int) rfl)))
      (pss_one (ps_lock (ps_ret (pe_lc (own := [("step", 2), ("many", 3)]) (g := (gTup K 2 (gCons (gName 2) (gCons (gName 3) gNil)))) (tt := tYes) rfl nd (RsI.pi_itemsT (pv 1)) (blkOk_by (own := [("step", 2), ("many", 3)]) (N := N_gathered) (sc := defScope s_gathered) (by decide +kernel)) (fun _ _ _ _ _ => (pg_tup (by rfl) (pgs_cons (pg_name (i := 2) nd rfl (by first | exact Or.inl rfl | exact Or.inr rfl)) (pgs_cons (pg_name (i := 3) nd rfl (by first | exact Or.inl rfl | exact Or.inr rfl)) pgs_nil)))) (fun _ _ _ _ _ => pts_nil) (fun _ _ _ _ _ => (pe_tup (pa_cons (pe_op op_mul (pv 3) (pe_ix (ixTK (K := K) rfl) (pv 2) pe_int (fun _ _ => rfl))) (pa_cons (pe_op op_mul (pv 3) (pe_ix (ixTK (K := K) rfl) (pv 2) pe_int (fun _ _ => rfl))) pa_nil)))))))))), fun Q q => ?_⟩
  · try simp only [blk_K, cx_K, cx_P, cx_w, cx_K', cx_P', cx_w']
    show Sk K H ([parH ds, un, un, un]) _
    refine q_asgD fun dl => ?_
    show Sk K H [parH ds, dic dl (encI (gathK [])), un, un] _
    refine q_forPH (k := 0) (m := 2) (ps := ds) rfl (fun i => [parH ds, dic dl (encI (gathK (ds.take i))), un, un]) (fun _ => True) rfl trivial (fun He' hb' i p hp' _ => ?_) (fun _ => ?_)
    · have step : ds.take (i + 1) = ds.take i ++ [p] := by
        rw [List.take_add_one, hp']
        rfl
      have hsn := gath_snoc (ds.take i) p
      rw [← step] at hsn
      have hln := (gathK_ok (ds.take i)).1
      rw [List.length_take] at hln
      refine sk_dput (k := 1) (p := p) (d := .int ((valA (gathK (ds.take i)) p).getD 0 + 1)) rfl (edh_var rfl) (ed_add (ed_is (ed_dget2 (k := 1) rfl (edh_var rfl) ed_int) (encI_val _ _)) ed_int) rfl (by rw [encI_len]; omega) ?_
      rw [encI_put, ← hsn]
      exact sk_nxK [2] ⟨rfl, trivial⟩
    · rw [List.take_length]
      obtain ⟨h1, h2⟩ := gathK_ok ds
      have hkept : kept ((gathK ds).map fun kn => some (pT (kn.2 * kn.1.1, kn.2 * kn.1.2))) = (gath ds).map pT := by
        unfold gath
        rw [List.map_map, ← kept_some (List.map _ _), List.map_map]
        rfl
      rw [← hkept] at q
      have hent : ∀ (n : Nat) (p : Pt) (x : PyData), (encI (gathK ds))[n]? = some (p, x) → ∃ z : Int, (gathK ds)[n]? = some (p, z) ∧ x = .int z ∧ 0 < z ∧ z ≤ 1000 := fun n p x h => by
        unfold encI at h
        rw [List.getElem?_map] at h
        cases e : (gathK ds)[n]? with
        | none => rw [e] at h; cases h
        | some kn =>
          rw [e] at h
          cases h
          have := h2 kn (List.mem_of_getElem? e)
          exact ⟨kn.2, rfl, rfl, this.1, by omega⟩
      refine sk_itemsRet (k := 1) (i := 2) (j := 3) (os := (gathK ds).map fun kn => some (pT (kn.2 * kn.1.1, kn.2 * kn.1.2))) rfl (by decide) (by rw [hkept]; exact flat_ps _) (by rw [List.length_map]; omega) (by rw [List.length_map, encI_len]) (fun n p x oo hx ho => ?_) (fun n p x o hx ho => ?_) q
      · obtain ⟨z, e, rfl, _, _⟩ := hent n p x hx
        rw [List.getElem?_map, e] at ho
        cases ho
        exact edt_yes
      · obtain ⟨z, e, rfl, z1, z2⟩ := hent n p x hx
        rw [List.getElem?_map, e] at ho
        cases ho
        have su : Ed (K := K) (tVar 2) (((wipeE ([parH ds, dic dl (encI (gathK ds)), un, un].set 1 un) [2, 3]).set 2 (hp p)).set 3 (fl (.int z))) (pT p) := ed_H (edh_var rfl)
        exact ed_tup (eda_cons (ed_mul (ed_fl rfl) (ed_ixT su ed_int rfl) (Or.inl ⟨by omega, by omega⟩)) (eda_cons (ed_mul (ed_fl rfl) (ed_ixT su ed_int rfl) (Or.inl ⟨by omega, by omega⟩)) eda_nil)) (Nat.le_of_ble_eq_true rfl)
abbrev s_between : Stmt := top 9
abbrev N_between : List Str := ["one", "other"]
theorem sc_between : FnScope N_between ["one", "other"] (defScope s_between) := ⟨rfl, rfl, rfl, by decide +kernel, rfl, by decide +kernel, by decide +kernel⟩
theorem ok_between {f : Addr} {fd : FuncData} (F : Fun K "between" "between" s_between f fd) : FnOk P w K mg base CX0 1 f fd ["one", "other"] (spD K R_between) := by
  have nd := sc_between.nd
  refine okD F sc_between (fun _ _ ⟨_, _, e, _⟩ => by rw [e]; rfl) fun cdv A outer s H E ds d hr hR => ?_
  have hu65 := Rs.hu65 hr
  obtain ⟨a, b, rfl, rfl⟩ := hR
  refine ⟨_, (pss_one (ps_ret (pe_tup (pa_cons (pe_op op_sub (pe_ix (ixTK (K := K) rfl) (pv 1) pe_int (fun _ _ => rfl)) (pe_ix (ixTK (K := K) rfl) (pv 0) pe_int (fun _ _ => rfl))) (pa_cons (pe_op op_sub (pe_ix (ixTK (K := K) rfl) (pv 1) pe_int (fun _ _ => rfl)) (pe_ix (ixTK (K := K) rfl) (pv 0) pe_int (fun _ _ => rfl))) pa_nil))))), fun Q q => ?_⟩
  · try simp only [blk_K, cx_K, cx_P, cx_w, cx_K', cx_P', cx_w']
    show Sk K H ([par (pT a), par (pT b)]) _
    walk_at "ret"
abbrev s_sides_by : Stmt := top 12
abbrev N_sides_by : List Str := ["corners", "k"]
theorem sc_sides_by : FnScope N_sides_by ["corners"] (defScope s_sides_by) := ⟨rfl, rfl, rfl, by decide +kernel, rfl, by decide +kernel, by decide +kernel⟩
theorem ok_sides_by {f : Addr} {fd : FuncData} (F : Fun K "sides_by" "sides_by" s_sides_by f fd) (h_between : Has P w K mg base CX0 "between" 1 ["one", "other"] (spD K R_between)) (m_range : mg "range" = none) (m_len : mg "len" = none) : FnOk P w K mg base CX0 2 f fd ["corners"] (spL K R_sides_by) := by
  have nd := sc_sides_by.nd
  refine okL F sc_sides_by (fun _ _ ⟨_, _, e, _⟩ => by rw [e]; rfl) fun cdv A outer s H E ds d hr hR => ?_
  have hu65 := Rs.hu65 hr
  obtain ⟨c, hl, rfl, rfl⟩ := hR
  refine ⟨_, (pss_cons (ps_if (pt_cmpR op_lt (pe_callB (call_lenK (K := K) rfl) (by rfl) m_len PySem.boot_len (pa_cons (pv 0) pa_nil)) pe_int (nomark _)) (pss_one (ps_ret (pe_lst pa_nil))) pss_nil)
      (pss_one (ps_ret (pe_lc (own := [("k", 1)]) (g := (gName 1)) (tt := tYes) rfl nd (pi_range1 (by rfl) m_range (pa_cons (pe_callB (call_lenK (K := K) rfl) (by rfl) m_len PySem.boot_len (pa_cons (pv 0) pa_nil)) pa_nil)) (blkOk_by (own := [("k", 1)]) (N := N_sides_by) (sc := defScope s_sides_by) (by decide +kernel)) (fun _ _ _ _ _ => (pg_name (i := 1) nd rfl (by first | exact Or.inl rfl | exact Or.inr rfl))) (fun _ _ _ _ _ => pts_nil) (fun _ _ _ _ _ => (pe_callH h_between (hr.mono (by decide)) (by rfl) (pa_cons (pe_ix (ixLK (K := K) rfl) (pv 0) (pv 1) (fun _ _ => rfl)) (pa_cons (pe_ix (ixLK (K := K) rfl) (pv 0) (pe_op op_mod (pe_op op_add (pv 1) pe_int) (pe_callB (call_lenK (K := K) rfl) (by rfl) m_len PySem.boot_len (pa_cons (pv 0) pa_nil))) (fun _ _ => rfl)) pa_nil)))))))), fun Q q => ?_⟩
  · try simp only [blk_K, cx_K, cx_P, cx_w, cx_K', cx_P', cx_w']
    show Sk K H ([par (psD c), un]) _
    refine q_if (b := decide ((c.length : Int) < 2)) (edt_test (ed_lt (ed_len (ed_par rfl)) ed_int)) (fun hb => ?_) (fun hb => ?_)
    · have h2 : c.length < 2 := by
        have := of_decide_eq_true hb
        omega
      refine sk_retLE q (edl_lst eda_nil (Nat.zero_le _)) ?_
      unfold sidesBy
      rw [if_pos h2]
      rfl
    · skip
      have h2 : 2 ≤ c.length := by
        have := of_decide_eq_false hb
        omega
      have hs : (sidesBy c).length = c.length := by
        rw [sides_len, if_neg (by omega)]
      refine sk_retL (edl_lcR (outs := (sidesBy c).map pT) (eda_cons (ed_len (ed_par rfl)) eda_nil) (flat_ps _) (by rw [List.length_map, hs]; omega) (by simp) (fun i o ho => ?_) ⟨by omega, by omega⟩) q
      obtain ⟨hi, rfl⟩ := get_ps ho
      rw [hs] at hi
      rw [sides_at h2 hi]
      exact ed_btw (ed_at (ed_par rfl) (ed_fl rfl) hi) (ed_at (ed_par rfl) (ed_is (ed_mod (ed_add (ed_fl rfl) ed_int) (ed_len (ed_par rfl)) (by omega)) (by rw [modc])) (Nat.mod_lt _ (by omega)))
abbrev s_common : Stmt := top 17
abbrev N_common : List Str := ["one", "other", "rest"]
theorem sc_common : FnScope N_common ["one", "other"] (defScope s_common) := ⟨rfl, rfl, rfl, by decide +kernel, rfl, by decide +kernel, by decide +kernel⟩
theorem ok_common {f : Addr} {fd : FuncData} (F : Fun K "common" "common" s_common f fd) (m_abs : mg "abs" = none) : FnOk P w K mg base CX0 1 f fd ["one", "other"] (spD K R_common) := by
  have nd := sc_common.nd
  refine okD F sc_common (fun _ _ ⟨_, _, e, _⟩ => by rw [e]; rfl) fun cdv A outer s H E ds d hr hR => ?_
  have hu65 := Rs.hu65 hr
  obtain ⟨x, y, rfl, rfl⟩ := hR
  refine ⟨_, (pss_cons (ps_set (i := 0) nd rfl (by first | exact Or.inl rfl | exact Or.inr rfl) (pe_callB call_abs (by rfl) m_abs (by decide +kernel) (pa_cons (pv 0) pa_nil)))
      (pss_cons (ps_set (i := 1) nd rfl (by first | exact Or.inl rfl | exact Or.inr rfl) (pe_callB call_abs (by rfl) m_abs (by decide +kernel) (pa_cons (pv 1) pa_nil)))
      (pss_cons (ps_while PassesOwn.never (pt_cmpR op_gt (pv 1) pe_int (nomark _)) (pss_cons (ps_set (i := 2) nd rfl (by first | exact Or.inl rfl | exact Or.inr rfl) (pe_op op_mod (pv 0) (pv 1)))
      (pss_cons (ps_set (i := 0) nd rfl (by first | exact Or.inl rfl | exact Or.inr rfl) (pv 1))
      (pss_one (ps_set (i := 1) nd rfl (by first | exact Or.inl rfl | exact Or.inr rfl) (pv 2))))))
      (pss_one (ps_ret (pv 0)))))), fun Q q => ?_⟩
  · try simp only [blk_K, cx_K, cx_P, cx_w, cx_K', cx_P', cx_w']
    show Sk K H ([par (.int x), par (.int y), un]) _
    refine q_asg (d := .int (x.natAbs : Int)) (ed_is (ed_abs (ed_par rfl)) (by congr 1; split <;> omega)) rfl ?_
    refine q_asg (d := .int (y.natAbs : Int)) (ed_is (ed_abs (ed_par rfl)) (by congr 1; split <;> omega)) rfl ?_
    show Sk K H [fl (.int (x.natAbs : Int)), fl (.int (y.natAbs : Int)), un] _
    refine q_while (α := Nat × Nat) (fun a => [fl (.int (a.1 : Int)), fl (.int (a.2 : Int)), un]) (fun a => Nat.gcd a.1 a.2 = Nat.gcd x.natAbs y.natAbs) (fun a => a.2) (x.natAbs, y.natAbs) rfl rfl (fun a hP => ?_)
    obtain ⟨u, v⟩ := a
    simp only at hP ⊢
    refine ⟨decide (0 < (v : Int)), edt_test (ed_gt (ed_fl rfl) ed_int), fun h1 => ?_, fun h1 => ?_⟩
    · have hv : 0 < v := by
        have := of_decide_eq_true h1
        omega
      refine q_asg (d := .int ((u % v : Nat) : Int)) (ed_is (ed_mod (ed_fl rfl) (ed_fl rfl) (by omega)) (by rw [Int.natCast_emod])) rfl ?_
      refine q_asg (ed_fl rfl) rfl ?_
      refine sk_asg (ed_fl rfl) rfl (sk_kill [2] (sk_nx ⟨(v, u % v), ?_, Nat.mod_lt _ hv, rfl⟩))
      show Nat.gcd v (u % v) = _
      rw [← hP, Nat.gcd_comm v, ← Nat.gcd_rec, Nat.gcd_comm]
    · have hv : v = 0 := by
        have := of_decide_eq_false h1
        omega
      subst hv
      refine sk_retE q (ed_fl rfl) ?_
      unfold gcdP
      rw [← hP, Nat.gcd_zero_right]
abbrev s_step_of : Stmt := top 18
abbrev N_step_of : List Str := ["arrow", "many"]
theorem sc_step_of : FnScope N_step_of ["arrow"] (defScope s_step_of) := ⟨rfl, rfl, rfl, by decide +kernel, rfl, by decide +kernel, by decide +kernel⟩
theorem ok_step_of {f : Addr} {fd : FuncData} (F : Fun K "step_of" "step_of" s_step_of f fd) (h_common : Has P w K mg base CX0 "common" 1 ["one", "other"] (spD K R_common)) : FnOk P w K mg base CX0 2 f fd ["arrow"] (spU K R_step_of) := by
  have nd := sc_step_of.nd
  refine okU F sc_step_of (fun _ _ ⟨_, _, _, e, _⟩ => by rw [e]; rfl) fun cdv A outer s H E ds d hr hR => ?_
  have hu65 := Rs.hu65 hr
  obtain ⟨a, na, hs, rfl, rfl⟩ := hR
  refine ⟨_, (pss_cons (ps_set (i := 1) nd rfl (by first | exact Or.inl rfl | exact Or.inr rfl) (pe_callH h_common (hr.mono (by decide)) (by rfl) (pa_cons (pe_ix (ixTK (K := K) rfl) (pv 0) pe_int (fun _ _ => rfl)) (pa_cons (pe_ix (ixTK (K := K) rfl) (pv 0) pe_int (fun _ _ => rfl)) pa_nil))))
      (pss_one (ps_ret (pe_tup (pa_cons (pe_tup (pa_cons (pe_op op_fdiv (pe_ix (ixTK (K := K) rfl) (pv 0) pe_int (fun _ _ => rfl)) (pv 1)) (pa_cons (pe_op op_fdiv (pe_ix (ixTK (K := K) rfl) (pv 0) pe_int (fun _ _ => rfl)) (pv 1)) pa_nil))) (pa_cons (pv 1) pa_nil)))))), fun Q q => ?_⟩
  · try simp only [blk_K, cx_K, cx_P, cx_w, cx_K', cx_P', cx_w']
    show Sk K H ([par (pT a), un]) _
    have hp := gcdP_pos na
    have hle := gcdP_le hs na
    refine q_asg (ed_common (ed_ixT (ed_par rfl) ed_int rfl) (ed_ixT (ed_par rfl) ed_int rfl)) rfl ?_
    exact sk_retU (edh_tup (ed_fdiv (ed_ixT (ed_par rfl) ed_int rfl) (ed_fl rfl) ⟨hp, by show gcdP a < _; omega⟩) (ed_fdiv (ed_ixT (ed_par rfl) ed_int rfl) (ed_fl rfl) ⟨hp, by show gcdP a < _; omega⟩)) (ed_fl rfl) q
abbrev s_lengths : Stmt := top 19
abbrev N_lengths : List Str := ["corners", "found", "arrow", "step", "many"]
theorem sc_lengths : FnScope N_lengths ["corners"] (defScope s_lengths) := ⟨rfl, rfl, rfl, by decide +kernel, rfl, by decide +kernel, by decide +kernel⟩
theorem ok_lengths {f : Addr} {fd : FuncData} (F : Fun K "lengths" "lengths" s_lengths f fd) (h_sides_by : Has P w K mg base CX0 "sides_by" 2 ["corners"] (spL K R_sides_by)) (h_step_of : Has P w K mg base CX0 "step_of" 2 ["arrow"] (spU K R_step_of)) : FnOk P w K mg base CX0 3 f fd ["corners"] (spK K R_lengths) := by
  have nd := sc_lengths.nd
  refine okK F sc_lengths (fun _ _ ⟨_, _, _, _, e, _⟩ => by rw [e]; rfl) fun cdv A outer s H E ds d hr hR => ?_
  have hu65 := Rs.hu65 hr
  obtain ⟨c, hl, hs, hc, rfl, rfl⟩ := hR
  refine ⟨_, (pss_cons (ps_set (i := 1) nd rfl (by first | exact Or.inl rfl | exact Or.inr rfl) pe_dnewT)
      (pss_cons (ps_for PassesOwn.never rfl (pi_list (pe_callH h_sides_by (hr.mono (by decide)) (by rfl) (pa_cons (pv 0) pa_nil))) (pg_name (i := 2) nd rfl (by first | exact Or.inl rfl | exact Or.inr rfl)) (pss_cons (ps_asg (pe_callH h_step_of (hr.mono (by decide)) (by rfl) (pa_cons (pv 2) pa_nil)) (pg_tup (by rfl) (pgs_cons (pg_name (i := 3) nd rfl (by first | exact Or.inl rfl | exact Or.inr rfl)) (pgs_cons (pg_name (i := 4) nd rfl (by first | exact Or.inl rfl | exact Or.inr rfl)) pgs_nil))))
      (pss_one (ps_dput (hu1 hu65) (pv 1) (pv 3) (pv 4) rfl))))
      (pss_one (ps_ret (pv 1))))), fun Q q => ?_⟩
  · try simp only [blk_K, cx_K, cx_P, cx_w, cx_K', cx_P', cx_w']
    show Sk K H ([par (psD c), un, un, un, un]) _
    have hA := hc.ang
    have hss := sms_sides hs (by decide)
    have hun := units_apart hA
    have hsl : (sidesBy c).length ≤ 1000 := by
      rw [sides_len]
      split <;> omega
    refine q_asgD fun dl => ?_
    show Sk K H [par (psD c), dic dl [], un, un, un] _
    refine q_forN (ds := (sidesBy c).map pT) [2] (edl_sidesBy (ed_par rfl) hl) (flat_ps _) (fun i => [par (psD c), dic dl (lenK ((sidesBy c).take i)), un, un, un]) (fun _ => True) (fun i => [par (psD c), dic dl (lenK ((sidesBy c).take i)), fl (pT (at_ (sidesBy c) i)), un, un]) rfl trivial (fun i d hd _ => ?_) (fun He' hb' i d hd _ => ?_) (fun _ => ?_)
    · obtain ⟨hi, rfl⟩ := get_ps hd
      exact gd_name rfl
    · obtain ⟨hi, rfl⟩ := get_ps hd
      have hm := at_mem hi
      have na := hA.nz' _ hm
      have sa := hss _ hm
      have step : (sidesBy c).take (i + 1) = (sidesBy c).take i ++ [at_ (sidesBy c) i] := by
        rw [List.take_add_one, at_get hi]
        rfl
      have hni : unitP (at_ (sidesBy c) i) ∉ ((sidesBy c).take i).map unitP := by
        have h1 : (((sidesBy c).take (i + 1)).map unitP).Nodup := by
          rw [List.map_take]
          exact (List.take_sublist _ _).nodup hun
        rw [step, List.map_append, List.nodup_append] at h1
        exact fun hx => h1.2.2 _ hx _ (List.mem_singleton.mpr rfl) rfl
      have hput := lenK_put hni
      have hlk := lenK_len ((sidesBy c).take i)
      rw [List.length_take] at hlk
      rw [← step] at hput
      generalize at_ (sidesBy c) i = a at na sa hput
      refine q_unp (edu_step (ed_fl rfl) na (sa.mono (by decide))) ?_
      refine sk_dput (k := 1) (p := unitP a) (d := .int (gcdP a)) rfl (edh_var rfl) (ed_fl rfl) rfl (by omega) ?_
      rw [hput]
      exact sk_nxK [2, 3, 4] ⟨rfl, trivial⟩
    · rw [List.length_map, List.take_length]
      exact sk_retD (k := 1) (l := dl) rfl q
abbrev s_cross : Stmt := top 8
abbrev N_cross : List Str := ["one", "other"]
theorem sc_cross : FnScope N_cross ["one", "other"] (defScope s_cross) := ⟨rfl, rfl, rfl, by decide +kernel, rfl, by decide +kernel, by decide +kernel⟩
theorem ok_cross {f : Addr} {fd : FuncData} (F : Fun K "cross" "cross" s_cross f fd) : FnOk P w K mg base CX0 1 f fd ["one", "other"] (spD K R_cross) := by
  have nd := sc_cross.nd
  refine okD F sc_cross (fun _ _ ⟨_, _, _, e, _⟩ => by rw [e]; rfl) fun cdv A outer s H E ds d hr hR => ?_
  have hu65 := Rs.hu65 hr
  obtain ⟨a, b, ha, rfl, rfl⟩ := hR
  refine ⟨_, (pss_one (ps_ret (pe_op op_sub (pe_op op_mul (pe_ix (ixTK (K := K) rfl) (pv 0) pe_int (fun _ _ => rfl)) (pe_ix (ixTK (K := K) rfl) (pv 1) pe_int (fun _ _ => rfl))) (pe_op op_mul (pe_ix (ixTK (K := K) rfl) (pv 0) pe_int (fun _ _ => rfl)) (pe_ix (ixTK (K := K) rfl) (pv 1) pe_int (fun _ _ => rfl)))))), fun Q q => ?_⟩
  · try simp only [blk_K, cx_K, cx_P, cx_w, cx_K', cx_P', cx_w']
    show Sk K H ([par (pT a), par (pT b)]) _
    unfold Sm at ha
    walk_at "ret"
abbrev s_half : Stmt := top 10
abbrev N_half : List Str := ["arrow"]
theorem sc_half : FnScope N_half ["arrow"] (defScope s_half) := ⟨rfl, rfl, rfl, by decide +kernel, rfl, by decide +kernel, by decide +kernel⟩
theorem ok_half {f : Addr} {fd : FuncData} (F : Fun K "half" "half" s_half f fd) (m_int : mg "int" = none) : FnOk P w K mg base CX0 1 f fd ["arrow"] (spD K R_half) := by
  have nd := sc_half.nd
  refine okD F sc_half (fun _ _ ⟨_, e, _⟩ => by rw [e]; rfl) fun cdv A outer s H E ds d hr hR => ?_
  have hu65 := Rs.hu65 hr
  obtain ⟨a, rfl, rfl⟩ := hR
  refine ⟨_, (pss_one (ps_ret (pe_callTy call_int1 (by rfl) m_int (by decide +kernel) (pa_cons (pe_or (pe_cmpR op_lt (pe_ix (ixTK (K := K) rfl) (pv 0) pe_int (fun _ _ => rfl)) pe_int (nomark _)) (pe_one (pe_and (pe_cmpR op_eq (pe_ix (ixTK (K := K) rfl) (pv 0) pe_int (fun _ _ => rfl)) pe_int (nomark _)) (pe_one (pe_cmpR op_lt (pe_ix (ixTK (K := K) rfl) (pv 0) pe_int (fun _ _ => rfl)) pe_int (nomark _)))))) pa_nil)))), fun Q q => ?_⟩
  · try simp only [blk_K, cx_K, cx_P, cx_w, cx_K', cx_P', cx_w']
    show Sk K H ([par (pT a)]) _
    walk_at "ret"
abbrev s_comes_ahead : Stmt := top 11
abbrev N_comes_ahead : List Str := ["one", "other"]
theorem sc_comes_ahead : FnScope N_comes_ahead ["one", "other"] (defScope s_comes_ahead) := ⟨rfl, rfl, rfl, by decide +kernel, rfl, by decide +kernel, by decide +kernel⟩
theorem ok_comes_ahead {f : Addr} {fd : FuncData} (F : Fun K "comes_ahead" "comes_ahead" s_comes_ahead f fd) (h_cross : Has P w K mg base CX0 "cross" 1 ["one", "other"] (spD K R_cross)) (h_half : Has P w K mg base CX0 "half" 1 ["arrow"] (spD K R_half)) : FnOk P w K mg base CX0 2 f fd ["one", "other"] (spD K R_comes_ahead) := by
  have nd := sc_comes_ahead.nd
  refine okD F sc_comes_ahead (fun _ _ ⟨_, _, _, e, _⟩ => by rw [e]; rfl) fun cdv A outer s H E ds d hr hR => ?_
  have hu65 := Rs.hu65 hr
  obtain ⟨a, b, ha, rfl, rfl⟩ := hR
  refine ⟨_, (pss_cons (ps_if (pt_cmpR op_ne (pe_callH h_half (hr.mono (by decide)) (by rfl) (pa_cons (pv 0) pa_nil)) (pe_callH h_half (hr.mono (by decide)) (by rfl) (pa_cons (pv 1) pa_nil)) (nomark _)) (pss_one (ps_ret (pe_cmpR op_lt (pe_callH h_half (hr.mono (by decide)) (by rfl) (pa_cons (pv 0) pa_nil)) (pe_callH h_half (hr.mono (by decide)) (by rfl) (pa_cons (pv 1) pa_nil)) (nomark _)))) pss_nil)
      (pss_one (ps_ret (pe_cmpR op_gt (pe_callH h_cross (hr.mono (by decide)) (by rfl) (pa_cons (pv 0) (pa_cons (pv 1) pa_nil))) pe_int (nomark _))))), fun Q q => ?_⟩
  · try simp only [blk_K, cx_K, cx_P, cx_w, cx_K', cx_P', cx_w']
    show Sk K H ([par (pT a), par (pT b)]) _
    refine q_if (b := !decide (halfI a = halfI b)) (edt_test (ed_neI (ed_half (ed_par rfl)) (ed_half (ed_par rfl)))) (fun hb => ?_) (fun hb => ?_)
    · refine sk_ret (ed_lt (ed_half (ed_par rfl)) (ed_half (ed_par rfl))) fun v H' e h => q v H' e ?_
      unfold Rm.ahead
      rw [if_pos hb]
      exact h
    · skip
      refine sk_ret (ed_gt (ed_cross (ed_par rfl) (ed_par rfl) ha) ed_int) fun v H' e h => q v H' e ?_
      unfold Rm.ahead
      rw [if_neg (by rw [hb]; decide)]
      exact h
abbrev s_is_shape : Stmt := top 13
abbrev N_is_shape : List Str := ["corners", "sides", "k"]
theorem sc_is_shape : FnScope N_is_shape ["corners"] (defScope s_is_shape) := ⟨rfl, rfl, rfl, by decide +kernel, rfl, by decide +kernel, by decide +kernel⟩
theorem ok_is_shape {f : Addr} {fd : FuncData} (F : Fun K "is_shape" "is_shape" s_is_shape f fd) (h_comes_ahead : Has P w K mg base CX0 "comes_ahead" 2 ["one", "other"] (spD K R_comes_ahead)) (h_half : Has P w K mg base CX0 "half" 1 ["arrow"] (spD K R_half)) (h_sides_by : Has P w K mg base CX0 "sides_by" 2 ["corners"] (spL K R_sides_by)) (m_range : mg "range" = none) (m_len : mg "len" = none) : FnOk P w K mg base CX0 3 f fd ["corners"] (spD K R_is_shape) := by
  have nd := sc_is_shape.nd
  refine okD F sc_is_shape (fun _ _ ⟨_, _, _, _, _, e, _⟩ => by rw [e]; rfl) fun cdv A outer s H E ds d hr hR => ?_
  have hu65 := Rs.hu65 hr
  obtain ⟨c, b, hl, hsm, hb, rfl, rfl⟩ := hR
  refine ⟨_, (pss_cons (ps_if (pt_cmpR op_eq (pe_callB (call_lenK (K := K) rfl) (by rfl) m_len PySem.boot_len (pa_cons (pv 0) pa_nil)) pe_int (nomark _)) (pss_one (ps_ret pe_bl)) pss_nil)
      (pss_cons (ps_set (i := 1) nd rfl (by first | exact Or.inl rfl | exact Or.inr rfl) (pe_callH h_sides_by (hr.mono (by decide)) (by rfl) (pa_cons (pv 0) pa_nil)))
      (pss_cons (ps_if (PW.pt (pw_and (pt_cmpR op_gt (pe_callB (call_lenK (K := K) rfl) (by rfl) m_len PySem.boot_len (pa_cons (pv 1) pa_nil)) pe_int (nomark _)) (pw_and1 (pt_cmpR op_eq (pe_callH h_half (hr.mono (by decide)) (by rfl) (pa_cons (pe_ix (ixLK (K := K) rfl) (pv 1) pe_int (fun _ _ => rfl)) pa_nil)) pe_int (nomark _))))) (pss_one (ps_ret pe_bl)) pss_nil)
      (pss_cons (ps_for PassesOwn.never rfl (pi_range2 (by rfl) m_range (pa_cons pe_int (pa_cons (pe_callB (call_lenK (K := K) rfl) (by rfl) m_len PySem.boot_len (pa_cons (pv 1) pa_nil)) pa_nil))) (pg_name (i := 2) nd rfl (by first | exact Or.inl rfl | exact Or.inr rfl)) (pss_one (ps_if (pt_not (pt_val (pe_callH h_comes_ahead (hr.mono (by decide)) (by rfl) (pa_cons (pe_ix (ixLK (K := K) rfl) (pv 1) (pe_op op_sub (pv 2) pe_int) (fun _ _ => rfl)) (pa_cons (pe_ix (ixLK (K := K) rfl) (pv 1) (pv 2) (fun _ _ => rfl)) pa_nil))))) (pss_one (ps_ret pe_bl)) pss_nil)))
      (pss_one (ps_ret (pe_cmpR (notInDK (K := K) rfl hu65) (pe_tup (pa_cons pe_int (pa_cons pe_int pa_nil))) (pv 1) (by with_unfolding_all rfl)))))))), fun Q q => ?_⟩
  · try simp only [blk_K, cx_K, cx_P, cx_w, cx_K', cx_P', cx_w']
    show Sk K H ([par (psD c), un, un]) _
    have hsl : (sidesBy c).length ≤ 1000 := by
      rw [sides_len]
      split <;> omega
    have ss := sms_sides hsm (by decide)
    have no : ¬ IsShape c → ∀ (He : Hp), Same H He → ∀ env : List (Sl K), Sk K He env (tRet (tC (.bl false)) { nx := fun _ H' => Q .non H', rt := Q }) := fun hn He e0 env => sk_ret ed_bl fun v H' e h => q v H' (e0.trans e) (by
      have : b = false := by
        cases b with
        | false => rfl
        | true => exact absurd (hb.mp rfl) hn
      rw [this]
      exact h)
    refine q_if (b := decide ((c.length : Int) = 0)) (edt_test (ed_eqI (ed_len (ed_par rfl)) ed_int)) (fun h0 => ?_) (fun h0 => ?_)
    · refine no (fun hn => ?_) H (Same.refl H) _
      have := of_decide_eq_true h0
      exact hn.1 (List.length_eq_zero_iff.mp (by omega))
    refine q_asgP (edl_sidesBy (ed_par rfl) hl) (flat_ps _) ?_
    have hc : c ≠ [] := fun e => by
      rw [e] at h0
      exact absurd h0 (by decide)
    show Sk K H [par (psD c), par (psD (sidesBy c)), un] _
    refine q_if (b := decide (0 < ((sidesBy c).length : Int)) && decide (halfI (at_ (sidesBy c) 0) = 1)) (edt_and (edt_test (ed_gt (ed_len (ed_par rfl)) ed_int)) fun h => edt_test (ed_eqI (ed_half (ed_at (k := 0) (ed_par rfl) ed_int (by have := of_decide_eq_true h; omega))) ed_int)) (fun h1 => ?_) (fun h1 => ?_)
    · refine no (fun hn => ?_) H (Same.refl H) _
      rw [Bool.and_eq_true] at h1
      have a1 := of_decide_eq_true h1.1
      have a2 := of_decide_eq_true h1.2
      have a3 := hn.2.1 (fun e => by
        rw [e] at a1
        exact absurd a1 (by decide))
      unfold halfI at a2
      rw [a3] at a2
      exact absurd a2 (by decide)
    have f1 : sidesBy c ≠ [] → half (at_ (sidesBy c) 0) = false := fun hne => by
      have a1 : 0 < ((sidesBy c).length : Int) := by
        have := List.length_pos_iff.mpr hne
        omega
      rw [decide_eq_true a1, Bool.true_and] at h1
      have a2 := of_decide_eq_false h1
      unfold halfI at a2
      cases e : half (at_ (sidesBy c) 0) with
      | false => rfl
      | true =>
        rw [e] at a2
        exact absurd rfl a2
    refine q_forR2 (eda_cons ed_int (eda_cons (ed_len (ed_par rfl)) eda_nil)) ⟨by decide, by decide, by omega, by omega⟩ (fun _ => [par (psD c), par (psD (sidesBy c)), un]) (fun i => ∀ k, k < i → ahead (at_ (sidesBy c) k) (at_ (sidesBy c) (k + 1)) = true) rfl (fun k hk => absurd hk (Nat.not_lt_zero _)) (fun i hi pi => ?_) (fun pn => ?_)
    · have hi1 : i + 1 < (sidesBy c).length := by omega
      refine sk_if (b := !ahead (at_ (sidesBy c) i) (at_ (sidesBy c) (i + 1))) (edt_not (edt_B (ed_ahead (ed_at (k := i) (ed_par rfl) (ed_is (ed_sub (ed_fl rfl) ed_int) (by congr 1; omega)) (by omega)) (ed_at (k := i + 1) (ed_par rfl) (ed_is (ed_fl rfl) (by congr 1; omega)) hi1) (sms_at ss (by decide) i)))) (fun ha => ?_) (fun ha => ?_)
      · refine no (fun hn => ?_) H (Same.refl H) _
        rw [hn.2.2.1 i hi1] at ha
        exact absurd ha (by decide)
      · refine sk_of (sk_nxK [2] ⟨rfl, fun k hk => ?_⟩)
        rcases Nat.lt_succ_iff_lt_or_eq.mp hk with h | h
        · exact pi k h
        · rw [h]
          simpa using ha
    · refine sk_retE q (ed_notInD (ed_tup (eda_cons ed_int (eda_cons ed_int eda_nil)) (by decide)) (ed_par rfl) (shaped_pT pt0) (shaped_ps _)) ?_
      have e := any_ps (sidesBy c) pt0
      congr 1
      refine Eq.trans (congrArg _ e) ?_
      rw [Bool.eq_iff_iff, hb]
      unfold IsShape
      have f2 : ∀ k, k + 1 < (sidesBy c).length → ahead (at_ (sidesBy c) k) (at_ (sidesBy c) (k + 1)) = true := fun k hk => pn k (by omega)
      simp only [Bool.not_eq_true', decide_eq_false_iff_not]
      exact ⟨fun h => ⟨hc, f1, f2, h⟩, fun h => h.2.2.2⟩
abbrev s_must_be_shape : Stmt := top 14
abbrev N_must_be_shape : List Str := ["corners"]
theorem sc_must_be_shape : FnScope N_must_be_shape ["corners"] (defScope s_must_be_shape) := ⟨rfl, rfl, rfl, by decide +kernel, rfl, by decide +kernel, by decide +kernel⟩
theorem ok_must_be_shape {f : Addr} {fd : FuncData} (F : Fun K "must_be_shape" "must_be_shape" s_must_be_shape f fd) (h_is_shape : Has P w K mg base CX0 "is_shape" 3 ["corners"] (spD K R_is_shape)) : FnOk P w K mg base CX0 4 f fd ["corners"] (spD K R_must_be_shape) := by
  have nd := sc_must_be_shape.nd
  refine okD F sc_must_be_shape (fun _ _ ⟨_, _, _, _, e, _⟩ => by rw [e]; rfl) fun cdv A outer s H E ds d hr hR => ?_
  have hu65 := Rs.hu65 hr
  obtain ⟨c, hl, hsm, hb, rfl, rfl⟩ := hR
  refine ⟨_, (pss_one (ps_if (pt_not (pt_val (pe_callH h_is_shape (hr.mono (by decide)) (by rfl) (pa_cons (pv 0) pa_nil)))) (pss_one ps_never) pss_nil)), fun Q q => ?_⟩
  · try simp only [blk_K, cx_K, cx_P, cx_w, cx_K', cx_P', cx_w']
    show Sk K H ([par (psD c)]) _
    refine s_if (b := false) (edt_not (a := true) (edt_B (ed_isShape (b := true) (ed_par rfl) hl hsm (by simp [hb])))) (fun h => nomatch h) (fun _ => ?_)
    exact sk_end fun H' e => q .non H' e .non
abbrev s_steps_of : Stmt := top 22
abbrev N_steps_of : List Str := ["corners", "found", "step", "many", "k"]
theorem sc_steps_of : FnScope N_steps_of ["corners"] (defScope s_steps_of) := ⟨rfl, rfl, rfl, by decide +kernel, rfl, by decide +kernel, by decide +kernel⟩
theorem ok_steps_of {f : Addr} {fd : FuncData} (F : Fun K "steps_of" "steps_of" s_steps_of f fd) (h_lengths : Has P w K mg base CX0 "lengths" 3 ["corners"] (spK K R_lengths)) (h_must_be_shape : Has P w K mg base CX0 "must_be_shape" 4 ["corners"] (spD K R_must_be_shape)) (m_range : mg "range" = none) : FnOk P w K mg base CX0 5 f fd ["corners"] (spH K R_stepsH) := by
  have nd := sc_steps_of.nd
  refine okH F sc_steps_of (fun _ _ ⟨_, _, _, _, e, _⟩ => by rw [e]; rfl) fun cdv A outer s H E ds d hr hR => ?_
  have hu65 := Rs.hu65 hr
  obtain ⟨c, hl, hs, hc, rfl, rfl⟩ := hR
  refine ⟨_, (pss_cons (ps_expr (pe_callH h_must_be_shape (hr.mono (by decide)) (by rfl) (pa_cons (pv 0) pa_nil)))
      (pss_cons (ps_set (i := 1) nd rfl (by first | exact Or.inl rfl | exact Or.inr rfl) (pe_lst pa_nil))
      (pss_cons (ps_for PassesOwn.never rfl (RsI.pi_itemsL (pe_callH h_lengths (hr.mono (by decide)) (by rfl) (pa_cons (pv 0) pa_nil))) (pg_tup (by rfl) (pgs_cons (pg_name (i := 2) nd rfl (by first | exact Or.inl rfl | exact Or.inr rfl)) (pgs_cons (pg_name (i := 3) nd rfl (by first | exact Or.inl rfl | exact Or.inr rfl)) pgs_nil))) (pss_one (ps_expr (pe_bm PySem.F.plainAttrs_list PySem.F.slot_list_extend PySem.F.type_list_extend mt_extend (pv 1) (pa_cons (pe_lc (own := [("k", 4)]) (g := (gName 4)) (tt := tYes) rfl nd (pi_range1 (by rfl) m_range (pa_cons (pv 3) pa_nil)) (blkOk_by (own := [("k", 4)]) (N := N_steps_of) (sc := defScope s_steps_of) (by decide +kernel)) (fun _ _ _ _ _ => (pg_name (i := 4) nd rfl (by first | exact Or.inl rfl | exact Or.inr rfl))) (fun _ _ _ _ _ => pts_nil) (fun _ _ _ _ _ => (pv 2))) pa_nil)))))
      (pss_one (ps_ret (pv 1)))))), fun Q q => ?_⟩
  · try simp only [blk_K, cx_K, cx_P, cx_w, cx_K', cx_P', cx_w']
    show Sk K H ([par (psD c), un, un, un, un]) _
    have hA := hc.ang
    have hss : Sms ((4000 : Nat) : Int) (sidesBy c) := sms_sides hs (by decide)
    have hsl : (sidesBy c).length ≤ 20 := by
      rw [sides_len]
      split <;> omega
    refine q_drop (ed_must (ed_par rfl) (by omega) (fun p hp => (hs p hp).mono (by decide)) hc) ?_
    refine q_asgLH edlh_nil fun l => ?_
    show Sk K H [par (psD c), ownH l [], un, un, un] _
    refine q_forItems (k := 2) (j := 3) (edd_lengths (ed_par rfl) (by omega) (fun p hp => (hs p hp).mono (by decide)) hc) (lenK_flat _) (fun i => [par (psD c), ownH l (stepsOf ((sidesBy c).take i)), un, un, un]) (fun _ => True) rfl trivial (fun He' hb' i p d hd _ => ?_) (fun _ => ?_)
    · obtain ⟨hi, rfl, rfl⟩ := lenK_get hd
      have hm := at_mem hi
      have na := hA.nz' _ hm
      have hp0 := gcdP_pos na
      have hle := gcdP_le (hss _ hm) na
      have step : (sidesBy c).take (i + 1) = (sidesBy c).take i ++ [at_ (sidesBy c) i] := by
        rw [List.take_add_one, at_get hi]
        rfl
      have hlen := stepsOf_len (A := (sidesBy c).take i) (fun x hx => hss x (List.mem_of_mem_take hx)) (fun x hx => hA.nz' x (List.mem_of_mem_take hx))
      have hlen2 : ((sidesBy c).take i).length * 4000 ≤ 20 * 4000 := Nat.mul_le_mul_right _ (by rw [List.length_take]; omega)
      have hsn := stepsOf_snoc ((sidesBy c).take i) (at_ (sidesBy c) i)
      rw [← step] at hsn
      generalize at_ (sidesBy c) i = a at na hp0 hle hsn
      refine sk_extendH (k := 1) (l := l) (ps := stepsOf ((sidesBy c).take i)) (qs := List.replicate (gcdP a).toNat (unitP a)) rfl (edlh_is (edlh_lcRT (tt := tYes) (k := 4) (vs := [4]) (n := gcdP a) (os := (List.replicate (gcdP a).toNat (unitP a)).map some) (eda_cons (ed_fl rfl) eda_nil) (by rw [List.length_map, List.length_replicate]; omega) (by rw [List.length_map, List.length_replicate]) (by simp) (fun n oo ho => ?_) (fun n o ho => ?_) ⟨by omega, by omega⟩) (keptP_some _)) (by rw [List.length_replicate]; omega) ?_
      · rw [List.getElem?_map] at ho
        cases e : (List.replicate (gcdP a).toNat (unitP a))[n]? with
        | none => rw [e] at ho; cases ho
        | some x =>
          rw [e] at ho
          cases ho
          exact edt_yes
      · rw [List.getElem?_map] at ho
        cases e : (List.replicate (gcdP a).toNat (unitP a))[n]? with
        | none => rw [e] at ho; cases ho
        | some x =>
          rw [e] at ho
          cases ho
          rw [(List.mem_replicate.mp (List.mem_of_getElem? e)).2]
          exact edh_var rfl
      · rw [← hsn]
        exact sk_nxK [2, 3] ⟨rfl, trivial⟩
    · rw [lenK_len, List.take_length]
      exact sk_retLH (k := 1) (l := l) rfl q
abbrev s_parted : Stmt := top 25
abbrev N_parted : List Str := ["corners", "steps", "back", "choice", "first", "last", "k"]
theorem sc_parted : FnScope N_parted ["corners"] (defScope s_parted) := ⟨rfl, rfl, rfl, by decide +kernel, rfl, by decide +kernel, by decide +kernel⟩
theorem ok_parted {f : Addr} {fd : FuncData} (F : Fun K "parted" "parted" s_parted f fd) {Ra : Addr} {c : Nat → Addr} (cn : ClsN mg Ra c) (er : ∀ j ∈ ([4] : List Nat), ErrF K Ra c j) (h_choices : Has P w K mg base CX0 "choices" 1 ["steps"] (spC K R_choices)) (h_shape_by : Has P w K mg base CX0 "shape_by" 1 ["start", "arrows"] (spL K R_shape_by)) (h_gathered : Has P w K mg base CX0 "gathered" 1 ["steps"] (spG K R_gathered)) (h_steps_of : Has P w K mg base CX0 "steps_of" 5 ["corners"] (spH K R_stepsH)) (m_range : mg "range" = none) (m_len : mg "len" = none) (g_MOST_STEPS : ∃ t, mg "MOST_STEPS" = some (.int 10 t)) : FnOk P w K mg base (L2.CX P w) 6 f fd ["corners"] (spE K c (ToldP K) R_partedE) := by
  obtain ⟨_, g_MOST_STEPS⟩ := g_MOST_STEPS
  have nd := sc_parted.nd
  refine okE F sc_parted (fun _ _ ⟨_, _, _, _, e, _⟩ => by rw [e]; rfl) fun cdv A outer s H E ds d hr hR => ?_
  have hu65 := Rs.hu65 hr
  obtain ⟨c, hl, hs, hc, rfl, rfl⟩ := hR
  refine ⟨_, (pss_cons (ps_set (i := 1) nd rfl (by first | exact Or.inl rfl | exact Or.inr rfl) (pe_callH h_steps_of (hr.mono (by decide)) (by rfl) (pa_cons (pv 0) pa_nil)))
      (pss_cons (ps_if (pt_cmpR op_gt (pe_callB (call_lenK (K := K) rfl) (by rfl) m_len PySem.boot_len (pa_cons (pv 1) pa_nil)) (pe_glob (v := .int 10) (by rfl) g_MOST_STEPS ⟨_, rfl⟩) (nomark _)) (pss_one (RsX.ps_raiseE (E := E) rfl (takes_of rfl rfl rfl rfl) (er 4 (by decide)) cn.g4 (by rfl))) pss_nil)
      (pss_cons (ps_if (pt_cmpR op_lt (pe_callB (call_lenK (K := K) rfl) (by rfl) m_len PySem.boot_len (pa_cons (pv 1) pa_nil)) pe_int (nomark _)) (pss_one (ps_ret pe_non)) pss_nil)
      (pss_cons (ps_set (i := 2) nd rfl (by first | exact Or.inl rfl | exact Or.inr rfl) (pe_tup (pa_cons (pe_un un_neg (pe_ix (ixTK (K := K) rfl) (pe_ix (ixLK (K := K) rfl) (pv 1) pe_int (fun _ _ => rfl)) pe_int (fun _ _ => rfl))) (pa_cons (pe_un un_neg (pe_ix (ixTK (K := K) rfl) (pe_ix (ixLK (K := K) rfl) (pv 1) pe_int (fun _ _ => rfl)) pe_int (fun _ _ => rfl))) pa_nil))))
      (pss_cons (ps_for (passes_of rfl) rfl (pi_list (pe_dget2 (hu1 hu65) (pe_callH h_choices (hr.mono (by decide)) (by rfl) (pa_cons (pe_slice (slLK (K := K) rfl) (pv 1) (po_some pe_int) po_none) pa_nil)) (pv 2) (pe_lst pa_nil) ⟨rfl, rfl, rfl, rfl⟩)) (pg_name (i := 3) nd rfl (by first | exact Or.inl rfl | exact Or.inr rfl)) (pss_one (ps_if (pt_cmpR (inDK (K := K) rfl hu65) pe_bl (pv 3) (by with_unfolding_all rfl)) (pss_cons (ps_set (i := 4) nd rfl (by first | exact Or.inl rfl | exact Or.inr rfl) (pe_op op_cat (pe_lst (pa_cons (pe_ix (ixLK (K := K) rfl) (pv 1) pe_int (fun _ _ => rfl)) pa_nil)) (pe_lc (own := [("k", 6)]) (g := (gName 6)) rfl nd (pi_range1 (by rfl) m_range (pa_cons (pe_callB (call_lenK (K := K) rfl) (by rfl) m_len PySem.boot_len (pa_cons (pv 3) pa_nil)) pa_nil)) (blkOk_by (own := [("k", 6)]) (N := N_parted) (sc := defScope s_parted) (by decide +kernel)) (fun _ _ _ _ _ => (pg_name (i := 6) nd rfl (by first | exact Or.inl rfl | exact Or.inr rfl))) (fun _ _ _ _ _ => (pts_one (pt_val (pe_ix (ixLK (K := K) rfl) (pv 3) (pv 6) (fun _ _ => rfl))))) (fun _ _ _ _ _ => (pe_ix (ixLK (K := K) rfl) (pv 1) (pe_op op_add (pv 6) pe_int) (fun _ _ => rfl))))))
      (pss_cons (ps_setLc (i := 5) (own := [("k", 6)]) (g := (gName 6)) rfl nd rfl rfl (sw_true rfl rfl rfl (by decide +kernel)) (pi_range1 (by rfl) m_range (pa_cons (pe_callB (call_lenK (K := K) rfl) (by rfl) m_len PySem.boot_len (pa_cons (pv 3) pa_nil)) pa_nil)) (blkOk_by (own := [("k", 6)]) (N := N_parted) (sc := defScope s_parted) (by decide +kernel)) (fun _ _ _ _ _ => (pg_name (i := 6) nd rfl (by first | exact Or.inl rfl | exact Or.inr rfl))) (fun _ _ _ _ _ => (pts_one (pt_not (pt_val (pe_ix (ixLK (K := K) rfl) (pv 3) (pv 6) (fun _ _ => rfl)))))) (fun _ _ _ _ _ => (pe_ix (ixLK (K := K) rfl) (pv 1) (pe_op op_add (pv 6) pe_int) (fun _ _ => rfl))))
      (pss_one (ps_ret (pe_tup (pa_cons (pe_callH h_shape_by (hr.mono (by decide)) (by rfl) (pa_cons (pe_ix (ixLK (K := K) rfl) (pv 0) pe_int (fun _ _ => rfl)) (pa_cons (pe_callH h_gathered (hr.mono (by decide)) (by rfl) (pa_cons (pv 4) pa_nil)) pa_nil))) (pa_cons (pe_callH h_shape_by (hr.mono (by decide)) (by rfl) (pa_cons (pe_tup (pa_cons pe_int (pa_cons pe_int pa_nil))) (pa_cons (pe_callH h_gathered (hr.mono (by decide)) (by rfl) (pa_cons (pv 5) pa_nil)) pa_nil))) pa_nil))))))) pss_nil)))
      (pss_one (ps_ret pe_non))))))), fun Q q => ?_⟩
  · try simp only [blk_K, cx_K, cx_P, cx_w, cx_K', cx_P', cx_w']
    show Sk K H ([par (psD c), un, un, un, un, un, un]) _
    have c0 : 0 < c.length := List.length_pos_iff.mpr hc.1
    refine q_asgLH (edlh_stepsOf (ed_par rfl) hl hs hc) fun f => ?_
    show Sk K H [par (psD c), ownH f (stepsP c), un, un, un, un, un] _
    unfold partRes at q
    refine q_if (b := decide (10 < (stepsP c).length)) (edt_is (edt_test (ed_gt (ed_lenL (ds := (stepsP c).map pT) (ed_ownH rfl)) ed_int)) (by rw [List.length_map]; exact decide_eq_decide.mpr (by omega))) (fun hb => ?_) (fun hb => ?_)
    · rw [if_pos (of_decide_eq_true hb)] at q
      exact sk_raise q
    have h10 : (stepsP c).length ≤ 10 := by
      have := of_decide_eq_false hb
      omega
    rw [if_neg (of_decide_eq_false hb)] at q
    have q : ToldP K H (Rm.parted c) Q := q
    unfold Rm.parted at q
    generalize stepsP c = ss at q h10
    refine q_if (b := decide (ss.length < 2)) (edt_is (edt_test (ed_lt (ed_lenL (ds := ss.map pT) (ed_ownH rfl)) ed_int)) (by rw [List.length_map]; exact decide_eq_decide.mpr (by omega))) (fun hlt => ?_) (fun hge => ?_)
    · have hlt' := of_decide_eq_true hlt
      match ss, q, hlt' with
      | [], q, _ => exact sk_retP0 q
      | [_], q, _ => exact sk_retP0 q
      | _ :: _ :: _, _, h => exact absurd h (by rw [List.length_cons, List.length_cons]; omega)
    · have hge' := of_decide_eq_false hge
      match ss, q, hge', h10 with
      | [], _, h, _ => exact absurd (by decide) h
      | [_], _, h, _ => exact absurd (by rw [List.length_singleton]; omega) h
      | s0 :: s1 :: rest, q, _, h10 =>
        have q' : ToldP K H ((theRow s0 (s1 :: rest)).map fun r => (shapeBy (at_ c 0) (gath (s0 :: pickT (s1 :: rest) r)), shapeBy pt0 (gath (pickF (s1 :: rest) r)))) Q := q
        clear q
        generalize s1 :: rest = ss at q' h10
        have hsl : ss.length ≤ 9 := by
          rw [List.length_cons] at h10
          omega
        have sT : ∀ e : List (Sl K), e[1]? = some (ownH f (s0 :: ss)) → EdH (tOp (rIxL K) (tVar 1) (tC (.int 0))) e s0 := fun e h => edh_ix (edkh_own h) ed_int (atI_head s0 ss)
        refine q_asgH (k := 2) (p := neg s0) (edh_tup (ed_neg (ed_ixT (ed_H (sT _ rfl)) ed_int rfl)) (ed_neg (ed_ixT (ed_H (sT _ rfl)) ed_int rfl))) ?_
        have hnone : ∀ H' : Hp, Same (fun _ => none) H' := fun H' a u h => (by cases h)
        unfold theRow at q'
        have hrow : ∀ r ∈ rowsA (choicesF ss) (neg s0), r.length = ss.length := fun r hr => (row_in hr).1
        generalize hrs : rowsA (choicesF ss) (neg s0) = rows at q' hrow
        refine q_forSt (k := 3) (F := fun _ => none) (ds := rows.map rowD) (hnone H) (eds_is (eds_getC (R := R_choices) (eda_cons (ed_is (ed_ofL (edl_slice (ds := (s0 :: ss).map pT) (ed_ownH rfl) (edo_some ed_int) edo_none)) (congrArg PyData.list (steps_cut s0 ss))) eda_nil) ⟨ss, by omega, rfl, rfl⟩ (edh_var rfl) (eds_lst edsa_nil (Nat.zero_le _))) (by rw [encT_rows, hrs]; rfl)) (fun i => [par (psD c), ownH f (s0 :: ss), hp (neg s0), un, un, un, un]) (fun i => ∀ k r, k < i → rows[k]? = some r → ¬ (r.any fun b => !b) = true) rfl (fun k r hk _ => absurd hk (by omega)) (fun He' hb' i x hx hP => ?_) (fun hP => ?_)
        · obtain ⟨r, hr, rfl⟩ : ∃ r, rows[i]? = some r ∧ x = rowD r := by
            rw [List.getElem?_map] at hx
            cases e : rows[i]? with
            | none => rw [e] at hx; cases hx
            | some ch =>
              rw [e] at hx
              exact ⟨ch, rfl, (Option.some.inj hx).symm⟩
          have hrl := hrow r (List.mem_of_getElem? hr)
          have hil : i < rows.length := (List.getElem?_eq_some_iff.mp hr).1
          refine s_if (b := r.any fun b => !b) (edt_is (edt_test (ed_inD (x := .bool false) (ds := r.map PyData.bool) ed_bl (ed_sp rfl) (by decide +kernel) (shaped_row r))) (has_false r)) (fun hy => ?_) (fun hn => ?_)
          · have hf : (rows.find? fun r => r.any fun b => !b) = some r := by
              rw [List.find?_eq_some_iff_append]
              refine ⟨hy, rows.take i, rows.drop (i + 1), ?_, fun a ha => ?_⟩
              · have hg : rows[i] = r := by
                  rw [List.getElem?_eq_getElem hil] at hr
                  exact Option.some.inj hr
                rw [← hg, ← List.drop_eq_getElem_cons hil, List.take_append_drop]
              · obtain ⟨k, hk, rfl⟩ := List.getElem_of_mem ha
                rw [List.length_take] at hk
                rw [List.getElem_take]
                have := hP k _ (by omega) (List.getElem?_eq_getElem (by omega))
                simpa using this
            rw [hf] at q'
            have hzl : (ss.zip r).length = ss.length := by
              rw [List.length_zip]
              omega
            have hz : ∀ (n : Nat) (x : Pt × Bool), (ss.zip r)[n]? = some x → n < r.length ∧ n < ss.length ∧ x = (at_ ss n, r.getD n false) := fun n x h => by
              have hn := (List.getElem?_eq_some_iff.mp h).1
              rw [hzl] at hn
              have hn2 : n < r.length := by omega
              rw [List.getElem?_eq_getElem (by omega), List.getElem_zip] at h
              refine ⟨hn2, hn, ?_⟩
              rw [← Option.some.inj h, get_at hn, List.getD_eq_getElem?_getD, List.getElem?_eq_getElem hn2]
              rfl
            have bit : ∀ (e : List (Sl K)) (n : Nat), n < r.length → e[3]? = some (sp (fun _ => none) (rowD r)) → e[6]? = some (fl (.int (n : Int))) → Ed (tOp (rIxL K) (tVar 3) (tVar 6)) e (.bool (r.getD n false)) := fun e n hn h3 h6 => by
              refine ed_ixL (ds := r.map PyData.bool) (i := (n : Int)) (ed_sp h3) (ed_fl h6) ?_
              rw [row_at hn, List.getD_eq_getElem?_getD, List.getElem?_eq_getElem hn]
              rfl
            have stp : ∀ (e : List (Sl K)) (n : Nat), n < ss.length → e[1]? = some (ownH f (s0 :: ss)) → e[6]? = some (fl (.int (n : Int))) → EdH (tOp (rIxL K) (tVar 1) (tOp (rI0 fun i j => .int (i + j)) (tVar 6) (tC (.int 1)))) e (at_ ss n) := fun e n hn h1 h6 => by
              refine edh_ix (i := (n : Int) + 1) (edkh_own h1) (ed_add (ed_fl h6) ed_int) ?_
              have e1 : (n : Int) + 1 = ((n + 1 : Nat) : Int) := by omega
              rw [e1]
              exact atI_nat (by rw [List.getElem?_cons_succ, at_get hn])
            refine q_asgLH (k := 4) (ps := s0 :: pickT ss r) (edlh_cat (ps := [s0]) (qs := pickT ss r) (edkh_of (edlh_one (sT _ rfl))) (edkh_of (edlh_is (edlh_lcRT (k := 6) (vs := [6]) (n := (r.length : Int)) (os := (ss.zip r).map fun x => if x.2 = true then some x.1 else none) (eda_cons (ed_is (ed_lenL (ds := r.map PyData.bool) (ed_sp rfl)) (by rw [List.length_map])) eda_nil) (by rw [List.length_map]; omega) (by rw [List.length_map]; omega) (by simp) (fun n oo ho => ?_) (fun n o ho => ?_) ⟨by omega, by omega⟩) (keptP_pickT ss r))) (by have := pickT_len ss r; rw [List.length_singleton]; omega)) fun f1 => ?_
            · rw [List.getElem?_map] at ho
              cases e : (ss.zip r)[n]? with
              | none => rw [e] at ho; cases ho
              | some x =>
                obtain ⟨h1, h2, h3⟩ := hz n x e
                rw [e, h3] at ho
                cases ho
                refine edt_is (edt_test (bit _ n h1 rfl rfl)) ?_
                generalize r.getD n false = b
                cases b <;> rfl
            · rw [List.getElem?_map] at ho
              cases e : (ss.zip r)[n]? with
              | none => rw [e] at ho; cases ho
              | some x =>
                obtain ⟨h1, h2, h3⟩ := hz n x e
                rw [e, h3] at ho
                have ho' : (if r.getD n false = true then some (at_ ss n) else none) = some o := Option.some.inj ho
                split at ho'
                · cases ho'
                  exact stp _ n h2 rfl rfl
                · cases ho'
            show Sk K He' [par (psD c), ownH f (s0 :: ss), hp (neg s0), sp (fun _ => none) (rowD r), ownH f1 (s0 :: pickT ss r), un, un] _
            refine q_asgLH (k := 5) (ps := pickF ss r) (edlh_is (edlh_lcRT (k := 6) (vs := [6]) (n := (r.length : Int)) (os := (ss.zip r).map fun x => if (!x.2) = true then some x.1 else none) (eda_cons (ed_is (ed_lenL (ds := r.map PyData.bool) (ed_sp rfl)) (by rw [List.length_map])) eda_nil) (by rw [List.length_map]; omega) (by rw [List.length_map]; omega) (by simp) (fun n oo ho => ?_) (fun n o ho => ?_) ⟨by omega, by omega⟩) (keptP_pickF ss r)) fun f2 => ?_
            · rw [List.getElem?_map] at ho
              cases e : (ss.zip r)[n]? with
              | none => rw [e] at ho; cases ho
              | some x =>
                obtain ⟨h1, h2, h3⟩ := hz n x e
                rw [e, h3] at ho
                cases ho
                refine edt_is (edt_not (edt_B (bit _ n h1 rfl rfl))) ?_
                generalize r.getD n false = b
                cases b <;> rfl
            · rw [List.getElem?_map] at ho
              cases e : (ss.zip r)[n]? with
              | none => rw [e] at ho; cases ho
              | some x =>
                obtain ⟨h1, h2, h3⟩ := hz n x e
                rw [e, h3] at ho
                have ho' : (if (!r.getD n false) = true then some (at_ ss n) else none) = some o := Option.some.inj ho
                split at ho'
                · cases ho'
                  exact stp _ n h2 rfl rfl
                · cases ho'
            show Sk K He' [par (psD c), ownH f (s0 :: ss), hp (neg s0), sp (fun _ => none) (rowD r), ownH f1 (s0 :: pickT ss r), ownH f2 (pickF ss r), un] _
            have g1 := gath_len (s0 :: pickT ss r)
            have g2 := gath_len (pickF ss r)
            have g3 := pickT_len ss r
            have g4 := pickF_len ss r
            rw [List.length_cons] at g1
            exact sk_retP (edl_shapeBy (ed_at (k := 0) (ed_par rfl) ed_int c0) (ed_ofL (edl_gath (edkh_own rfl) (by rw [List.length_cons]; omega))) (by omega)) (edl_shapeBy (ed_tup (eda_cons ed_int (eda_cons ed_int eda_nil)) (Nat.le_of_ble_eq_true rfl)) (ed_ofL (edl_gath (edkh_own rfl) (by omega))) (by omega)) (q'.up hb')
          · refine sk_nxK [3] ⟨rfl, fun k r' hk hr' => ?_⟩
            by_cases e : k = i
            · subst e
              rw [hr] at hr'
              cases hr'
              rw [hn]
              exact Bool.false_ne_true
            · exact hP k r' (by omega) hr'
        · have hf : (rows.find? fun r => r.any fun b => !b) = none := by
            rw [List.find?_eq_none]
            intro r hr
            obtain ⟨k, hk, rfl⟩ := List.getElem_of_mem hr
            exact hP k _ (by rw [List.length_map]; exact hk) (List.getElem?_eq_getElem hk)
          rw [hf] at q'
          exact sk_retP0 q'
abbrev s__law_which : Stmt := top 44
abbrev N__law_which : List Str := ["e", "told"]
theorem sc__law_which : FnScope N__law_which ["e"] (defScope s__law_which) := ⟨rfl, rfl, rfl, by decide +kernel, rfl, by decide +kernel, by decide +kernel⟩
theorem ok__law_which {f : Addr} {fd : FuncData} (F : Fun K "_law_which" "_law_which" s__law_which f fd) {Ra : Addr} {c : Nat → Addr} (cn : ClsN mg Ra c) (er : ∀ j ∈ ([4] : List Nat), ErrF K Ra c j) (m_isinstance : mg "isinstance" = none) (m_ValueError : mg "ValueError" = none) : FnE P w K mg base 1 f fd "e" (spW c ([4] : List Nat)) := by
  have nd := sc__law_which.nd
  refine okW F sc__law_which fun cdv A outer s H a C oe Q hr hz hf hs => ?_
  obtain ⟨j, hj, rfl, q⟩ := hs
  refine ⟨_, (pss_cons (ps_set (i := 1) nd rfl (by first | exact Or.inl rfl | exact Or.inr rfl) (pe_lst (pa_cons (pe_callB (RsX.call_isX (er j hj).ec hz hf (List.mem_singleton.mpr rfl)) (by rfl) m_isinstance (by decide +kernel) (pa_cons (pv 0) (pa_cons (pe_glob (v := .ref (c 0)) (by rfl) cn.g0 rfl) pa_nil))) (pa_cons (pe_callB (RsX.call_isX (er j hj).ec hz hf (List.mem_singleton.mpr rfl)) (by rfl) m_isinstance (by decide +kernel) (pa_cons (pv 0) (pa_cons (pe_glob (v := .ref (c 1)) (by rfl) cn.g1 rfl) pa_nil))) (pa_cons (pe_callB (RsX.call_isX (er j hj).ec hz hf (List.mem_singleton.mpr rfl)) (by rfl) m_isinstance (by decide +kernel) (pa_cons (pv 0) (pa_cons (pe_glob (v := .ref (c 2)) (by rfl) cn.g2 rfl) pa_nil))) pa_nil)))))
      (pss_cons (ps_set (i := 1) nd rfl (by first | exact Or.inl rfl | exact Or.inr rfl) (pe_op op_cat (pv 1) (pe_lst (pa_cons (pe_callB (RsX.call_isX (er j hj).ec hz hf (List.mem_singleton.mpr rfl)) (by rfl) m_isinstance (by decide +kernel) (pa_cons (pv 0) (pa_cons (pe_glob (v := .ref (c 3)) (by rfl) cn.g3 rfl) pa_nil))) (pa_cons (pe_callB (RsX.call_isX (er j hj).ec hz hf (List.mem_singleton.mpr rfl)) (by rfl) m_isinstance (by decide +kernel) (pa_cons (pv 0) (pa_cons (pe_glob (v := .ref (c 4)) (by rfl) cn.g4 rfl) pa_nil))) pa_nil)))))
      (pss_cons (ps_if (PW.pt (pw_or (pt_not (pt_val (pe_callB (RsX.call_isX (er j hj).ec hz hf (List.mem_singleton.mpr rfl)) (by rfl) m_isinstance (by decide +kernel) (pa_cons (pv 0) (pa_cons (pe_bltn (v := .ty "ValueError") (by rfl) m_ValueError (by decide +kernel) rfl) pa_nil))))) (pw_or1 (pt_cmpR op_ne (pe_bm PySem.F.plainAttrs_list PySem.F.slot_list_count PySem.F.type_list_count RsX.mt_lcnt (pv 1) (pa_cons pe_bl pa_nil)) pe_int (nomark _))))) (pss_one (ps_ret pe_str)) pss_nil)
      (pss_one (ps_ret (pe_ix (ixLK (K := K) rfl) (pe_lst (pa_cons pe_str (pa_cons pe_str (pa_cons pe_str (pa_cons pe_str (pa_cons pe_str pa_nil)))))) (pe_bm PySem.F.plainAttrs_list PySem.F.slot_list_index PySem.F.type_list_index mt_index (pv 1) (pa_cons pe_bl pa_nil)) (fun _ _ => rfl))))))), ?_⟩
  · simp only [Rs.cxH_K]
    show Sk K H ([exS a, un]) _
    have e := er j hj
    have is : ∀ (env : List (Sl K)) (i : Nat), i < 5 → env[0]? = some (exS a) → Ed (tCB (rIsE K (c j) a) (tCons (tVar 0) (tCons (tC (.ref (c i))) tNil))) env (.bool (decide (i = j))) := fun env i hi h => ed_isX h (fun u h => h) (e.ki i hi)
    refine q_asgL (k := 1) (ds := ([decide (0 = j), decide (1 = j), decide (2 = j)] : List Bool).map .bool) (edl_lst (eda_cons (is _ 0 (by decide) rfl) (eda_cons (is _ 1 (by decide) rfl) (eda_cons (is _ 2 (by decide) rfl) eda_nil))) (Nat.le_of_ble_eq_true rfl)) rfl fun l => ?_
    show Sk K H [exS a, own l (([decide (0 = j), decide (1 = j), decide (2 = j)] : List Bool).map .bool)] _
    refine q_asgL (k := 1) (ds := ([decide (0 = j), decide (1 = j), decide (2 = j), decide (3 = j), decide (4 = j)] : List Bool).map .bool) (edl_cat (ds := ([decide (0 = j), decide (1 = j), decide (2 = j)] : List Bool).map .bool) (es := ([decide (3 = j), decide (4 = j)] : List Bool).map .bool) (edk_own rfl) (edk_of (edl_lst (eda_cons (is _ 3 (by decide) rfl) (eda_cons (is _ 4 (by decide) rfl) eda_nil)) (Nat.le_of_ble_eq_true rfl))) (Nat.le_of_ble_eq_true rfl)) rfl fun l2 => ?_
    show Sk K H [exS a, own l2 (([decide (0 = j), decide (1 = j), decide (2 = j), decide (3 = j), decide (4 = j)] : List Bool).map .bool)] _
    have hlt := e.lt
    have h1 : ([decide (0 = j), decide (1 = j), decide (2 = j), decide (3 = j), decide (4 = j)] : List Bool).count true = 1 ∧ ([decide (0 = j), decide (1 = j), decide (2 = j), decide (3 = j), decide (4 = j)] : List Bool)[j]? = some true ∧ (∀ m, m < j → ([decide (0 = j), decide (1 = j), decide (2 = j), decide (3 = j), decide (4 = j)] : List Bool)[m]? = some false) ∧ atI ([PyData.str "note", .str "number", .str "points", .str "shape", .str "long"] : List PyData) (j : Int) = some (.str (whichS j)) := by
      have hc : j = 0 ∨ j = 1 ∨ j = 2 ∨ j = 3 ∨ j = 4 := by omega
      rcases hc with rfl | rfl | rfl | rfl | rfl <;> exact ⟨by decide, by rfl, by decide, by rfl⟩
    obtain ⟨h1, h2, h3, h4⟩ := h1
    refine q_if (b := false) (edt_is (edt_or (edt_not (edt_B (ed_isX (b := true) rfl (fun u (h : u = Value.type "ValueError") => h) e.kv))) (fun _ => edt_test (ed_neI (ed_cntB (ed_own rfl)) ed_int))) (by rw [h1]; rfl)) (fun h => nomatch h) (fun _ => ?_)
    exact sk_ret (ed_ixL (ed_ofL (edl_lst (eda_cons ed_str (eda_cons ed_str (eda_cons ed_str (eda_cons ed_str (eda_cons ed_str eda_nil))))) (Nat.le_of_ble_eq_true rfl))) (ed_indexB (ed_own rfl) h2 h3) h4) fun v H' e2 dv => by
      cases dp_str dv
      exact q H' e2
abbrev s__law_asked : Stmt := top 45
abbrev N__law_asked : List Str := ["corners", "told", "e"]
theorem sc__law_asked : FnScope N__law_asked ["corners"] (defScope s__law_asked) := ⟨rfl, rfl, rfl, by decide +kernel, rfl, by decide +kernel, by decide +kernel⟩
theorem ok__law_asked {f : Addr} {fd : FuncData} (F : Fun K "_law_asked" "_law_asked" s__law_asked f fd) {Ra : Addr} {c : Nat → Addr} (cn : ClsN mg Ra c) (er : ∀ j ∈ ([4] : List Nat), ErrF K Ra c j) (h_parted : Has P w K mg base (L2.CX P w) "parted" 6 ["corners"] (spE K c (ToldP K) R_partedE)) (h__law_which : HasE P w K mg base "_law_which" 1 "e" (spW c ([4] : List Nat))) : FnOk P w K mg base CX0 7 f fd ["corners"] (spA K R_partedE) := by
  have nd := sc__law_asked.nd
  refine okA F sc__law_asked (fun _ _ ⟨_, _, _, _, e, _⟩ => by rw [e]; rfl) fun cdv A outer s H E ds d hr hR => ?_
  have hu65 := Rs.hu65 hr
  obtain ⟨co, hl, hs, hc, rfl, rfl⟩ := hR
  refine ⟨_, (pss_cons (ps_set (i := 1) nd rfl (by first | exact Or.inl rfl | exact Or.inr rfl) pe_non)
      (pss_cons (Rs.ps_tryAs (i := 2) (tb := fun W => tAsg (tCallS (spE K c (ToldP K) R_partedE) (WE W) (tCons (tVar 0) tNil)) (gName 1)) (ts := fun a cls d => tAsg (tCallE a cls d (spW c ([4] : List Nat)) (tCons (tVar 2) tNil)) (gName 1)) rfl rfl nd rfl rfl (by rfl) cn.gR (by decide)
      (fun W pn xe tk _ => (pss_one (ps_set (i := 1) nd rfl (by first | exact Or.inl rfl | exact Or.inr rfl) (Rs.pe_callX h_parted (hr.mono (by decide)) (by rfl) (fun σ => passAt tk σ) (pa_cons (pv 0) pa_nil)))))
      (fun a oe cls d pn hz hf => (pss_one (ps_set (i := 1) nd rfl (by first | exact Or.inl rfl | exact Or.inr rfl) (RsX.pe_callE h__law_which (L2H.roomH_of (hr.mono (by decide))) hz hf (by rfl) (pv 2))))))
      (pss_one (ps_ret (pv 1))))), fun Q q => ?_⟩
  · try simp only [blk_K, cx_K, cx_P, cx_w, cx_K', cx_P', cx_w']
    show Sk K H ([par (psD co), un, un]) _
    refine q_asg ed_non rfl ?_
    refine q_try ?_
    cases hy : partRes co with
    | inr j =>
      have hj : j = 4 := by
        unfold partRes at hy
        split at hy
        · cases hy
          rfl
        · cases hy
      subst hj
      rw [hy] at q
      refine sk_asgEr (er_suite (R := R_partedE) (j := 4) (eda_cons (ed_par rfl) eda_nil) ⟨co, hl, hs, hc, rfl, hy.symm⟩ (er 4 (by decide)).ex fun a => ?_)
      refine sk_asg (d := .str (whichS 4)) (ed_which (j := 4) rfl (by decide)) rfl ?_
      show Sk K H _ (fun σ H' => tRet (tVar 1) { nx := fun _ H' => Q .non H', rt := Q } (σ.set 2 none) H')
      refine sk_unset (P := tRet (tVar 1) { nx := fun _ H' => Q .non H', rt := Q }) 2 (sk_ret (ed_fl rfl) fun v H' e dv => ?_)
      cases dp_str dv
      exact q H' e
    | inl y =>
      rw [hy] at q
      have ep : ∀ (env : List (Sl K)) (W : WX), env[0]? = some (par (psD co)) → EdP (tCallS (spE K c (ToldP K) R_partedE) (WE W) (tCons (tVar 0) tNil)) env y := fun env W h => edp_callS (eda_cons (ed_par h) eda_nil) ⟨co, hl, hs, hc, rfl, hy.symm⟩
      cases y with
      | none =>
        refine sk_asg (d := .none) (ed_P (ep _ _ rfl)) rfl (sk_ret (ed_fl rfl) fun v H' e dv => ?_)
        cases dp_none dv
        exact q H' e
      | some z =>
        obtain ⟨d, e⟩ := z
        exact sk_asgT2 (He0 := H) (ep _ _ rfl) (Same.refl H) (sk_retT2 (k := 1) rfl q)
abbrev s__law_common : Stmt := top 41
abbrev N__law_common : List Str := ["one", "other", "rest"]
theorem sc__law_common : FnScope N__law_common ["one", "other"] (defScope s__law_common) := ⟨rfl, rfl, rfl, by decide +kernel, rfl, by decide +kernel, by decide +kernel⟩
theorem ok__law_common {f : Addr} {fd : FuncData} (F : Fun K "_law_common" "_law_common" s__law_common f fd) (m_abs : mg "abs" = none) : FnOk P w K mg base CX0 1 f fd ["one", "other"] (spD K R_common) := by
  have nd := sc__law_common.nd
  refine okD F sc__law_common (fun _ _ ⟨_, _, e, _⟩ => by rw [e]; rfl) fun cdv A outer s H E ds d hr hR => ?_
  have hu65 := Rs.hu65 hr
  obtain ⟨x, y, rfl, rfl⟩ := hR
  refine ⟨_, (pss_cons (ps_set (i := 0) nd rfl (by first | exact Or.inl rfl | exact Or.inr rfl) (pe_callB call_abs (by rfl) m_abs (by decide +kernel) (pa_cons (pv 0) pa_nil)))
      (pss_cons (ps_set (i := 1) nd rfl (by first | exact Or.inl rfl | exact Or.inr rfl) (pe_callB call_abs (by rfl) m_abs (by decide +kernel) (pa_cons (pv 1) pa_nil)))
      (pss_cons (ps_while PassesOwn.never (pt_cmpR op_gt (pv 1) pe_int (nomark _)) (pss_cons (ps_set (i := 2) nd rfl (by first | exact Or.inl rfl | exact Or.inr rfl) (pe_op op_mod (pv 0) (pv 1)))
      (pss_cons (ps_set (i := 0) nd rfl (by first | exact Or.inl rfl | exact Or.inr rfl) (pv 1))
      (pss_one (ps_set (i := 1) nd rfl (by first | exact Or.inl rfl | exact Or.inr rfl) (pv 2))))))
      (pss_one (ps_ret (pv 0)))))), fun Q q => ?_⟩
  · try simp only [blk_K, cx_K, cx_P, cx_w, cx_K', cx_P', cx_w']
    show Sk K H ([par (.int x), par (.int y), un]) _
    refine q_asg (d := .int (x.natAbs : Int)) (ed_is (ed_abs (ed_par rfl)) (by congr 1; split <;> omega)) rfl ?_
    refine q_asg (d := .int (y.natAbs : Int)) (ed_is (ed_abs (ed_par rfl)) (by congr 1; split <;> omega)) rfl ?_
    show Sk K H [fl (.int (x.natAbs : Int)), fl (.int (y.natAbs : Int)), un] _
    refine q_while (α := Nat × Nat) (fun a => [fl (.int (a.1 : Int)), fl (.int (a.2 : Int)), un]) (fun a => Nat.gcd a.1 a.2 = Nat.gcd x.natAbs y.natAbs) (fun a => a.2) (x.natAbs, y.natAbs) rfl rfl (fun a hP => ?_)
    obtain ⟨u, v⟩ := a
    simp only at hP ⊢
    refine ⟨decide (0 < (v : Int)), edt_test (ed_gt (ed_fl rfl) ed_int), fun h1 => ?_, fun h1 => ?_⟩
    · have hv : 0 < v := by
        have := of_decide_eq_true h1
        omega
      refine q_asg (d := .int ((u % v : Nat) : Int)) (ed_is (ed_mod (ed_fl rfl) (ed_fl rfl) (by omega)) (by rw [Int.natCast_emod])) rfl ?_
      refine q_asg (ed_fl rfl) rfl ?_
      refine sk_asg (ed_fl rfl) rfl (sk_kill [2] (sk_nx ⟨(v, u % v), ?_, Nat.mod_lt _ hv, rfl⟩))
      show Nat.gcd v (u % v) = _
      rw [← hP, Nat.gcd_comm v, ← Nat.gcd_rec, Nat.gcd_comm]
    · have hv : v = 0 := by
        have := of_decide_eq_false h1
        omega
      subst hv
      refine sk_retE q (ed_fl rfl) ?_
      unfold gcdP
      rw [← hP, Nat.gcd_zero_right]
abbrev s__law_steps : Stmt := top 42
abbrev N__law_steps : List Str := ["corners", "found", "right", "up", "many"]
theorem sc__law_steps : FnScope N__law_steps ["corners"] (defScope s__law_steps) := ⟨rfl, rfl, rfl, by decide +kernel, rfl, by decide +kernel, by decide +kernel⟩
theorem ok__law_steps {f : Addr} {fd : FuncData} (F : Fun K "_law_steps" "_law_steps" s__law_steps f fd) (h__law_sides : Has P w K mg base CX0 "_law_sides" 2 ["corners"] (spL K R_sides_by)) (h__law_common : Has P w K mg base CX0 "_law_common" 1 ["one", "other"] (spD K R_common)) : FnOk P w K mg base CX0 3 f fd ["corners"] (spL K R_steps_of) := by
  have nd := sc__law_steps.nd
  refine okL F sc__law_steps (fun _ _ ⟨_, _, _, _, e, _⟩ => by rw [e]; rfl) fun cdv A outer s H E ds d hr hR => ?_
  have hu65 := Rs.hu65 hr
  obtain ⟨c, hl, hs, hc, rfl, rfl⟩ := hR
  refine ⟨_, (pss_cons (ps_set (i := 1) nd rfl (by first | exact Or.inl rfl | exact Or.inr rfl) (pe_lst pa_nil))
      (pss_cons (ps_for PassesOwn.never rfl (pi_list (pe_callH h__law_sides (hr.mono (by decide)) (by rfl) (pa_cons (pv 0) pa_nil))) (pg_tup (by rfl) (pgs_cons (pg_name (i := 2) nd rfl (by first | exact Or.inl rfl | exact Or.inr rfl)) (pgs_cons (pg_name (i := 3) nd rfl (by first | exact Or.inl rfl | exact Or.inr rfl)) pgs_nil))) (pss_cons (ps_set (i := 4) nd rfl (by first | exact Or.inl rfl | exact Or.inr rfl) (pe_callH h__law_common (hr.mono (by decide)) (by rfl) (pa_cons (pv 2) (pa_cons (pv 3) pa_nil))))
      (pss_one (ps_set (i := 1) nd rfl (by first | exact Or.inl rfl | exact Or.inr rfl) (pe_op op_cat (pv 1) (pe_op op_rep (pe_lst (pa_cons (pe_tup (pa_cons (pe_op op_fdiv (pv 2) (pv 4)) (pa_cons (pe_op op_fdiv (pv 3) (pv 4)) pa_nil))) pa_nil)) (pv 4)))))))
      (pss_one (ps_ret (pv 1))))), fun Q q => ?_⟩
  · try simp only [blk_K, cx_K, cx_P, cx_w, cx_K', cx_P', cx_w']
    show Sk K H ([par (psD c), un, un, un, un]) _
    have hA := hc.ang
    have hss : Sms ((4000 : Nat) : Int) (sidesBy c) := sms_sides hs (by decide)
    have hsl : (sidesBy c).length ≤ 20 := by
      rw [sides_len]
      split <;> omega
    refine q_asgPL (He0 := H) (ds := ([] : List Pt).map pT) (edl_lst eda_nil (Nat.zero_le _)) rfl (Same.refl H) ?_
    refine q_forN (ds := (sidesBy c).map pT) [2, 3] (edl_sidesBy (ed_par rfl) (by omega)) (flat_ps _) (fun i => [par (psD c), pl H ((stepsOf ((sidesBy c).take i)).map pT), un, un, un]) (fun _ => True) (fun i => [par (psD c), pl H ((stepsOf ((sidesBy c).take i)).map pT), fl (.int (at_ (sidesBy c) i).1), fl (.int (at_ (sidesBy c) i).2), un]) rfl trivial (fun i d hd _ => ?_) (fun He' hb' i d hd _ => ?_) (fun _ => ?_)
    · obtain ⟨hi, rfl⟩ := get_ps hd
      exact gd_tup2 rfl rfl
    · obtain ⟨hi, rfl⟩ := get_ps hd
      have hm := at_mem hi
      have na := hA.nz' _ hm
      have hp0 := gcdP_pos na
      have hle := gcdP_le (hss _ hm) na
      have step : (sidesBy c).take (i + 1) = (sidesBy c).take i ++ [at_ (sidesBy c) i] := by
        rw [List.take_add_one, at_get hi]
        rfl
      have hlen := stepsOf_len (A := (sidesBy c).take i) (fun x hx => hss x (List.mem_of_mem_take hx)) (fun x hx => hA.nz' x (List.mem_of_mem_take hx))
      have hlen2 : ((sidesBy c).take i).length * 4000 ≤ 20 * 4000 := Nat.mul_le_mul_right _ (by rw [List.length_take]; omega)
      have hsn := stepsOf_snoc ((sidesBy c).take i) (at_ (sidesBy c) i)
      rw [← step] at hsn
      generalize at_ (sidesBy c) i = a at na hp0 hle hsn
      refine q_asg (d := .int (gcdP a)) (ed_common (ed_fl rfl) (ed_fl rfl)) rfl ?_
      have hfl : ∀ n : Nat, (List.replicate n [pT (unitP a)]).flatten = (List.replicate n (unitP a)).map pT := by
        intro n
        induction n with
        | zero => rfl
        | succ n ih => rw [List.replicate_succ, List.replicate_succ, List.flatten_cons, List.map_cons, ih] <;> rfl
      refine sk_asgPL (He0 := H) (ds := (stepsOf ((sidesBy c).take (i + 1))).map pT) (edl_is (edl_cat (edk_pl rfl) (edk_of (edl_is (edl_rep (ds := [pT (unitP a)]) (edl_lst (eda_cons (ed_tup (eda_cons (ed_fdiv (ed_fl rfl) (ed_fl rfl) ⟨hp0, by show gcdP a < _; omega⟩) (eda_cons (ed_fdiv (ed_fl rfl) (ed_fl rfl) ⟨hp0, by show gcdP a < _; omega⟩) eda_nil)) (Nat.le_of_ble_eq_true rfl)) eda_nil) (Nat.le_of_ble_eq_true rfl)) (ed_fl rfl) ⟨by omega, by omega⟩ (by rw [List.length_singleton]; omega)) (hfl _))) ?_) ?_) (flat_ps _) hb' (sk_nxK [2, 3, 4] ⟨rfl, trivial⟩)
      · rw [List.length_map, List.length_map, List.length_replicate]
        omega
      · rw [hsn, List.map_append]
    · rw [List.length_map, List.take_length]
      exact sk_retPL (k := 1) rfl q
abbrev s__law_cell_at : Stmt := top 27
abbrev N__law_cell_at : List Str := ["script", "k"]
theorem sc__law_cell_at : FnScope N__law_cell_at ["script", "k"] (defScope s__law_cell_at) := ⟨rfl, rfl, rfl, by decide +kernel, rfl, by decide +kernel, by decide +kernel⟩
theorem ok__law_cell_at {f : Addr} {fd : FuncData} (F : Fun K "_law_cell_at" "_law_cell_at" s__law_cell_at f fd) (m_len : mg "len" = none) : FnOk P w K mg base CX0 1 f fd ["script", "k"] (spD K R__law_cell_at) := by
  have nd := sc__law_cell_at.nd
  refine okD F sc__law_cell_at (fun _ _ ⟨_, _, _, e, _⟩ => by rw [e]; rfl) fun cdv A outer s H E ds d hr hR => ?_
  have hu65 := Rs.hu65 hr
  obtain ⟨ns, k, hl, rfl, rfl⟩ := hR
  refine ⟨_, (pss_cons (ps_if (pt_cmpR op_lt (pv 1) (pe_callB (call_lenK (K := K) rfl) (by rfl) m_len PySem.boot_len (pa_cons (pv 0) pa_nil)) (nomark _)) (pss_one (ps_ret (pe_ix (ixLK (K := K) rfl) (pv 0) (pv 1) (fun _ _ => rfl)))) pss_nil)
      (pss_one (ps_ret pe_int))), fun Q q => ?_⟩
  · try simp only [blk_K, cx_K, cx_P, cx_w, cx_K', cx_P', cx_w']
    show Sk K H ([par (nsD ns), par (.int (k : Int))]) _
    refine q_if (b := decide ((k : Int) < (ns.length : Int))) (edt_test (ed_lt (ed_par rfl) (ed_is (ed_lenL (ed_par rfl)) (by rw [List.length_map])))) (fun hb => ?_) (fun hb => ?_)
    · exact sk_ret (ed_cell (ed_par rfl) (ed_par rfl) (by have := of_decide_eq_true hb; omega)) q
    · skip
      refine sk_retE q ed_int ?_
      have : ns.length ≤ k := by
        have := of_decide_eq_false hb
        omega
      unfold cellAt
      rw [List.getD_eq_getElem?_getD, List.getElem?_eq_none this] <;> rfl
abbrev s__law_stir : Stmt := top 28
abbrev N__law_stir : List Str := ["seed"]
theorem sc__law_stir : FnScope N__law_stir ["seed"] (defScope s__law_stir) := ⟨rfl, rfl, rfl, by decide +kernel, rfl, by decide +kernel, by decide +kernel⟩
theorem ok__law_stir {f : Addr} {fd : FuncData} (F : Fun K "_law_stir" "_law_stir" s__law_stir f fd) : FnOk P w K mg base CX0 1 f fd ["seed"] (spD K R__law_stir) := by
  have nd := sc__law_stir.nd
  refine okD F sc__law_stir (fun _ _ ⟨_, e, _⟩ => by rw [e]; rfl) fun cdv A outer s H E ds d hr hR => ?_
  have hu65 := Rs.hu65 hr
  obtain ⟨z, rfl, rfl⟩ := hR
  refine ⟨_, (pss_cons (ps_set (i := 0) nd rfl (by first | exact Or.inl rfl | exact Or.inr rfl) (pe_op op_mod (pe_op op_add (pv 0) pe_int) pe_int))
      (pss_one (ps_ret (pe_op op_mod (pe_op op_add (pe_op op_add (pe_op op_mul (pv 0) (pv 0)) (pe_op op_mul pe_int (pv 0))) pe_int) pe_int)))), fun Q q => ?_⟩
  · try simp only [blk_K, cx_K, cx_P, cx_w, cx_K', cx_P', cx_w']
    show Sk K H ([par (.int z)]) _
    refine q_asg (d := .int ((z + 7919) % 2147483647)) ?_ rfl ?_
    · walk_at "ed"
    have h1 := Int.emod_nonneg (z + 7919) (show (2147483647 : Int) ≠ 0 by decide)
    have h2 := Int.emod_lt_of_pos (z + 7919) (show (0 : Int) < 2147483647 by decide)
    show Sk K H [fl (.int ((z + 7919) % 2147483647))] _
    have e : stir z = ((z + 7919) % 2147483647 * ((z + 7919) % 2147483647) + 48271 * ((z + 7919) % 2147483647) + 12345) % 2147483629 := rfl
    rw [e] at q
    generalize (z + 7919) % 2147483647 = s' at h1 h2 q ⊢
    walk_at "ret"
abbrev s__law_small : Stmt := top 43
abbrev N__law_small : List Str := ["script", "at", "cell", "points", "k", "seed", "point"]
theorem sc__law_small : FnScope N__law_small ["script", "at"] (defScope s__law_small) := ⟨rfl, rfl, rfl, by decide +kernel, rfl, by decide +kernel, by decide +kernel⟩
theorem ok__law_small {f : Addr} {fd : FuncData} (F : Fun K "_law_small" "_law_small" s__law_small f fd) (h__law_hull : Has P w K mg base CX0 "_law_hull" 3 ["points"] (spL K R__law_hull)) (h__law_stir : Has P w K mg base CX0 "_law_stir" 1 ["seed"] (spD K R__law_stir)) (h__law_cell_at : Has P w K mg base CX0 "_law_cell_at" 1 ["script", "k"] (spD K R__law_cell_at)) (m_range : mg "range" = none) : FnOk P w K mg base CX0 4 f fd ["script", "at"] (spL K R_small) := by
  have nd := sc__law_small.nd
  refine okL F sc__law_small (fun _ _ ⟨_, _, _, e, _⟩ => by rw [e]; rfl) fun cdv A outer s H E ds d hr hR => ?_
  have hu65 := Rs.hu65 hr
  obtain ⟨ns, a, hl, rfl, rfl⟩ := hR
  refine ⟨_, (pss_cons (ps_set (i := 2) nd rfl (by first | exact Or.inl rfl | exact Or.inr rfl) (pe_callH h__law_cell_at (hr.mono (by decide)) (by rfl) (pa_cons (pv 0) (pa_cons (pv 1) pa_nil))))
      (pss_cons (ps_set (i := 3) nd rfl (by first | exact Or.inl rfl | exact Or.inr rfl) (pe_lst pa_nil))
      (pss_cons (ps_for PassesOwn.never rfl (pi_range1 (by rfl) m_range (pa_cons (pe_op op_add pe_int (pe_op op_mod (pv 2) pe_int)) pa_nil)) (pg_name (i := 4) nd rfl (by first | exact Or.inl rfl | exact Or.inr rfl)) (pss_cons (ps_set (i := 5) nd rfl (by first | exact Or.inl rfl | exact Or.inr rfl) (pe_callH h__law_stir (hr.mono (by decide)) (by rfl) (pa_cons (pe_op op_add (pe_callH h__law_cell_at (hr.mono (by decide)) (by rfl) (pa_cons (pv 0) (pa_cons (pe_op op_add (pe_op op_add (pv 1) pe_int) (pe_op op_mod (pv 4) pe_int)) pa_nil))) (pe_op op_mul pe_int (pv 4))) pa_nil)))
      (pss_one (ps_expr (pe_bm PySem.F.plainAttrs_list PySem.F.slot_list_append PySem.F.type_list_append mt_append (pv 3) (pa_cons (pe_tup (pa_cons (pe_op op_mod (pe_op op_fdiv (pv 5) pe_int) pe_int) (pa_cons (pe_op op_mod (pe_op op_fdiv (pv 5) pe_int) pe_int) pa_nil))) pa_nil))))))
      (pss_cons (ps_if (pt_cmpR op_eq (pe_op op_mod (pe_op op_fdiv (pv 2) pe_int) pe_int) pe_int (nomark _)) (pss_one (ps_setLc (i := 3) (own := [("point", 6)]) (g := (gName 6)) (tt := tYes) rfl nd rfl rfl (sw_true rfl rfl rfl (by decide +kernel)) (pi_list (pv 3)) (blkOk_by (own := [("point", 6)]) (N := N__law_small) (sc := defScope s__law_small) (by decide +kernel)) (fun _ _ _ _ _ => (pg_name (i := 6) nd rfl (by first | exact Or.inl rfl | exact Or.inr rfl))) (fun _ _ _ _ _ => pts_nil) (fun _ _ _ _ _ => (pe_tup (pa_cons (pe_ix (ixTK (K := K) rfl) (pv 6) pe_int (fun _ _ => rfl)) (pa_cons (pe_op op_mul (pe_op op_mod (pe_op op_fdiv (pv 2) pe_int) pe_int) (pe_ix (ixTK (K := K) rfl) (pv 6) pe_int (fun _ _ => rfl))) pa_nil)))))) pss_nil)
      (pss_one (ps_ret (pe_callH h__law_hull (hr.mono (by decide)) (by rfl) (pa_cons (pv 3) pa_nil)))))))), fun Q q => ?_⟩
  · try simp only [blk_K, cx_K, cx_P, cx_w, cx_K', cx_P', cx_w']
    show Sk K H ([par (nsD ns), par (.int (a : Int)), un, un, un, un, un]) _
    refine q_asg (ed_cellAt (ed_par rfl) (ed_par rfl) hl) rfl ?_
    refine q_asgL (edl_lst eda_nil (Nat.zero_le _)) rfl fun l => ?_
    show Sk K H [par (nsD ns), par (.int (a : Int)), fl (.int (cellAt ns a)), own l [], un, un, un] _
    have hlen := smallD_len ns a
    refine q_forR1 (n := 1 + cellAt ns a % 6) (eda_cons (ed_add ed_int (ed_mod (ed_fl rfl) ed_int (by decide))) eda_nil) ⟨by omega, by omega⟩ (fun i => [par (nsD ns), par (.int (a : Int)), fl (.int (cellAt ns a)), own l (((smallD ns a).take i).map pT), un, un, un]) (fun _ => True) rfl trivial (fun i hi _ => ?_) (fun _ => ?_)
    · refine q_asg (d := .int (stir (cellAt ns (a + 1 + i % 3) + 5003 * (i : Int)))) ?_ rfl ?_
      · refine ed_stir (ed_add (ed_cellAt (ed_par rfl) (ed_is (ed_add (ed_add (ed_par rfl) ed_int) (ed_mod (ed_fl rfl) ed_int (by decide))) (by congr 1)) hl) (ed_mul ed_int (ed_fl rfl) (Or.inl ⟨by decide, by decide⟩)))
      have hi' : i < (smallD ns a).length := by omega
      have step : (smallD ns a).take (i + 1) = (smallD ns a).take i ++ [small1 ns a i] := by
        rw [List.take_add_one]
        congr 1
        unfold smallD
        rw [List.getElem?_map, List.getElem?_range (by omega)] <;> rfl
      refine sk_append (ds := ((smallD ns a).take i).map pT) (d := pT (small1 ns a i)) rfl ?_ rfl (by rw [List.length_map, List.length_take]; omega) (sk_nxK [4, 5] ⟨?_, trivial⟩)
      · unfold small1
        simp only
        generalize stir (cellAt ns (a + 1 + i % 3) + 5003 * (i : Int)) = z
        refine ed_tup (eda_cons ?_ (eda_cons ?_ eda_nil)) (Nat.le_of_ble_eq_true rfl)
        · walk_at "ed"
        · walk_at "ed"
      · rw [step, List.map_append]
        rfl
    · rw [← hlen, List.take_length]
      have hpl := smallPts_len ns a
      have hn : smallPts ns a ≠ [] := fun z => by
        rw [z, List.length_nil] at hpl
        omega
      have hps : Sms 1152921504606846976 (smallPts ns a) := fun p hp => (smallPts_sm ns a p hp).mono (by decide)
      refine q_ifJ (α := Addr) (fun l2 => [par (nsD ns), par (.int (a : Int)), fl (.int (cellAt ns a)), own l2 ((smallPts ns a).map pT), un, un, un]) (fun _ => True) (b := decide (cellAt ns a / 16 % 4 = 1)) (edt_test (ed_eqI (ed_mod (ed_fdiv (ed_fl rfl) ed_int ⟨by decide, by decide⟩) ed_int (by decide)) ed_int)) (fun l2 _ => ?_) (fun hb tail => ?_) (fun hb tail => ?_)
      · exact sk_retL (edl_hull (ed_own rfl) (by omega) hn hps) q
      · have hb' := of_decide_eq_true hb
        refine sk_asgL (ds := (smallPts ns a).map pT) (edl_lc (js := [6]) (ds := (smallD ns a).map pT) (fun n => [par (nsD ns), par (.int (a : Int)), fl (.int (cellAt ns a)), own l ((smallD ns a).map pT), un, un, fl (pT (at_ (smallD ns a) n))]) (ed_own rfl) (flat_ps _) ?_ ?_ (by simp) (fun n d hd => ?_) (fun n d o hd ho => ?_)) (flat_ps _) (fun l2 => ?_)
        · rw [List.length_map]
          omega
        · unfold smallPts
          rw [if_pos hb', List.length_map, List.length_map, List.length_map]
        · obtain ⟨hi, rfl⟩ := get_ps hd
          exact gd_name rfl
        · obtain ⟨hi, rfl⟩ := get_ps hd
          unfold smallPts at ho
          rw [if_pos hb', List.getElem?_map, List.getElem?_map, at_get hi] at ho
          cases ho
          have h1 : 0 ≤ cellAt ns a / 64 % 3 := by omega
          have h2 : cellAt ns a / 64 % 3 < 3 := by omega
          generalize cellAt ns a = c at h1 h2 ⊢
          exact ed_tup (eda_cons (ed_ixT (ed_fl rfl) ed_int rfl) (eda_cons (ed_mul (ed_mod (ed_fdiv (ed_fl rfl) ed_int ⟨by decide, by decide⟩) ed_int (by decide)) (ed_ixT (ed_fl rfl) ed_int rfl) (Or.inl ⟨by omega, by omega⟩)) eda_nil)) (Nat.le_of_ble_eq_true rfl)
        · exact tail l2 trivial
      · have hb' := of_decide_eq_false hb
        have e : smallPts ns a = smallD ns a := by
          unfold smallPts
          rw [if_neg hb']
        have := tail l trivial
        rw [e] at this
        exact this
abbrev s_law : Stmt := top 47
abbrev N_law : List Str := ["script", "corners", "must", "other", "handed", "found", "kept"]
theorem sc_law : FnScope N_law ["script"] (defScope s_law) := ⟨rfl, rfl, rfl, by decide +kernel, rfl, by decide +kernel, by decide +kernel⟩
theorem ok_law {f : Addr} {fd : FuncData} (F : Fun K "law" "law" s_law f fd) (h__law_shown : Has P w K mg base CX0 "_law_shown" 6 ["found", "corners"] (spD K R_shownP)) (h__law_asked : Has P w K mg base CX0 "_law_asked" 7 ["corners"] (spA K R_partedE)) (h__law_steps : Has P w K mg base CX0 "_law_steps" 3 ["corners"] (spL K R_steps_of)) (h__law_cell_at : Has P w K mg base CX0 "_law_cell_at" 1 ["script", "k"] (spD K R__law_cell_at)) (h__law_together : Has P w K mg base CX0 "_law_together" 4 ["one", "other"] (spL K R__law_together)) (h__law_small : Has P w K mg base CX0 "_law_small" 4 ["script", "at"] (spL K R_small)) (m_list : mg "list" = none) (m_len : mg "len" = none) : FnOk P w K mg base CX0 8 f fd ["script"] (spD K R_law) := by
  have nd := sc_law.nd
  refine okD F sc_law (fun _ _ ⟨_, _, e, _⟩ => by rw [e]; rfl) fun cdv A outer s H E ds d hr hR => ?_
  have hu65 := Rs.hu65 hr
  obtain ⟨ns, hl, rfl, rfl⟩ := hR
  refine ⟨_, (pss_cons (ps_set (i := 1) nd rfl (by first | exact Or.inl rfl | exact Or.inr rfl) (pe_callH h__law_small (hr.mono (by decide)) (by rfl) (pa_cons (pv 0) (pa_cons pe_int pa_nil))))
      (pss_cons (ps_set (i := 2) nd rfl (by first | exact Or.inl rfl | exact Or.inr rfl) pe_bl)
      (pss_cons (ps_if (pt_cmpR op_eq (pe_op op_mod (pe_callH h__law_cell_at (hr.mono (by decide)) (by rfl) (pa_cons (pv 0) (pa_cons pe_int pa_nil))) pe_int) pe_int (nomark _)) (pss_cons (ps_set (i := 3) nd rfl (by first | exact Or.inl rfl | exact Or.inr rfl) (pe_callH h__law_small (hr.mono (by decide)) (by rfl) (pa_cons (pv 0) (pa_cons pe_int pa_nil))))
      (pss_cons (ps_set (i := 2) nd rfl (by first | exact Or.inl rfl | exact Or.inr rfl) (pe_and (pe_cmpR op_gt (pe_callB (call_lenK (K := K) rfl) (by rfl) m_len PySem.boot_len (pa_cons (pv 1) pa_nil)) pe_int (nomark _)) (pe_one (pe_cmpR op_gt (pe_callB (call_lenK (K := K) rfl) (by rfl) m_len PySem.boot_len (pa_cons (pv 3) pa_nil)) pe_int (nomark _)))))
      (pss_one (ps_set (i := 1) nd rfl (by first | exact Or.inl rfl | exact Or.inr rfl) (pe_callH h__law_together (hr.mono (by decide)) (by rfl) (pa_cons (pv 1) (pa_cons (pv 3) pa_nil))))))) pss_nil)
      (pss_cons (ps_set (i := 4) nd rfl (by first | exact Or.inl rfl | exact Or.inr rfl) (pe_callTy (call_listK (K := K) rfl) (by rfl) m_list (by decide +kernel) (pa_cons (pv 1) pa_nil)))
      (pss_cons (ps_set (i := 5) nd rfl (by first | exact Or.inl rfl | exact Or.inr rfl) (pe_callH h__law_asked (hr.mono (by decide)) (by rfl) (pa_cons (pv 4) pa_nil)))
      (pss_cons (ps_if (pt_cmpR op_gt (pe_callB (call_lenK (K := K) rfl) (by rfl) m_len PySem.boot_len (pa_cons (pe_callH h__law_steps (hr.mono (by decide)) (by rfl) (pa_cons (pv 1) pa_nil)) pa_nil)) pe_int (nomark _)) (pss_one (ps_ret (pe_cmpR op_eq (pv 5) pe_str (nomark _)))) pss_nil)
      (pss_cons (ps_if (pt_cmpR (neDK (K := K) rfl hr.units) (pv 4) (pv 1) (nomark _)) (pss_one (ps_ret pe_bl)) pss_nil)
      (pss_cons (ps_if (pt_cmpR op_isN (pv 5) pe_non (nomark _)) (pss_one (ps_ret (pe_not (pv 2)))) pss_nil)
      (pss_cons (ps_if (pt_not (pt_val (pe_callH h__law_shown (hr.mono (by decide)) (by rfl) (pa_cons (pv 5) (pa_cons (pv 1) pa_nil))))) (pss_one (ps_ret pe_bl)) pss_nil)
      (pss_cons (ps_set (i := 6) nd rfl (by first | exact Or.inl rfl | exact Or.inr rfl) (pe_callTy (call_listK (K := K) rfl) (by rfl) m_list (by decide +kernel) (pa_cons (pe_ix (ixTK (K := K) rfl) (pv 5) pe_int (fun _ _ => rfl)) pa_nil)))
      (pss_cons (ps_expr (pe_bm PySem.F.plainAttrs_list PySem.F.slot_list_append PySem.F.type_list_append mt_append (pe_ix (ixTK (K := K) rfl) (pv 5) pe_int (fun _ _ => rfl)) (pa_cons (pe_tup (pa_cons pe_int (pa_cons pe_int pa_nil))) pa_nil)))
      (pss_cons (ps_if (pt_cmpR (neDK (K := K) rfl hr.units) (pe_ix (ixTK (K := K) rfl) (pv 5) pe_int (fun _ _ => rfl)) (pv 6) (nomark _)) (pss_one (ps_ret pe_bl)) pss_nil)
      (pss_cons (ps_expr (pe_bm PySem.F.plainAttrs_list PySem.F.slot_list_append PySem.F.type_list_append mt_append (pe_ix (ixTK (K := K) rfl) (pv 5) pe_int (fun _ _ => rfl)) (pa_cons (pe_tup (pa_cons pe_int (pa_cons pe_int pa_nil))) pa_nil)))
      (pss_one (ps_ret (pe_callH h__law_shown (hr.mono (by decide)) (by rfl) (pa_cons (pe_callH h__law_asked (hr.mono (by decide)) (by rfl) (pa_cons (pv 4) pa_nil)) (pa_cons (pv 1) pa_nil)))))))))))))))))), fun Q q => ?_⟩
  · try simp only [blk_K, cx_K, cx_P, cx_w, cx_K', cx_P', cx_w']
    show Sk K H ([par (nsD ns), un, un, un, un, un, un]) _
    obtain ⟨hc, hcl, hcs⟩ := lawSmall_ok ns 0
    obtain ⟨hd, hdl, hds⟩ := lawSmall_ok ns 5
    refine q_asgP (edl_small (a := 0) (ed_par rfl) ed_int hl) (flat_ps _) ?_
    generalize lawSmall ns 0 = c at hc hcl hcs ⊢
    refine q_asg (d := .bool false) ed_bl rfl ?_
    refine q_ifJ (α := List Pt × Bool) (fun a => [par (nsD ns), par (psD a.1), fl (.bool a.2), un, un, un, un]) (fun a => IsShape a.1 ∧ a.1.length ≤ 12 ∧ Sms 12 a.1 ∧ (a.2 = true → (Rm.parted a.1).isSome = true)) (b := decide (cellAt ns 4 % 2 = 1)) (edt_test (ed_eqI (ed_mod (ed_cellAt (k := 4) (ed_par rfl) ed_int hl) ed_int (by decide)) ed_int)) (fun a ⟨ha, hal, has, hmu⟩ => ?_) (fun _ tail => ?_) (fun _ tail => tail (c, false) ⟨hc, show c.length ≤ 12 by omega, fun p hp => (hcs p hp).mono (by decide), fun h => nomatch h⟩)
    · obtain ⟨a, must⟩ := a
      have ha : IsShape a := ha
      have hal : a.length ≤ 12 := hal
      have has : Sms 12 a := has
      have hmu : must = true → (Rm.parted a).isSome = true := hmu
      show Sk K H [par (nsD ns), par (psD a), fl (.bool must), un, un, un, un] _
      have has2 : Sms 2000 a := fun p hp => (has p hp).mono (by decide)
      have hA := ha.ang
      have hsl : (sidesBy a).length ≤ 12 := by
        rw [sides_len]
        split <;> omega
      have hlen : (stepsP a).length ≤ 100000 := by
        have h1 := stepsOf_len (n := 24) (A := sidesBy a) (sms_sides has (by decide)) hA.nz'
        have h2 : (sidesBy a).length * 24 ≤ 12 * 24 := Nat.mul_le_mul_right _ hsl
        unfold stepsP
        omega
      refine q_asgP (edl_list (ed_par rfl)) (flat_ps _) ?_
      have hask : ∀ (env : List (Sl K)), env[4]? = some (par (psD a)) → EdAk (tCall (spA K R_partedE) [] E0 (tCons (tVar 4) tNil)) env (partRes a) := fun env h => edak_asked (ed_par h) (by omega) has2 ha
      have hsteps : ∀ (env : List (Sl K)), env[1]? = some (par (psD a)) → EdT (tTest (tOp (rI0 fun i j => .bl (decide (j < i))) (tCB (Rs.rLen K) (tCons (tCall (spL K R_steps_of) [] E0 (tCons (tVar 1) tNil)) tNil)) (tC (.int 10)))) env (decide (10 < (stepsP a).length)) := fun env h => edt_is (edt_test (ed_gt (ed_lenL (ds := (stepsP a).map pT) (ed_ofL (edl_lawSteps (ed_par h) (by omega) has2 ha))) ed_int)) (by rw [List.length_map]; exact decide_eq_decide.mpr (by omega))
      by_cases h10 : 10 < (stepsP a).length
      · have hy : partRes a = .inr 4 := if_pos h10
        rw [hy] at hask
        refine q_asg (d := .str "long") (ed_long (hask _ rfl)) rfl ?_
        refine q_if (b := true) (edt_is (hsteps _ rfl) (decide_eq_true h10)) (fun _ => ?_) (fun h => nomatch h)
        exact sk_retE q (ed_eqS (ed_fl rfl) ed_str) (by simp)
      · have hy : partRes a = .inl (Rm.parted a) := if_neg h10
        rw [hy] at hask
        cases hp : Rm.parted a with
        | none =>
          rw [hp] at hask hmu
          refine q_asg (d := .none) (ed_P (edp_ak (hask _ rfl))) rfl ?_
          refine q_if (b := false) (edt_is (hsteps _ rfl) (decide_eq_false h10)) (fun h => nomatch h) (fun _ => ?_)
          refine q_if (b := false) (edt_is (edt_test (ed_neD (ed_par rfl) (ed_par rfl) (shaped_ps _) (shaped_ps _))) (by rw [eqv_ps]; simp)) (fun h => nomatch h) (fun _ => ?_)
          refine q_if (b := true) (edt_is (edt_test (ed_isN (d := .none) (ed_fl rfl))) rfl) (fun _ => ?_) (fun h => nomatch h)
          refine sk_retE q (ed_notV (ed_fl rfl)) ?_
          cases must with
          | false => rfl
          | true => exact absurd (hmu rfl) (by simp)
        | some z =>
          obtain ⟨d, e⟩ := z
          rw [hp] at hask
          obtain ⟨p1, p2, p3, p4, p5, p6⟩ := parted_ok ha hp
          obtain ⟨s1, s2⟩ := parted_sm ha has (by decide) (by omega) hp
          have s1' : Sms 1000000 d := fun p hp => (s1 p hp).mono (by decide)
          have s2' : Sms 1000000 e := fun p hp => (s2 p hp).mono (by decide)
          refine q_asgTw (edp_ak (hask _ rfl)) fun l m => ?_
          show Sk K H [par (nsD ns), par (psD a), fl (.bool must), un, par (psD a), tw l m (d.map pT) (e.map pT), un] _
          refine q_if (b := false) (edt_is (hsteps _ rfl) (decide_eq_false h10)) (fun h => nomatch h) (fun _ => ?_)
          refine q_if (b := false) (edt_is (edt_test (ed_neD (ed_par rfl) (ed_par rfl) (shaped_ps _) (shaped_ps _))) (by rw [eqv_ps]; simp)) (fun h => nomatch h) (fun _ => ?_)
          refine q_if (b := false) (edt_is (edt_test (ed_isN (d := twoT d e) (ed_tw rfl))) rfl) (fun h => nomatch h) (fun _ => ?_)
          refine q_if (b := false) (edt_is (edt_not (edt_B (ed_shownP (ed_tw rfl) (ed_par rfl) p1 p2 p3 p4 (by omega) s1' s2' p6))) rfl) (fun h => nomatch h) (fun _ => ?_)
          refine q_asgP (edl_list (ds := e.map pT) (ed_ixT (ed_tw rfl) ed_int rfl)) (flat_ps _) ?_
          refine q_appendTw0 (k := 5) (l := l) (m := m) (d := pT (0, 0)) rfl (ed_tup (eda_cons ed_int (eda_cons ed_int eda_nil)) (Nat.le_of_ble_eq_true rfl)) rfl (by rw [List.length_map]; omega) ?_
          refine q_if (b := false) (edt_is (edt_test (ed_neD (x := psD e) (ed_ixT (ed_tw rfl) ed_int rfl) (ed_par rfl) (shaped_ps _) (shaped_ps _))) (by rw [eqv_ps]; simp)) (fun h => nomatch h) (fun _ => ?_)
          refine q_appendTw1 (k := 5) (l := l) (m := m) (d := pT (0, 0)) rfl (ed_tup (eda_cons ed_int (eda_cons ed_int eda_nil)) (Nat.le_of_ble_eq_true rfl)) rfl (by rw [List.length_map]; omega) ?_
          exact sk_retE q (ed_shownP (ed_P (edp_ak (hask _ rfl))) (ed_par rfl) p1 p2 p3 p4 (by omega) s1' s2' p6) rfl
    · have hcd := together_lenS hc.1 hd.1
      refine q_asgP (edl_small (a := 5) (ed_par rfl) ed_int hl) (flat_ps _) ?_
      generalize lawSmall ns 5 = d at hd hdl hds hcd ⊢
      refine q_asg (d := .bool (decide (1 < c.length) && decide (1 < d.length))) (ed_is (ed_andV (ed_gt (ed_len (ed_par rfl)) ed_int) (fun _ => ed_gt (ed_len (ed_par rfl)) ed_int)) (congrArg PyData.bool (congr (congrArg and (decide_eq_decide.mpr (by omega))) (decide_eq_decide.mpr (by omega))))) rfl ?_
      refine sk_asgP (edl_lawTogether (ed_par rfl) (ed_par rfl) (Nat.le_trans (Nat.mul_le_mul hcl hdl) (by decide)) hcs hds (by decide) hc hd) (flat_ps _) ?_
      refine sk_kill [3] (tail (Rm.together c d, decide (1 < c.length) && decide (1 < d.length)) ⟨(together_shape hc hd).2, ?_, fun p hp => ?_, fun h => ?_⟩)
      · show (Rm.together c d).length ≤ 12
        omega
      · obtain ⟨x, hx, y, hy, rfl⟩ := mem_pairs.mp (together_sub hc hd hp)
        exact sm_add (hcs x hx) (hds y hy)
      · have h' : (decide (1 < c.length) && decide (1 < d.length)) = true := h
        rw [Bool.and_eq_true, decide_eq_true_eq, decide_eq_true_eq] at h'
        exact parted_must hc hd h'.1 h'.2
end

theorem all_mk {l : PySem.W.OpenLaw} {w : World} {K : PySem.W.Frag} {h : Heap} {mg : Str → Option Value} {fa : Addr} (X : K.In h) (G : h.Ns mainGlobals mg) (hfa : mg "law" = some (.ref fa))
    {f0 : Addr} {od0 an0 : Option Addr} {sl0 : Array (Option Value)} {oc0 kV0 dc0 pm0 cd0 ct0 : Value}
    (a0 : PySem.W.nsIn K mainGlobals "_law_cross" = some (some (.ref f0))) (l0 : K.lookup f0 = some ⟨oc0, od0, .func (PySem.W.fnOf "_law_cross" "_law_cross" (defArgs s__law_cross) (defBody s__law_cross) (defScope s__law_cross) .none kV0 dc0 pm0 an0 cd0 ct0), sl0⟩) (c0 : PySem.W.codeIn K cd0 "_law_cross" = true) (k0 : PySem.W.keepIn K (.ref f0) = true)
    {f1 : Addr} {od1 an1 : Option Addr} {sl1 : Array (Option Value)} {oc1 kV1 dc1 pm1 cd1 ct1 : Value}
    (a1 : PySem.W.nsIn K mainGlobals "_law_arrow" = some (some (.ref f1))) (l1 : K.lookup f1 = some ⟨oc1, od1, .func (PySem.W.fnOf "_law_arrow" "_law_arrow" (defArgs s__law_arrow) (defBody s__law_arrow) (defScope s__law_arrow) .none kV1 dc1 pm1 an1 cd1 ct1), sl1⟩) (c1 : PySem.W.codeIn K cd1 "_law_arrow" = true) (k1 : PySem.W.keepIn K (.ref f1) = true)
    {f2 : Addr} {od2 an2 : Option Addr} {sl2 : Array (Option Value)} {oc2 kV2 dc2 pm2 cd2 ct2 : Value}
    (a2 : PySem.W.nsIn K mainGlobals "_law_chain" = some (some (.ref f2))) (l2 : K.lookup f2 = some ⟨oc2, od2, .func (PySem.W.fnOf "_law_chain" "_law_chain" (defArgs s__law_chain) (defBody s__law_chain) (defScope s__law_chain) .none kV2 dc2 pm2 an2 cd2 ct2), sl2⟩) (c2 : PySem.W.codeIn K cd2 "_law_chain" = true) (k2 : PySem.W.keepIn K (.ref f2) = true)
    {f3 : Addr} {od3 an3 : Option Addr} {sl3 : Array (Option Value)} {oc3 kV3 dc3 pm3 cd3 ct3 : Value}
    (a3 : PySem.W.nsIn K mainGlobals "_law_hull" = some (some (.ref f3))) (l3 : K.lookup f3 = some ⟨oc3, od3, .func (PySem.W.fnOf "_law_hull" "_law_hull" (defArgs s__law_hull) (defBody s__law_hull) (defScope s__law_hull) .none kV3 dc3 pm3 an3 cd3 ct3), sl3⟩) (c3 : PySem.W.codeIn K cd3 "_law_hull" = true) (k3 : PySem.W.keepIn K (.ref f3) = true)
    {f4 : Addr} {od4 an4 : Option Addr} {sl4 : Array (Option Value)} {oc4 kV4 dc4 pm4 cd4 ct4 : Value}
    (a4 : PySem.W.nsIn K mainGlobals "_law_pairs" = some (some (.ref f4))) (l4 : K.lookup f4 = some ⟨oc4, od4, .func (PySem.W.fnOf "_law_pairs" "_law_pairs" (defArgs s__law_pairs) (defBody s__law_pairs) (defScope s__law_pairs) .none kV4 dc4 pm4 an4 cd4 ct4), sl4⟩) (c4 : PySem.W.codeIn K cd4 "_law_pairs" = true) (k4 : PySem.W.keepIn K (.ref f4) = true)
    {f5 : Addr} {od5 an5 : Option Addr} {sl5 : Array (Option Value)} {oc5 kV5 dc5 pm5 cd5 ct5 : Value}
    (a5 : PySem.W.nsIn K mainGlobals "_law_together" = some (some (.ref f5))) (l5 : K.lookup f5 = some ⟨oc5, od5, .func (PySem.W.fnOf "_law_together" "_law_together" (defArgs s__law_together) (defBody s__law_together) (defScope s__law_together) .none kV5 dc5 pm5 an5 cd5 ct5), sl5⟩) (c5 : PySem.W.codeIn K cd5 "_law_together" = true) (k5 : PySem.W.keepIn K (.ref f5) = true)
    {f6 : Addr} {od6 an6 : Option Addr} {sl6 : Array (Option Value)} {oc6 kV6 dc6 pm6 cd6 ct6 : Value}
    (a6 : PySem.W.nsIn K mainGlobals "_law_half" = some (some (.ref f6))) (l6 : K.lookup f6 = some ⟨oc6, od6, .func (PySem.W.fnOf "_law_half" "_law_half" (defArgs s__law_half) (defBody s__law_half) (defScope s__law_half) .none kV6 dc6 pm6 an6 cd6 ct6), sl6⟩) (c6 : PySem.W.codeIn K cd6 "_law_half" = true) (k6 : PySem.W.keepIn K (.ref f6) = true)
    {f7 : Addr} {od7 an7 : Option Addr} {sl7 : Array (Option Value)} {oc7 kV7 dc7 pm7 cd7 ct7 : Value}
    (a7 : PySem.W.nsIn K mainGlobals "_law_sides" = some (some (.ref f7))) (l7 : K.lookup f7 = some ⟨oc7, od7, .func (PySem.W.fnOf "_law_sides" "_law_sides" (defArgs s__law_sides) (defBody s__law_sides) (defScope s__law_sides) .none kV7 dc7 pm7 an7 cd7 ct7), sl7⟩) (c7 : PySem.W.codeIn K cd7 "_law_sides" = true) (k7 : PySem.W.keepIn K (.ref f7) = true)
    {f8 : Addr} {od8 an8 : Option Addr} {sl8 : Array (Option Value)} {oc8 kV8 dc8 pm8 cd8 ct8 : Value}
    (a8 : PySem.W.nsIn K mainGlobals "_law_good" = some (some (.ref f8))) (l8 : K.lookup f8 = some ⟨oc8, od8, .func (PySem.W.fnOf "_law_good" "_law_good" (defArgs s__law_good) (defBody s__law_good) (defScope s__law_good) .none kV8 dc8 pm8 an8 cd8 ct8), sl8⟩) (c8 : PySem.W.codeIn K cd8 "_law_good" = true) (k8 : PySem.W.keepIn K (.ref f8) = true)
    {f9 : Addr} {od9 an9 : Option Addr} {sl9 : Array (Option Value)} {oc9 kV9 dc9 pm9 cd9 ct9 : Value}
    (a9 : PySem.W.nsIn K mainGlobals "_law_points_like" = some (some (.ref f9))) (l9 : K.lookup f9 = some ⟨oc9, od9, .func (PySem.W.fnOf "_law_points_like" "_law_points_like" (defArgs s__law_points_like) (defBody s__law_points_like) (defScope s__law_points_like) .none kV9 dc9 pm9 an9 cd9 ct9), sl9⟩) (c9 : PySem.W.codeIn K cd9 "_law_points_like" = true) (k9 : PySem.W.keepIn K (.ref f9) = true)
    {f10 : Addr} {od10 an10 : Option Addr} {sl10 : Array (Option Value)} {oc10 kV10 dc10 pm10 cd10 ct10 : Value}
    (a10 : PySem.W.nsIn K mainGlobals "_law_shown" = some (some (.ref f10))) (l10 : K.lookup f10 = some ⟨oc10, od10, .func (PySem.W.fnOf "_law_shown" "_law_shown" (defArgs s__law_shown) (defBody s__law_shown) (defScope s__law_shown) .none kV10 dc10 pm10 an10 cd10 ct10), sl10⟩) (c10 : PySem.W.codeIn K cd10 "_law_shown" = true) (k10 : PySem.W.keepIn K (.ref f10) = true)
    {f11 : Addr} {od11 an11 : Option Addr} {sl11 : Array (Option Value)} {oc11 kV11 dc11 pm11 cd11 ct11 : Value}
    (a11 : PySem.W.nsIn K mainGlobals "choices" = some (some (.ref f11))) (l11 : K.lookup f11 = some ⟨oc11, od11, .func (PySem.W.fnOf "choices" "choices" (defArgs s_choices) (defBody s_choices) (defScope s_choices) .none kV11 dc11 pm11 an11 cd11 ct11), sl11⟩) (c11 : PySem.W.codeIn K cd11 "choices" = true) (k11 : PySem.W.keepIn K (.ref f11) = true)
    {f12 : Addr} {od12 an12 : Option Addr} {sl12 : Array (Option Value)} {oc12 kV12 dc12 pm12 cd12 ct12 : Value}
    (a12 : PySem.W.nsIn K mainGlobals "shape_by" = some (some (.ref f12))) (l12 : K.lookup f12 = some ⟨oc12, od12, .func (PySem.W.fnOf "shape_by" "shape_by" (defArgs s_shape_by) (defBody s_shape_by) (defScope s_shape_by) .none kV12 dc12 pm12 an12 cd12 ct12), sl12⟩) (c12 : PySem.W.codeIn K cd12 "shape_by" = true) (k12 : PySem.W.keepIn K (.ref f12) = true)
    {f13 : Addr} {od13 an13 : Option Addr} {sl13 : Array (Option Value)} {oc13 kV13 dc13 pm13 cd13 ct13 : Value}
    (a13 : PySem.W.nsIn K mainGlobals "gathered" = some (some (.ref f13))) (l13 : K.lookup f13 = some ⟨oc13, od13, .func (PySem.W.fnOf "gathered" "gathered" (defArgs s_gathered) (defBody s_gathered) (defScope s_gathered) .none kV13 dc13 pm13 an13 cd13 ct13), sl13⟩) (c13 : PySem.W.codeIn K cd13 "gathered" = true) (k13 : PySem.W.keepIn K (.ref f13) = true)
    {f14 : Addr} {od14 an14 : Option Addr} {sl14 : Array (Option Value)} {oc14 kV14 dc14 pm14 cd14 ct14 : Value}
    (a14 : PySem.W.nsIn K mainGlobals "between" = some (some (.ref f14))) (l14 : K.lookup f14 = some ⟨oc14, od14, .func (PySem.W.fnOf "between" "between" (defArgs s_between) (defBody s_between) (defScope s_between) .none kV14 dc14 pm14 an14 cd14 ct14), sl14⟩) (c14 : PySem.W.codeIn K cd14 "between" = true) (k14 : PySem.W.keepIn K (.ref f14) = true)
    {f15 : Addr} {od15 an15 : Option Addr} {sl15 : Array (Option Value)} {oc15 kV15 dc15 pm15 cd15 ct15 : Value}
    (a15 : PySem.W.nsIn K mainGlobals "sides_by" = some (some (.ref f15))) (l15 : K.lookup f15 = some ⟨oc15, od15, .func (PySem.W.fnOf "sides_by" "sides_by" (defArgs s_sides_by) (defBody s_sides_by) (defScope s_sides_by) .none kV15 dc15 pm15 an15 cd15 ct15), sl15⟩) (c15 : PySem.W.codeIn K cd15 "sides_by" = true) (k15 : PySem.W.keepIn K (.ref f15) = true)
    {f16 : Addr} {od16 an16 : Option Addr} {sl16 : Array (Option Value)} {oc16 kV16 dc16 pm16 cd16 ct16 : Value}
    (a16 : PySem.W.nsIn K mainGlobals "common" = some (some (.ref f16))) (l16 : K.lookup f16 = some ⟨oc16, od16, .func (PySem.W.fnOf "common" "common" (defArgs s_common) (defBody s_common) (defScope s_common) .none kV16 dc16 pm16 an16 cd16 ct16), sl16⟩) (c16 : PySem.W.codeIn K cd16 "common" = true) (k16 : PySem.W.keepIn K (.ref f16) = true)
    {f17 : Addr} {od17 an17 : Option Addr} {sl17 : Array (Option Value)} {oc17 kV17 dc17 pm17 cd17 ct17 : Value}
    (a17 : PySem.W.nsIn K mainGlobals "step_of" = some (some (.ref f17))) (l17 : K.lookup f17 = some ⟨oc17, od17, .func (PySem.W.fnOf "step_of" "step_of" (defArgs s_step_of) (defBody s_step_of) (defScope s_step_of) .none kV17 dc17 pm17 an17 cd17 ct17), sl17⟩) (c17 : PySem.W.codeIn K cd17 "step_of" = true) (k17 : PySem.W.keepIn K (.ref f17) = true)
    {f18 : Addr} {od18 an18 : Option Addr} {sl18 : Array (Option Value)} {oc18 kV18 dc18 pm18 cd18 ct18 : Value}
    (a18 : PySem.W.nsIn K mainGlobals "lengths" = some (some (.ref f18))) (l18 : K.lookup f18 = some ⟨oc18, od18, .func (PySem.W.fnOf "lengths" "lengths" (defArgs s_lengths) (defBody s_lengths) (defScope s_lengths) .none kV18 dc18 pm18 an18 cd18 ct18), sl18⟩) (c18 : PySem.W.codeIn K cd18 "lengths" = true) (k18 : PySem.W.keepIn K (.ref f18) = true)
    {f19 : Addr} {od19 an19 : Option Addr} {sl19 : Array (Option Value)} {oc19 kV19 dc19 pm19 cd19 ct19 : Value}
    (a19 : PySem.W.nsIn K mainGlobals "cross" = some (some (.ref f19))) (l19 : K.lookup f19 = some ⟨oc19, od19, .func (PySem.W.fnOf "cross" "cross" (defArgs s_cross) (defBody s_cross) (defScope s_cross) .none kV19 dc19 pm19 an19 cd19 ct19), sl19⟩) (c19 : PySem.W.codeIn K cd19 "cross" = true) (k19 : PySem.W.keepIn K (.ref f19) = true)
    {f20 : Addr} {od20 an20 : Option Addr} {sl20 : Array (Option Value)} {oc20 kV20 dc20 pm20 cd20 ct20 : Value}
    (a20 : PySem.W.nsIn K mainGlobals "half" = some (some (.ref f20))) (l20 : K.lookup f20 = some ⟨oc20, od20, .func (PySem.W.fnOf "half" "half" (defArgs s_half) (defBody s_half) (defScope s_half) .none kV20 dc20 pm20 an20 cd20 ct20), sl20⟩) (c20 : PySem.W.codeIn K cd20 "half" = true) (k20 : PySem.W.keepIn K (.ref f20) = true)
    {f21 : Addr} {od21 an21 : Option Addr} {sl21 : Array (Option Value)} {oc21 kV21 dc21 pm21 cd21 ct21 : Value}
    (a21 : PySem.W.nsIn K mainGlobals "comes_ahead" = some (some (.ref f21))) (l21 : K.lookup f21 = some ⟨oc21, od21, .func (PySem.W.fnOf "comes_ahead" "comes_ahead" (defArgs s_comes_ahead) (defBody s_comes_ahead) (defScope s_comes_ahead) .none kV21 dc21 pm21 an21 cd21 ct21), sl21⟩) (c21 : PySem.W.codeIn K cd21 "comes_ahead" = true) (k21 : PySem.W.keepIn K (.ref f21) = true)
    {f22 : Addr} {od22 an22 : Option Addr} {sl22 : Array (Option Value)} {oc22 kV22 dc22 pm22 cd22 ct22 : Value}
    (a22 : PySem.W.nsIn K mainGlobals "is_shape" = some (some (.ref f22))) (l22 : K.lookup f22 = some ⟨oc22, od22, .func (PySem.W.fnOf "is_shape" "is_shape" (defArgs s_is_shape) (defBody s_is_shape) (defScope s_is_shape) .none kV22 dc22 pm22 an22 cd22 ct22), sl22⟩) (c22 : PySem.W.codeIn K cd22 "is_shape" = true) (k22 : PySem.W.keepIn K (.ref f22) = true)
    {f23 : Addr} {od23 an23 : Option Addr} {sl23 : Array (Option Value)} {oc23 kV23 dc23 pm23 cd23 ct23 : Value}
    (a23 : PySem.W.nsIn K mainGlobals "must_be_shape" = some (some (.ref f23))) (l23 : K.lookup f23 = some ⟨oc23, od23, .func (PySem.W.fnOf "must_be_shape" "must_be_shape" (defArgs s_must_be_shape) (defBody s_must_be_shape) (defScope s_must_be_shape) .none kV23 dc23 pm23 an23 cd23 ct23), sl23⟩) (c23 : PySem.W.codeIn K cd23 "must_be_shape" = true) (k23 : PySem.W.keepIn K (.ref f23) = true)
    {f24 : Addr} {od24 an24 : Option Addr} {sl24 : Array (Option Value)} {oc24 kV24 dc24 pm24 cd24 ct24 : Value}
    (a24 : PySem.W.nsIn K mainGlobals "steps_of" = some (some (.ref f24))) (l24 : K.lookup f24 = some ⟨oc24, od24, .func (PySem.W.fnOf "steps_of" "steps_of" (defArgs s_steps_of) (defBody s_steps_of) (defScope s_steps_of) .none kV24 dc24 pm24 an24 cd24 ct24), sl24⟩) (c24 : PySem.W.codeIn K cd24 "steps_of" = true) (k24 : PySem.W.keepIn K (.ref f24) = true)
    {f25 : Addr} {od25 an25 : Option Addr} {sl25 : Array (Option Value)} {oc25 kV25 dc25 pm25 cd25 ct25 : Value}
    (a25 : PySem.W.nsIn K mainGlobals "parted" = some (some (.ref f25))) (l25 : K.lookup f25 = some ⟨oc25, od25, .func (PySem.W.fnOf "parted" "parted" (defArgs s_parted) (defBody s_parted) (defScope s_parted) .none kV25 dc25 pm25 an25 cd25 ct25), sl25⟩) (c25 : PySem.W.codeIn K cd25 "parted" = true) (k25 : PySem.W.keepIn K (.ref f25) = true)
    {f26 : Addr} {od26 an26 : Option Addr} {sl26 : Array (Option Value)} {oc26 kV26 dc26 pm26 cd26 ct26 : Value}
    (a26 : PySem.W.nsIn K mainGlobals "_law_which" = some (some (.ref f26))) (l26 : K.lookup f26 = some ⟨oc26, od26, .func (PySem.W.fnOf "_law_which" "_law_which" (defArgs s__law_which) (defBody s__law_which) (defScope s__law_which) .none kV26 dc26 pm26 an26 cd26 ct26), sl26⟩) (c26 : PySem.W.codeIn K cd26 "_law_which" = true) (k26 : PySem.W.keepIn K (.ref f26) = true)
    {f27 : Addr} {od27 an27 : Option Addr} {sl27 : Array (Option Value)} {oc27 kV27 dc27 pm27 cd27 ct27 : Value}
    (a27 : PySem.W.nsIn K mainGlobals "_law_asked" = some (some (.ref f27))) (l27 : K.lookup f27 = some ⟨oc27, od27, .func (PySem.W.fnOf "_law_asked" "_law_asked" (defArgs s__law_asked) (defBody s__law_asked) (defScope s__law_asked) .none kV27 dc27 pm27 an27 cd27 ct27), sl27⟩) (c27 : PySem.W.codeIn K cd27 "_law_asked" = true) (k27 : PySem.W.keepIn K (.ref f27) = true)
    {f28 : Addr} {od28 an28 : Option Addr} {sl28 : Array (Option Value)} {oc28 kV28 dc28 pm28 cd28 ct28 : Value}
    (a28 : PySem.W.nsIn K mainGlobals "_law_common" = some (some (.ref f28))) (l28 : K.lookup f28 = some ⟨oc28, od28, .func (PySem.W.fnOf "_law_common" "_law_common" (defArgs s__law_common) (defBody s__law_common) (defScope s__law_common) .none kV28 dc28 pm28 an28 cd28 ct28), sl28⟩) (c28 : PySem.W.codeIn K cd28 "_law_common" = true) (k28 : PySem.W.keepIn K (.ref f28) = true)
    {f29 : Addr} {od29 an29 : Option Addr} {sl29 : Array (Option Value)} {oc29 kV29 dc29 pm29 cd29 ct29 : Value}
    (a29 : PySem.W.nsIn K mainGlobals "_law_steps" = some (some (.ref f29))) (l29 : K.lookup f29 = some ⟨oc29, od29, .func (PySem.W.fnOf "_law_steps" "_law_steps" (defArgs s__law_steps) (defBody s__law_steps) (defScope s__law_steps) .none kV29 dc29 pm29 an29 cd29 ct29), sl29⟩) (c29 : PySem.W.codeIn K cd29 "_law_steps" = true) (k29 : PySem.W.keepIn K (.ref f29) = true)
    {f30 : Addr} {od30 an30 : Option Addr} {sl30 : Array (Option Value)} {oc30 kV30 dc30 pm30 cd30 ct30 : Value}
    (a30 : PySem.W.nsIn K mainGlobals "_law_cell_at" = some (some (.ref f30))) (l30 : K.lookup f30 = some ⟨oc30, od30, .func (PySem.W.fnOf "_law_cell_at" "_law_cell_at" (defArgs s__law_cell_at) (defBody s__law_cell_at) (defScope s__law_cell_at) .none kV30 dc30 pm30 an30 cd30 ct30), sl30⟩) (c30 : PySem.W.codeIn K cd30 "_law_cell_at" = true) (k30 : PySem.W.keepIn K (.ref f30) = true)
    {f31 : Addr} {od31 an31 : Option Addr} {sl31 : Array (Option Value)} {oc31 kV31 dc31 pm31 cd31 ct31 : Value}
    (a31 : PySem.W.nsIn K mainGlobals "_law_stir" = some (some (.ref f31))) (l31 : K.lookup f31 = some ⟨oc31, od31, .func (PySem.W.fnOf "_law_stir" "_law_stir" (defArgs s__law_stir) (defBody s__law_stir) (defScope s__law_stir) .none kV31 dc31 pm31 an31 cd31 ct31), sl31⟩) (c31 : PySem.W.codeIn K cd31 "_law_stir" = true) (k31 : PySem.W.keepIn K (.ref f31) = true)
    {f32 : Addr} {od32 an32 : Option Addr} {sl32 : Array (Option Value)} {oc32 kV32 dc32 pm32 cd32 ct32 : Value}
    (a32 : PySem.W.nsIn K mainGlobals "_law_small" = some (some (.ref f32))) (l32 : K.lookup f32 = some ⟨oc32, od32, .func (PySem.W.fnOf "_law_small" "_law_small" (defArgs s__law_small) (defBody s__law_small) (defScope s__law_small) .none kV32 dc32 pm32 an32 cd32 ct32), sl32⟩) (c32 : PySem.W.codeIn K cd32 "_law_small" = true) (k32 : PySem.W.keepIn K (.ref f32) = true)
    {f33 : Addr} {od33 an33 : Option Addr} {sl33 : Array (Option Value)} {oc33 kV33 dc33 pm33 cd33 ct33 : Value}
    (a33 : PySem.W.nsIn K mainGlobals "law" = some (some (.ref f33))) (l33 : K.lookup f33 = some ⟨oc33, od33, .func (PySem.W.fnOf "law" "law" (defArgs s_law) (defBody s_law) (defScope s_law) .none kV33 dc33 pm33 an33 cd33 ct33), sl33⟩) (c33 : PySem.W.codeIn K cd33 "law" = true) (k33 : PySem.W.keepIn K (.ref f33) = true)
    (z_len : PySem.W.nsIn K mainGlobals "len" = some none)
    (z_list : PySem.W.nsIn K mainGlobals "list" = some none)
    (z_reversed : PySem.W.nsIn K mainGlobals "reversed" = some none)
    (z_sorted : PySem.W.nsIn K mainGlobals "sorted" = some none)
    (z_set : PySem.W.nsIn K mainGlobals "set" = some none)
    (z_int : PySem.W.nsIn K mainGlobals "int" = some none)
    (z_range : PySem.W.nsIn K mainGlobals "range" = some none)
    (z_all : PySem.W.nsIn K mainGlobals "all" = some none)
    (z_isinstance : PySem.W.nsIn K mainGlobals "isinstance" = some none)
    (z_bool : PySem.W.nsIn K mainGlobals "bool" = some none)
    (z_tuple : PySem.W.nsIn K mainGlobals "tuple" = some none)
    (z_abs : PySem.W.nsIn K mainGlobals "abs" = some none)
    (z_ValueError : PySem.W.nsIn K mainGlobals "ValueError" = some none)
    {t_MOST_STEPS : _} (g_MOST_STEPS : PySem.W.nsIn K mainGlobals "MOST_STEPS" = some (some (.int 10 t_MOST_STEPS)))
    {Ra cc0 cc1 cc2 cc3 cc4 : Addr}
    (aR : PySem.W.nsIn K mainGlobals "RoundError" = some (some (.ref Ra)))
    (ac0 : PySem.W.nsIn K mainGlobals "NoNote" = some (some (.ref cc0)))
    (ac1 : PySem.W.nsIn K mainGlobals "NoNumber" = some (some (.ref cc1)))
    (ac2 : PySem.W.nsIn K mainGlobals "NoPoints" = some (some (.ref cc2)))
    (ac3 : PySem.W.nsIn K mainGlobals "NoShape" = some (some (.ref cc3)))
    (ac4 : PySem.W.nsIn K mainGlobals "TooLong" = some (some (.ref cc4)))
    (bR : PySem.W.subIn K (.ref Ra) (.type "BaseException") = some true)
    (hR : PySem.W.hasDictIn K Ra = true)
    (tR : PySem.W.typeIn K (.ref Ra) = some (.type "type"))
    (ic0 : PySem.W.isClsIn K cc0 = true)
    (tc0 : PySem.W.typeIn K (.ref cc0) = some (.type "type"))
    (ic1 : PySem.W.isClsIn K cc1 = true)
    (tc1 : PySem.W.typeIn K (.ref cc1) = some (.type "type"))
    (ic2 : PySem.W.isClsIn K cc2 = true)
    (tc2 : PySem.W.typeIn K (.ref cc2) = some (.type "type"))
    (ic3 : PySem.W.isClsIn K cc3 = true)
    (tc3 : PySem.W.typeIn K (.ref cc3) = some (.type "type"))
    (ic4 : PySem.W.isClsIn K cc4 = true)
    (tc4 : PySem.W.typeIn K (.ref cc4) = some (.type "type"))
    (hn : PySem.W.specialIn K (.builtin "object.__class__") "__get__" = some (some (.builtin "getset_descriptor.__get__")))
    (ht : PySem.W.takesIn K (.builtin "object.__class__") = some true)
    (xp4 : PySem.W.excIn K cc4 [.type "ValueError", .type "Exception", .type "BaseException", .type "object"] "ValueError.__new__" = true)
    (kp4 : PySem.W.keepIn K (.ref cc4) = true)
    (sb4 : PySem.W.subIn K (.ref cc4) (.type "BaseException") = some true)
    (hg4 : PySem.W.findIn K (.ref cc4) "__getattribute__" = some (some (.builtin "BaseException.__getattribute__")))
    (hk4 : PySem.W.findIn K (.ref cc4) "__getattr__" = some none)
    (hd4 : PySem.W.hasDictIn K cc4 = true)
    (ha4 : PySem.W.findIn K (.ref cc4) "__class__" = some (some (.builtin "object.__class__")))
    (hm4 : PySem.W.mroIn K cc4 (.type "object") = some true)
    (sR4 : PySem.W.subIn K (.ref cc4) (.ref Ra) = some true)
    (sv4 : PySem.W.subIn K (.ref cc4) (.type "ValueError") = some true)
    (s4_0 : PySem.W.subIn K (.ref cc4) (.ref cc0) = some false)
    (ne4_0 : cc4 ≠ cc0)
    (s4_1 : PySem.W.subIn K (.ref cc4) (.ref cc1) = some false)
    (ne4_1 : cc4 ≠ cc1)
    (s4_2 : PySem.W.subIn K (.ref cc4) (.ref cc2) = some false)
    (ne4_2 : cc4 ≠ cc2)
    (s4_3 : PySem.W.subIn K (.ref cc4) (.ref cc3) = some false)
    (ne4_3 : cc4 ≠ cc3)
    (s4_4 : PySem.W.subIn K (.ref cc4) (.ref cc4) = some true)
    : ∃ fd : FuncData, (∀ (s : Shared) (v : Value), BindsTo s fd ⟨[v], []⟩ [("script", v)]) ∧ ∀ base : Heap, K.In base → base.Ns mainGlobals mg → FnOk l.prog w K mg base CX0 8 fa fd ["script"] (spD K R_law) := by
  have e := hfa.symm.trans (PySem.W.mg_of X G a33)
  cases e
  have m_len := PySem.W.mg_none_of X G z_len
  have m_list := PySem.W.mg_none_of X G z_list
  have m_reversed := PySem.W.mg_none_of X G z_reversed
  have m_sorted := PySem.W.mg_none_of X G z_sorted
  have m_set := PySem.W.mg_none_of X G z_set
  have m_int := PySem.W.mg_none_of X G z_int
  have m_range := PySem.W.mg_none_of X G z_range
  have m_all := PySem.W.mg_none_of X G z_all
  have m_isinstance := PySem.W.mg_none_of X G z_isinstance
  have m_bool := PySem.W.mg_none_of X G z_bool
  have m_tuple := PySem.W.mg_none_of X G z_tuple
  have m_abs := PySem.W.mg_none_of X G z_abs
  have m_ValueError := PySem.W.mg_none_of X G z_ValueError
  have g_MOST_STEPS : ∃ t, mg "MOST_STEPS" = some (.int 10 t) := ⟨_, PySem.W.mg_of X G g_MOST_STEPS⟩
  have cn : ClsN mg Ra (RsX.c5 cc0 cc1 cc2 cc3 cc4) := ⟨PySem.W.mg_of X G aR, PySem.W.mg_of X G ac0, PySem.W.mg_of X G ac1, PySem.W.mg_of X G ac2, PySem.W.mg_of X G ac3, PySem.W.mg_of X G ac4⟩
  have er4 : ErrF K Ra (RsX.c5 cc0 cc1 cc2 cc3 cc4) 4 := ⟨by decide, xp4, kp4, sb4, tc4, ⟨hg4, hk4, sb4, hd4, ha4, hn, ht, hm4⟩, PySem.W.exm_ref bR hR tR sR4, kit_val sv4, fun i hi => match i, hi with | 0, _ => kit_own ic0 tc0 s4_0 (fun z => absurd z ne4_0) | 1, _ => kit_own ic1 tc1 s4_1 (fun z => absurd z ne4_1) | 2, _ => kit_own ic2 tc2 s4_2 (fun z => absurd z ne4_2) | 3, _ => kit_own ic3 tc3 s4_3 (fun z => absurd z ne4_3) | 4, _ => kit_own ic4 tc4 s4_4 (fun _ => rfl) | i + 5, h => absurd h (by omega)⟩
  have er : ∀ j ∈ ([4] : List Nat), ErrF K Ra (RsX.c5 cc0 cc1 cc2 cc3 cc4) j := fun j hj => by
    simp only [List.mem_cons, List.not_mem_nil, or_false] at hj
    subst hj; exact er4
  generalize hc5 : RsX.c5 cc0 cc1 cc2 cc3 cc4 = c at cn er
  have F0 := fun_mk (st := s__law_cross) l0 c0 k0
  have b0 := F0.binds (ps := ["one", "other"]) fun _ _ _ _ _ _ us hl => match us, hl with | [_, _], _ => rfl
  have H__law_cross : ∀ base : Heap, Has l.prog w K mg base CX0 "_law_cross" 1 ["one", "other"] (spD K R_cross) := fun base => has_of (PySem.W.mg_of X G a0) k0 b0 (ok__law_cross F0   )
  have F1 := fun_mk (st := s__law_arrow) l1 c1 k1
  have b1 := F1.binds (ps := ["one", "other"]) fun _ _ _ _ _ _ us hl => match us, hl with | [_, _], _ => rfl
  have H__law_arrow : ∀ base : Heap, Has l.prog w K mg base CX0 "_law_arrow" 1 ["one", "other"] (spD K R_between) := fun base => has_of (PySem.W.mg_of X G a1) k1 b1 (ok__law_arrow F1   )
  have F2 := fun_mk (st := s__law_chain) l2 c2 k2
  have b2 := F2.binds (ps := ["points"]) fun _ _ _ _ _ _ us hl => match us, hl with | [_], _ => rfl
  have H__law_chain : ∀ base : Heap, Has l.prog w K mg base CX0 "_law_chain" 2 ["points"] (spL K R__law_chain) := fun base => has_of (PySem.W.mg_of X G a2) k2 b2 (ok__law_chain F2 (H__law_cross base) (H__law_arrow base) m_len )
  have F3 := fun_mk (st := s__law_hull) l3 c3 k3
  have b3 := F3.binds (ps := ["points"]) fun _ _ _ _ _ _ us hl => match us, hl with | [_], _ => rfl
  have H__law_hull : ∀ base : Heap, Has l.prog w K mg base CX0 "_law_hull" 3 ["points"] (spL K R__law_hull) := fun base => has_of (PySem.W.mg_of X G a3) k3 b3 (ok__law_hull F3 (H__law_chain base) m_list m_reversed m_len m_sorted m_set )
  have F4 := fun_mk (st := s__law_pairs) l4 c4 k4
  have b4 := F4.binds (ps := ["one", "other"]) fun _ _ _ _ _ _ us hl => match us, hl with | [_, _], _ => rfl
  have H__law_pairs : ∀ base : Heap, Has l.prog w K mg base CX0 "_law_pairs" 1 ["one", "other"] (spL K R__law_pairs) := fun base => has_of (PySem.W.mg_of X G a4) k4 b4 (ok__law_pairs F4   )
  have F5 := fun_mk (st := s__law_together) l5 c5 k5
  have b5 := F5.binds (ps := ["one", "other"]) fun _ _ _ _ _ _ us hl => match us, hl with | [_, _], _ => rfl
  have H__law_together : ∀ base : Heap, Has l.prog w K mg base CX0 "_law_together" 4 ["one", "other"] (spL K R__law_together) := fun base => has_of (PySem.W.mg_of X G a5) k5 b5 (ok__law_together F5 (H__law_hull base) (H__law_pairs base)  )
  have F6 := fun_mk (st := s__law_half) l6 c6 k6
  have b6 := F6.binds (ps := ["arrow"]) fun _ _ _ _ _ _ us hl => match us, hl with | [_], _ => rfl
  have H__law_half : ∀ base : Heap, Has l.prog w K mg base CX0 "_law_half" 1 ["arrow"] (spD K R_half) := fun base => has_of (PySem.W.mg_of X G a6) k6 b6 (ok__law_half F6  m_int )
  have F7 := fun_mk (st := s__law_sides) l7 c7 k7
  have b7 := F7.binds (ps := ["corners"]) fun _ _ _ _ _ _ us hl => match us, hl with | [_], _ => rfl
  have H__law_sides : ∀ base : Heap, Has l.prog w K mg base CX0 "_law_sides" 2 ["corners"] (spL K R_sides_by) := fun base => has_of (PySem.W.mg_of X G a7) k7 b7 (ok__law_sides F7 (H__law_arrow base) m_range m_len )
  have F8 := fun_mk (st := s__law_good) l8 c8 k8
  have b8 := F8.binds (ps := ["corners"]) fun _ _ _ _ _ _ us hl => match us, hl with | [_], _ => rfl
  have H__law_good : ∀ base : Heap, Has l.prog w K mg base CX0 "_law_good" 3 ["corners"] (spD K R_is_shape) := fun base => has_of (PySem.W.mg_of X G a8) k8 b8 (ok__law_good F8 (H__law_cross base) (H__law_half base) (H__law_sides base) m_range m_len )
  have F9 := fun_mk (st := s__law_points_like) l9 c9 k9
  have b9 := F9.binds (ps := ["found", "due"]) fun _ _ _ _ _ _ us hl => match us, hl with | [_, _], _ => rfl
  have H__law_points_like : ∀ base : Heap, Has l.prog w K mg base CX0 "_law_points_like" 1 ["found", "due"] (spD K R__law_points_like) := fun base => has_of (PySem.W.mg_of X G a9) k9 b9 (ok__law_points_like F9  m_all m_isinstance m_bool m_int m_len m_tuple m_list )
  have F10 := fun_mk (st := s__law_shown) l10 c10 k10
  have b10 := F10.binds (ps := ["found", "corners"]) fun _ _ _ _ _ _ us hl => match us, hl with | [_, _], _ => rfl
  have H__law_shown : ∀ base : Heap, Has l.prog w K mg base CX0 "_law_shown" 6 ["found", "corners"] (spD K R_shownP) := fun base => has_of (PySem.W.mg_of X G a10) k10 b10 (ok__law_shown F10 (H__law_together base) (H__law_good base) (H__law_points_like base) m_list m_len m_isinstance m_tuple )
  have F11 := fun_mk (st := s_choices) l11 c11 k11
  have b11 := F11.binds (ps := ["steps"]) fun _ _ _ _ _ _ us hl => match us, hl with | [_], _ => rfl
  have H_choices : ∀ base : Heap, Has l.prog w K mg base CX0 "choices" 1 ["steps"] (spC K R_choices) := fun base => has_of (PySem.W.mg_of X G a11) k11 b11 (ok_choices F11  m_list m_len m_int )
  have F12 := fun_mk (st := s_shape_by) l12 c12 k12
  have b12 := F12.binds (ps := ["start", "arrows"]) fun _ _ _ _ _ _ us hl => match us, hl with | [_, _], _ => rfl
  have H_shape_by : ∀ base : Heap, Has l.prog w K mg base CX0 "shape_by" 1 ["start", "arrows"] (spL K R_shape_by) := fun base => has_of (PySem.W.mg_of X G a12) k12 b12 (ok_shape_by F12   )
  have F13 := fun_mk (st := s_gathered) l13 c13 k13
  have b13 := F13.binds (ps := ["steps"]) fun _ _ _ _ _ _ us hl => match us, hl with | [_], _ => rfl
  have H_gathered : ∀ base : Heap, Has l.prog w K mg base CX0 "gathered" 1 ["steps"] (spG K R_gathered) := fun base => has_of (PySem.W.mg_of X G a13) k13 b13 (ok_gathered F13   )
  have F14 := fun_mk (st := s_between) l14 c14 k14
  have b14 := F14.binds (ps := ["one", "other"]) fun _ _ _ _ _ _ us hl => match us, hl with | [_, _], _ => rfl
  have H_between : ∀ base : Heap, Has l.prog w K mg base CX0 "between" 1 ["one", "other"] (spD K R_between) := fun base => has_of (PySem.W.mg_of X G a14) k14 b14 (ok_between F14   )
  have F15 := fun_mk (st := s_sides_by) l15 c15 k15
  have b15 := F15.binds (ps := ["corners"]) fun _ _ _ _ _ _ us hl => match us, hl with | [_], _ => rfl
  have H_sides_by : ∀ base : Heap, Has l.prog w K mg base CX0 "sides_by" 2 ["corners"] (spL K R_sides_by) := fun base => has_of (PySem.W.mg_of X G a15) k15 b15 (ok_sides_by F15 (H_between base) m_range m_len )
  have F16 := fun_mk (st := s_common) l16 c16 k16
  have b16 := F16.binds (ps := ["one", "other"]) fun _ _ _ _ _ _ us hl => match us, hl with | [_, _], _ => rfl
  have H_common : ∀ base : Heap, Has l.prog w K mg base CX0 "common" 1 ["one", "other"] (spD K R_common) := fun base => has_of (PySem.W.mg_of X G a16) k16 b16 (ok_common F16  m_abs )
  have F17 := fun_mk (st := s_step_of) l17 c17 k17
  have b17 := F17.binds (ps := ["arrow"]) fun _ _ _ _ _ _ us hl => match us, hl with | [_], _ => rfl
  have H_step_of : ∀ base : Heap, Has l.prog w K mg base CX0 "step_of" 2 ["arrow"] (spU K R_step_of) := fun base => has_of (PySem.W.mg_of X G a17) k17 b17 (ok_step_of F17 (H_common base)  )
  have F18 := fun_mk (st := s_lengths) l18 c18 k18
  have b18 := F18.binds (ps := ["corners"]) fun _ _ _ _ _ _ us hl => match us, hl with | [_], _ => rfl
  have H_lengths : ∀ base : Heap, Has l.prog w K mg base CX0 "lengths" 3 ["corners"] (spK K R_lengths) := fun base => has_of (PySem.W.mg_of X G a18) k18 b18 (ok_lengths F18 (H_sides_by base) (H_step_of base)  )
  have F19 := fun_mk (st := s_cross) l19 c19 k19
  have b19 := F19.binds (ps := ["one", "other"]) fun _ _ _ _ _ _ us hl => match us, hl with | [_, _], _ => rfl
  have H_cross : ∀ base : Heap, Has l.prog w K mg base CX0 "cross" 1 ["one", "other"] (spD K R_cross) := fun base => has_of (PySem.W.mg_of X G a19) k19 b19 (ok_cross F19   )
  have F20 := fun_mk (st := s_half) l20 c20 k20
  have b20 := F20.binds (ps := ["arrow"]) fun _ _ _ _ _ _ us hl => match us, hl with | [_], _ => rfl
  have H_half : ∀ base : Heap, Has l.prog w K mg base CX0 "half" 1 ["arrow"] (spD K R_half) := fun base => has_of (PySem.W.mg_of X G a20) k20 b20 (ok_half F20  m_int )
  have F21 := fun_mk (st := s_comes_ahead) l21 c21 k21
  have b21 := F21.binds (ps := ["one", "other"]) fun _ _ _ _ _ _ us hl => match us, hl with | [_, _], _ => rfl
  have H_comes_ahead : ∀ base : Heap, Has l.prog w K mg base CX0 "comes_ahead" 2 ["one", "other"] (spD K R_comes_ahead) := fun base => has_of (PySem.W.mg_of X G a21) k21 b21 (ok_comes_ahead F21 (H_cross base) (H_half base)  )
  have F22 := fun_mk (st := s_is_shape) l22 c22 k22
  have b22 := F22.binds (ps := ["corners"]) fun _ _ _ _ _ _ us hl => match us, hl with | [_], _ => rfl
  have H_is_shape : ∀ base : Heap, Has l.prog w K mg base CX0 "is_shape" 3 ["corners"] (spD K R_is_shape) := fun base => has_of (PySem.W.mg_of X G a22) k22 b22 (ok_is_shape F22 (H_comes_ahead base) (H_half base) (H_sides_by base) m_range m_len )
  have F23 := fun_mk (st := s_must_be_shape) l23 c23 k23
  have b23 := F23.binds (ps := ["corners"]) fun _ _ _ _ _ _ us hl => match us, hl with | [_], _ => rfl
  have H_must_be_shape : ∀ base : Heap, Has l.prog w K mg base CX0 "must_be_shape" 4 ["corners"] (spD K R_must_be_shape) := fun base => has_of (PySem.W.mg_of X G a23) k23 b23 (ok_must_be_shape F23 (H_is_shape base)  )
  have F24 := fun_mk (st := s_steps_of) l24 c24 k24
  have b24 := F24.binds (ps := ["corners"]) fun _ _ _ _ _ _ us hl => match us, hl with | [_], _ => rfl
  have H_steps_of : ∀ base : Heap, Has l.prog w K mg base CX0 "steps_of" 5 ["corners"] (spH K R_stepsH) := fun base => has_of (PySem.W.mg_of X G a24) k24 b24 (ok_steps_of F24 (H_lengths base) (H_must_be_shape base) m_range )
  have F25 := fun_mk (st := s_parted) l25 c25 k25
  have b25 := F25.binds (ps := ["corners"]) fun _ _ _ _ _ _ us hl => match us, hl with | [_], _ => rfl
  have H_parted : ∀ base : Heap, Has l.prog w K mg base (L2.CX l.prog w) "parted" 6 ["corners"] (spE K c (ToldP K) R_partedE) := fun base => has_of (PySem.W.mg_of X G a25) k25 b25 (ok_parted F25 cn er (H_choices base) (H_shape_by base) (H_gathered base) (H_steps_of base) m_range m_len g_MOST_STEPS)
  have F26 := fun_mk (st := s__law_which) l26 c26 k26
  have b26 := F26.binds (ps := ["e"]) fun _ _ _ _ _ _ us hl => match us, hl with | [_], _ => rfl
  have H__law_which : ∀ base : Heap, HasE l.prog w K mg base "_law_which" 1 "e" (spW c ([4] : List Nat)) := fun base => hasE_of (PySem.W.mg_of X G a26) k26 b26 (ok__law_which F26 cn er  m_isinstance m_ValueError )
  have F27 := fun_mk (st := s__law_asked) l27 c27 k27
  have b27 := F27.binds (ps := ["corners"]) fun _ _ _ _ _ _ us hl => match us, hl with | [_], _ => rfl
  have H__law_asked : ∀ base : Heap, Has l.prog w K mg base CX0 "_law_asked" 7 ["corners"] (spA K R_partedE) := fun base => has_of (PySem.W.mg_of X G a27) k27 b27 (ok__law_asked F27 cn er (H_parted base) (H__law_which base)  )
  have F28 := fun_mk (st := s__law_common) l28 c28 k28
  have b28 := F28.binds (ps := ["one", "other"]) fun _ _ _ _ _ _ us hl => match us, hl with | [_, _], _ => rfl
  have H__law_common : ∀ base : Heap, Has l.prog w K mg base CX0 "_law_common" 1 ["one", "other"] (spD K R_common) := fun base => has_of (PySem.W.mg_of X G a28) k28 b28 (ok__law_common F28  m_abs )
  have F29 := fun_mk (st := s__law_steps) l29 c29 k29
  have b29 := F29.binds (ps := ["corners"]) fun _ _ _ _ _ _ us hl => match us, hl with | [_], _ => rfl
  have H__law_steps : ∀ base : Heap, Has l.prog w K mg base CX0 "_law_steps" 3 ["corners"] (spL K R_steps_of) := fun base => has_of (PySem.W.mg_of X G a29) k29 b29 (ok__law_steps F29 (H__law_sides base) (H__law_common base)  )
  have F30 := fun_mk (st := s__law_cell_at) l30 c30 k30
  have b30 := F30.binds (ps := ["script", "k"]) fun _ _ _ _ _ _ us hl => match us, hl with | [_, _], _ => rfl
  have H__law_cell_at : ∀ base : Heap, Has l.prog w K mg base CX0 "_law_cell_at" 1 ["script", "k"] (spD K R__law_cell_at) := fun base => has_of (PySem.W.mg_of X G a30) k30 b30 (ok__law_cell_at F30  m_len )
  have F31 := fun_mk (st := s__law_stir) l31 c31 k31
  have b31 := F31.binds (ps := ["seed"]) fun _ _ _ _ _ _ us hl => match us, hl with | [_], _ => rfl
  have H__law_stir : ∀ base : Heap, Has l.prog w K mg base CX0 "_law_stir" 1 ["seed"] (spD K R__law_stir) := fun base => has_of (PySem.W.mg_of X G a31) k31 b31 (ok__law_stir F31   )
  have F32 := fun_mk (st := s__law_small) l32 c32 k32
  have b32 := F32.binds (ps := ["script", "at"]) fun _ _ _ _ _ _ us hl => match us, hl with | [_, _], _ => rfl
  have H__law_small : ∀ base : Heap, Has l.prog w K mg base CX0 "_law_small" 4 ["script", "at"] (spL K R_small) := fun base => has_of (PySem.W.mg_of X G a32) k32 b32 (ok__law_small F32 (H__law_hull base) (H__law_stir base) (H__law_cell_at base) m_range )
  have F33 := fun_mk (st := s_law) l33 c33 k33
  exact ⟨PySem.W.fnOf "law" "law" (defArgs s_law) (defBody s_law) (defScope s_law) .none kV33 dc33 pm33 an33 cd33 ct33, fun s v => .of_eq rfl, fun base _ _ => ok_law F33 (H__law_shown base) (H__law_asked base) (H__law_steps base) (H__law_cell_at base) (H__law_together base) (H__law_small base) m_list m_len ⟩
end Wk15
open PySem PySem.W PyProof.Rows
set_option maxHeartbeats 0 in
theorem PySem.Challenge.cw_roundsum_k15_parted_in_two_holds : PySem.Challenge.rw_roundsum_k15_parted_in_two.Holds := by
  w_on; o_law; k_head; (case hw => w_witness2)
  k_fill
  refine L2.walk_of (l := PySem.Challenge.rw_roundsum_k15_parted_in_two) (n := 63) (k := 8) (x := "script") (CX := fun _ => L2.CX0) (sp := fun w => Rs.spD _ Rw.R_law) rfl (by decide) rfl ⟨rfl, by decide, by decide⟩ (fun w h Y => PySem.W.kIn_of Y) ?F (fun w H a ns hl hO hS => Rw.law_start hl hS) (fun _ _ _ _ _ h => h)
  case F =>
    intro w mg fa h KX G hmg
    refine' Wk15.all_mk KX G hmg ?a0 ?l0 ?c0 ?k0 ?a1 ?l1 ?c1 ?k1 ?a2 ?l2 ?c2 ?k2 ?a3 ?l3 ?c3 ?k3 ?a4 ?l4 ?c4 ?k4 ?a5 ?l5 ?c5 ?k5 ?a6 ?l6 ?c6 ?k6 ?a7 ?l7 ?c7 ?k7 ?a8 ?l8 ?c8 ?k8 ?a9 ?l9 ?c9 ?k9 ?a10 ?l10 ?c10 ?k10 ?a11 ?l11 ?c11 ?k11 ?a12 ?l12 ?c12 ?k12 ?a13 ?l13 ?c13 ?k13 ?a14 ?l14 ?c14 ?k14 ?a15 ?l15 ?c15 ?k15 ?a16 ?l16 ?c16 ?k16 ?a17 ?l17 ?c17 ?k17 ?a18 ?l18 ?c18 ?k18 ?a19 ?l19 ?c19 ?k19 ?a20 ?l20 ?c20 ?k20 ?a21 ?l21 ?c21 ?k21 ?a22 ?l22 ?c22 ?k22 ?a23 ?l23 ?c23 ?k23 ?a24 ?l24 ?c24 ?k24 ?a25 ?l25 ?c25 ?k25 ?a26 ?l26 ?c26 ?k26 ?a27 ?l27 ?c27 ?k27 ?a28 ?l28 ?c28 ?k28 ?a29 ?l29 ?c29 ?k29 ?a30 ?l30 ?c30 ?k30 ?a31 ?l31 ?c31 ?k31 ?a32 ?l32 ?c32 ?k32 ?a33 ?l33 ?c33 ?k33 ?z_len ?z_list ?z_reversed ?z_sorted ?z_set ?z_int ?z_range ?z_all ?z_isinstance ?z_bool ?z_tuple ?z_abs ?z_ValueError ?g_MOST_STEPS ?aR ?ac0 ?ac1 ?ac2 ?ac3 ?ac4 ?bR ?hR ?tR ?ic0 ?tc0 ?ic1 ?tc1 ?ic2 ?tc2 ?ic3 ?tc3 ?ic4 ?tc4 ?hn ?ht ?xp4 ?kp4 ?sb4 ?hg4 ?hk4 ?hd4 ?ha4 ?hm4 ?sR4 ?sv4 ?s4_0 ?ne4_0 ?s4_1 ?ne4_1 ?s4_2 ?ne4_2 ?s4_3 ?ne4_3 ?s4_4
    (case a0 => k_is)
    (case l0 => k_is)
    (case c0 => k_is)
    (case k0 => k_is)
    (case a1 => k_is)
    (case l1 => k_is)
    (case c1 => k_is)
    (case k1 => k_is)
    (case a2 => k_is)
    (case l2 => k_is)
    (case c2 => k_is)
    (case k2 => k_is)
    (case a3 => k_is)
    (case l3 => k_is)
    (case c3 => k_is)
    (case k3 => k_is)
    (case a4 => k_is)
    (case l4 => k_is)
    (case c4 => k_is)
    (case k4 => k_is)
    (case a5 => k_is)
    (case l5 => k_is)
    (case c5 => k_is)
    (case k5 => k_is)
    (case a6 => k_is)
    (case l6 => k_is)
    (case c6 => k_is)
    (case k6 => k_is)
    (case a7 => k_is)
    (case l7 => k_is)
    (case c7 => k_is)
    (case k7 => k_is)
    (case a8 => k_is)
    (case l8 => k_is)
    (case c8 => k_is)
    (case k8 => k_is)
    (case a9 => k_is)
    (case l9 => k_is)
    (case c9 => k_is)
    (case k9 => k_is)
    (case a10 => k_is)
    (case l10 => k_is)
    (case c10 => k_is)
    (case k10 => k_is)
    (case a11 => k_is)
    (case l11 => k_is)
    (case c11 => k_is)
    (case k11 => k_is)
    (case a12 => k_is)
    (case l12 => k_is)
    (case c12 => k_is)
    (case k12 => k_is)
    (case a13 => k_is)
    (case l13 => k_is)
    (case c13 => k_is)
    (case k13 => k_is)
    (case a14 => k_is)
    (case l14 => k_is)
    (case c14 => k_is)
    (case k14 => k_is)
    (case a15 => k_is)
    (case l15 => k_is)
    (case c15 => k_is)
    (case k15 => k_is)
    (case a16 => k_is)
    (case l16 => k_is)
    (case c16 => k_is)
    (case k16 => k_is)
    (case a17 => k_is)
    (case l17 => k_is)
    (case c17 => k_is)
    (case k17 => k_is)
    (case a18 => k_is)
    (case l18 => k_is)
    (case c18 => k_is)
    (case k18 => k_is)
    (case a19 => k_is)
    (case l19 => k_is)
    (case c19 => k_is)
    (case k19 => k_is)
    (case a20 => k_is)
    (case l20 => k_is)
    (case c20 => k_is)
    (case k20 => k_is)
    (case a21 => k_is)
    (case l21 => k_is)
    (case c21 => k_is)
    (case k21 => k_is)
    (case a22 => k_is)
    (case l22 => k_is)
    (case c22 => k_is)
    (case k22 => k_is)
    (case a23 => k_is)
    (case l23 => k_is)
    (case c23 => k_is)
    (case k23 => k_is)
    (case a24 => k_is)
    (case l24 => k_is)
    (case c24 => k_is)
    (case k24 => k_is)
    (case a25 => k_is)
    (case l25 => k_is)
    (case c25 => k_is)
    (case k25 => k_is)
    (case a26 => k_is)
    (case l26 => k_is)
    (case c26 => k_is)
    (case k26 => k_is)
    (case a27 => k_is)
    (case l27 => k_is)
    (case c27 => k_is)
    (case k27 => k_is)
    (case a28 => k_is)
    (case l28 => k_is)
    (case c28 => k_is)
    (case k28 => k_is)
    (case a29 => k_is)
    (case l29 => k_is)
    (case c29 => k_is)
    (case k29 => k_is)
    (case a30 => k_is)
    (case l30 => k_is)
    (case c30 => k_is)
    (case k30 => k_is)
    (case a31 => k_is)
    (case l31 => k_is)
    (case c31 => k_is)
    (case k31 => k_is)
    (case a32 => k_is)
    (case l32 => k_is)
    (case c32 => k_is)
    (case k32 => k_is)
    (case a33 => k_is)
    (case l33 => k_is)
    (case c33 => k_is)
    (case k33 => k_is)
    (case z_len => k_is)
    (case z_list => k_is)
    (case z_reversed => k_is)
    (case z_sorted => k_is)
    (case z_set => k_is)
    (case z_int => k_is)
    (case z_range => k_is)
    (case z_all => k_is)
    (case z_isinstance => k_is)
    (case z_bool => k_is)
    (case z_tuple => k_is)
    (case z_abs => k_is)
    (case z_ValueError => k_is)
    (case g_MOST_STEPS => k_is)
    (case aR => k_is)
    (case ac0 => k_is)
    (case ac1 => k_is)
    (case ac2 => k_is)
    (case ac3 => k_is)
    (case ac4 => k_is)
    (case bR => k_is)
    (case hR => k_is)
    (case tR => k_is)
    (case ic0 => k_is)
    (case tc0 => k_is)
    (case ic1 => k_is)
    (case tc1 => k_is)
    (case ic2 => k_is)
    (case tc2 => k_is)
    (case ic3 => k_is)
    (case tc3 => k_is)
    (case ic4 => k_is)
    (case tc4 => k_is)
    (case hn => k_is)
    (case ht => k_is)
    (case xp4 => k_exc)
    (case kp4 => k_is)
    (case sb4 => k_is)
    (case hg4 => k_is)
    (case hk4 => k_is)
    (case hd4 => k_is)
    (case ha4 => k_is)
    (case hm4 => k_is)
    (case sR4 => k_is)
    (case sv4 => k_is)
    (case s4_0 => first | rfl | k_is)
    (case ne4_0 => decide)
    (case s4_1 => first | rfl | k_is)
    (case ne4_1 => decide)
    (case s4_2 => first | rfl | k_is)
    (case ne4_2 => decide)
    (case s4_3 => first | rfl | k_is)
    (case ne4_3 => decide)
    (case s4_4 => first | rfl | k_is)
#print axioms PySem.Challenge.cw_roundsum_k15_parted_in_two_holds
