import PyProof.Rows.All
import Wide.All
import OpenK.AllK
import Wide.FinOn
import HandS.ForMost
import HandS.Evl
import HandS.Conv
import HandS.Strs
import HandS.SetFor
import HandS.SortInts
import HandS.TupAny
import HandS.Style
import HandS.Zip
import HandS.Rev
import HandS.RevTup
import HandS.Set
import HandS.Flow
import HandS.Codes
import KE.KDictSum
import KE.KDictList
import PyProof.TupleOfSeq
import PySem.Challenge.RW_spanrow_k97_whole_rings_of_bundles
import HandS.Walk
import HandS.Text
set_option Elab.async false
set_option linter.all false
set_option maxRecDepth 100000
set_option maxHeartbeats 4000000
namespace MT
def sm : List Nat → (Nat → Rat) → Rat
  | [], _ => 0
  | x :: l, g => g x + sm l g
theorem sm_append (l l' : List Nat) (g : Nat → Rat) : sm (l ++ l') g = sm l g + sm l' g := by
  induction l with
  | nil => simp [sm]; grind
  | cons x l ih => simp only [List.cons_append, sm, ih]; grind
theorem sm_congr {l : List Nat} {g h : Nat → Rat} (e : ∀ x ∈ l, g x = h x) : sm l g = sm l h := by
  induction l with
  | nil => rfl
  | cons x l ih =>
    simp only [sm]
    rw [e x List.mem_cons_self, ih (fun y hy => e y (List.mem_cons_of_mem _ hy))]
theorem sm_perm {l l' : List Nat} (h : l.Perm l') (g : Nat → Rat) : sm l g = sm l' g := by
  induction h with
  | nil => rfl
  | cons x _ ih => simp only [sm, ih]
  | swap x y l => simp only [sm]; grind
  | trans _ _ ih1 ih2 => rw [ih1, ih2]
theorem sm_lin (l : List Nat) (g h : Nat → Rat) (c s : Rat) : sm l (fun x => g x + c * h x / s) = sm l g + c * sm l h / s := by
  induction l with
  | nil => simp only [sm]; grind
  | cons x l ih => simp only [sm, ih]; grind
theorem sm_nonneg {l : List Nat} {g : Nat → Rat} (h : ∀ x ∈ l, 0 ≤ g x) : 0 ≤ sm l g := by
  induction l with
  | nil => simp [sm]
  | cons x l ih =>
    have h1 := h x List.mem_cons_self
    have h2 := ih (fun y hy => h y (List.mem_cons_of_mem _ hy))
    simp only [sm]; grind
theorem sm_zero {l : List Nat} {g : Nat → Rat} (h : ∀ x ∈ l, 0 ≤ g x) (e : sm l g = 0) : ∀ x ∈ l, g x = 0 := by
  induction l with
  | nil => intro x hx; cases hx
  | cons x l ih =>
    have h1 := h x List.mem_cons_self
    have h2 := sm_nonneg (l := l) (g := g) (fun y hy => h y (List.mem_cons_of_mem _ hy))
    simp only [sm] at e
    intro y hy
    rcases List.mem_cons.mp hy with rfl | hy
    · grind
    · exact ih (fun y hy => h y (List.mem_cons_of_mem _ hy)) (by grind) y hy
theorem sm_le {l : List Nat} {g : Nat → Rat} (h : ∀ x ∈ l, 0 ≤ g x) : ∀ x ∈ l, g x ≤ sm l g := by
  induction l with
  | nil => intro x hx; cases hx
  | cons x l ih =>
    have h1 := h x List.mem_cons_self
    have h2 := sm_nonneg (l := l) (g := g) (fun y hy => h y (List.mem_cons_of_mem _ hy))
    simp only [sm]
    intro y hy
    rcases List.mem_cons.mp hy with rfl | hy
    · grind
    · have := ih (fun y hy => h y (List.mem_cons_of_mem _ hy)) y hy
      grind
abbrev Wt := Nat → Nat → Rat
def elim (v : Nat) (s : Rat) (w : Wt) : Wt := fun i j => w i j + w v i * w v j / s
def T : List Nat → Wt → Rat
  | [], _ => 0
  | v :: l, w => if l = [] then 1 else sm l (w v) * T l (elim v (sm l (w v)) w)
theorem T_one (v : Nat) (w : Wt) : T [v] w = 1 := by simp [T]
theorem T_cons {v : Nat} {l : List Nat} (w : Wt) (h : l ≠ []) : T (v :: l) w = sm l (w v) * T l (elim v (sm l (w v)) w) := by
  rw [T, if_neg h]
structure Good (w : Wt) : Prop where
  sym : ∀ i j, w i j = w j i
  nn : ∀ i j, 0 ≤ w i j
theorem inv_nn {s : Rat} (hs : 0 ≤ s) : 0 ≤ s⁻¹ := by
  by_cases h : s = 0
  · subst h; simp
  · have h1 : 0 < s := by grind
    have h2 := Rat.inv_pos.mpr h1
    grind
theorem Good.elim {w : Wt} (g : Good w) {v : Nat} {s : Rat} (hs : 0 ≤ s) : Good (elim v s w) := by
  refine ⟨fun i j => ?_, fun i j => ?_⟩
  · simp only [MT.elim]
    rw [g.sym i j]; grind
  · simp only [MT.elim]
    have h1 := g.nn i j
    have h2 := Rat.mul_nonneg (g.nn v i) (g.nn v j)
    have h3 : 0 ≤ w v i * w v j / s := by
      rw [Rat.div_def]
      exact Rat.mul_nonneg h2 (inv_nn hs)
    grind
theorem T_congr : ∀ {l : List Nat} {w w' : Wt}, l.Nodup → (∀ i ∈ l, ∀ j ∈ l, i ≠ j → w i j = w' i j) → T l w = T l w'
  | [], _, _, _, _ => rfl
  | v :: l, w, w', nd, h => by
    by_cases hl : l = []
    · subst hl; rw [T_one, T_one]
    rw [T_cons w hl, T_cons w' hl]
    have hv := (List.nodup_cons.mp nd).1
    have e1 : sm l (w v) = sm l (w' v) := sm_congr fun x hx => h v List.mem_cons_self x (List.mem_cons_of_mem _ hx) (fun q => hv (q ▸ hx))
    rw [e1]
    congr 1
    refine T_congr (List.nodup_cons.mp nd).2 fun i hi j hj hij => ?_
    simp only [MT.elim]
    rw [h i (List.mem_cons_of_mem _ hi) j (List.mem_cons_of_mem _ hj) hij,
      h v List.mem_cons_self i (List.mem_cons_of_mem _ hi) (fun q => hv (q ▸ hi)),
      h v List.mem_cons_self j (List.mem_cons_of_mem _ hj) (fun q => hv (q ▸ hj))]
theorem T_swap (u v : Nat) (l : List Nat) {w : Wt} (g : Good w) : T (u :: v :: l) w = T (v :: u :: l) w := by
  by_cases hl : l = []
  · subst hl
    rw [T_cons w (by simp), T_cons w (by simp), T_one, T_one]
    simp only [sm]
    rw [g.sym u v]
  rw [T_cons w (by simp), T_cons w (by simp), T_cons _ hl, T_cons _ hl]
  have a1 : sm (v :: l) (w u) = w u v + sm l (w u) := rfl
  have a2 : sm (u :: l) (w v) = w u v + sm l (w v) := by
    show w v u + sm l (w v) = _
    rw [g.sym v u]
  rw [a1, a2]
  have n1 := sm_nonneg (l := l) (g := w u) (fun x _ => g.nn u x)
  have n2 := sm_nonneg (l := l) (g := w v) (fun x _ => g.nn v x)
  have n3 := g.nn u v
  have b1 : sm l (MT.elim u (w u v + sm l (w u)) w v) = sm l (w v) + w u v * sm l (w u) / (w u v + sm l (w u)) := by
    have := sm_lin l (w v) (w u) (w u v) (w u v + sm l (w u))
    exact this
  have b2 : sm l (MT.elim v (w u v + sm l (w v)) w u) = sm l (w u) + w u v * sm l (w v) / (w u v + sm l (w v)) := by
    have := sm_lin l (w u) (w v) (w v u) (w u v + sm l (w v))
    rw [← g.sym u v] at this
    rw [← this]
    refine sm_congr fun x _ => ?_
    simp only [MT.elim]
    rw [← g.sym u v]
  rw [b1, b2]
  generalize hU : sm l (w u) = su at *
  generalize hV : sm l (w v) = sv at *
  by_cases z1 : w u v + su = 0
  · have c0 : w u v = 0 := by grind
    have c1 : su = 0 := by grind
    rw [c0, c1]; grind
  by_cases z2 : w u v + sv = 0
  · have c0 : w u v = 0 := by grind
    have c1 : sv = 0 := by grind
    rw [c0, c1]; grind
  by_cases z3 : sv + w u v * su / (w u v + su) = 0
  · have z4 : su + w u v * sv / (w u v + sv) = 0 := by grind
    rw [z3, z4]; grind
  have z4 : su + w u v * sv / (w u v + sv) ≠ 0 := by grind
  have ef : MT.elim v (sv + w u v * su / (w u v + su)) (MT.elim u (w u v + su) w) = MT.elim u (su + w u v * sv / (w u v + sv)) (MT.elim v (w u v + sv) w) := by
    funext i j
    simp only [MT.elim]
    rw [g.sym v u]
    generalize w u v = c at *
    generalize w u i = ui at *
    generalize w u j = uj at *
    generalize w v i = vi at *
    generalize w v j = vj at *
    grind
  rw [ef]
  generalize T l _ = X
  grind
theorem T_perm {l l' : List Nat} (h : l.Perm l') : ∀ {w : Wt}, Good w → T l w = T l' w := by
  induction h with
  | nil => intros; rfl
  | @cons x l l' hp ih =>
    intro w g
    by_cases hl : l = []
    · subst hl
      have := hp.nil_eq
      subst this; rfl
    have hl' : l' ≠ [] := fun q => hl (by subst q; exact hp.eq_nil)
    rw [T_cons w hl, T_cons w hl', sm_perm hp]
    rw [ih (g.elim (sm_nonneg fun x _ => g.nn _ _))]
  | swap x y l => intro w g; exact T_swap y x l g
  | trans _ _ ih1 ih2 => intro w g; rw [ih1 g, ih2 g]
def dl (a b : Nat) : Wt := fun i j => if (a = i ∧ b = j) ∨ (a = j ∧ b = i) then 1 else 0
def mrg (a b : Nat) (w : Wt) : Wt := fun i j => if i = a then w a j + w b j else if j = a then w i a + w i b else w i j
theorem T_add0 (a b : Nat) : ∀ (l0 : List Nat) (w : Wt), (l0 ++ [a, b]).Nodup → T (l0 ++ [a, b]) (fun i j => w i j + dl a b i j) = T (l0 ++ [a, b]) w + T (l0 ++ [a]) (mrg a b w)
  | [], w, _ => by
    simp only [List.nil_append]
    rw [T_cons (v := a) (l := [b]) _ (by simp), T_cons (v := a) (l := [b]) _ (by simp), T_one, T_one, T_one]
    simp [sm, dl]
    grind
  | v :: l0, w, nd => by
    have nd' : (l0 ++ [a, b]).Nodup := (List.nodup_cons.mp nd).2
    have hv : v ∉ l0 ++ [a, b] := (List.nodup_cons.mp nd).1
    have hva : v ≠ a := fun q => hv (by simp [q])
    have hvb : v ≠ b := fun q => hv (by simp [q])
    simp only [List.cons_append]
    rw [T_cons _ (by simp), T_cons _ (by simp), T_cons _ (by simp)]
    have s1 : sm (l0 ++ [a, b]) (fun j => w v j + dl a b v j) = sm (l0 ++ [a, b]) (w v) := sm_congr fun x _ => by
      have : dl a b v x = 0 := by
        unfold dl
        rw [if_neg]
        rintro (⟨h, _⟩ | ⟨_, h⟩)
        · exact hva h.symm
        · exact hvb h.symm
      rw [this]; grind
    have s2 : sm (l0 ++ [a]) (mrg a b w v) = sm (l0 ++ [a, b]) (w v) := by
      rw [sm_append, sm_append]
      have : sm l0 (mrg a b w v) = sm l0 (w v) := sm_congr fun x hx => by
        have hxa : x ≠ a := by
          intro q; subst q
          have := List.nodup_append.mp nd'
          exact this.2.2 x hx x (by simp) rfl
        simp [mrg, hva, hxa]
      rw [this]
      simp [sm, mrg, hva]
      grind
    rw [s1, s2]
    generalize hs : sm (l0 ++ [a, b]) (w v) = s
    have e1 : MT.elim v s (fun i j => w i j + dl a b i j) = fun i j => MT.elim v s w i j + dl a b i j := by
      funext i j
      have hz : ∀ x, dl a b v x = 0 := fun x => by
        unfold dl
        rw [if_neg]
        rintro (⟨h, _⟩ | ⟨_, h⟩)
        · exact hva h.symm
        · exact hvb h.symm
      simp only [MT.elim, hz]
      grind
    rw [e1, T_add0 a b l0 _ nd']
    have e2 : T (l0 ++ [a]) (MT.elim v s (mrg a b w)) = T (l0 ++ [a]) (mrg a b (MT.elim v s w)) := by
      refine T_congr ?_ fun i hi j hj hij => ?_
      · have := List.nodup_append.mp nd'
        refine List.nodup_append.mpr ⟨this.1, by simp, fun x hx y hy => this.2.2 x hx y (by simp at hy; simp [hy])⟩
      · simp only [MT.elim, mrg]
        by_cases hi : i = a
        · subst hi
          have hj : ¬ j = i := fun q => hij q.symm
          simp only [hva, hj, if_true, if_false]
          grind
        · by_cases hj : j = a
          · subst hj
            simp only [hva, hi, if_true, if_false]
            grind
          · simp only [hva, hi, hj, if_false]
    rw [e2]
    grind
end MT
namespace MT
theorem dl_good (a b : Nat) : Good (dl a b) := by
  refine ⟨fun i j => ?_, fun i j => ?_⟩
  · unfold dl
    by_cases h : (a = i ∧ b = j) ∨ (a = j ∧ b = i)
    · rw [if_pos h, if_pos h.symm]
    · rw [if_neg h, if_neg (fun q => h q.symm)]
  · unfold dl; split <;> grind
theorem Good.add {w w' : Wt} (g : Good w) (g' : Good w') : Good (fun i j => w i j + w' i j) := by
  refine ⟨fun i j => ?_, fun i j => ?_⟩
  · show w i j + w' i j = _
    rw [g.sym, g'.sym]
  · have := g.nn i j; have := g'.nn i j
    show 0 ≤ w i j + w' i j
    grind
theorem Good.mrg {w : Wt} (g : Good w) {a b : Nat} : Good (mrg a b w) := by
  refine ⟨fun i j => ?_, fun i j => ?_⟩
  · unfold MT.mrg
    by_cases h1 : i = a <;> by_cases h2 : j = a
    · subst h1; subst h2; rfl
    · simp only [h1, h2, if_true, if_false]; rw [g.sym a j, g.sym b j]
    · simp only [h1, h2, if_true, if_false]; rw [g.sym a i, g.sym b i]
    · simp only [h1, h2, if_false]; exact g.sym i j
  · unfold MT.mrg
    have h1 := g.nn a j; have h2 := g.nn b j; have h3 := g.nn i a; have h4 := g.nn i b; have h5 := g.nn i j
    split
    · grind
    · split <;> grind
theorem T_add {a b : Nat} {l : List Nat} {w : Wt} (g : Good w) (nd : l.Nodup) (ha : a ∈ l) (hb : b ∈ l) (hab : a ≠ b) :
    T l (fun i j => w i j + dl a b i j) = T l w + T (l.erase b) (mrg a b w) := by
  have ha' : a ∈ l.erase b := (List.mem_erase_of_ne hab).mpr ha
  have p1 : l.Perm (b :: l.erase b) := List.perm_cons_erase hb
  have p2 : (l.erase b).Perm (a :: (l.erase b).erase a) := List.perm_cons_erase ha'
  have p3 : (l.erase b).Perm ((l.erase b).erase a ++ [a]) := p2.trans (List.perm_append_comm (l₁ := [a]))
  have p4 : l.Perm ((l.erase b).erase a ++ [a, b]) := by
    refine p1.trans ((List.Perm.cons b p3).trans ?_)
    have : ((l.erase b).erase a ++ [a, b]) = ((l.erase b).erase a ++ [a]) ++ [b] := by simp
    rw [this]
    exact List.perm_append_comm (l₁ := [b])
  rw [T_perm p4 (g.add (dl_good a b)), T_perm p4 g, T_perm p3 g.mrg]
  exact T_add0 a b _ w (p4.nodup_iff.mp nd)
/-- the weights of labelled edges -/
def wt (f : Nat → Nat) : List (Nat × Nat) → Wt
  | [] => fun _ _ => 0
  | e :: es => fun i j => wt f es i j + dl (f e.1) (f e.2) i j
theorem wt_good (f : Nat → Nat) : ∀ es, Good (wt f es)
  | [] => ⟨fun _ _ => rfl, fun _ _ => by simp [wt]⟩
  | e :: es => (wt_good f es).add (dl_good _ _)
def mf (a b : Nat) (f : Nat → Nat) : Nat → Nat := fun x => if f x = b then a else f x
def tauf : List Nat → (Nat → Nat) → List (Nat × Nat) → Nat
  | cls, _, [] => if cls.length = 1 then 1 else 0
  | cls, f, e :: es => tauf cls f es + if f e.1 = f e.2 then 0 else tauf (cls.erase (max (f e.1) (f e.2))) (mf (min (f e.1) (f e.2)) (max (f e.1) (f e.2)) f) es
theorem tauf_le : ∀ (es : List (Nat × Nat)) (cls : List Nat) (f : Nat → Nat), tauf cls f es ≤ 2 ^ es.length
  | [], cls, f => by simp only [tauf]; split <;> simp
  | e :: es, cls, f => by
    have h1 := tauf_le es cls f
    have h2 := tauf_le es (cls.erase (max (f e.1) (f e.2))) (mf (min (f e.1) (f e.2)) (max (f e.1) (f e.2)) f)
    simp only [tauf, List.length_cons, Nat.pow_succ]
    split <;> omega
theorem dl_loop {a i j : Nat} (h : i ≠ j) : dl a a i j = 0 := by
  unfold dl
  rw [if_neg]
  rintro (⟨h1, h2⟩ | ⟨h1, h2⟩)
  · exact h (h1.symm.trans h2)
  · exact h (h2.symm.trans h1)
theorem mf_dl {a b : Nat} (hab : a ≠ b) (x y : Nat) {i j : Nat} (hij : i ≠ j) (hi : i ≠ b) (hj : j ≠ b) :
    dl (if x = b then a else x) (if y = b then a else y) i j = mrg a b (dl x y) i j := by
  unfold mrg dl
  by_cases h1 : x = b <;> by_cases h2 : y = b <;> by_cases h3 : i = a <;> by_cases h4 : j = a <;> simp only [h1, h2, h3, h4, if_true, if_false] <;> grind
theorem mrg_add (a b : Nat) (w w' : Wt) (i j : Nat) : mrg a b (fun i j => w i j + w' i j) i j = mrg a b w i j + mrg a b w' i j := by
  unfold mrg; split
  · grind
  · split
    · grind
    · rfl
theorem wt_mf {a b : Nat} (hab : a ≠ b) (f : Nat → Nat) {i j : Nat} (hij : i ≠ j) (hi : i ≠ b) (hj : j ≠ b) :
    ∀ es, wt (mf a b f) es i j = mrg a b (wt f es) i j
  | [] => by simp only [wt, mrg]; split
             · grind
             · split <;> grind
  | e :: es => by
    simp only [wt]
    rw [mrg_add, wt_mf hab f hij hi hj es]
    congr 1
    exact mf_dl hab _ _ hij hi hj
/-- ends lie in the classes -/
def Ends (cls : List Nat) (f : Nat → Nat) (es : List (Nat × Nat)) : Prop := ∀ e ∈ es, f e.1 ∈ cls ∧ f e.2 ∈ cls
theorem Ends.mf {cls f es} (h : Ends cls f es) (nd : cls.Nodup) {a b : Nat} (ha : a ∈ cls) (hab : a ≠ b) : Ends (cls.erase b) (mf a b f) es := by
  have k : ∀ x, f x ∈ cls → MT.mf a b f x ∈ cls.erase b := fun x hx => by
    unfold MT.mf
    split
    · exact (List.mem_erase_of_ne hab).mpr ha
    · rename_i h; exact (List.mem_erase_of_ne h).mpr hx
  exact fun e he => ⟨k _ (h e he).1, k _ (h e he).2⟩
theorem T_zero : ∀ (l : List Nat), T l (fun _ _ => 0) = if l.length = 1 then 1 else 0
  | [] => by simp [T]
  | [v] => by simp [T]
  | v :: u :: l => by
    rw [T_cons _ (by simp)]
    have : ∀ l, sm l (fun _ => (0 : Rat)) = 0 := fun l => by
      induction l with
      | nil => rfl
      | cons x l ih => simp only [sm, ih]; grind
    rw [this]
    simp
theorem MTthm : ∀ (es : List (Nat × Nat)) (cls : List Nat) (f : Nat → Nat), cls.Nodup → Ends cls f es → T cls (wt f es) = (tauf cls f es : Rat)
  | [], cls, f, nd, h => by
    simp only [wt, tauf, T_zero]
    split <;> rfl
  | e :: es, cls, f, nd, h => by
    have h' : Ends cls f es := fun e he => h e (List.mem_cons_of_mem _ he)
    obtain ⟨h1, h2⟩ := h e List.mem_cons_self
    have ih := MTthm es cls f nd h'
    by_cases q : f e.1 = f e.2
    · simp only [tauf, if_pos q, Nat.add_zero]
      rw [← ih]
      refine T_congr nd fun i _ j _ hij => ?_
      simp only [wt]
      rw [q, dl_loop hij]; grind
    · simp only [tauf, if_neg q]
      have hne : min (f e.1) (f e.2) ≠ max (f e.1) (f e.2) := by omega
      have ha : min (f e.1) (f e.2) ∈ cls := by
        rcases Nat.le_total (f e.1) (f e.2) with z | z
        · rw [Nat.min_eq_left z]; exact h1
        · rw [Nat.min_eq_right z]; exact h2
      have hb : max (f e.1) (f e.2) ∈ cls := by
        rcases Nat.le_total (f e.1) (f e.2) with z | z
        · rw [Nat.max_eq_right z]; exact h2
        · rw [Nat.max_eq_left z]; exact h1
      have e1 : wt f (e :: es) = fun i j => wt f es i j + dl (min (f e.1) (f e.2)) (max (f e.1) (f e.2)) i j := by
        funext i j
        simp only [wt]
        congr 1
        rcases Nat.le_total (f e.1) (f e.2) with z | z
        · rw [Nat.min_eq_left z, Nat.max_eq_right z]
        · rw [Nat.min_eq_right z, Nat.max_eq_left z]
          unfold dl
          congr 1
          exact propext ⟨fun h => by rcases h with ⟨p, q⟩ | ⟨p, q⟩; exact .inr ⟨q, p⟩; exact .inl ⟨q, p⟩, fun h => by rcases h with ⟨p, q⟩ | ⟨p, q⟩; exact .inr ⟨q, p⟩; exact .inl ⟨q, p⟩⟩
      rw [e1, T_add (wt_good f es) nd ha hb hne, ih]
      have nd2 : (cls.erase (max (f e.1) (f e.2))).Nodup := nd.erase _
      rw [← (show T (cls.erase (max (f e.1) (f e.2))) (wt (mf (min (f e.1) (f e.2)) (max (f e.1) (f e.2)) f) es) = T (cls.erase (max (f e.1) (f e.2))) (mrg (min (f e.1) (f e.2)) (max (f e.1) (f e.2)) (wt f es)) from
        T_congr nd2 fun i hi j hj hij => wt_mf hne f hij (fun q => by rw [q] at hi; exact (List.Nodup.not_mem_erase nd) hi) (fun q => by rw [q] at hj; exact (List.Nodup.not_mem_erase nd) hj) es)]
      rw [MTthm es _ _ nd2 (h'.mf nd ha hne)]
      exact (Rat.natCast_add _ _).symm
end MT
namespace MT
def P : List Nat → List Nat → Wt → Rat
  | [], _, _ => 1
  | v :: l0, l1, w => sm (l0 ++ l1) (w v) * P l0 l1 (elim v (sm (l0 ++ l1) (w v)) w)
def E : List Nat → List Nat → Wt → Wt
  | [], _, w => w
  | v :: l0, l1, w => E l0 l1 (elim v (sm (l0 ++ l1) (w v)) w)
theorem T_PE {l1 : List Nat} (h : l1 ≠ []) : ∀ (l0 : List Nat) (w : Wt), T (l0 ++ l1) w = P l0 l1 w * T l1 (E l0 l1 w)
  | [], w => by simp only [List.nil_append, P, E]; grind
  | v :: l0, w => by
    simp only [List.cons_append, P, E]
    rw [T_cons _ (by simp [h]), T_PE h l0]
    grind
theorem PE_perm {l1 l1' : List Nat} (h : l1.Perm l1') : ∀ (l0 : List Nat) (w : Wt), P l0 l1 w = P l0 l1' w ∧ E l0 l1 w = E l0 l1' w
  | [], w => ⟨rfl, rfl⟩
  | v :: l0, w => by
    simp only [P, E]
    rw [sm_perm (h.append_left l0)]
    have := PE_perm h l0 (elim v (sm (l0 ++ l1') (w v)) w)
    exact ⟨by rw [this.1], this.2⟩
theorem PE_snoc (i : Nat) (l1 : List Nat) : ∀ (l0 : List Nat) (w : Wt), P (l0 ++ [i]) l1 w = P l0 (i :: l1) w * sm l1 (E l0 (i :: l1) w i) ∧ E (l0 ++ [i]) l1 w = elim i (sm l1 (E l0 (i :: l1) w i)) (E l0 (i :: l1) w)
  | [], w => by
    simp only [List.nil_append, P, E]
    exact ⟨by grind, trivial⟩
  | v :: l0, w => by
    simp only [List.cons_append, P, E]
    have e : l0 ++ [i] ++ l1 = l0 ++ i :: l1 := by simp
    rw [e]
    have := PE_snoc i l1 l0 (elim v (sm (l0 ++ i :: l1) (w v)) w)
    exact ⟨by rw [this.1]; grind, this.2⟩
theorem E_good : ∀ (l0 l1 : List Nat) {w : Wt}, Good w → Good (E l0 l1 w)
  | [], _, _, g => g
  | v :: l0, l1, w, g => E_good l0 l1 (g.elim (sm_nonneg fun x _ => g.nn _ _))
theorem PE_congr {l1 : List Nat} : ∀ {l0 : List Nat} {w w' : Wt}, (l0 ++ l1).Nodup → (∀ i ∈ l0 ++ l1, ∀ j ∈ l0 ++ l1, i ≠ j → w i j = w' i j) →
    P l0 l1 w = P l0 l1 w' ∧ ∀ i ∈ l1, ∀ j ∈ l1, i ≠ j → E l0 l1 w i j = E l0 l1 w' i j
  | [], w, w', _, h => ⟨rfl, h⟩
  | v :: l0, w, w', nd, h => by
    simp only [List.cons_append] at nd h
    obtain ⟨hv, nd'⟩ := List.nodup_cons.mp nd
    simp only [P, E]
    have e1 : sm (l0 ++ l1) (w v) = sm (l0 ++ l1) (w' v) := sm_congr fun x hx => h v List.mem_cons_self x (List.mem_cons_of_mem _ hx) (fun q => hv (q ▸ hx))
    rw [e1]
    have := PE_congr (l1 := l1) (l0 := l0) (w := elim v (sm (l0 ++ l1) (w' v)) w) (w' := elim v (sm (l0 ++ l1) (w' v)) w') nd' fun i hi j hj hij => by
      simp only [MT.elim]
      rw [h i (List.mem_cons_of_mem _ hi) j (List.mem_cons_of_mem _ hj) hij,
        h v List.mem_cons_self i (List.mem_cons_of_mem _ hi) (fun q => hv (q ▸ hi)),
        h v List.mem_cons_self j (List.mem_cons_of_mem _ hj) (fun q => hv (q ▸ hj))]
    exact ⟨by rw [this.1], this.2⟩
theorem PE_merge {a b : Nat} {l2 : List Nat} : ∀ {l0 : List Nat} {w : Wt}, (l0 ++ a :: b :: l2).Nodup →
    P l0 (a :: b :: l2) w = P l0 (a :: l2) (mrg a b w) ∧ ∀ i ∈ a :: l2, ∀ j ∈ a :: l2, i ≠ j → E l0 (a :: l2) (mrg a b w) i j = mrg a b (E l0 (a :: b :: l2) w) i j
  | [], w, _ => ⟨rfl, fun _ _ _ _ _ => rfl⟩
  | v :: l0, w, nd => by
    simp only [List.cons_append] at nd
    obtain ⟨hv, nd'⟩ := List.nodup_cons.mp nd
    have hva : v ≠ a := fun q => hv (by simp [q])
    simp only [P, E]
    have hd := List.nodup_append.mp nd'
    have ha0 : ∀ x ∈ l0, x ≠ a := fun x hx => hd.2.2 x hx a (by simp)
    have ha2 : ∀ x ∈ l2, x ≠ a := fun x hx q => by
      have := (List.nodup_cons.mp hd.2.1).1
      exact this (by subst q; simp [hx])
    have e1 : sm (l0 ++ a :: l2) (mrg a b w v) = sm (l0 ++ a :: b :: l2) (w v) := by
      rw [sm_append, sm_append]
      simp only [sm]
      have q1 : sm l0 (mrg a b w v) = sm l0 (w v) := sm_congr fun x hx => by simp [mrg, hva, ha0 x hx]
      have q2 : sm l2 (mrg a b w v) = sm l2 (w v) := sm_congr fun x hx => by simp [mrg, hva, ha2 x hx]
      rw [q1, q2]
      simp [mrg, hva]
      grind
    rw [e1]
    generalize sm (l0 ++ a :: b :: l2) (w v) = s
    obtain ⟨ih1, ih2⟩ := PE_merge (a := a) (b := b) (l2 := l2) (l0 := l0) (w := elim v s w) nd'
    have nd3 : (l0 ++ a :: l2).Nodup := by
      refine List.nodup_append.mpr ⟨hd.1, ?_, fun x hx y hy => hd.2.2 x hx y ?_⟩
      · have := List.nodup_cons.mp hd.2.1
        refine List.nodup_cons.mpr ⟨fun q => this.1 (by simp [q]), (List.nodup_cons.mp this.2).2⟩
      · rcases List.mem_cons.mp hy with q | q
        · simp [q]
        · simp [q]
    obtain ⟨c1, c2⟩ := PE_congr (l1 := a :: l2) (l0 := l0) (w := elim v s (mrg a b w)) (w' := mrg a b (elim v s w)) nd3 fun i _ j _ hij => by
      simp only [MT.elim, mrg]
      by_cases hi : i = a
      · subst hi
        have hj : ¬ j = i := fun q => hij q.symm
        simp only [hva, hj, if_true, if_false]; grind
      · by_cases hj : j = a
        · subst hj
          simp only [hva, hi, if_true, if_false]; grind
        · simp only [hva, hi, hj, if_false]
    refine ⟨by rw [ih1, c1], fun i hi j hj hij => ?_⟩
    rw [c2 i hi j hj hij, ih2 i hi j hj hij]
theorem mf_ends {l0 : List Nat} {a b : Nat} {l2 : List Nat} {f : Nat → Nat} {es : List (Nat × Nat)} (h : Ends (l0 ++ a :: b :: l2) f es) : Ends (l0 ++ a :: l2) (mf a b f) es := by
  have k : ∀ x, f x ∈ l0 ++ a :: b :: l2 → mf a b f x ∈ l0 ++ a :: l2 := fun x hx => by
    unfold mf
    split
    · simp
    · rename_i q
      simp only [List.mem_append, List.mem_cons] at hx ⊢
      rcases hx with hx | hx | hx | hx
      · exact .inl hx
      · exact .inr (.inl hx)
      · exact absurd hx q
      · exact .inr (.inr hx)
  exact fun e he => ⟨k _ (h e he).1, k _ (h e he).2⟩
theorem nd_merge {l0 : List Nat} {a b : Nat} {l2 : List Nat} (nd : (l0 ++ a :: b :: l2).Nodup) : (l0 ++ a :: l2).Nodup ∧ b ∉ l0 ++ a :: l2 ∧ a ≠ b := by
  have hd := List.nodup_append.mp nd
  have h1 := List.nodup_cons.mp hd.2.1
  have h2 := List.nodup_cons.mp h1.2
  refine ⟨List.nodup_append.mpr ⟨hd.1, List.nodup_cons.mpr ⟨fun q => h1.1 (by simp [q]), h2.2⟩, fun x hx y hy => hd.2.2 x hx y ?_⟩, ?_, fun q => h1.1 (by simp [q])⟩
  · rcases List.mem_cons.mp hy with q | q
    · simp [q]
    · simp [q]
  · intro q
    rcases List.mem_append.mp q with q | q
    · exact hd.2.2 b q b (by simp) rfl
    · rcases List.mem_cons.mp q with q | q
      · exact h1.1 (by simp [q])
      · exact h2.1 q
/-- merging two of the others: the labelled weights -/
theorem merge_wt {l0 : List Nat} {a b : Nat} {l2 : List Nat} {f : Nat → Nat} {es : List (Nat × Nat)} (nd : (l0 ++ a :: b :: l2).Nodup) :
    P l0 (a :: b :: l2) (wt f es) = P l0 (a :: l2) (wt (mf a b f) es) ∧ ∀ i ∈ a :: l2, ∀ j ∈ a :: l2, i ≠ j → E l0 (a :: l2) (wt (mf a b f) es) i j = mrg a b (E l0 (a :: b :: l2) (wt f es)) i j := by
  obtain ⟨n1, n2, n3⟩ := nd_merge nd
  obtain ⟨m1, m2⟩ := PE_merge (w := wt f es) nd
  obtain ⟨c1, c2⟩ := PE_congr (l1 := a :: l2) (l0 := l0) (w := wt (mf a b f) es) (w' := mrg a b (wt f es)) n1 fun i hi j hj hij =>
    wt_mf n3 f hij (fun q => n2 (q ▸ hi)) (fun q => n2 (q ▸ hj)) es
  exact ⟨by rw [m1, c1], fun i hi j hj hij => by rw [c2 i hi j hj hij, m2 i hi j hj hij]⟩
theorem INT1 : ∀ (n : Nat) (others : List Nat), others.length = n + 1 → ∀ (l0 : List Nat) (f : Nat → Nat) (es : List (Nat × Nat)), (l0 ++ others).Nodup → Ends (l0 ++ others) f es →
    ∃ m : Nat, m ≤ 2 ^ es.length ∧ P l0 others (wt f es) = (m : Rat)
  | 0, [r], _, l0, f, es, nd, h => by
    refine ⟨tauf (l0 ++ [r]) f es, tauf_le _ _ _, ?_⟩
    have := MTthm es (l0 ++ [r]) f nd h
    rw [T_PE (by simp), T_one] at this
    grind
  | n + 1, a :: b :: l2, hl, l0, f, es, nd, h => by
    rw [(merge_wt (f := f) (es := es) nd).1]
    exact INT1 n (a :: l2) (by simpa using hl) l0 _ es (nd_merge nd).1 (mf_ends h)
theorem INT2 (i : Nat) (others : List Nat) (ho : others ≠ []) (l0 : List Nat) (f : Nat → Nat) (es : List (Nat × Nat)) (nd : (l0 ++ i :: others).Nodup) (h : Ends (l0 ++ i :: others) f es) :
    ∃ m : Nat, m ≤ 2 ^ es.length ∧ P l0 (i :: others) (wt f es) * sm others (E l0 (i :: others) (wt f es) i) = (m : Rat) := by
  rw [← (PE_snoc i others l0 _).1]
  have e : l0 ++ i :: others = (l0 ++ [i]) ++ others := by simp
  rw [e] at nd h
  have : ∃ n, others.length = n + 1 := ⟨others.length - 1, by cases others with | nil => exact absurd rfl ho | cons _ _ => simp⟩
  obtain ⟨n, hn⟩ := this
  exact INT1 n others hn _ f es nd h
theorem half_int {B : Rat} {u v : Int} (h1 : 2 * B = (u : Rat)) (h2 : B * B = (v : Rat)) : ∃ z : Int, B = (z : Rat) := by
  have h3 : ((u * u : Int) : Rat) = ((4 * v : Int) : Rat) := by
    rw [Rat.intCast_mul, Rat.intCast_mul, ← h1, ← h2]
    grind
  have h4 : u * u = 4 * v := Rat.intCast_inj.mp h3
  have h5 : u % 2 = 0 := by
    rcases Int.emod_two_eq u with q | q
    · exact q
    · exfalso
      obtain ⟨k, hk⟩ : ∃ k, u = 2 * k + 1 := ⟨u / 2, by omega⟩
      subst hk
      have : (2 * k + 1) * (2 * k + 1) = 4 * (k * k + k) + 1 := by grind
      omega
  refine ⟨u / 2, ?_⟩
  have h6 : 2 * (u / 2) = u := by omega
  have h7 : ((2 * (u / 2) : Int) : Rat) = 2 * ((u / 2 : Int) : Rat) := by
    rw [Rat.intCast_mul]
    grind
  rw [h6] at h7
  grind
theorem INT3 : ∀ (n : Nat) (others : List Nat), others.length = n + 1 → ∀ (i j : Nat) (l0 : List Nat) (f : Nat → Nat) (es : List (Nat × Nat)), (l0 ++ i :: j :: others).Nodup → Ends (l0 ++ i :: j :: others) f es →
    ∃ z : Int, P l0 (i :: j :: others) (wt f es) * E l0 (i :: j :: others) (wt f es) i j = (z : Rat)
  | 0, [r], _, i, j, l0, f, es, nd, h => by
    have g := E_good l0 [i, j, r] (wt_good f es)
    obtain ⟨d1, _, e1⟩ := INT2 i [j, r] (by simp) l0 f es nd h
    have pj : (i :: j :: [r]).Perm (j :: i :: [r]) := List.Perm.swap _ _ _
    have nd2 : (l0 ++ j :: i :: [r]).Nodup := (pj.append_left l0).nodup_iff.mp nd
    have h2 : Ends (l0 ++ j :: i :: [r]) f es := fun e he => ⟨(pj.append_left l0).mem_iff.mp (h e he).1, (pj.append_left l0).mem_iff.mp (h e he).2⟩
    obtain ⟨d2, _, e2⟩ := INT2 j [i, r] (by simp) l0 f es nd2 h2
    rw [← (PE_perm pj l0 _).1, ← (PE_perm pj l0 _).2] at e2
    obtain ⟨m1, m2⟩ := merge_wt (f := f) (es := es) nd
    obtain ⟨d3, _, e3⟩ := INT2 i [r] (by simp) l0 (mf i j f) es (nd_merge nd).1 (mf_ends h)
    have hir : i ≠ r := by
      have := (List.nodup_append.mp nd).2.1
      simp at this
      grind
    rw [← m1] at e3
    have e3' : sm [r] (E l0 [i, r] (wt (mf i j f) es) i) = E l0 [i, j, r] (wt f es) i r + E l0 [i, j, r] (wt f es) j r := by
      simp only [sm]
      rw [m2 i (by simp) r (by simp) hir]
      simp [mrg]
      grind
    rw [e3'] at e3
    have e4 := MTthm es _ f nd h
    rw [T_PE (by simp)] at e4
    obtain ⟨p', _, e5⟩ := INT1 2 [i, j, r] rfl l0 f es nd h
    simp only [sm] at e1 e2
    rw [T_cons _ (by simp), T_cons _ (by simp), T_one] at e4
    simp only [sm, MT.elim] at e4
    have gs := g.sym i j
    have n1 := g.nn i j; have n2 := g.nn i r; have n3 := g.nn j r
    rw [← gs] at e2
    generalize E l0 [i, j, r] (wt f es) i j = x at *
    generalize E l0 [i, j, r] (wt f es) i r = y at *
    generalize E l0 [i, j, r] (wt f es) j r = z at *
    generalize P l0 [i, j, r] (wt f es) = p at *
    have e6 : p * ((x + y) * z + x * y) = ((tauf (l0 ++ [i, j, r]) f es : Nat) : Rat) := by
      rw [← e4]
      by_cases q : x + (y + 0) = 0
      · have : x = 0 := by grind
        have : y = 0 := by grind
        grind
      · grind
    refine half_int (u := (d1 : Int) + d2 - d3) (v := (d1 : Int) * d2 - p' * (tauf (l0 ++ [i, j, r]) f es : Nat)) ?_ ?_
    · rw [Rat.intCast_sub, Rat.intCast_add, Rat.intCast_natCast, Rat.intCast_natCast, Rat.intCast_natCast, ← e1, ← e2, ← e3]
      grind
    · rw [Rat.intCast_sub, Rat.intCast_mul, Rat.intCast_mul, Rat.intCast_natCast, Rat.intCast_natCast, Rat.intCast_natCast, Rat.intCast_natCast, ← e1, ← e2, ← e5, ← e6]
      grind
  | n + 1, a :: b :: l2, hl, i, j, l0, f, es, nd, h => by
    have pp : (i :: j :: a :: b :: l2).Perm (a :: b :: i :: j :: l2) :=
      (List.perm_append_comm (l₁ := [i, j]) (l₂ := [a, b])).append_right l2
    have nd2 : (l0 ++ a :: b :: i :: j :: l2).Nodup := (pp.append_left l0).nodup_iff.mp nd
    have h2 : Ends (l0 ++ a :: b :: i :: j :: l2) f es := fun e he => ⟨(pp.append_left l0).mem_iff.mp (h e he).1, (pp.append_left l0).mem_iff.mp (h e he).2⟩
    obtain ⟨m1, m2⟩ := merge_wt (f := f) (es := es) nd2
    have qq : (i :: j :: a :: l2).Perm (a :: i :: j :: l2) :=
      (List.perm_append_comm (l₁ := [i, j]) (l₂ := [a])).append_right l2
    obtain ⟨n1, n2, n3⟩ := nd_merge nd2
    have nd3 : (l0 ++ i :: j :: a :: l2).Nodup := (qq.append_left l0).nodup_iff.mpr n1
    have h4 : Ends (l0 ++ a :: i :: j :: l2) (mf a b f) es := mf_ends h2
    have h3 : Ends (l0 ++ i :: j :: a :: l2) (mf a b f) es := fun e he => ⟨(qq.append_left l0).mem_iff.mpr (h4 e he).1, (qq.append_left l0).mem_iff.mpr (h4 e he).2⟩
    obtain ⟨z, hz⟩ := INT3 n (a :: l2) (by simpa using hl) i j l0 (mf a b f) es nd3 h3
    refine ⟨z, ?_⟩
    rw [← hz, (PE_perm pp l0 _).1, (PE_perm pp l0 _).2, (PE_perm qq l0 _).1, (PE_perm qq l0 _).2, m1]
    have hd := (List.nodup_append.mp n1).2.1
    simp only [List.nodup_cons, List.mem_cons, not_or] at hd
    have hij : i ≠ j := by
      have := (List.nodup_append.mp nd3).2.1
      simp only [List.nodup_cons, List.mem_cons, not_or] at this
      exact this.1.1
    rw [m2 i (by simp) j (by simp) hij]
    simp [mrg, Ne.symm hd.1.1, Ne.symm hd.1.2.1]
end MT
namespace MT
section
variable (k : Nat) (w : Wt)
def lr (t : Nat) : List Nat := List.range' t (k - t)
def wS (t : Nat) : Wt := E (List.range t) (lr k t) w
def pS (t : Nat) : Rat := P (List.range t) (lr k t) w
def sS (t : Nat) : Rat := sm (lr k (t + 1)) (wS k w t t)
def AS (t i j : Nat) : Rat := if i = j then sm ((lr k t).erase i) (wS k w t i) else - wS k w t i j
def pI (t : Nat) : Int := (pS k w t).num
def BI (t i j : Nat) : Int := (pS k w t * AS k w t i j).num
end
theorem lr_cons {k t : Nat} (h : t < k) : lr k t = t :: lr k (t + 1) := by
  unfold lr
  have : k - t = (k - (t + 1)) + 1 := by omega
  rw [this]
  rfl
theorem mem_lr {k t i : Nat} : i ∈ lr k t ↔ t ≤ i ∧ i < k := by
  unfold lr
  rw [List.mem_range'_1]
  omega
theorem lr_all {k t : Nat} (h : t ≤ k) : List.range t ++ lr k t = List.range k := by
  unfold lr
  rw [List.range_eq_range', List.range_eq_range']
  have := @List.range'_append 0 t (k - t) 1
  simp at this
  rw [this]
  congr 1
  omega
theorem lr_nd (k t : Nat) : (lr k t).Nodup := List.nodup_range'
theorem pS_succ {k : Nat} {w : Wt} {t : Nat} (h : t < k) : pS k w (t + 1) = pS k w t * sS k w t ∧ wS k w (t + 1) = elim t (sS k w t) (wS k w t) := by
  unfold pS wS sS wS
  rw [List.range_succ]
  have := PE_snoc t (lr k (t + 1)) (List.range t) w
  rw [lr_cons h]
  exact this
theorem pS_zero (k : Nat) (w : Wt) : pS k w 0 = 1 := rfl
theorem wS_zero (k : Nat) (w : Wt) : wS k w 0 = w := rfl
theorem wS_good {k : Nat} {w : Wt} (g : Good w) (t : Nat) : Good (wS k w t) := E_good _ _ g
theorem perm_lr {k t i : Nat} (h1 : t ≤ i) (h2 : i < k) : (lr k t).Perm (i :: (lr k t).erase i) := List.perm_cons_erase (mem_lr.mpr ⟨h1, h2⟩)
section
variable {k : Nat} {f : Nat → Nat} {es : List (Nat × Nat)}
theorem pI_cast (h : Ends (List.range k) f es) {t : Nat} (ht : t < k) : ∃ m : Nat, m ≤ 2 ^ es.length ∧ pS k (wt f es) t = (m : Rat) ∧ pI k (wt f es) t = m := by
  have nd : (List.range t ++ lr k t).Nodup := by rw [lr_all (by omega)]; exact List.nodup_range
  have h' : Ends (List.range t ++ lr k t) f es := by rw [lr_all (by omega)]; exact h
  have hl : (lr k t).length = (k - t - 1) + 1 := by unfold lr; rw [List.length_range']; omega
  obtain ⟨m, h1, h2⟩ := INT1 _ _ hl _ f es nd h'
  refine ⟨m, h1, h2, ?_⟩
  unfold pI pS
  rw [h2]
  exact Rat.num_natCast m
theorem BI_cast (h : Ends (List.range k) f es) {t i j : Nat} (h1 : t ≤ i) (h2 : t ≤ j) (h3 : i < k - 1) (h4 : j < k - 1) :
    ((BI k (wt f es) t i j : Int) : Rat) = pS k (wt f es) t * AS k (wt f es) t i j := by
  have nd : (List.range t ++ lr k t).Nodup := by rw [lr_all (by omega)]; exact List.nodup_range
  have h' : Ends (List.range t ++ lr k t) f es := by rw [lr_all (by omega)]; exact h
  have key : ∃ z : Int, pS k (wt f es) t * AS k (wt f es) t i j = (z : Rat) := by
    unfold AS pS wS
    by_cases q : i = j
    · subst q
      rw [if_pos rfl]
      have pp := perm_lr (k := k) h1 (by omega)
      have ne : (lr k t).erase i ≠ [] := by
        have : k - 1 ∈ (lr k t).erase i := (List.mem_erase_of_ne (by omega)).mpr (mem_lr.mpr ⟨by omega, by omega⟩)
        intro z; rw [z] at this; cases this
      obtain ⟨m, _, hm⟩ := INT2 i _ ne (List.range t) f es ((pp.append_left _).nodup_iff.mp nd) (fun e he => ⟨(pp.append_left _).mem_iff.mp (h' e he).1, (pp.append_left _).mem_iff.mp (h' e he).2⟩)
      refine ⟨m, ?_⟩
      rw [(PE_perm pp _ _).1, (PE_perm pp _ _).2, hm]
      exact (Rat.intCast_natCast m).symm
    · rw [if_neg q]
      have pi := perm_lr (k := k) h1 (by omega)
      have mj : j ∈ (lr k t).erase i := (List.mem_erase_of_ne (Ne.symm q)).mpr (mem_lr.mpr ⟨by omega, by omega⟩)
      have pj := (List.perm_cons_erase mj)
      have pp : (lr k t).Perm (i :: j :: ((lr k t).erase i).erase j) := pi.trans (pj.cons i)
      have mk : k - 1 ∈ ((lr k t).erase i).erase j := (List.mem_erase_of_ne (by omega)).mpr ((List.mem_erase_of_ne (by omega)).mpr (mem_lr.mpr ⟨by omega, by omega⟩))
      have hl : (((lr k t).erase i).erase j).length = ((((lr k t).erase i).erase j).length - 1) + 1 := by
        have := List.length_pos_of_mem mk
        omega
      obtain ⟨z, hz⟩ := INT3 _ _ hl i j (List.range t) f es ((pp.append_left _).nodup_iff.mp nd) (fun e he => ⟨(pp.append_left _).mem_iff.mp (h' e he).1, (pp.append_left _).mem_iff.mp (h' e he).2⟩)
      refine ⟨-z, ?_⟩
      rw [← (PE_perm pp _ _).1, ← (PE_perm pp _ _).2] at hz
      rw [Rat.intCast_neg, ← hz]
      grind
  obtain ⟨z, hz⟩ := key
  unfold BI
  rw [hz]
  rw [Rat.num_intCast]
theorem AS_tt {w : Wt} {t : Nat} (h : t < k) : AS k w t t t = sS k w t := by
  unfold AS sS
  rw [if_pos rfl, lr_cons h, List.erase_cons_head]
theorem AS_step {w : Wt} (g : Good w) {t i j : Nat} (h1 : t < i) (h2 : t < j) (h3 : i < k) (h4 : j < k) (hs : sS k w t ≠ 0) :
    AS k w (t + 1) i j = AS k w t i j - AS k w t i t * AS k w t t j / sS k w t := by
  have gt := wS_good (k := k) g t
  have e1 : AS k w t i t = - wS k w t i t := by unfold AS; rw [if_neg (by omega)]
  have e2 : AS k w t t j = - wS k w t t j := by unfold AS; rw [if_neg (by omega)]
  rw [e1, e2]
  have hw := (pS_succ (k := k) (w := w) (t := t) (by omega)).2
  by_cases q : i = j
  · subst q
    unfold AS
    rw [if_pos rfl, if_pos rfl, hw, lr_cons (k := k) (t := t) (by omega), List.erase_cons_tail (by simp; omega)]
    have l1 := sm_lin ((lr k (t + 1)).erase i) (wS k w t i) (wS k w t t) (wS k w t t i) (sS k w t)
    have l2 : sm ((lr k (t + 1)).erase i) (elim t (sS k w t) (wS k w t) i) = _ := l1
    rw [l2]
    have l3 : sS k w t = wS k w t t i + sm ((lr k (t + 1)).erase i) (wS k w t t) := by
      unfold sS
      rw [sm_perm (perm_lr (k := k) (t := t + 1) (i := i) (by omega) (by omega))]
      rfl
    simp only [sm]
    rw [gt.sym i t]
    generalize sm ((lr k (t + 1)).erase i) (wS k w t t) = X at *
    generalize sS k w t = s at *
    grind
  · unfold AS
    rw [if_neg q, if_neg q, hw]
    simp only [MT.elim]
    rw [gt.sym i t]
    grind
/-- integer Laplacian -/
def lp (a b i j : Nat) : Int := if a = b then 0 else if i = j then (if i = a ∨ i = b then 1 else 0) else if (i = a ∧ j = b) ∨ (i = b ∧ j = a) then -1 else 0
def lap (f : Nat → Nat) : List (Nat × Nat) → Nat → Nat → Int
  | [], _, _ => 0
  | e :: es, i, j => lap f es i j + lp (f e.1) (f e.2) i j
theorem sm_ind {l : List Nat} {x : Nat} (nd : l.Nodup) (hx : x ∈ l) : sm l (fun u => if u = x then 1 else 0) = 1 := by
  induction l with
  | nil => cases hx
  | cons y l ih =>
    obtain ⟨n1, n2⟩ := List.nodup_cons.mp nd
    simp only [sm]
    by_cases q : y = x
    · subst q
      have : sm l (fun u => if u = y then (1 : Rat) else 0) = sm l (fun _ => 0) := sm_congr fun u hu => if_neg (fun (q : u = y) => n1 (q ▸ hu))
      rw [this]
      have : ∀ l, sm l (fun _ => (0 : Rat)) = 0 := fun l => by
        induction l with
        | nil => rfl
        | cons x l ih => simp only [sm, ih]; grind
      rw [this]; simp; grind
    · rw [ih n2 (by rcases List.mem_cons.mp hx with z | z; exact absurd z.symm q; exact z)]
      simp [q]; grind
theorem sm_zero' (l : List Nat) : sm l (fun _ => (0 : Rat)) = 0 := by
  induction l with
  | nil => rfl
  | cons x l ih => simp only [sm, ih]; grind
theorem sm_dl {i a b : Nat} {l : List Nat} (nd : l.Nodup) (hi : i ∉ l) (ha : a ≠ i → a ∈ l) (hb : b ≠ i → b ∈ l) : sm l (dl a b i) = ((lp a b i i : Int) : Rat) := by
  unfold lp
  by_cases q : a = b
  · subst q
    rw [if_pos rfl]
    have : sm l (dl a a i) = sm l (fun _ => 0) := sm_congr fun u hu => dl_loop (fun z => hi (z ▸ hu))
    rw [this, sm_zero']; rfl
  rw [if_neg q, if_pos rfl]
  by_cases h1 : i = a
  · rw [if_pos (.inl h1)]
    subst h1
    have : sm l (dl i b i) = sm l (fun u => if u = b then 1 else 0) := sm_congr fun u hu => by
      unfold dl
      by_cases z : u = b
      · rw [if_pos z, if_pos (.inl ⟨rfl, z.symm⟩)]
      · rw [if_neg z, if_neg]
        rintro (⟨_, p⟩ | ⟨p, _⟩)
        · exact z p.symm
        · exact hi (p ▸ hu)
    rw [this, sm_ind nd (hb (Ne.symm q))]; rfl
  · by_cases h2 : i = b
    · rw [if_pos (.inr h2)]
      subst h2
      have : sm l (dl a i i) = sm l (fun u => if u = a then 1 else 0) := sm_congr fun u hu => by
        unfold dl
        by_cases z : u = a
        · rw [if_pos z, if_pos (.inr ⟨z.symm, rfl⟩)]
        · rw [if_neg z, if_neg]
          rintro (⟨p, _⟩ | ⟨p, _⟩)
          · exact h1 p.symm
          · exact z p.symm
      rw [this, sm_ind nd (ha q)]; rfl
    · rw [if_neg (by rintro (z | z); exact h1 z; exact h2 z)]
      have : sm l (dl a b i) = sm l (fun _ => 0) := sm_congr fun u hu => by
        unfold dl
        rw [if_neg]
        rintro (⟨p, _⟩ | ⟨_, p⟩)
        · exact h1 p.symm
        · exact h2 p.symm
      rw [this, sm_zero']; rfl
theorem sm_add (l : List Nat) (g h : Nat → Rat) : sm l (fun x => g x + h x) = sm l g + sm l h := by
  induction l with
  | nil => simp only [sm]; grind
  | cons x l ih => simp only [sm, ih]; grind
theorem AS_zero {i j : Nat} (hi : i < k) (hj : j < k) : ∀ {es : List (Nat × Nat)}, Ends (List.range k) f es → AS k (wt f es) 0 i j = ((lap f es i j : Int) : Rat)
  | [], _ => by
    unfold AS
    rw [wS_zero]
    simp only [wt, lap]
    split
    · exact sm_zero' _
    · rfl
  | e :: es, h => by
    have ih := AS_zero hi hj (es := es) (fun e he => h e (List.mem_cons_of_mem _ he))
    have he := h e List.mem_cons_self
    simp only [List.mem_range] at he
    unfold AS at ih ⊢
    rw [wS_zero] at ih ⊢
    simp only [lap]
    rw [Rat.intCast_add, ← ih]
    by_cases q : i = j
    · subst q
      simp only [if_pos]
      have e1 : sm ((lr k 0).erase i) (wt f (e :: es) i) = sm ((lr k 0).erase i) (wt f es i) + sm ((lr k 0).erase i) (dl (f e.1) (f e.2) i) := sm_add _ _ _
      rw [e1, sm_dl ((lr_nd k 0).erase i) (List.Nodup.not_mem_erase (lr_nd k 0)) (fun z => (List.mem_erase_of_ne z).mpr (mem_lr.mpr ⟨Nat.zero_le _, he.1⟩)) (fun z => (List.mem_erase_of_ne z).mpr (mem_lr.mpr ⟨Nat.zero_le _, he.2⟩))]
    · simp only [if_neg q, wt]
      have : dl (f e.1) (f e.2) i j = - ((lp (f e.1) (f e.2) i j : Int) : Rat) := by
        unfold lp
        by_cases z : f e.1 = f e.2
        · rw [z, if_pos rfl, dl_loop q]; rfl
        · rw [if_neg z, if_neg q]
          unfold dl
          by_cases y : (i = f e.1 ∧ j = f e.2) ∨ (i = f e.2 ∧ j = f e.1)
          · rw [if_pos y, if_pos (by rcases y with ⟨a, b⟩ | ⟨a, b⟩; exact .inl ⟨a.symm, b.symm⟩; exact .inr ⟨b.symm, a.symm⟩)]; simp
          · rw [if_neg y, if_neg (fun u => y (by rcases u with ⟨a, b⟩ | ⟨a, b⟩; exact .inl ⟨a.symm, b.symm⟩; exact .inr ⟨b.symm, a.symm⟩))]; simp
      rw [this]; grind
structure Bar (k n : Nat) (A : Nat → Nat → Int) (D : Int) (B : Nat → Nat → Nat → Int) (p : Nat → Int) : Prop where
  b0 : ∀ i j, i < k → j < k → B 0 i j = A i j
  p0 : p 0 = 1
  pos : ∀ t, t ≤ k → 0 < p t ∧ p t ≤ 2 ^ n
  piv : ∀ t, t < k → B t t t = p (t + 1)
  step : ∀ t i j, t < i → t < j → i < k → j < k → B t i j * B t t t - B t i t * B t t j = B (t + 1) i j * p t
  small : ∀ t i, t < i → i < k → - (2 ^ n) ≤ B t i t ∧ B t i t ≤ 2 ^ n
  last : p k = D
theorem nz_down {k : Nat} {w : Wt} {m : Nat} (hm : m < k) (h : pS k w m ≠ 0) : ∀ d t, t + d = m → pS k w t ≠ 0
  | 0, t, e => by simp at e; rw [e]; exact h
  | d + 1, t, e => by
    have ih := nz_down hm h d (t + 1) (by omega)
    rw [(pS_succ (k := k) (w := w) (t := t) (by omega)).1] at ih
    intro z; rw [z] at ih; exact ih (by grind)
/-- the Bareiss scheme of a joined web's reduced pull table -/
theorem bareiss (hk : 1 ≤ k) (h : Ends (List.range k) f es) (hp : tauf (List.range k) f es ≠ 0) :
    Bar (k - 1) es.length (lap f es) (tauf (List.range k) f es : Nat) (BI k (wt f es)) (pI k (wt f es)) := by
  have hT : pS k (wt f es) (k - 1) = ((tauf (List.range k) f es : Nat) : Rat) := by
    have e1 := MTthm es (List.range k) f List.nodup_range h
    rw [← lr_all (k := k) (t := k - 1) (by omega)] at e1
    have e2 : lr k (k - 1) = [k - 1] := by rw [lr_cons (by omega)]; unfold lr; simp; omega
    rw [e2, T_PE (by simp), T_one] at e1
    have e3 : List.range (k - 1) ++ [k - 1] = List.range k := by rw [← e2, lr_all (by omega)]
    rw [e3] at e1
    unfold pS
    rw [e2]
    grind
  have nz : ∀ t, t < k → pS k (wt f es) t ≠ 0 := fun t ht => nz_down (m := k - 1) (by omega) (by
    rw [hT]; intro z
    exact hp (by exact_mod_cast z)) (k - 1 - t) t (by omega)
  have hs : ∀ t, t < k - 1 → sS k (wt f es) t ≠ 0 := fun t ht z => by
    have := nz (t + 1) (by omega)
    rw [(pS_succ (k := k) (w := wt f es) (t := t) (by omega)).1, z] at this
    exact this (by grind)
  have pc : ∀ t, t < k → ((pI k (wt f es) t : Int) : Rat) = pS k (wt f es) t := fun t ht => by
    obtain ⟨m, _, h2, h3⟩ := pI_cast h ht
    rw [h2, h3]; exact Rat.intCast_natCast m
  have ci : ∀ {a b : Int}, ((a : Int) : Rat) = (b : Rat) → a = b := fun q => Rat.intCast_inj.mp q
  have piv : ∀ t, t < k - 1 → BI k (wt f es) t t t = pI k (wt f es) (t + 1) := fun t ht => ci (by
    rw [BI_cast h (Nat.le_refl t) (Nat.le_refl t) ht ht, pc (t + 1) (by omega), AS_tt (by omega), (pS_succ (k := k) (w := wt f es) (t := t) (by omega)).1])
  have bnd : ∀ t, t ≤ k - 1 → 0 < pI k (wt f es) t ∧ pI k (wt f es) t ≤ 2 ^ es.length := fun t ht => by
    obtain ⟨m, h1, h2, h3⟩ := pI_cast h (show t < k by omega)
    have n0 := nz t (by omega)
    rw [h3]
    have : m ≠ 0 := fun z => by rw [h2, z] at n0; exact n0 rfl
    refine ⟨by omega, ?_⟩
    have : ((2 ^ es.length : Nat) : Int) = (2 : Int) ^ es.length := by push_cast; rfl
    omega
  refine ⟨fun i j hi hj => ci ?_, ?_, bnd, piv, fun t i j h1 h2 h3 h4 => ci ?_, fun t i h1 h2 => ?_, ci ?_⟩
  · rw [BI_cast h (Nat.zero_le _) (Nat.zero_le _) hi hj, pS_zero, AS_zero (by omega) (by omega) h]
    grind
  · exact ci (by rw [pc 0 (by omega), pS_zero]; rfl)
  · rw [Rat.intCast_sub, Rat.intCast_mul, Rat.intCast_mul, Rat.intCast_mul, pc t (by omega)]
    rw [BI_cast h (by omega) (by omega) h3 h4, BI_cast h (by omega) (by omega) (by omega) (by omega), BI_cast h (by omega) (by omega) h3 (by omega), BI_cast h (by omega) (by omega) (by omega) h4, BI_cast h (by omega) (by omega) h3 h4]
    rw [AS_step (wt_good f es) h1 h2 (by omega) (by omega) (hs t (by omega)), AS_tt (by omega), (pS_succ (k := k) (w := wt f es) (t := t) (by omega)).1]
    have := hs t (by omega)
    generalize sS k (wt f es) t = s at *
    grind
  · have e1 := BI_cast h (t := t) (i := i) (j := t) (by omega) (by omega) h2 (by omega)
    have e2 : AS k (wt f es) t i t = - wS k (wt f es) t t i := by
      unfold AS; rw [if_neg (by omega), (wS_good (wt_good f es) t).sym i t]
    have g := wS_good (k := k) (wt_good f es) t
    have h3 : wS k (wt f es) t t i ≤ sS k (wt f es) t := sm_le (fun x _ => g.nn t x) i (mem_lr.mpr ⟨by omega, by omega⟩)
    have h4 := g.nn t i
    have h5 := (bnd t (by omega)).1
    have h5' : (0 : Rat) < pS k (wt f es) t := by
      rw [← pc t (by omega)]; exact_mod_cast h5
    have h6 : ((pI k (wt f es) (t + 1) : Int) : Rat) = pS k (wt f es) t * sS k (wt f es) t := by
      rw [pc (t + 1) (by omega), (pS_succ (k := k) (w := wt f es) (t := t) (by omega)).1]
    have h7 := (bnd (t + 1) (by omega)).2
    rw [e2] at e1
    have h8 : pS k (wt f es) t * wS k (wt f es) t t i ≤ pS k (wt f es) t * sS k (wt f es) t := Rat.mul_le_mul_of_nonneg_left h3 (by grind)
    have h9 : 0 ≤ pS k (wt f es) t * wS k (wt f es) t t i := Rat.mul_nonneg (by grind) h4
    have h10 : ((- BI k (wt f es) t i t : Int) : Rat) ≤ ((pI k (wt f es) (t + 1) : Int) : Rat) := by
      rw [Rat.intCast_neg, e1, h6]; grind
    have h11 : ((BI k (wt f es) t i t : Int) : Rat) ≤ ((0 : Int) : Rat) := by
      rw [e1]; grind
    have h12 := Rat.intCast_le_intCast.mp h10
    have h13 := Rat.intCast_le_intCast.mp h11
    have h14 := Int.pow_pos (n := 2) (m := es.length) (by decide)
    omega
  · rw [pc (k - 1) (by omega), hT]; exact (Rat.intCast_natCast _).symm
end
end MT
namespace MT
/-- two pieces become one under the lesser mark -/
def mkS (m : Nat → Nat) (e : Nat × Nat) : Nat → Nat := fun x => if m x = max (m e.1) (m e.2) then min (m e.1) (m e.2) else m x
def mks (m : Nat → Nat) (es : List (Nat × Nat)) : Nat → Nat := es.foldl mkS m
def mk (es : List (Nat × Nat)) : Nat → Nat := mks id es
def Inv (m : Nat → Nat) : Prop := ∀ x, m x ≤ x ∧ m (m x) = m x
theorem inv_id : Inv id := fun _ => ⟨Nat.le_refl _, rfl⟩
theorem minmax (a b : Nat) : (min a b = a ∧ max a b = b ∧ a ≤ b) ∨ (min a b = b ∧ max a b = a ∧ b ≤ a) := by omega
theorem Inv.step {m : Nat → Nat} (h : Inv m) (e : Nat × Nat) : Inv (mkS m e) := by
  intro x
  have hx := h x
  have h1 := (h e.1).2
  have h2 := (h e.2).2
  have key : ∀ y, mkS m e y = if m y = max (m e.1) (m e.2) then min (m e.1) (m e.2) else m y := fun _ => rfl
  by_cases z : m x = max (m e.1) (m e.2)
  · have e1 : mkS m e x = min (m e.1) (m e.2) := by rw [key, if_pos z]
    rw [e1, key]
    have e2 : m (min (m e.1) (m e.2)) = min (m e.1) (m e.2) := by
      rcases minmax (m e.1) (m e.2) with ⟨q1, q2, q3⟩ | ⟨q1, q2, q3⟩
      · rw [q1, h1]
      · rw [q1, h2]
    rw [e2]
    refine ⟨by omega, ?_⟩
    split <;> rfl
  · have e1 : mkS m e x = m x := by rw [key, if_neg z]
    rw [e1, key, hx.2, if_neg z]
    exact ⟨hx.1, rfl⟩
theorem Inv.mks : ∀ {es : List (Nat × Nat)} {m : Nat → Nat}, Inv m → Inv (mks m es)
  | [], _, h => h
  | e :: es, m, h => Inv.mks (es := es) (h.step e)
theorem mk_inv (es : List (Nat × Nat)) : Inv (mk es) := inv_id.mks
theorem mks_append (m : Nat → Nat) (es es' : List (Nat × Nat)) : mks m (es ++ es') = mks (mks m es) es' := List.foldl_append
theorem mks_cons (m : Nat → Nat) (e : Nat × Nat) (es : List (Nat × Nat)) : mks m (e :: es) = mks (mkS m e) es := rfl
theorem mkS_keep {m : Nat → Nat} {e : Nat × Nat} {u v : Nat} (h : m u = m v) : mkS m e u = mkS m e v := by simp only [mkS, h]
theorem mks_keep : ∀ {es : List (Nat × Nat)} {m : Nat → Nat} {u v : Nat}, m u = m v → mks m es u = mks m es v
  | [], _, _, _, h => h
  | e :: es, m, u, v, h => mks_keep (es := es) (m := mkS m e) (mkS_keep h)
theorem mkS_join (m : Nat → Nat) (e : Nat × Nat) : mkS m e e.1 = mkS m e e.2 := by
  simp only [mkS]
  rcases minmax (m e.1) (m e.2) with ⟨q1, q2, q3⟩ | ⟨q1, q2, q3⟩ <;> rw [q1, q2] <;> simp
theorem mks_join : ∀ {es : List (Nat × Nat)} {m : Nat → Nat} {e : Nat × Nat}, e ∈ es → mks m es e.1 = mks m es e.2
  | e' :: es, m, e, h => by
    rw [mks_cons]
    rcases List.mem_cons.mp h with rfl | h
    · exact mks_keep (mkS_join m e)
    · exact mks_join h
theorem mkS_univ {α : Type} {g : Nat → α} {m : Nat → Nat} {e : Nat × Nat} (h : ∀ u v, m u = m v → g u = g v) (he : g e.1 = g e.2) : ∀ u v, mkS m e u = mkS m e v → g u = g v := by
  intro u v q
  simp only [mkS] at q
  have k : ∀ x, m x = max (m e.1) (m e.2) → g x = g e.1 := fun x hx => by
    rcases minmax (m e.1) (m e.2) with ⟨q1, q2, q3⟩ | ⟨q1, q2, q3⟩
    · rw [q2] at hx; rw [h x e.2 hx, he]
    · rw [q2] at hx; exact h x e.1 hx
  have k2 : ∀ x, m x = min (m e.1) (m e.2) → g x = g e.1 := fun x hx => by
    rcases minmax (m e.1) (m e.2) with ⟨q1, q2, q3⟩ | ⟨q1, q2, q3⟩
    · rw [q1] at hx; exact h x e.1 hx
    · rw [q1] at hx; rw [h x e.2 hx, he]
  split at q <;> split at q
  · rename_i a b; rw [k u a, k v b]
  · rename_i a b; rw [k u a, k2 v q.symm]
  · rename_i a b; rw [k2 u q, k v b]
  · exact h u v q
theorem mks_univ {α : Type} {g : Nat → α} : ∀ {es : List (Nat × Nat)} {m : Nat → Nat}, (∀ u v, m u = m v → g u = g v) → (∀ e ∈ es, g e.1 = g e.2) → ∀ u v, mks m es u = mks m es v → g u = g v
  | [], _, h, _ => h
  | e :: es, m, h, he => mks_univ (es := es) (m := mkS m e) (mkS_univ h (he e List.mem_cons_self)) (fun e' h' => he e' (List.mem_cons_of_mem _ h'))
theorem mk_univ {α : Type} {g : Nat → α} {es : List (Nat × Nat)} (he : ∀ e ∈ es, g e.1 = g e.2) {u v : Nat} (h : mk es u = mk es v) : g u = g v :=
  mks_univ (g := g) (es := es) (m := id) (fun u v q => by have q : u = v := q; rw [q]) he u v h
theorem mk_join {es : List (Nat × Nat)} {e : Nat × Nat} (h : e ∈ es) : mk es e.1 = mk es e.2 := mks_join h
theorem inv_ext {m m' : Nat → Nat} (h : Inv m) (h' : Inv m') (q : ∀ u v, m u = m v ↔ m' u = m' v) : m = m' := by
  funext v
  have a1 : m' (m v) = m' v := (q (m v) v).mp (h v).2
  have a2 : m (m' v) = m v := (q (m' v) v).mpr (h' v).2
  have a3 := (h' (m v)).1
  have a4 := (h (m' v)).1
  omega
theorem mk_ext {es es' : List (Nat × Nat)} (h : ∀ e ∈ es, mk es' e.1 = mk es' e.2) (h' : ∀ e ∈ es', mk es e.1 = mk es e.2) : mk es = mk es' :=
  inv_ext (mk_inv _) (mk_inv _) fun u v => ⟨fun q => mk_univ h q, fun q => mk_univ h' q⟩
theorem mk_mem {es es' : List (Nat × Nat)} (h : ∀ e, e ∈ es ↔ e ∈ es') : mk es = mk es' :=
  mk_ext (fun e he => mk_join ((h e).mp he)) (fun e he => mk_join ((h e).mpr he))
theorem mk_mono {es es' : List (Nat × Nat)} (h : ∀ e ∈ es, e ∈ es') {u v : Nat} (q : mk es u = mk es v) : mk es' u = mk es' v :=
  mk_univ (fun e he => mk_join (h e he)) q
/-- representatives, pieces -/
def reps (n : Nat) (m : Nat → Nat) : List Nat := (List.range n).filter (fun v => m v == v)
def pc (n : Nat) (m : Nat → Nat) : Nat := (reps n m).length
theorem reps_nd (n : Nat) (m : Nat → Nat) : (reps n m).Nodup := List.Nodup.sublist List.filter_sublist List.nodup_range
theorem mem_reps {n : Nat} {m : Nat → Nat} {v : Nat} : v ∈ reps n m ↔ v < n ∧ m v = v := by
  unfold reps
  rw [List.mem_filter, List.mem_range, beq_iff_eq]
theorem Inv.mem {n : Nat} {m : Nat → Nat} (h : Inv m) {v : Nat} (hv : v < n) : m v ∈ reps n m := mem_reps.mpr ⟨Nat.lt_of_le_of_lt (h v).1 hv, (h v).2⟩
theorem mkS_same {m : Nat → Nat} {e : Nat × Nat} (q : m e.1 = m e.2) : mkS m e = m := by
  funext x
  simp only [mkS, q, Nat.max_self, Nat.min_self]
  split <;> simp_all
theorem reps_step {n : Nat} {m : Nat → Nat} (h : Inv m) {e : Nat × Nat} (q : m e.1 ≠ m e.2) : reps n (mkS m e) = (reps n m).erase (max (m e.1) (m e.2)) := by
  rw [(reps_nd n m).erase_eq_filter]
  unfold reps
  rw [List.filter_filter]
  refine List.filter_congr fun v _ => ?_
  have h1 := (h e.1).2
  have h2 := (h e.2).2
  rw [Bool.eq_iff_iff]
  simp only [mkS, beq_iff_eq, Bool.and_eq_true, bne_iff_ne, ne_eq]
  rcases minmax (m e.1) (m e.2) with ⟨q1, q2, q3⟩ | ⟨q1, q2, q3⟩ <;> rw [q1, q2] <;> constructor
  · intro z; split at z
    · rename_i y; subst z; omega
    · rename_i y; exact ⟨by omega, z⟩
  · rintro ⟨z1, z2⟩; rw [if_neg (by omega)]; exact z2
  · intro z; split at z
    · rename_i y; subst z; omega
    · rename_i y; exact ⟨by omega, z⟩
  · rintro ⟨z1, z2⟩; rw [if_neg (by omega)]; exact z2
theorem max_mem {n : Nat} {m : Nat → Nat} (h : Inv m) {e : Nat × Nat} (h1 : e.1 < n) (h2 : e.2 < n) : max (m e.1) (m e.2) ∈ reps n m := by
  rcases minmax (m e.1) (m e.2) with ⟨q1, q2, q3⟩ | ⟨q1, q2, q3⟩ <;> rw [q2]
  · exact h.mem h2
  · exact h.mem h1
theorem pc_step {n : Nat} {m : Nat → Nat} (h : Inv m) {e : Nat × Nat} (h1 : e.1 < n) (h2 : e.2 < n) (q : m e.1 ≠ m e.2) : pc n (mkS m e) + 1 = pc n m := by
  unfold pc
  rw [reps_step h q, List.length_erase_of_mem (max_mem h h1 h2)]
  have := List.length_pos_of_mem (max_mem h h1 h2)
  omega
def InN (n : Nat) (es : List (Nat × Nat)) : Prop := ∀ e ∈ es, e.1 < n ∧ e.2 < n
theorem rank {n : Nat} : ∀ {es : List (Nat × Nat)} {m : Nat → Nat}, Inv m → InN n es → pc n m ≤ pc n (mks m es) + es.length
  | [], _, _, _ => Nat.le_refl _
  | e :: es, m, h, hn => by
    have ih := rank (es := es) (h.step e) (fun e' h' => hn e' (List.mem_cons_of_mem _ h'))
    obtain ⟨h1, h2⟩ := hn e List.mem_cons_self
    rw [mks_cons, List.length_cons]
    by_cases q : m e.1 = m e.2
    · rw [mkS_same q] at ih ⊢; omega
    · have := pc_step h h1 h2 q; omega
theorem pc_id (n : Nat) : pc n id = n := by
  unfold pc reps
  rw [List.filter_eq_self.mpr (fun v _ => by simp)]
  simp
theorem pc_one {n : Nat} {m : Nat → Nat} (h : Inv m) (hn : 0 < n) : pc n m = 1 ↔ ∀ v, v < n → m v = 0 := by
  have h0 : 0 ∈ reps n m := mem_reps.mpr ⟨hn, Nat.le_zero.mp (h 0).1⟩
  constructor
  · intro q v hv
    have hm := h.mem hv
    unfold pc at q
    match hr : reps n m, q, h0, hm with
    | [x], _, h0, hm =>
      rw [List.mem_singleton] at h0 hm
      omega
  · intro q
    have : reps n m = [0] := by
      have nd := reps_nd n m
      have all : ∀ v ∈ reps n m, v = 0 := fun v hv => by
        obtain ⟨a, b⟩ := mem_reps.mp hv
        rw [← b]; exact q v a
      match hr : reps n m, h0, nd, all with
      | [x], _, _, all => rw [all x (by simp)]
      | x :: y :: l, _, nd, all =>
        have a := all x (by simp)
        have b := all y (by simp)
        subst a; subst b
        simp at nd
    unfold pc; rw [this]; rfl
theorem pc_pos {n : Nat} {m : Nat → Nat} (h : Inv m) (hn : 0 < n) : 0 < pc n m :=
  List.length_pos_of_mem (mem_reps.mpr ⟨hn, Nat.le_zero.mp (h 0).1⟩)
/-- deletion and contraction over marks -/
def tau (n : Nat) : (Nat → Nat) → List (Nat × Nat) → Nat
  | m, [] => if pc n m = 1 then 1 else 0
  | m, e :: es => tau n m es + if m e.1 = m e.2 then 0 else tau n (mkS m e) es
theorem tauf_tau {n : Nat} : ∀ {es : List (Nat × Nat)} {m : Nat → Nat}, Inv m → InN n es → tauf (reps n m) m es = tau n m es
  | [], _, _, _ => rfl
  | e :: es, m, h, hn => by
    have hn' : InN n es := fun e' h' => hn e' (List.mem_cons_of_mem _ h')
    simp only [tauf, tau]
    rw [tauf_tau (es := es) h hn']
    by_cases q : m e.1 = m e.2
    · rw [if_pos q, if_pos q]
    · rw [if_neg q, if_neg q, ← reps_step h q]
      rw [← tauf_tau (es := es) (h.step e) hn']
      rfl
/-- labels matter by their kernel alone -/
theorem tauf_ker (D : Nat → Prop) : ∀ (es : List (Nat × Nat)) (cls cls' : List Nat) (f f' : Nat → Nat), cls.length = cls'.length → cls.Nodup → cls'.Nodup → Ends cls f es → Ends cls' f' es →
    (∀ e ∈ es, D e.1 ∧ D e.2) → (∀ u v, D u → D v → (f u = f v ↔ f' u = f' v)) → tauf cls f es = tauf cls' f' es
  | [], cls, cls', f, f', hl, _, _, _, _, _, _ => by simp only [tauf, hl]
  | e :: es, cls, cls', f, f', hl, nd, nd', h, h', hD, hk => by
    have he := h e List.mem_cons_self
    have he' := h' e List.mem_cons_self
    obtain ⟨d1, d2⟩ := hD e List.mem_cons_self
    have t1 : Ends cls f es := fun e' q => h e' (List.mem_cons_of_mem _ q)
    have t2 : Ends cls' f' es := fun e' q => h' e' (List.mem_cons_of_mem _ q)
    have t3 : ∀ e ∈ es, D e.1 ∧ D e.2 := fun e' q => hD e' (List.mem_cons_of_mem _ q)
    simp only [tauf]
    rw [tauf_ker D es cls cls' f f' hl nd nd' t1 t2 t3 hk]
    by_cases q : f e.1 = f e.2
    · rw [if_pos q, if_pos ((hk _ _ d1 d2).mp q)]
    · have q' : f' e.1 ≠ f' e.2 := fun z => q ((hk _ _ d1 d2).mpr z)
      rw [if_neg q, if_neg q']
      congr 1
      have m1 : max (f e.1) (f e.2) ∈ cls ∧ min (f e.1) (f e.2) ∈ cls := by
        rcases minmax (f e.1) (f e.2) with ⟨q1, q2, q3⟩ | ⟨q1, q2, q3⟩ <;> rw [q1, q2]
        · exact ⟨he.2, he.1⟩
        · exact ⟨he.1, he.2⟩
      have m2 : max (f' e.1) (f' e.2) ∈ cls' ∧ min (f' e.1) (f' e.2) ∈ cls' := by
        rcases minmax (f' e.1) (f' e.2) with ⟨q1, q2, q3⟩ | ⟨q1, q2, q3⟩ <;> rw [q1, q2]
        · exact ⟨he'.2, he'.1⟩
        · exact ⟨he'.1, he'.2⟩
      refine tauf_ker D es _ _ _ _ ?_ (nd.erase _) (nd'.erase _) (t1.mf nd m1.2 (by omega)) (t2.mf nd' m2.2 (by omega)) t3 fun u v du dv => ?_
      · rw [List.length_erase_of_mem m1.1, List.length_erase_of_mem m2.1, hl]
      · -- the kernel of the merged labels
        have key : ∀ (g : Nat → Nat), (mf (min (g e.1) (g e.2)) (max (g e.1) (g e.2)) g u = mf (min (g e.1) (g e.2)) (max (g e.1) (g e.2)) g v) ↔
            (g u = g v ∨ ((g u = g e.1 ∨ g u = g e.2) ∧ (g v = g e.1 ∨ g v = g e.2))) := fun g => by
          unfold mf
          rcases minmax (g e.1) (g e.2) with ⟨q1, q2, q3⟩ | ⟨q1, q2, q3⟩ <;> rw [q1, q2] <;> split <;> split <;> omega
        rw [key f, key f', hk u v du dv, hk u _ du d1, hk u _ du d2, hk v _ dv d1, hk v _ dv d2]
end MT
namespace MT
def subs {α : Type} : List α → List (List α)
  | [] => [[]]
  | x :: l => subs l ++ (subs l).map (x :: ·)
theorem mem_subs {α : Type} : ∀ {l S : List α}, S ∈ subs l ↔ S.Sublist l
  | [], S => by simp [subs]
  | x :: l, S => by
    simp only [subs, List.mem_append, List.mem_map, mem_subs (l := l)]
    constructor
    · rintro (h | ⟨S', h, rfl⟩)
      · exact h.cons x
      · exact h.cons₂ x
    · intro h
      cases h with
      | cons _ h => exact .inl h
      | cons_cons _ h => exact .inr ⟨_, h, rfl⟩
theorem subs_nd {α : Type} : ∀ {l : List α}, l.Nodup → (subs l).Nodup
  | [], _ => by simp [subs]
  | x :: l, h => by
    obtain ⟨h1, h2⟩ := List.nodup_cons.mp h
    simp only [subs]
    refine List.nodup_append.mpr ⟨subs_nd h2, ?_, ?_⟩
    · refine List.Pairwise.map _ ?_ (subs_nd h2)
      intro a b q z
      exact q (List.cons.inj z).2
    · intro a ha b hb q
      obtain ⟨S', _, rfl⟩ := List.mem_map.mp hb
      subst q
      exact h1 ((mem_subs.mp ha).subset List.mem_cons_self)
theorem sub_filter {l S : List Nat} (h : S.Sublist l) (nd : l.Nodup) : l.filter (fun t => decide (t ∈ S)) = S := by
  induction h with
  | slnil => rfl
  | @cons S l x h ih =>
    obtain ⟨n1, n2⟩ := List.nodup_cons.mp nd
    rw [List.filter_cons_of_neg (by simp; exact fun q => n1 (h.subset q))]
    exact ih n2
  | @cons_cons S l x h ih =>
    obtain ⟨n1, n2⟩ := List.nodup_cons.mp nd
    rw [List.filter_cons_of_pos (by simp)]
    congr 1
    rw [← ih n2]
    refine List.filter_congr fun y hy => ?_
    have : y ≠ x := fun q => n1 (q ▸ hy)
    simp only [List.mem_cons, this, false_or, ih n2]
theorem filter_sub (l : List Nat) (p : Nat → Bool) : l.filter p ∈ subs l := mem_subs.mpr List.filter_sublist
theorem sub_ext {l S S' : List Nat} (nd : l.Nodup) (h : S ∈ subs l) (h' : S' ∈ subs l) (q : ∀ t, t ∈ S ↔ t ∈ S') : S = S' := by
  rw [← sub_filter (mem_subs.mp h) nd, ← sub_filter (mem_subs.mp h') nd]
  exact List.filter_congr fun t _ => by simp only [q t]
/-- how many of a list keep a promise; by an injection -/
noncomputable def cnt {α : Type} (l : List α) (p : α → Prop) : Nat := by
  classical exact (l.filter (fun a => decide (p a))).length
theorem cnt_le {α β : Type} {l : List α} {l' : List β} {p : α → Prop} {p' : β → Prop} (f : α → β) (nd : l.Nodup) (h1 : ∀ a ∈ l, p a → f a ∈ l' ∧ p' (f a)) (h2 : ∀ a ∈ l, ∀ b ∈ l, p a → p b → f a = f b → a = b) : cnt l p ≤ cnt l' p' := by
  classical
  unfold cnt
  rw [← List.length_map (f := f)]
  refine List.Nodup.length_le_of_subset ?_ ?_
  · refine List.pairwise_map.mpr ?_
    have : (l.filter (fun a => decide (p a))).Pairwise (fun a b => a ≠ b) := List.Nodup.sublist List.filter_sublist nd
    refine List.Pairwise.imp_of_mem ?_ this
    intro a b ha hb q z
    simp only [List.mem_filter, decide_eq_true_eq] at ha hb
    exact q (h2 a ha.1 b hb.1 ha.2 hb.2 z)
  · intro b hb
    obtain ⟨a, ha, rfl⟩ := List.mem_map.mp hb
    simp only [List.mem_filter, decide_eq_true_eq] at ha ⊢
    exact h1 a ha.1 ha.2
theorem cnt_congr {α : Type} {l : List α} {p p' : α → Prop} (h : ∀ a ∈ l, p a ↔ p' a) : cnt l p = cnt l p' := by
  classical
  unfold cnt
  congr 1
  exact List.filter_congr fun a ha => by simp only [h a ha]
theorem cnt_append {α : Type} (l l' : List α) (p : α → Prop) : cnt (l ++ l') p = cnt l p + cnt l' p := by
  classical
  unfold cnt
  rw [List.filter_append, List.length_append]
theorem cnt_map {α β : Type} (l : List α) (f : α → β) (p : β → Prop) : cnt (l.map f) p = cnt l (fun a => p (f a)) := by
  classical
  unfold cnt
  rw [List.filter_map, List.length_map]
  rfl
theorem cnt_split {α : Type} (l : List α) (p q : α → Prop) : cnt l p = cnt l (fun a => p a ∧ q a) + cnt l (fun a => p a ∧ ¬ q a) := by
  classical
  induction l with
  | nil => rfl
  | cons x l ih =>
    have e : ∀ r : α → Prop, cnt (x :: l) r = cnt [x] r + cnt l r := fun r => cnt_append [x] l r
    rw [e, e, e, ih]
    have : cnt [x] p = cnt [x] (fun a => p a ∧ q a) + cnt [x] (fun a => p a ∧ ¬ q a) := by
      unfold cnt
      by_cases h1 : p x <;> by_cases h2 : q x <;> simp [h1, h2]
    omega
theorem cnt_pos {α : Type} {l : List α} {p : α → Prop} {a : α} (h : a ∈ l) (hp : p a) : 0 < cnt l p := by
  classical
  unfold cnt
  exact List.length_pos_of_mem (List.mem_filter.mpr ⟨h, by simpa using hp⟩)
theorem cnt_false {α : Type} {l : List α} {p : α → Prop} (h : ∀ a ∈ l, ¬ p a) : cnt l p = 0 := by
  classical
  unfold cnt
  rw [List.filter_eq_nil_iff.mpr (fun a ha => by simpa using h a ha)]
  rfl
theorem cnt_len {α : Type} {l : List α} {p : α → Prop} {L : List α} (nd : l.Nodup) (h : ∀ a ∈ l, p a → a ∈ L) : cnt l p ≤ L.length := by
  classical
  unfold cnt
  refine List.Nodup.length_le_of_subset (List.Nodup.sublist List.filter_sublist nd) fun a ha => ?_
  simp only [List.mem_filter, decide_eq_true_eq] at ha
  exact h a ha.1 ha.2
/-- tau counts the sublists that join all -/
theorem tau_cnt (n : Nat) (ed : Nat → Nat × Nat) : ∀ (L : List Nat) (m : Nat → Nat), Inv m → InN n (L.map ed) →
    tau n m (L.map ed) = cnt (subs L) (fun S => pc n (mks m (S.map ed)) = 1 ∧ S.length + 1 = pc n m)
  | [], m, _, _ => by
    simp only [List.map_nil, tau, subs]
    unfold cnt
    by_cases h : pc n m = 1
    · simp [mks, h]
    · simp [mks, h]
  | t :: L, m, h, hn => by
    have hn' : InN n (L.map ed) := fun e he => hn e (by simp at he ⊢; exact .inr he)
    obtain ⟨h1, h2⟩ := hn (ed t) (by simp)
    simp only [List.map_cons, tau, subs]
    rw [cnt_append, cnt_map, tau_cnt n ed L m h hn']
    congr 1
    by_cases q : m (ed t).1 = m (ed t).2
    · rw [if_pos q]
      refine (cnt_false fun S hS z => ?_).symm
      obtain ⟨z1, z2⟩ := z
      simp only [List.map_cons, mks_cons, mkS_same q, List.length_cons] at z1 z2
      have hS' : InN n (S.map ed) := fun e he => by
        obtain ⟨u, hu, rfl⟩ := List.mem_map.mp he
        exact hn' _ (List.mem_map_of_mem ((mem_subs.mp hS).subset hu))
      have := rank h hS'
      rw [List.length_map] at this
      omega
    · rw [if_neg q, tau_cnt n ed L _ (h.step _) hn']
      have := pc_step h h1 h2 q
      refine cnt_congr fun S _ => ?_
      simp only [List.map_cons, mks_cons, List.length_cons]
      omega
/-- trees -/
structure Tree (n : Nat) (ed : Nat → Nat × Nat) (E : Nat) (S : List Nat) : Prop where
  sub : S ∈ subs (List.range E)
  len : S.length + 1 = n
  one : pc n (mk (S.map ed)) = 1
/-- how many trees have some ties and are without others -/
noncomputable def NT (n : Nat) (ed : Nat → Nat × Nat) (E : Nat) (kept shut : List Nat) : Nat :=
  cnt (subs (List.range E)) (fun S => Tree n ed E S ∧ (∀ t ∈ kept, t ∈ S) ∧ ∀ t ∈ shut, t ∉ S)
theorem range_nd (E : Nat) : (List.range E).Nodup := List.nodup_range
def free (E : Nat) (shut : List Nat) : List Nat := (List.range E).filter (fun t => decide (t ∉ shut))
theorem mem_free {E : Nat} {shut : List Nat} {t : Nat} : t ∈ free E shut ↔ t < E ∧ t ∉ shut := by
  unfold free
  rw [List.mem_filter, List.mem_range, decide_eq_true_eq]
theorem sub_lt {E : Nat} {S : List Nat} (h : S ∈ subs (List.range E)) {t : Nat} (ht : t ∈ S) : t < E := List.mem_range.mp ((mem_subs.mp h).subset ht)
theorem sub_nd {E : Nat} {S : List Nat} (h : S ∈ subs (List.range E)) : S.Nodup := List.Nodup.sublist (mem_subs.mp h) (range_nd E)
theorem innm {n E : Nat} {ed : Nat → Nat × Nat} (he : ∀ t, t < E → (ed t).1 < n ∧ (ed t).2 < n) {S : List Nat} (h : ∀ t ∈ S, t < E) : InN n (S.map ed) := fun e he' => by
  obtain ⟨t, ht, rfl⟩ := List.mem_map.mp he'
  exact he t (h t ht)
theorem mk_map_mem {ed : Nat → Nat × Nat} {S S' : List Nat} (h : ∀ t, t ∈ S ↔ t ∈ S') : mk (S.map ed) = mk (S'.map ed) :=
  mk_mem fun e => by
    simp only [List.mem_map]
    exact ⟨fun ⟨t, h1, h2⟩ => ⟨t, (h t).mp h1, h2⟩, fun ⟨t, h1, h2⟩ => ⟨t, (h t).mpr h1, h2⟩⟩
theorem mks_mk (es es' : List (Nat × Nat)) : mks (mk es) es' = mk (es ++ es') := (mks_append id es es').symm
/-- a part of a tree is without a ring -/
theorem tree_part {n E : Nat} {ed : Nat → Nat × Nat} (he : ∀ t, t < E → (ed t).1 < n ∧ (ed t).2 < n) {S : List Nat} (h : Tree n ed E S) {K : List Nat} (hK : K ∈ subs (List.range E)) (hs : ∀ t ∈ K, t ∈ S) :
    K.length + pc n (mk (K.map ed)) = n := by
  have hK' : InN n (K.map ed) := innm he fun t ht => sub_lt hK ht
  have r1 := rank inv_id hK'
  rw [pc_id, List.length_map] at r1
  -- the rest
  have sp : (S.filter (fun t => decide (t ∈ K))).length + (S.filter (fun t => !decide (t ∈ K))).length = S.length := by
    have := List.length_eq_countP_add_countP (fun t => decide (t ∈ K)) (l := S)
    rw [List.countP_eq_length_filter, List.countP_eq_length_filter] at this
    rw [this]
    congr 3
    funext t
    simp
  have e1 : (S.filter (fun t => decide (t ∈ K))).length = K.length := by
    have : S.filter (fun t => decide (t ∈ K)) = K := by
      refine sub_ext (range_nd E) (mem_subs.mpr (List.filter_sublist.trans (mem_subs.mp h.sub))) hK fun t => ?_
      simp only [List.mem_filter, decide_eq_true_eq]
      exact ⟨fun q => q.2, fun q => ⟨hs t q, q⟩⟩
    rw [this]
  have hR : InN n ((S.filter (fun t => !decide (t ∈ K))).map ed) := innm he fun t ht => sub_lt h.sub (List.mem_filter.mp ht).1
  have r2 := rank (mk_inv (K.map ed)) hR
  rw [mks_mk, ← List.map_append, List.length_map] at r2
  have e2 : mk ((K ++ S.filter (fun t => !decide (t ∈ K))).map ed) = mk (S.map ed) := mk_map_mem fun t => by
    simp only [List.mem_append, List.mem_filter, Bool.not_eq_true', decide_eq_false_iff_not]
    exact ⟨fun q => q.elim (hs t) (·.1), fun q => by
      by_cases z : t ∈ K
      · exact .inl z
      · exact .inr ⟨q, z⟩⟩
  rw [e2, h.one] at r2
  have := h.len
  unfold mk at *
  omega
/-- the trees with kept and without shut, by deletion and contraction -/
theorem tau_NT {n E : Nat} {ed : Nat → Nat × Nat} (he : ∀ t, t < E → (ed t).1 < n ∧ (ed t).2 < n) {kept shut : List Nat} (hK : kept ∈ subs (List.range E)) (hd : ∀ t ∈ kept, t ∉ shut)
    (hf : kept.length + pc n (mk (kept.map ed)) = n) : tau n (mk (kept.map ed)) ((free E shut).map ed) = NT n ed E kept shut := by
  have hfree : InN n ((free E shut).map ed) := innm he fun t ht => (mem_free.mp ht).1
  rw [tau_cnt n ed _ _ (mk_inv _) hfree]
  have fnd : (free E shut).Nodup := List.Nodup.sublist List.filter_sublist (range_nd E)
  refine Nat.le_antisymm ?_ ?_
  · -- S' goes to S' with kept
    refine cnt_le (fun S' => (List.range E).filter (fun t => decide (t ∈ S' ∨ t ∈ kept))) (subs_nd fnd) ?_ ?_
    · rintro S' hS' ⟨z1, z2⟩
      have s1 : ∀ t ∈ S', t < E ∧ t ∉ shut := fun t ht => mem_free.mp ((mem_subs.mp hS').subset ht)
      have memS : ∀ t, t ∈ (List.range E).filter (fun t => decide (t ∈ S' ∨ t ∈ kept)) ↔ (t ∈ S' ∨ t ∈ kept) := fun t => by
        simp only [List.mem_filter, List.mem_range, decide_eq_true_eq]
        exact ⟨fun q => q.2, fun q => ⟨q.elim (fun a => (s1 t a).1) (sub_lt hK), q⟩⟩
      have hS'n : S'.Nodup := List.Nodup.sublist (mem_subs.mp hS') fnd
      have e1 : pc n (mk ((kept ++ S').map ed)) = 1 := by
        rw [List.map_append, ← mks_mk]; exact z1
      -- no tie of S' is kept
      have nk : ∀ t ∈ S', t ∉ kept := fun t ht hk => by
        have p1 : S'.Perm (t :: S'.erase t) := List.perm_cons_erase ht
        have e2 : mk ((kept ++ S').map ed) = mk ((kept ++ S'.erase t).map ed) := mk_map_mem fun u => by
          simp only [List.mem_append]
          constructor
          · rintro (q | q)
            · exact .inl q
            · rcases List.mem_cons.mp (p1.mem_iff.mp q) with rfl | q
              · exact .inl hk
              · exact .inr q
          · rintro (q | q)
            · exact .inl q
            · exact .inr (List.mem_of_mem_erase q)
        have r := rank (mk_inv (kept.map ed)) (innm he (S := S'.erase t) fun u hu => (s1 u (List.mem_of_mem_erase hu)).1)
        rw [mks_mk, ← List.map_append, ← e2, e1, List.length_map] at r
        have := p1.length_eq
        simp at this
        omega
      have lenS : ((List.range E).filter (fun t => decide (t ∈ S' ∨ t ∈ kept))).length = kept.length + S'.length := by
        rw [← List.length_append]
        refine List.Perm.length_eq ((List.perm_ext_iff_of_nodup (List.Nodup.sublist List.filter_sublist (range_nd E)) ?_).mpr fun t => ?_)
        · exact List.nodup_append.mpr ⟨sub_nd hK, hS'n, fun a ha b hb q => nk b hb (q ▸ ha)⟩
        · rw [memS, List.mem_append]; exact Or.comm
      refine ⟨filter_sub _ _, ⟨filter_sub _ _, ?_, ?_⟩, fun t ht => (memS t).mpr (.inr ht), fun t ht q => ?_⟩
      · rw [lenS]; omega
      · rw [← e1]
        congr 1
        exact mk_map_mem fun t => by rw [memS, List.mem_append]; exact Or.comm
      · rcases (memS t).mp q with q | q
        · exact (s1 t q).2 ht
        · exact hd t q ht
    · intro a ha b hb pa pb q
      -- needs that a, b are free of kept: as above
      have noK : ∀ S' ∈ subs (free E shut), pc n (mks (mk (kept.map ed)) (S'.map ed)) = 1 ∧ S'.length + 1 = pc n (mk (kept.map ed)) → ∀ t ∈ S', t ∉ kept := fun S' hS' z t ht hk => by
        have p1 : S'.Perm (t :: S'.erase t) := List.perm_cons_erase ht
        have s1 : ∀ t ∈ S', t < E ∧ t ∉ shut := fun t ht => mem_free.mp ((mem_subs.mp hS').subset ht)
        have e1 : pc n (mk ((kept ++ S').map ed)) = 1 := by
          rw [List.map_append, ← mks_mk]; exact z.1
        have e2 : mk ((kept ++ S').map ed) = mk ((kept ++ S'.erase t).map ed) := mk_map_mem fun u => by
          simp only [List.mem_append]
          constructor
          · rintro (q | q)
            · exact .inl q
            · rcases List.mem_cons.mp (p1.mem_iff.mp q) with rfl | q
              · exact .inl hk
              · exact .inr q
          · rintro (q | q)
            · exact .inl q
            · exact .inr (List.mem_of_mem_erase q)
        have r := rank (mk_inv (kept.map ed)) (innm he (S := S'.erase t) fun u hu => (s1 u (List.mem_of_mem_erase hu)).1)
        rw [mks_mk, ← List.map_append, ← e2, e1, List.length_map] at r
        have := p1.length_eq
        simp at this
        omega
      refine sub_ext fnd ha hb fun t => ?_
      have q' : ∀ t, (t < E ∧ (t ∈ a ∨ t ∈ kept)) ↔ (t < E ∧ (t ∈ b ∨ t ∈ kept)) := fun t => by
        have : t ∈ (List.range E).filter (fun t => decide (t ∈ a ∨ t ∈ kept)) ↔ t ∈ (List.range E).filter (fun t => decide (t ∈ b ∨ t ∈ kept)) := by rw [q]
        simpa only [List.mem_filter, List.mem_range, decide_eq_true_eq] using this
      have la : ∀ t ∈ a, t < E := fun t ht => (mem_free.mp ((mem_subs.mp ha).subset ht)).1
      have lb : ∀ t ∈ b, t < E := fun t ht => (mem_free.mp ((mem_subs.mp hb).subset ht)).1
      constructor
      · intro z
        have := ((q' t).mp ⟨la t z, .inl z⟩).2
        exact this.resolve_right (noK a ha pa t z)
      · intro z
        have := ((q' t).mpr ⟨lb t z, .inl z⟩).2
        exact this.resolve_right (noK b hb pb t z)
  · -- S goes to S without kept
    refine cnt_le (fun S => (free E shut).filter (fun t => decide (t ∈ S ∧ t ∉ kept))) (subs_nd (range_nd E)) ?_ ?_
    · rintro S hS ⟨hT, k1, k2⟩
      have memS : ∀ t, t ∈ (free E shut).filter (fun t => decide (t ∈ S ∧ t ∉ kept)) ↔ (t ∈ S ∧ t ∉ kept) := fun t => by
        simp only [List.mem_filter, mem_free, decide_eq_true_eq]
        exact ⟨fun q => q.2, fun q => ⟨⟨sub_lt hS q.1, fun z => k2 t z q.1⟩, q⟩⟩
      refine ⟨filter_sub _ _, ?_, ?_⟩
      · rw [mks_mk, ← List.map_append, ← hT.one]
        congr 1
        exact mk_map_mem fun t => by
          rw [List.mem_append, memS]
          exact ⟨fun q => q.elim (k1 t) (·.1), fun q => by
            by_cases z : t ∈ kept
            · exact .inl z
            · exact .inr ⟨q, z⟩⟩
      · have lenS : ((free E shut).filter (fun t => decide (t ∈ S ∧ t ∉ kept))).length + kept.length = S.length := by
          rw [← List.length_append]
          refine List.Perm.length_eq ((List.perm_ext_iff_of_nodup ?_ (sub_nd hS)).mpr fun t => ?_)
          · exact List.nodup_append.mpr ⟨List.Nodup.sublist List.filter_sublist fnd, sub_nd hK, fun a ha b hb q => ((memS a).mp ha).2 (q ▸ hb)⟩
          · rw [List.mem_append, memS]
            exact ⟨fun q => q.elim (·.1) (k1 t), fun q => by
              by_cases z : t ∈ kept
              · exact .inr z
              · exact .inl ⟨q, z⟩⟩
        have := hT.len
        omega
    · rintro a ha b hb ⟨ta, ka, sa⟩ ⟨tb, kb, sb⟩ q
      refine sub_ext (range_nd E) ha hb fun t => ?_
      have q' : t ∈ (free E shut).filter (fun t => decide (t ∈ a ∧ t ∉ kept)) ↔ t ∈ (free E shut).filter (fun t => decide (t ∈ b ∧ t ∉ kept)) := by rw [q]
      simp only [List.mem_filter, mem_free, decide_eq_true_eq] at q'
      by_cases z : t ∈ kept
      · exact ⟨fun _ => kb t z, fun _ => ka t z⟩
      · exact ⟨fun y => (q'.mp ⟨⟨sub_lt ha y, fun w => sa t w y⟩, y, z⟩).2.1, fun y => (q'.mpr ⟨⟨sub_lt hb y, fun w => sb t w y⟩, y, z⟩).2.1⟩
end MT
namespace MT
section
variable {n E : Nat} {ed : Nat → Nat × Nat}
def Edge (n E : Nat) (ed : Nat → Nat × Nat) : Prop := ∀ t, t < E → (ed t).1 < n ∧ (ed t).2 < n
/-- the ends of a tie are in two pieces over a set -/
def sep (ed : Nat → Nat × Nat) (S : List Nat) (t : Nat) : Prop := mk (S.map ed) (ed t).1 ≠ mk (S.map ed) (ed t).2
theorem sep_congr {S S' : List Nat} (h : ∀ t, t ∈ S ↔ t ∈ S') (t : Nat) : sep ed S t ↔ sep ed S' t := by
  unfold sep; rw [mk_map_mem h]
theorem sep_mono {S S' : List Nat} (h : ∀ t ∈ S, t ∈ S') {t : Nat} (q : sep ed S' t) : sep ed S t := fun z => q (mk_mono (fun e he => by
  obtain ⟨u, hu, rfl⟩ := List.mem_map.mp he
  exact List.mem_map_of_mem (h u hu)) z)
def rem (B : List Nat) (f : Nat) : List Nat := B.filter (fun t => decide (t ≠ f))
def swp (E : Nat) (B : List Nat) (f e : Nat) : List Nat := (List.range E).filter (fun t => decide ((t ∈ B ∧ t ≠ f) ∨ t = e))
theorem mem_rem {B : List Nat} {f t : Nat} : t ∈ rem B f ↔ t ∈ B ∧ t ≠ f := by
  unfold rem; rw [List.mem_filter, decide_eq_true_eq]
theorem mem_swp {B : List Nat} (hB : B ∈ subs (List.range E)) {f e t : Nat} (he : e < E) : t ∈ swp E B f e ↔ (t ∈ B ∧ t ≠ f) ∨ t = e := by
  unfold swp
  rw [List.mem_filter, decide_eq_true_eq, List.mem_range]
  exact ⟨fun q => q.2, fun q => ⟨q.elim (fun z => sub_lt hB z.1) (fun z => z ▸ he), q⟩⟩
theorem rem_subs {B : List Nat} (hB : B ∈ subs (List.range E)) (f : Nat) : rem B f ∈ subs (List.range E) := mem_subs.mpr (List.filter_sublist.trans (mem_subs.mp hB))
theorem swp_subs {B : List Nat} {f e : Nat} : swp E B f e ∈ subs (List.range E) := filter_sub _ _
theorem rem_len {B : List Nat} (nd : B.Nodup) {f : Nat} (hf : f ∈ B) : (rem B f).length + 1 = B.length := by
  have p := List.perm_cons_erase hf
  have : rem B f = B.erase f := by
    rw [nd.erase_eq_filter]; unfold rem
    exact List.filter_congr fun t _ => by rw [Bool.eq_iff_iff]; simp
  rw [this, p.length_eq]
  rfl
theorem swp_len {B : List Nat} (hB : B ∈ subs (List.range E)) {f e : Nat} (hf : f ∈ B) (heB : e ∉ B) (he : e < E) : (swp E B f e).length = B.length := by
  rw [← rem_len (sub_nd hB) hf, ← List.length_cons (a := e)]
  refine List.Perm.length_eq ((List.perm_ext_iff_of_nodup (sub_nd swp_subs) ?_).mpr fun t => ?_)
  · exact List.nodup_cons.mpr ⟨fun q => heB (mem_rem.mp q).1, List.Nodup.sublist List.filter_sublist (sub_nd hB)⟩
  · rw [mem_swp hB he, List.mem_cons, mem_rem]; exact Or.comm
theorem mk_snoc (S : List Nat) (e : Nat) : mk ((S ++ [e]).map ed) = mkS (mk (S.map ed)) (ed e) := by
  rw [List.map_append, ← mks_mk]; rfl
/-- over a set and one tie more -/
theorem join_snoc {S : List Nat} {e t : Nat} (h1 : sep ed S t) (h2 : ¬ sep ed (S ++ [e]) t) :
    (mk (S.map ed) (ed t).1 = mk (S.map ed) (ed e).1 ∧ mk (S.map ed) (ed t).2 = mk (S.map ed) (ed e).2) ∨ (mk (S.map ed) (ed t).1 = mk (S.map ed) (ed e).2 ∧ mk (S.map ed) (ed t).2 = mk (S.map ed) (ed e).1) := by
  unfold sep at h1 h2
  rw [mk_snoc] at h2
  generalize mk (S.map ed) = m at *
  have key : ∀ y, mkS m (ed e) y = if m y = max (m (ed e).1) (m (ed e).2) then min (m (ed e).1) (m (ed e).2) else m y := fun _ => rfl
  rw [key, key] at h2
  rcases minmax (m (ed e).1) (m (ed e).2) with ⟨q1, q2, q3⟩ | ⟨q1, q2, q3⟩ <;> rw [q1, q2] at h2 <;> split at h2 <;> split at h2 <;> omega
theorem pc_sep (he : Edge n E ed) {S : List Nat} {e : Nat} (hS : ∀ t ∈ S, t < E) (hE : e < E) (h : sep ed S e) : pc n (mk ((S ++ [e]).map ed)) + 1 = pc n (mk (S.map ed)) := by
  rw [mk_snoc]
  exact pc_step (mk_inv _) (he e hE).1 (he e hE).2 h
theorem pc_nsep {S : List Nat} {e : Nat} (h : ¬ sep ed S e) : mk ((S ++ [e]).map ed) = mk (S.map ed) := by
  rw [mk_snoc]
  exact mkS_same (Decidable.not_not.mp h)
theorem tree_rem (he : Edge n E ed) {B : List Nat} (hB : Tree n ed E B) {f : Nat} (hf : f ∈ B) : pc n (mk ((rem B f).map ed)) = 2 := by
  have h1 := tree_part he hB (rem_subs hB.sub f) (fun t ht => (mem_rem.mp ht).1)
  have h2 := rem_len (sub_nd hB.sub) hf
  have h3 := hB.len
  omega
theorem rem_mem {B : List Nat} {f : Nat} (hf : f ∈ B) (t : Nat) : t ∈ rem B f ++ [f] ↔ t ∈ B := by
  rw [List.mem_append, mem_rem, List.mem_singleton]
  exact ⟨fun q => q.elim (·.1) (fun z => z ▸ hf), fun q => by
    by_cases z : t = f
    · exact .inr z
    · exact .inl ⟨q, z⟩⟩
/-- a tie of a tree is apart over the others -/
theorem tree_sep (he : Edge n E ed) {B : List Nat} (hB : Tree n ed E B) {f : Nat} (hf : f ∈ B) : sep ed (rem B f) f := fun z => by
  have h1 := tree_rem he hB hf
  have h2 := pc_nsep (ed := ed) (S := rem B f) (e := f) (fun q => q z)
  rw [← h2, mk_map_mem (rem_mem hf), hB.one] at h1
  omega
theorem exch (he : Edge n E ed) {B : List Nat} (hB : Tree n ed E B) {f e : Nat} (hf : f ∈ B) (heB : e ∉ B) (hE : e < E) (h : sep ed (rem B f) e) : Tree n ed E (swp E B f e) := by
  refine ⟨swp_subs, ?_, ?_⟩
  · rw [swp_len hB.sub hf heB hE]; exact hB.len
  · have h1 := pc_sep he (S := rem B f) (e := e) (fun t ht => sub_lt hB.sub (mem_rem.mp ht).1) hE h
    rw [tree_rem he hB hf] at h1
    have : mk ((swp E B f e).map ed) = mk ((rem B f ++ [e]).map ed) := mk_map_mem fun t => by
      rw [mem_swp hB.sub hE, List.mem_append, mem_rem, List.mem_singleton]
    rw [this]; omega
theorem first_join {t : Nat} : ∀ (R K : List Nat), sep ed K t → ¬ sep ed (K ++ R) t → ∃ f R1 R2, R = R1 ++ f :: R2 ∧ sep ed (K ++ R1) t ∧ ¬ sep ed (K ++ R1 ++ [f]) t
  | [], K, h1, h2 => absurd h1 (by rw [List.append_nil] at h2; exact h2)
  | f :: R, K, h1, h2 => by
    by_cases q : sep ed (K ++ [f]) t
    · have h3 : ¬ sep ed ((K ++ [f]) ++ R) t := by simpa using h2
      obtain ⟨g, R1, R2, e, a, b⟩ := first_join R (K ++ [f]) q h3
      refine ⟨g, f :: R1, R2, by rw [e]; rfl, ?_, ?_⟩
      · simpa using a
      · simpa using b
    · exact ⟨f, [], R, rfl, by simpa using h1, by simpa using q⟩
/-- a tie apart over the kept ones has a ring with a loose tie -/
theorem ring_loose (he : Edge n E ed) {B : List Nat} (hn : 0 < n) (hB : Tree n ed E B) {K : List Nat} (hK : ∀ t ∈ K, t ∈ B) {e : Nat} (hE : e < E) (h : sep ed K e) : ∃ f, f ∈ B ∧ f ∉ K ∧ sep ed (rem B f) e := by
  have allB : ¬ sep ed (K ++ B.filter (fun t => decide (t ∉ K))) e := fun q => q (by
    have e1 : mk ((K ++ B.filter (fun t => decide (t ∉ K))).map ed) = mk (B.map ed) := mk_map_mem fun t => by
      rw [List.mem_append, List.mem_filter, decide_eq_true_eq]
      exact ⟨fun q => q.elim (hK t) (·.1), fun q => by
        by_cases z : t ∈ K
        · exact .inl z
        · exact .inr ⟨q, z⟩⟩
    rw [e1]
    have := (pc_one (mk_inv (B.map ed)) hn).mp hB.one
    rw [this _ (he e hE).1, this _ (he e hE).2])
  obtain ⟨f, R1, R2, eR, s1, s2⟩ := first_join _ K h allB
  have nd : (R1 ++ f :: R2).Nodup := by rw [← eR]; exact List.Nodup.sublist List.filter_sublist (sub_nd hB.sub)
  have mR : ∀ t ∈ R1 ++ f :: R2, t ∈ B ∧ t ∉ K := fun t ht => by
    rw [← eR, List.mem_filter, decide_eq_true_eq] at ht; exact ht
  have hf := mR f (by simp)
  refine ⟨f, hf.1, hf.2, fun z => ?_⟩
  -- joined over B without f: then the ends of f are joined there
  have sub : ∀ t ∈ K ++ R1, t ∈ rem B f := fun t ht => by
    rw [mem_rem]
    rcases List.mem_append.mp ht with q | q
    · exact ⟨hK t q, fun y => hf.2 (y ▸ q)⟩
    · refine ⟨(mR t (by simp [q])).1, fun y => ?_⟩
      subst y
      exact (List.nodup_append.mp nd).2.2 t q t (by simp) rfl
  have up : ∀ u v, mk ((K ++ R1).map ed) u = mk ((K ++ R1).map ed) v → mk ((rem B f).map ed) u = mk ((rem B f).map ed) v := fun u v q => mk_mono (fun e he => by
    obtain ⟨t, ht, rfl⟩ := List.mem_map.mp he
    exact List.mem_map_of_mem (sub t ht)) q
  refine tree_sep he hB hf.1 ?_
  rcases join_snoc s1 s2 with ⟨a, b⟩ | ⟨a, b⟩
  · rw [← up _ _ a, ← up _ _ b]; exact z
  · rw [← up _ _ a, ← up _ _ b]; exact z.symm
/-- twins over K -/
def Twin (ed : Nat → Nat × Nat) (K : List Nat) (e e' : Nat) : Prop :=
  (mk (K.map ed) (ed e).1 = mk (K.map ed) (ed e').1 ∧ mk (K.map ed) (ed e).2 = mk (K.map ed) (ed e').2) ∨ (mk (K.map ed) (ed e).1 = mk (K.map ed) (ed e').2 ∧ mk (K.map ed) (ed e).2 = mk (K.map ed) (ed e').1)
theorem Twin.symm {K : List Nat} {e e' : Nat} (h : Twin ed K e e') : Twin ed K e' e := by
  unfold Twin at *
  rcases h with ⟨a, b⟩ | ⟨a, b⟩
  · exact .inl ⟨a.symm, b.symm⟩
  · exact .inr ⟨b.symm, a.symm⟩
theorem Twin.trans {K : List Nat} {e e' e'' : Nat} (h : Twin ed K e e') (h' : Twin ed K e' e'') : Twin ed K e e'' := by
  unfold Twin at *
  rcases h with ⟨a, b⟩ | ⟨a, b⟩ <;> rcases h' with ⟨c, d⟩ | ⟨c, d⟩ <;> omega
theorem twin_sep {K S : List Nat} (hs : ∀ t ∈ K, t ∈ S) {e e' : Nat} (h : Twin ed K e e') (q : sep ed S e) : sep ed S e' := by
  have up : ∀ u v, mk (K.map ed) u = mk (K.map ed) v → mk (S.map ed) u = mk (S.map ed) v := fun u v q => mk_mono (fun e he => by
    obtain ⟨t, ht, rfl⟩ := List.mem_map.mp he
    exact List.mem_map_of_mem (hs t ht)) q
  intro z
  apply q
  rcases h with ⟨a, b⟩ | ⟨a, b⟩
  · rw [up _ _ a, up _ _ b]; exact z
  · rw [up _ _ a, up _ _ b]; exact z.symm
theorem not_twin_sep {K : List Nat} {e e' : Nat} (h : sep ed K e') (hn : ¬ Twin ed K e' e) : sep ed (K ++ [e]) e' := by
  intro z
  exact hn (join_snoc h (fun q => q z))
structure PartOk (n : Nat) (ed : Nat → Nat × Nat) (E : Nat) (K X B : List Nat) (e : Nat) : Prop where
  k : K ∈ subs (List.range E)
  x : X ∈ subs (List.range E)
  kx : ∀ t ∈ K, t ∉ X
  tree : Tree n ed E B
  kb : ∀ t ∈ K, t ∈ B
  bx : ∀ t ∈ B, t ∉ X
  lt : e < E
  nb : e ∉ B
  nx : e ∉ X
  sp : sep ed K e
/-- one tie more in a set -/
def ins (E : Nat) (S : List Nat) (e : Nat) : List Nat := (List.range E).filter (fun t => decide (t ∈ S ∨ t = e))
theorem mem_ins {S : List Nat} (hS : S ∈ subs (List.range E)) {e t : Nat} (he : e < E) : t ∈ ins E S e ↔ t ∈ S ∨ t = e := by
  unfold ins
  rw [List.mem_filter, decide_eq_true_eq, List.mem_range]
  exact ⟨fun q => q.2, fun q => ⟨q.elim (sub_lt hS) (fun z => z ▸ he), q⟩⟩
theorem ins_subs {S : List Nat} {e : Nat} : ins E S e ∈ subs (List.range E) := filter_sub _ _
theorem ins_len {S : List Nat} (hS : S ∈ subs (List.range E)) {e : Nat} (he : e < E) (h : e ∉ S) : (ins E S e).length = S.length + 1 := by
  rw [← List.length_cons (a := e)]
  refine List.Perm.length_eq ((List.perm_ext_iff_of_nodup (sub_nd ins_subs) (List.nodup_cons.mpr ⟨h, sub_nd hS⟩)).mpr fun t => ?_)
  rw [mem_ins hS he, List.mem_cons]; exact Or.comm
/-- the tie is open in the part -/
def Open (ed : Nat → Nat × Nat) (E : Nat) (K X B : List Nat) (t : Nat) : Prop := t < E ∧ t ∉ K ∧ t ∉ X ∧ t ∉ B ∧ sep ed K t
theorem PartOk.opn {K X B : List Nat} {e : Nat} (h : PartOk n ed E K X B e) : Open ed E K X B e := ⟨h.lt, fun q => h.nb (h.kb e q), h.nx, h.nb, h.sp⟩
theorem PartOk.first {K X B : List Nat} {e e' : Nat} (h : PartOk n ed E K X B e) (h' : Open ed E K X B e') (hne : e' ≠ e) : PartOk n ed E K (ins E X e) B e' := by
  obtain ⟨a1, a2, a3, a4, a5⟩ := h'
  have m : ∀ t, t ∈ ins E X e ↔ t ∈ X ∨ t = e := fun t => mem_ins h.x h.lt
  refine ⟨h.k, ins_subs, fun t ht q => ?_, h.tree, h.kb, fun t ht q => ?_, a1, a4, fun q => ?_, a5⟩
  · rcases (m t).mp q with z | z
    · exact h.kx t ht z
    · exact h.nb (z ▸ h.kb t ht)
  · rcases (m t).mp q with z | z
    · exact h.bx t ht z
    · exact h.nb (z ▸ ht)
  · rcases (m _).mp q with z | z
    · exact a3 z
    · exact hne z
/-- f is a loose tie on the ring of e -/
def Loose (ed : Nat → Nat × Nat) (K B : List Nat) (e f : Nat) : Prop := f ∈ B ∧ f ∉ K ∧ sep ed (rem B f) e
theorem PartOk.second (he : Edge n E ed) {K X B : List Nat} {e e' f : Nat} (h : PartOk n ed E K X B e) (h' : Open ed E K X B e') (hne : e' ≠ e) (ht : ¬ Twin ed K e' e) (hf : Loose ed K B e f) :
    PartOk n ed E (ins E K e) X (swp E B f e) e' := by
  obtain ⟨a1, a2, a3, a4, a5⟩ := h'
  obtain ⟨f1, f2, f3⟩ := hf
  have m : ∀ t, t ∈ ins E K e ↔ t ∈ K ∨ t = e := fun t => mem_ins h.k h.lt
  have s : ∀ t, t ∈ swp E B f e ↔ (t ∈ B ∧ t ≠ f) ∨ t = e := fun t => mem_swp h.tree.sub h.lt
  refine ⟨ins_subs, h.x, fun t ht q => ?_, exch he h.tree f1 h.nb h.lt f3, fun t ht => ?_, fun t ht q => ?_, a1, fun q => ?_, a3, ?_⟩
  · rcases (m t).mp ht with z | z
    · exact h.kx t z q
    · exact h.nx (z ▸ q)
  · rw [s]
    rcases (m t).mp ht with z | z
    · exact .inl ⟨h.kb t z, fun y => f2 (y ▸ z)⟩
    · exact .inr z
  · rcases (s t).mp ht with z | z
    · exact h.bx t z.1 q
    · exact h.nx (z ▸ q)
  · rcases (s _).mp q with z | z
    · exact a4 z.1
    · exact hne z
  · have : sep ed (K ++ [e]) e' := not_twin_sep a5 ht
    refine (sep_congr (fun t => ?_) e').mp this
    rw [m, List.mem_append, List.mem_singleton]
theorem PartOk.twin_tree (he : Edge n E ed) {K X B : List Nat} {e e' f : Nat} (h : PartOk n ed E K X B e) (h' : Open ed E K X B e') (ht : Twin ed K e' e) (hf : Loose ed K B e f) : Tree n ed E (swp E B f e') := by
  obtain ⟨f1, f2, f3⟩ := hf
  exact exch he h.tree f1 h'.2.2.2.1 h'.1 (twin_sep (fun t ht => mem_rem.mpr ⟨h.kb t ht, fun (y : t = f) => f2 (y ▸ ht)⟩) ht.symm f3)
theorem PartOk.loose (he : Edge n E ed) (hn : 0 < n) {K X B : List Nat} {e : Nat} (h : PartOk n ed E K X B e) : ∃ f, Loose ed K B e f := by
  obtain ⟨f, a, b, c⟩ := ring_loose he hn h.tree h.kb h.lt h.sp
  exact ⟨f, a, b, c⟩
theorem NT_split {K X B : List Nat} {e : Nat} (h : PartOk n ed E K X B e) : NT n ed E K X = NT n ed E K (ins E X e) + NT n ed E (ins E K e) X := by
  unfold NT
  rw [cnt_split _ _ (fun S => e ∉ S)]
  have mx : ∀ t, t ∈ ins E X e ↔ t ∈ X ∨ t = e := fun t => mem_ins h.x h.lt
  have mk' : ∀ t, t ∈ ins E K e ↔ t ∈ K ∨ t = e := fun t => mem_ins h.k h.lt
  congr 1
  · refine cnt_congr fun S _ => ⟨fun ⟨⟨a, b, c⟩, d⟩ => ⟨a, b, fun t ht => ?_⟩, fun ⟨a, b, c⟩ => ⟨⟨a, b, fun t ht => c t ((mx t).mpr (.inl ht))⟩, c e ((mx e).mpr (.inr rfl))⟩⟩
    rcases (mx t).mp ht with z | z
    · exact c t z
    · rw [z]; exact d
  · refine cnt_congr fun S _ => ⟨fun ⟨⟨a, b, c⟩, d⟩ => ⟨a, fun t ht => ?_, c⟩, fun ⟨a, b, c⟩ => ⟨⟨a, fun t ht => b t ((mk' t).mpr (.inl ht)), c⟩, fun z => z (b e ((mk' e).mpr (.inr rfl)))⟩⟩
    rcases (mk' t).mp ht with z | z
    · exact b t z
    · rw [z]; exact Decidable.not_not.mp d
theorem NT_pos {K X B : List Nat} (hB : Tree n ed E B) (h1 : ∀ t ∈ K, t ∈ B) (h2 : ∀ t ∈ B, t ∉ X) : 0 < NT n ed E K X :=
  cnt_pos hB.sub ⟨hB, h1, fun t ht q => h2 t q ht⟩
theorem PartOk.free {K X B : List Nat} {e : Nat} (he : Edge n E ed) (h : PartOk n ed E K X B e) : K.length + pc n (MT.mk (K.map ed)) = n := tree_part he h.tree h.k h.kb
theorem back_sub {l1 l2 : List Nat} (nd : l1.Nodup) (h : ∀ t ∈ l1, t ∈ l2) (hl : l2.length ≤ l1.length) : ∀ t ∈ l2, t ∈ l1 := fun t ht => by
  refine Decidable.not_not.mp fun q => ?_
  have := List.Nodup.length_le_of_subset (l₁ := t :: l1) (l₂ := l2) (List.nodup_cons.mpr ⟨q, nd⟩) fun u hu => by
    rcases List.mem_cons.mp hu with rfl | hu
    · exact ht
    · exact h u hu
  simp at this
  omega
theorem tree_eq {B T : List Nat} (hB : Tree n ed E B) (hT : Tree n ed E T) (h : ∀ t ∈ T, t ∈ B) : T = B :=
  sub_ext (range_nd E) hT.sub hB.sub fun t => ⟨h t, back_sub (sub_nd hT.sub) h (by have := hB.len; have := hT.len; omega) t⟩
/-- two ties beside the kept ones in a tree are apart -/
theorem tree_apart (he : Edge n E ed) {T : List Nat} (hT : Tree n ed E T) {K : List Nat} (hK : K ∈ subs (List.range E)) (hs : ∀ t ∈ K, t ∈ T) {e : Nat} (h1 : e ∈ T) (h2 : e ∉ K) : sep ed K e := fun z => by
  have lt := sub_lt hT.sub h1
  have a := tree_part he hT hK hs
  have b := tree_part he hT (K := ins E K e) ins_subs (fun t ht => by
    rcases (mem_ins hK lt).mp ht with q | q
    · exact hs t q
    · rw [q]; exact h1)
  rw [ins_len hK lt h2] at b
  have c : mk ((ins E K e).map ed) = mk ((K ++ [e]).map ed) := mk_map_mem fun t => by rw [mem_ins hK lt, List.mem_append, List.mem_singleton]
  rw [c, pc_nsep (fun q => q z)] at b
  omega
/-- where all open ties are twins of the leading one, the row of exchanges holds all trees of the part -/
theorem PartOk.all (he : Edge n E ed) {K X B : List Nat} {e : Nat} (h : PartOk n ed E K X B e) (hall : ∀ t, Open ed E K X B t → Twin ed K t e) (T : List Nat) (hT : Tree n ed E T) (hK : ∀ t ∈ K, t ∈ T) (hX : ∀ t ∈ X, t ∉ T) :
    T = B ∨ ∃ t f, Open ed E K X B t ∧ Loose ed K B e f ∧ T = swp E B f t := by
  by_cases hTB : ∀ t ∈ T, t ∈ B
  · exact .inl (tree_eq h.tree hT hTB)
  right
  obtain ⟨g, hg⟩ := Classical.not_forall.mp hTB
  obtain ⟨g1, g2⟩ := Classical.not_imp.mp hg
  have opn : ∀ t, t ∈ T → t ∉ B → Open ed E K X B t := fun t t1 t2 => ⟨sub_lt hT.sub t1, fun q => t2 (h.kb t q), fun q => hX t q t1, t2, tree_apart he hT h.k hK t1 (fun q => t2 (h.kb t q))⟩
  have lt := sub_lt hT.sub g1
  have og := opn g g1 g2
  -- no other tie of T lies outside of B
  have only : ∀ t ∈ T, t ≠ g → t ∈ B := fun t t1 t2 => Decidable.not_not.mp fun t3 => by
    have ot := opn t t1 t3
    have tw : Twin ed K t g := (hall t ot).trans (hall g og).symm
    have kg : ∀ u, u ∈ ins E K g ↔ u ∈ K ∨ u = g := fun u => mem_ins h.k lt
    have ap := tree_apart he hT (K := ins E K g) ins_subs (fun u hu => by
      rcases (kg u).mp hu with q | q
      · exact hK u q
      · rw [q]; exact g1) t1 (fun q => by
      rcases (kg t).mp q with q | q
      · exact t3 (h.kb t q)
      · exact t2 q)
    have ap2 := twin_sep (fun u hu => (kg u).mpr (.inl hu)) tw ap
    exact ap2 (mk_join (List.mem_map_of_mem ((kg g).mpr (.inr rfl))))
  -- a tie of B that T has not
  obtain ⟨f, f1, f2⟩ : ∃ f, f ∈ B ∧ f ∉ T := by
    refine Classical.byContradiction fun q => ?_
    have : ∀ t ∈ B, t ∈ T := fun t ht => Decidable.not_not.mp fun z => q ⟨t, ht, z⟩
    have eq := tree_eq hT h.tree this
    rw [eq] at g2
    exact g2 g1
  have eT : T = swp E B f g := by
    have sub : ∀ t ∈ T, t ∈ swp E B f g := fun t ht => by
      rw [mem_swp h.tree.sub lt]
      by_cases q : t = g
      · exact .inr q
      · exact .inl ⟨only t ht q, fun z => f2 (z ▸ ht)⟩
    refine sub_ext (range_nd E) hT.sub swp_subs fun t => ⟨sub t, back_sub (sub_nd hT.sub) sub ?_ t⟩
    rw [swp_len h.tree.sub f1 g2 lt]
    have := hT.len; have := h.tree.len; omega
  have fK : f ∉ K := fun q => f2 (hK f q)
  refine ⟨g, f, og, ⟨f1, fK, ?_⟩, eT⟩
  have s1 : sep ed (rem B f) g := tree_apart he hT (rem_subs h.tree.sub f) (fun t ht => by
    obtain ⟨a, b⟩ := mem_rem.mp ht
    rw [eT, mem_swp h.tree.sub lt]
    exact .inl ⟨a, b⟩) g1 (fun q => g2 (mem_rem.mp q).1)
  exact twin_sep (fun t ht => mem_rem.mpr ⟨h.kb t ht, fun (y : t = f) => fK (y ▸ ht)⟩) (hall g og) s1
/-- the row of exchanges is long enough -/
theorem PartOk.few (he : Edge n E ed) {K X B : List Nat} {e : Nat} (h : PartOk n ed E K X B e) (hall : ∀ t, Open ed E K X B t → Twin ed K t e) (L : List (List Nat)) (hB : B ∈ L) (hL : ∀ t f, Open ed E K X B t → Loose ed K B e f → swp E B f t ∈ L) : NT n ed E K X ≤ L.length := by
  refine cnt_len (subs_nd (range_nd E)) fun T _ ⟨hT, hK, hX⟩ => ?_
  rcases h.all he hall T hT hK hX with q | ⟨t, f, a, b, q⟩
  · rw [q]; exact hB
  · rw [q]; exact hL t f a b
end
end MT
namespace MT
def pr : List Rat → Rat
  | [] => 1
  | x :: xs => x * pr xs
def el : List Rat → Rat
  | [] => 0
  | x :: xs => pr xs + x * el xs
theorem sm_ite {l : List Nat} {x : Nat} (c : Rat) (nd : l.Nodup) (hx : x ∈ l) : sm l (fun u => if u = x then c else 0) = c := by
  induction l with
  | nil => cases hx
  | cons y l ih =>
    obtain ⟨n1, n2⟩ := List.nodup_cons.mp nd
    simp only [sm]
    by_cases q : y = x
    · subst q
      have : sm l (fun u => if u = y then c else 0) = sm l (fun _ => 0) := sm_congr fun u hu => if_neg (fun (q : u = y) => n1 (q ▸ hu))
      rw [this, sm_zero']; simp; grind
    · rw [ih n2 (by rcases List.mem_cons.mp hx with z | z; exact absurd z.symm q; exact z)]
      simp [q]; grind
/-- the weights of a ring's rest: ties of x i between i and i + 1, and y between j and m -/
def CycW (j m : Nat) (x : Nat → Rat) (y : Rat) (w : Wt) : Prop := ∀ i i', j ≤ i → i < i' → i' ≤ m → w i i' = (if i' = i + 1 then x i else 0) + (if i = j ∧ i' = m then y else 0)
theorem cyc (m : Nat) (x : Nat → Rat) (hx : ∀ i, 0 ≤ x i) : ∀ (d j : Nat), j + d = m → ∀ (y : Rat) (w : Wt), 0 ≤ y → Good w → CycW j m x y w → T (List.range' j (d + 1)) w = y * el ((List.range' j d).map x) + pr ((List.range' j d).map x)
  | 0, j, e, y, w, hy, g, h => by
    simp only [List.range', T_one, List.map_nil, el, pr]; grind
  | d + 1, j, e, y, w, hy, g, h => by
    have hr : List.range' j (d + 1 + 1) = j :: List.range' (j + 1) (d + 1) := rfl
    have hr2 : List.range' j (d + 1) = j :: List.range' (j + 1) d := rfl
    rw [hr, hr2, T_cons _ (by simp)]
    have s1 : sm (List.range' (j + 1) (d + 1)) (w j) = x j + y := by
      have e1 : sm (List.range' (j + 1) (d + 1)) (w j) = sm (List.range' (j + 1) (d + 1)) (fun u => (if u = j + 1 then x j else 0) + (if u = m then y else 0)) := sm_congr fun u hu => by
        rw [List.mem_range'_1] at hu
        rw [h j u (Nat.le_refl _) (by omega) (by omega)]
        simp
      rw [e1, sm_add, sm_ite _ List.nodup_range' (by rw [List.mem_range'_1]; omega), sm_ite _ List.nodup_range' (by rw [List.mem_range'_1]; omega)]
    rw [s1]
    have hs : 0 ≤ x j + y := by have := hx j; grind
    have h' : CycW (j + 1) m x (x j * y / (x j + y)) (elim j (x j + y) w) := by
      intro i i' h1 h2 h3
      simp only [elim]
      rw [h i i' (by omega) h2 h3, h j i (Nat.le_refl _) (by omega) (by omega), h j i' (Nat.le_refl _) (by omega) h3]
      have z1 : ¬ (i = j) := by omega
      have z2 : ¬ (i' = j + 1) := by omega
      have z3 : ¬ (i = m) := by omega
      by_cases q1 : i = j + 1 <;> by_cases q2 : i' = m <;> simp [z1, z2, z3, q1, q2] <;> grind
    have hy' : 0 ≤ x j * y / (x j + y) := by
      rw [Rat.div_def]
      exact Rat.mul_nonneg (Rat.mul_nonneg (hx j) hy) (inv_nn hs)
    rw [cyc m x hx d (j + 1) (by omega) _ _ hy' (g.elim hs) h']
    simp only [List.map_cons, el, pr]
    generalize el ((List.range' (j + 1) d).map x) = a
    generalize pr ((List.range' (j + 1) d).map x) = b
    have := hx j
    generalize x j = X at *
    by_cases q : X + y = 0
    · have : X = 0 := by grind
      have : y = 0 := by grind
      grind
    · grind
theorem wt_append (f : Nat → Nat) (l l' : List (Nat × Nat)) (i j : Nat) : wt f (l ++ l') i j = wt f l i j + wt f l' i j := by
  induction l with
  | nil => simp only [List.nil_append, wt]; grind
  | cons e l ih => simp only [List.cons_append, wt, ih]; grind
theorem wt_perm {l l' : List (Nat × Nat)} (h : l.Perm l') (f : Nat → Nat) (i j : Nat) : wt f l i j = wt f l' i j := by
  induction h with
  | nil => rfl
  | cons x _ ih => simp only [wt, ih]
  | swap x y l => simp only [wt]; grind
  | trans _ _ ih1 ih2 => rw [ih1, ih2]
theorem wt_same (f : Nat → Nat) (ed : Nat → Nat × Nat) (i j : Nat) (c : Rat) : ∀ (l : List Nat), (∀ t ∈ l, dl (f (ed t).1) (f (ed t).2) i j = c) → wt f (l.map ed) i j = c * (l.length : Nat)
  | [], _ => by simp only [List.map_nil, wt, List.length_nil]; grind
  | t :: l, h => by
    simp only [List.map_cons, wt, List.length_cons]
    rw [wt_same f ed i j c l (fun t ht => h t (List.mem_cons_of_mem _ ht)), h t List.mem_cons_self, Rat.natCast_add]
    grind
theorem dl_comm (a b : Nat) : dl a b = dl b a := by
  funext i j
  unfold dl
  congr 1
  exact propext ⟨fun h => by rcases h with ⟨p, q⟩ | ⟨p, q⟩; exact .inr ⟨q, p⟩; exact .inl ⟨q, p⟩, fun h => by rcases h with ⟨p, q⟩ | ⟨p, q⟩; exact .inr ⟨q, p⟩; exact .inl ⟨q, p⟩⟩
/-- a ring of bundles: bundle k (a list of ties) between place k and the next -/
structure Ring (n E : Nat) (ed : Nat → Nat × Nat) (b : List (List Nat)) : Prop where
  intro ::
  n3 : 3 ≤ n
  bl : b.length = n
  perm : b.flatten.Perm (List.range E)
  ne : ∀ l ∈ b, l ≠ []
  ends : ∀ k, (hk : k < b.length) → ∀ t ∈ b[k], ed t = (k, (k + 1) % n) ∨ ed t = ((k + 1) % n, k)
theorem nmod {n k : Nat} (h : k < n) : (k + 1) % n = if k + 1 = n then 0 else k + 1 := by
  split
  · rename_i e; rw [e, Nat.mod_self]
  · exact Nat.mod_eq_of_lt (by omega)
section
variable {n E : Nat} {ed : Nat → Nat × Nat} {b : List (List Nat)}
theorem Ring.lt (R : Ring n E ed b) {k : Nat} (hk : k < b.length) {t : Nat} (ht : t ∈ b[k]) : t < E :=
  List.mem_range.mp (R.perm.mem_iff.mp (List.mem_flatten.mpr ⟨_, List.getElem_mem hk, ht⟩))
theorem Ring.has (R : Ring n E ed b) {t : Nat} (ht : t < E) : ∃ k, ∃ hk : k < b.length, t ∈ b[k] := by
  obtain ⟨l, hl, h⟩ := List.mem_flatten.mp (R.perm.mem_iff.mpr (List.mem_range.mpr ht))
  obtain ⟨k, hk, rfl⟩ := List.mem_iff_getElem.mp hl
  exact ⟨k, hk, h⟩
theorem Ring.nd (R : Ring n E ed b) : b.flatten.Nodup := R.perm.nodup_iff.mpr (range_nd E)
theorem flat_one : ∀ {b : List (List Nat)}, b.flatten.Nodup → ∀ {k k' : Nat} (hk : k < b.length) (hk' : k' < b.length) {t : Nat}, t ∈ b[k] → t ∈ b[k'] → k = k'
  | l :: b, nd, k, k', hk, hk', t, h, h' => by
    rw [List.flatten_cons] at nd
    obtain ⟨n1, n2, n3⟩ := List.nodup_append.mp nd
    match k, k', hk, hk', h, h' with
    | 0, 0, _, _, _, _ => rfl
    | 0, k' + 1, _, hk', h, h' =>
      exact absurd rfl (n3 t h t (List.mem_flatten.mpr ⟨_, List.getElem_mem (by simpa using hk'), by simpa using h'⟩))
    | k + 1, 0, hk, _, h, h' =>
      exact absurd rfl (n3 t h' t (List.mem_flatten.mpr ⟨_, List.getElem_mem (by simpa using hk), by simpa using h⟩))
    | k + 1, k' + 1, hk, hk', h, h' =>
      have := flat_one n2 (k := k) (k' := k') (by simpa using hk) (by simpa using hk') (t := t) (by simpa using h) (by simpa using h')
      omega
theorem flat_nd : ∀ {b : List (List Nat)}, b.flatten.Nodup → ∀ {k : Nat} (hk : k < b.length), (b[k]).Nodup
  | l :: b, nd, k, hk => by
    rw [List.flatten_cons] at nd
    obtain ⟨n1, n2, n3⟩ := List.nodup_append.mp nd
    match k, hk with
    | 0, _ => exact n1
    | k + 1, hk => exact flat_nd n2 (k := k) (by simpa using hk)
theorem Ring.edge (R : Ring n E ed b) : Edge n E ed := fun t ht => by
  obtain ⟨k, hk, h⟩ := R.has ht
  have hk' : k < n := by have := R.bl; omega
  have : (k + 1) % n < n := Nat.mod_lt _ (by omega)
  rcases R.ends k hk t h with q | q <;> rw [q] <;> exact ⟨by assumption, by assumption⟩
theorem wt_flat (f : Nat → Nat) (ed : Nat → Nat × Nat) (i j : Nat) (c : Nat → Rat) : ∀ (b : List (List Nat)) (o : Nat), (∀ k, (hk : k < b.length) → ∀ t ∈ b[k], dl (f (ed t).1) (f (ed t).2) i j = c (o + k)) →
    wt f (b.flatten.map ed) i j = sm (List.range' o b.length) (fun k => c k * ((b.getD (k - o) []).length : Nat))
  | [], o, _ => rfl
  | l :: b, o, h => by
    rw [List.flatten_cons, List.map_append, wt_append, List.length_cons]
    have e : List.range' o (b.length + 1) = o :: List.range' (o + 1) b.length := rfl
    rw [e]
    simp only [sm]
    rw [wt_same f ed i j (c o) l (fun t ht => by have := h 0 (by simp) t (by simpa using ht); simpa using this)]
    rw [wt_flat f ed i j c b (o + 1) (fun k hk t ht => by have := h (k + 1) (by simp; omega) t (by simpa using ht); rw [this]; congr 1; omega)]
    congr 1
    · simp
    · refine sm_congr fun k hk => ?_
      rw [List.mem_range'_1] at hk
      have : k - o = (k - (o + 1)) + 1 := by omega
      rw [this]
      rfl
def bsz (b : List (List Nat)) (k : Nat) : Rat := ((b.getD k []).length : Nat)
theorem Ring.cycw (R : Ring n E ed b) : CycW 0 (n - 1) (bsz b) (bsz b (n - 1)) (wt id ((List.range E).map ed)) := by
  intro i i' _ h2 h3
  have hn := R.n3
  have hb := R.bl
  rw [← wt_perm (R.perm.map ed), wt_flat id ed i i' (fun k => dl k ((k + 1) % n) i i') b 0 (fun k hk t ht => by
    rcases R.ends k hk t ht with q | q
    · rw [q]; simp
    · rw [q]; simp only [id, Nat.zero_add]; rw [dl_comm])]
  have e1 : ∀ k ∈ List.range' 0 b.length, dl k ((k + 1) % n) i i' * ((b.getD (k - 0) []).length : Nat) = (if k = i then (if i' = i + 1 then bsz b i else 0) else 0) + (if k = n - 1 then (if i = 0 ∧ i' = n - 1 then bsz b (n - 1) else 0) else 0) := fun k hk => by
    rw [List.mem_range'_1] at hk
    rw [nmod (by omega : k < n), Nat.sub_zero]
    unfold dl bsz
    by_cases q : k + 1 = n
    · have : k = n - 1 := by omega
      subst this
      have z : ¬ (n - 1 = i) := by omega
      rw [if_pos q, if_neg z, if_pos rfl]
      by_cases y : i = 0 ∧ i' = n - 1
      · rw [if_pos y, if_pos (.inr ⟨y.2.symm, y.1.symm⟩)]; grind
      · rw [if_neg y, if_neg (by rintro (⟨a, _⟩ | ⟨a, c⟩); exact z a; exact y ⟨c.symm, a.symm⟩)]; grind
    · rw [if_neg q, if_neg (by omega : ¬ k = n - 1)]
      by_cases y : k = i
      · subst y
        rw [if_pos rfl]
        by_cases u : i' = k + 1
        · rw [if_pos u, if_pos (.inl ⟨rfl, u.symm⟩)]; grind
        · rw [if_neg u, if_neg (by rintro (⟨a, c⟩ | ⟨a, c⟩); exact u c.symm; omega)]; grind
      · rw [if_neg y, if_neg (by rintro (⟨a, c⟩ | ⟨a, c⟩); exact y a; omega)]; grind
  rw [sm_congr e1, sm_add, sm_ite _ List.nodup_range' (by rw [List.mem_range'_1]; omega), sm_ite _ List.nodup_range' (by rw [List.mem_range'_1]; omega)]
def prN : List Nat → Nat
  | [] => 1
  | x :: xs => x * prN xs
def elN : List Nat → Nat
  | [] => 0
  | x :: xs => prN xs + x * elN xs
theorem pr_cast : ∀ l : List Nat, pr (l.map (fun (x : Nat) => (x : Rat))) = ((prN l : Nat) : Rat)
  | [] => rfl
  | x :: l => by simp only [List.map_cons, pr, prN, pr_cast l, Rat.natCast_mul]
theorem el_cast : ∀ l : List Nat, el (l.map (fun (x : Nat) => (x : Rat))) = ((elN l : Nat) : Rat)
  | [] => rfl
  | x :: l => by simp only [List.map_cons, el, elN, el_cast l, pr_cast l, Rat.natCast_mul, Rat.natCast_add]
theorem el_snoc (y : Rat) : ∀ l : List Rat, pr (l ++ [y]) = pr l * y ∧ el (l ++ [y]) = y * el l + pr l
  | [] => by simp only [List.nil_append, pr, el]; grind
  | x :: l => by
    obtain ⟨a, c⟩ := el_snoc y l
    simp only [List.cons_append, pr, el, a, c]; grind
/-- the trees of a ring of bundles -/
theorem Ring.count (R : Ring n E ed b) : tau n id ((List.range E).map ed) = elN (b.map List.length) := by
  have hn := R.n3
  have hb := R.bl
  have he : InN n ((List.range E).map ed) := innm R.edge (fun t ht => List.mem_range.mp ht)
  have h0 : reps n id = List.range n := by
    unfold reps; exact List.filter_eq_self.mpr (fun v _ => by simp)
  have e1 := tauf_tau inv_id he
  rw [h0] at e1
  have hE : Ends (List.range n) id ((List.range E).map ed) := fun e h => by
    have := he e h; simp [this]
  have e2 := MTthm _ (List.range n) id (range_nd n) hE
  rw [e1] at e2
  have e3 := cyc (n - 1) (bsz b) (fun i => by unfold bsz; exact_mod_cast Nat.zero_le _) (n - 1) 0 (by omega) (bsz b (n - 1)) _ (by unfold bsz; exact_mod_cast Nat.zero_le _) (wt_good _ _) R.cycw
  rw [show n - 1 + 1 = n by omega, ← List.range_eq_range', e2] at e3
  rw [← (el_snoc (bsz b (n - 1)) ((List.range' 0 (n - 1)).map (bsz b))).2] at e3
  have e4 : (List.range' 0 (n - 1)).map (bsz b) ++ [bsz b (n - 1)] = (b.map List.length).map (fun (x : Nat) => (x : Rat)) := by
    have : [bsz b (n - 1)] = [n - 1].map (bsz b) := rfl
    rw [this, ← List.map_append, ← List.range_eq_range', ← List.range_succ, show (n - 1).succ = n by omega]
    refine List.ext_getElem (by simp [hb]) fun i h1 h2 => ?_
    simp only [List.getElem_map, List.getElem_range, bsz]
    simp at h1
    rw [List.getD_eq_getElem?_getD, List.getElem?_eq_getElem (by omega)]
    rfl
  rw [e4, el_cast] at e3
  exact_mod_cast e3
end
end MT
namespace MT
section
variable {n E : Nat} {ed : Nat → Nat × Nat} {b : List (List Nat)}
def compl (E : Nat) (S : List Nat) : List Nat := (List.range E).filter (fun t => decide (t ∉ S))
theorem mem_compl {S : List Nat} {t : Nat} : t ∈ compl E S ↔ t < E ∧ t ∉ S := by
  unfold compl; rw [List.mem_filter, List.mem_range, decide_eq_true_eq]
theorem compl_subs {S : List Nat} : compl E S ∈ subs (List.range E) := filter_sub _ _
theorem compl_compl {S : List Nat} (h : S ∈ subs (List.range E)) : compl E (compl E S) = S :=
  sub_ext (range_nd E) compl_subs h fun t => by
    rw [mem_compl, mem_compl]
    exact ⟨fun q => Decidable.not_not.mp fun z => q.2 ⟨q.1, z⟩, fun q => ⟨sub_lt h q, fun z => z.2 q⟩⟩
theorem compl_len {S : List Nat} (h : S ∈ subs (List.range E)) : (compl E S).length + S.length = E := by
  have e : ((compl E S) ++ S).Perm (List.range E) := by
    refine (List.perm_ext_iff_of_nodup ?_ (range_nd E)).mpr fun t => ?_
    · exact List.nodup_append.mpr ⟨sub_nd compl_subs, sub_nd h, fun a ha c hc q => (mem_compl.mp ha).2 (q ▸ hc)⟩
    · rw [List.mem_append, mem_compl, List.mem_range]
      exact ⟨fun q => q.elim (·.1) (sub_lt h), fun q => by
        by_cases z : t ∈ S
        · exact .inr z
        · exact .inl ⟨q, z⟩⟩
  have := e.length_eq
  simpa using this
/-- two ties of one bundle are never both in a tree -/
theorem Ring.one (R : Ring n E ed b) {S : List Nat} (hS : Tree n ed E S) {k : Nat} (hk : k < b.length) {t t' : Nat} (h : t ∈ b[k]) (h' : t' ∈ b[k]) (s : t ∈ S) (s' : t' ∈ S) : t = t' := by
  refine Decidable.not_not.mp fun q => ?_
  have lt := R.lt hk h
  have sing : ∀ u, u ∈ ins E [] t ↔ u = t := fun u => by
    rw [mem_ins (mem_subs.mpr (List.nil_sublist _)) lt]; simp
  have a := tree_apart R.edge hS (K := ins E [] t) ins_subs (fun u hu => by rw [(sing u).mp hu]; exact s) s' (fun z => q ((sing _).mp z).symm)
  have j : mk ((ins E [] t).map ed) (ed t).1 = mk ((ins E [] t).map ed) (ed t).2 := mk_join (List.mem_map_of_mem ((sing t).mpr rfl))
  unfold sep at a
  rcases R.ends k hk t h with e | e <;> rcases R.ends k hk t' h' with e' | e' <;> rw [e] at j <;> rw [e'] at a
  · exact a j
  · exact a j.symm
  · exact a j.symm
  · exact a j
theorem Ring.connected (R : Ring n E ed b) {M : List Nat} (m : Nat) (h : ∀ k, (hk : k < b.length) → k ≠ m → ∃ t ∈ b[k], t ∈ M) : pc n (mk (M.map ed)) = 1 := by
  have hn := R.n3
  have hb := R.bl
  rw [pc_one (mk_inv _) (by omega)]
  have step : ∀ k, k < n → k ≠ m → mk (M.map ed) k = mk (M.map ed) ((k + 1) % n) := fun k hk hm => by
    obtain ⟨t, t1, t2⟩ := h k (by omega) hm
    have j := mk_join (List.mem_map_of_mem (f := ed) t2)
    rcases R.ends k (by omega) t t1 with e | e <;> rw [e] at j
    · exact j
    · exact j.symm
  have z0 : mk (M.map ed) 0 = 0 := Nat.le_zero.mp (mk_inv _ 0).1
  have up : ∀ p, p < n → p ≤ m → mk (M.map ed) p = 0 := fun p => by
    induction p with
    | zero => intros; exact z0
    | succ p ih =>
      intro h1 h2
      have := step p (by omega) (by omega)
      rw [nmod (by omega), if_neg (by omega)] at this
      rw [← this]; exact ih (by omega) (by omega)
  have down : ∀ d p, p + d = n → m < p → mk (M.map ed) (p % n) = 0 := fun d => by
    induction d with
    | zero => intro p h1 _; rw [show p = n by omega, Nat.mod_self]; exact z0
    | succ d ih =>
      intro p h1 h2
      have := step p (by omega) (by omega)
      rw [Nat.mod_eq_of_lt (by omega), this]
      exact ih (p + 1) (by omega) (by omega)
  intro v hv
  by_cases q : v ≤ m
  · exact up v hv q
  · have := down (n - v) v (by omega) (by omega)
    rwa [Nat.mod_eq_of_lt hv] at this
theorem Ring.joined (R : Ring n E ed b) : pc n (mk ((List.range E).map ed)) = 1 :=
  R.connected n fun k hk _ => by
    have := R.ne _ (List.getElem_mem hk)
    obtain ⟨t, ht⟩ := List.exists_mem_of_ne_nil _ this
    exact ⟨t, ht, List.mem_range.mpr (R.lt hk ht)⟩
/-- the web of the rounds: place c k i behind i ties of bundle k -/
structure Dual (n E : Nat) (b : List (List Nat)) (n' : Nat) (ed' : Nat → Nat × Nat) (c : Nat → Nat → Nat) (X Y : Nat) : Prop where
  intro ::
  c0 : ∀ k, k < b.length → c k 0 = X
  cs : ∀ k, (hk : k < b.length) → c k (b[k]).length = Y
  xy : X ≠ Y
  inn : ∀ k i, (hk : k < b.length) → 0 < i → i < (b[k]).length → c k i ≠ X ∧ c k i ≠ Y
  inj : ∀ k i k' i', (hk : k < b.length) → (hk' : k' < b.length) → 0 < i → i < (b[k]).length → 0 < i' → i' < (b[k']).length → c k i = c k' i' → k = k' ∧ i = i'
  lt : ∀ k i, (hk : k < b.length) → i ≤ (b[k]).length → c k i < n'
  cover : ∀ v, v < n' → ∃ k i, ∃ hk : k < b.length, i ≤ (b[k]).length ∧ v = c k i
  ends : ∀ k i, (hk : k < b.length) → (hi : i < (b[k]).length) → ed' ((b[k])[i]) = (c k i, c k (i + 1)) ∨ ed' ((b[k])[i]) = (c k (i + 1), c k i)
  num : n' + n = E + 2
section
variable {n' : Nat} {ed' : Nat → Nat × Nat} {c : Nat → Nat → Nat} {X Y : Nat}
theorem Dual.edge (D : Dual n E b n' ed' c X Y) (R : Ring n E ed b) : Edge n' E ed' := fun t ht => by
  obtain ⟨k, hk, h⟩ := R.has ht
  obtain ⟨i, hi, rfl⟩ := List.mem_iff_getElem.mp h
  have h1 := D.lt k i hk (by omega)
  have h2 := D.lt k (i + 1) hk (by omega)
  rcases D.ends k i hk hi with e | e <;> rw [e] <;> exact ⟨by assumption, by assumption⟩
theorem Dual.step (D : Dual n E b n' ed' c X Y) {M : List Nat} {k i : Nat} (hk : k < b.length) (hi : i < (b[k]).length) (h : (b[k])[i] ∈ M) : mk (M.map ed') (c k i) = mk (M.map ed') (c k (i + 1)) := by
  have j := mk_join (List.mem_map_of_mem (f := ed') h)
  rcases D.ends k i hk hi with e | e <;> rw [e] at j
  · exact j
  · exact j.symm
theorem Dual.up (D : Dual n E b n' ed' c X Y) {M : List Nat} {k : Nat} (hk : k < b.length) : ∀ i, i ≤ (b[k]).length → (∀ j, (hj : j < (b[k]).length) → j < i → (b[k])[j] ∈ M) → mk (M.map ed') (c k i) = mk (M.map ed') X
  | 0, _, _ => by rw [D.c0 k hk]
  | i + 1, hi, h => by
    rw [← D.step hk (by omega) (h i (by omega) (by omega))]
    exact D.up hk i (by omega) fun j hj q => h j hj (by omega)
theorem Dual.down (D : Dual n E b n' ed' c X Y) {M : List Nat} {k : Nat} (hk : k < b.length) : ∀ d i, i + d = (b[k]).length → (∀ j, (hj : j < (b[k]).length) → i ≤ j → (b[k])[j] ∈ M) → mk (M.map ed') (c k i) = mk (M.map ed') Y
  | 0, i, e, _ => by rw [show i = (b[k]).length by omega, D.cs k hk]
  | d + 1, i, e, h => by
    rw [D.step hk (by omega) (h i (by omega) (Nat.le_refl _))]
    exact D.down hk d (i + 1) (by omega) fun j hj q => h j hj (by omega)
theorem nd_inj {l : List Nat} (nd : l.Nodup) {i j : Nat} (hi : i < l.length) (hj : j < l.length) (h : l[i] = l[j]) : i = j := by
  have p := List.pairwise_iff_getElem.mp nd
  rcases Nat.lt_trichotomy i j with w | w | w
  · exact absurd h (p i j hi hj w)
  · exact w
  · exact absurd h.symm (p j i hj hi w)
/-- of a tree the ties left out are a tree of the other web -/
theorem Dual.tree (D : Dual n E b n' ed' c X Y) (R : Ring n E ed b) {S : List Nat} (hS : Tree n ed E S) : Tree n' ed' E (compl E S) := by
  have hn := R.n3
  have hb := R.bl
  have hl := compl_len hS.sub
  have hs := hS.len
  have hnum := D.num
  refine ⟨compl_subs, by omega, ?_⟩
  -- a bundle without a tie of S
  obtain ⟨m, hm, hmS⟩ : ∃ m, ∃ hm : m < b.length, ∀ t ∈ b[m], t ∉ S := by
    refine Classical.byContradiction fun q => ?_
    have all : ∀ k, ∃ t, ∀ hk : k < b.length, t ∈ b[k] ∧ t ∈ S := fun k => by
      by_cases hk : k < b.length
      · refine Classical.byContradiction fun z => q ⟨k, hk, fun t ht hts => z ⟨t, fun _ => ⟨ht, hts⟩⟩⟩
      · exact ⟨0, fun z => absurd z hk⟩
    obtain ⟨g, hg⟩ := Classical.axiomOfChoice all
    have nd : ((List.range n).map g).Nodup := by
      refine List.pairwise_map.mpr (List.Pairwise.imp_of_mem (R := fun a b => a ≠ b) ?_ (range_nd n))
      intro x y hx hy hxy z
      simp only [List.mem_range] at hx hy
      exact hxy (flat_one R.nd (by omega) (by omega) (hg x (by omega)).1 (by rw [z]; exact (hg y (by omega)).1))
    have := List.Nodup.length_le_of_subset nd (l₂ := S) fun t ht => by
      obtain ⟨k, hk, rfl⟩ := List.mem_map.mp ht
      exact (hg k (by rw [List.mem_range] at hk; omega)).2
    simp at this
    omega
  have inM : ∀ k i, (hk : k < b.length) → (hi : i < (b[k]).length) → (b[k])[i] ∉ S → (b[k])[i] ∈ compl E S := fun k i hk hi q => mem_compl.mpr ⟨R.lt hk (List.getElem_mem hi), q⟩
  have xy : mk ((compl E S).map ed') Y = mk ((compl E S).map ed') X := by
    rw [← D.cs m hm]
    exact D.up hm _ (Nat.le_refl _) fun j hj _ => inM m j hm hj (hmS _ (List.getElem_mem hj))
  have allX : ∀ v, v < n' → mk ((compl E S).map ed') v = mk ((compl E S).map ed') X := fun v hv => by
    obtain ⟨k, i, hk, hi, rfl⟩ := D.cover v hv
    by_cases q : ∃ j, ∃ hj : j < (b[k]).length, j < i ∧ (b[k])[j] ∈ S
    · obtain ⟨j, hj, j1, j2⟩ := q
      rw [← xy]
      refine D.down hk ((b[k]).length - i) i (by omega) fun j' hj' q' => inM k j' hk hj' fun z => ?_
      have := R.one hS hk (List.getElem_mem hj) (List.getElem_mem hj') j2 z
      have := nd_inj (flat_nd R.nd hk) hj hj' this
      omega
    · exact D.up hk i hi fun j hj ji => inM k j hk hj fun z => q ⟨j, hj, ji, z⟩
  have hX : 0 < n' := by
    have := D.lt m 0 hm (Nat.zero_le _); omega
  rw [pc_one (mk_inv _) hX]
  intro v hv
  have h0 : mk ((compl E S).map ed') 0 = 0 := Nat.le_zero.mp (mk_inv _ 0).1
  rw [allX v hv, ← allX 0 hX, h0]
theorem Dual.back (D : Dual n E b n' ed' c X Y) (R : Ring n E ed b) {S : List Nat} (hS : Tree n' ed' E S) : Tree n ed E (compl E S) := by
  have hn := R.n3
  have hb := R.bl
  have hl := compl_len hS.sub
  have hs := hS.len
  have hnum := D.num
  have hlen : (compl E S).length + 1 = n := by omega
  refine ⟨compl_subs, hlen, ?_⟩
  have hX : 0 < n' := by
    have := D.lt 0 0 (by omega) (Nat.zero_le _); omega
  have conn := (pc_one (mk_inv _) hX).mp hS.one
  have same : ∀ u v, u < n' → v < n' → mk (S.map ed') u = mk (S.map ed') v := fun u v hu hv => by rw [conn u hu, conn v hv]
  -- no bundle lacks two ties
  have no2 : ∀ k, (hk : k < b.length) → ∀ i i', (hi : i < (b[k]).length) → (hi' : i' < (b[k]).length) → i < i' → (b[k])[i] ∉ S → (b[k])[i'] ∉ S → False := fun k hk i i' hi hi' hii h1 h2 => by
    have gp : ∀ k' j, (hk' : k' < b.length) → j ≤ (b[k']).length → ((∃ u, i < u ∧ u ≤ i' ∧ c k' j = c k u) ↔ (k' = k ∧ i < j ∧ j ≤ i')) := fun k' j hk' hj => by
      constructor
      · rintro ⟨u, u1, u2, u3⟩
        have iu := D.inn k u hk (by omega) (by omega)
        have hj0 : 0 < j := Nat.pos_of_ne_zero fun z => by
          subst z; rw [D.c0 k' hk'] at u3; exact iu.1 u3.symm
        have hjs : j < (b[k']).length := Nat.lt_of_le_of_ne hj fun z => by
          subst z; rw [D.cs k' hk'] at u3; exact iu.2 u3.symm
        obtain ⟨a, d⟩ := D.inj k' j k u hk' hk hj0 hjs (by omega) (by omega) u3
        exact ⟨a, by omega, by omega⟩
      · rintro ⟨rfl, j1, j2⟩
        exact ⟨j, j1, j2, rfl⟩
    have key : (∃ u, i < u ∧ u ≤ i' ∧ X = c k u) = (∃ u, i < u ∧ u ≤ i' ∧ c k (i + 1) = c k u) := by
      refine mk_univ (g := fun v => (∃ u, i < u ∧ u ≤ i' ∧ v = c k u)) (es := S.map ed') (fun e he => ?_) (same X (c k (i + 1)) (by rw [← D.c0 k hk]; exact D.lt k 0 hk (Nat.zero_le _)) (D.lt k (i + 1) hk (by omega)))
      obtain ⟨t, ht, rfl⟩ := List.mem_map.mp he
      obtain ⟨k', hk', hj⟩ := R.has (sub_lt hS.sub ht)
      obtain ⟨j, hj', rfl⟩ := List.mem_iff_getElem.mp hj
      have n1 : k' = k → j ≠ i := fun a d => by subst a; subst d; exact h1 ht
      have n2 : k' = k → j ≠ i' := fun a d => by subst a; subst d; exact h2 ht
      have g1 := gp k' j hk' (by omega)
      have g2 := gp k' (j + 1) hk' (by omega)
      have : (∃ u, i < u ∧ u ≤ i' ∧ c k' j = c k u) = (∃ u, i < u ∧ u ≤ i' ∧ c k' (j + 1) = c k u) := by
        rw [propext g1, propext g2]
        refine propext ⟨fun ⟨a, d, e⟩ => ⟨a, by omega, ?_⟩, fun ⟨a, d, e⟩ => ⟨a, ?_, by omega⟩⟩
        · have := n2 a; omega
        · have := n1 a; omega
      rcases D.ends k' j hk' hj' with e | e <;> rw [e]
      · exact this
      · exact this.symm
    have f1 := (gp k 0 hk (Nat.zero_le _))
    rw [D.c0 k hk] at f1
    have f2 : (∃ u, i < u ∧ u ≤ i' ∧ c k (i + 1) = c k u) := ⟨i + 1, by omega, by omega, rfl⟩
    rw [← key] at f2
    have := (f1.mp f2).2.1
    omega
  -- at most one bundle has all its ties in S
  have mis : ∀ k k', (hk : k < b.length) → (hk' : k' < b.length) → (∀ t ∈ b[k], t ∈ S) → (∀ t ∈ b[k'], t ∈ S) → k = k' := fun k k' hk hk' h h' => Decidable.not_not.mp fun q => by
    have all : ∀ t, ∃ j, t < E → ∃ hj : j < b.length, t ∈ b[j] := fun t => by
      by_cases z : t < E
      · obtain ⟨j, hj, a⟩ := R.has z
        exact ⟨j, fun _ => ⟨hj, a⟩⟩
      · exact ⟨0, fun y => absurd y z⟩
    obtain ⟨g, hg⟩ := Classical.axiomOfChoice all
    have nd : ((compl E S).map g).Nodup := by
      refine List.pairwise_map.mpr (List.Pairwise.imp_of_mem (R := fun a b => a ≠ b) ?_ (sub_nd (compl_subs (E := E) (S := S))))
      intro x y hx hy hxy z
      obtain ⟨x1, x2⟩ := mem_compl.mp hx
      obtain ⟨y1, y2⟩ := mem_compl.mp hy
      obtain ⟨p1, p2⟩ := hg x x1
      obtain ⟨r1, r2⟩ := hg y y1
      have r2' : y ∈ b[g x] := by
        have : b[g y] = b[g x] := by congr 1; exact z.symm
        rw [← this]; exact r2
      obtain ⟨i, hi, ei⟩ := List.mem_iff_getElem.mp p2
      obtain ⟨j, hj, ej⟩ := List.mem_iff_getElem.mp r2'
      rcases Nat.lt_trichotomy i j with w | w | w
      · exact no2 _ p1 i j hi hj w (by rw [ei]; exact x2) (by rw [ej]; exact y2)
      · subst w; exact hxy (ei.symm.trans ej)
      · exact no2 _ p1 j i hj hi w (by rw [ej]; exact y2) (by rw [ei]; exact x2)
    have ms : ∀ t ∈ (compl E S).map g, t ∈ ((List.range n).erase k).erase k' := fun j hj => by
      obtain ⟨t, ht, rfl⟩ := List.mem_map.mp hj
      obtain ⟨t1, t2⟩ := mem_compl.mp ht
      obtain ⟨p1, p2⟩ := hg t t1
      refine (List.mem_erase_of_ne ?_).mpr ((List.mem_erase_of_ne ?_).mpr (List.mem_range.mpr (by omega)))
      · intro z
        have : b[g t] = b[k'] := by congr 1
        exact t2 (h' t (this ▸ p2))
      · intro z
        have : b[g t] = b[k] := by congr 1
        exact t2 (h t (this ▸ p2))
    have le := List.Nodup.length_le_of_subset nd ms
    rw [List.length_map, List.length_erase_of_mem ((List.mem_erase_of_ne (Ne.symm q)).mpr (List.mem_range.mpr (by omega))), List.length_erase_of_mem (List.mem_range.mpr (by omega)), List.length_range] at le
    omega
  have hit : ∀ k, (hk : k < b.length) → ¬ (∀ t ∈ b[k], t ∈ S) → ∃ t ∈ b[k], t ∈ compl E S := fun k hk q => by
    refine Classical.byContradiction fun z => q fun t ht => Decidable.not_not.mp fun y => z ⟨t, ht, mem_compl.mpr ⟨R.lt hk ht, y⟩⟩
  by_cases q : ∃ m, ∃ hm : m < b.length, ∀ t ∈ b[m], t ∈ S
  · obtain ⟨m, hm, h⟩ := q
    exact R.connected m fun k hk hkm => hit k hk fun z => hkm (mis k m hk hm z h)
  · exact R.connected n fun k hk _ => hit k hk fun z => q ⟨k, hk, z⟩
/-- the counts -/
theorem Dual.count (D : Dual n E b n' ed' c X Y) (R : Ring n E ed b) : NT n' ed' E [] [] = NT n ed E [] [] := by
  unfold NT
  refine Nat.le_antisymm ?_ ?_
  · refine cnt_le (compl E) (subs_nd (range_nd E)) (fun S hS ⟨a, _, _⟩ => ⟨compl_subs, D.back R a, by simp, by simp⟩) fun S hS S' hS' _ _ q => ?_
    rw [← compl_compl hS, q, compl_compl hS']
  · refine cnt_le (compl E) (subs_nd (range_nd E)) (fun S hS ⟨a, _, _⟩ => ⟨compl_subs, D.tree R a, by simp, by simp⟩) fun S hS S' hS' _ _ q => ?_
    rw [← compl_compl hS, q, compl_compl hS']
theorem Dual.count1 (D : Dual n E b n' ed' c X Y) (R : Ring n E ed b) {t : Nat} (ht : t < E) : NT n' ed' E [t] [] = NT n ed E [] [t] := by
  unfold NT
  refine Nat.le_antisymm ?_ ?_
  · refine cnt_le (compl E) (subs_nd (range_nd E)) (fun S hS ⟨a, z, _⟩ => ⟨compl_subs, D.back R a, by simp, fun u hu q => ?_⟩) fun S hS S' hS' _ _ q => ?_
    · exact (mem_compl.mp q).2 (z u hu)
    · rw [← compl_compl hS, q, compl_compl hS']
  · refine cnt_le (compl E) (subs_nd (range_nd E)) (fun S hS ⟨a, _, z⟩ => ⟨compl_subs, D.tree R a, fun u hu => ?_, by simp⟩) fun S hS S' hS' _ _ q => ?_
    · exact mem_compl.mpr ⟨by simp at hu; omega, z u hu⟩
    · rw [← compl_compl hS, q, compl_compl hS']
theorem NT_one (n E : Nat) (ed : Nat → Nat × Nat) (t : Nat) : NT n ed E [] [] = NT n ed E [t] [] + NT n ed E [] [t] := by
  unfold NT
  rw [cnt_split _ _ (fun S => t ∈ S)]
  congr 1
  · exact cnt_congr fun S _ => ⟨fun ⟨⟨a, _, _⟩, z⟩ => ⟨a, by simpa using z, by simp⟩, fun ⟨a, z, _⟩ => ⟨⟨a, by simp, by simp⟩, z t (by simp)⟩⟩
  · exact cnt_congr fun S _ => ⟨fun ⟨⟨a, _, _⟩, z⟩ => ⟨a, by simp, by simpa using z⟩, fun ⟨a, _, z⟩ => ⟨⟨a, by simp, by simp⟩, z t (by simp)⟩⟩
theorem Dual.shares (D : Dual n E b n' ed' c X Y) (R : Ring n E ed b) {t : Nat} (ht : t < E) : NT n ed E [t] [] + NT n' ed' E [t] [] = NT n ed E [] [] := by
  rw [D.count1 R ht, ← NT_one]
end
end
/-- a joined web has a tree -/
theorem tau_pos {n : Nat} : ∀ {es : List (Nat × Nat)} {m : Nat → Nat}, Inv m → pc n (mks m es) = 1 → 0 < tau n m es
  | [], m, _, h => by
    have h : pc n m = 1 := h
    simp [tau, h]
  | e :: es, m, hm, h => by
    simp only [tau]
    by_cases q : m e.1 = m e.2
    · have := tau_pos (es := es) hm (by rw [mks_cons, mkS_same q] at h; exact h)
      omega
    · have := tau_pos (es := es) (hm.step e) h
      rw [if_neg q]; omega
end MT
namespace MT
def idx (n : Nat) (m : Nat → Nat) (v : Nat) : Nat := (reps n m).idxOf (m v)
theorem idx_lt {n : Nat} {m : Nat → Nat} (h : Inv m) {v : Nat} (hv : v < n) : idx n m v < pc n m := List.idxOf_lt_length_of_mem (h.mem hv)
theorem idx_get {n : Nat} {m : Nat → Nat} (h : Inv m) {v : Nat} (hv : v < n) : (reps n m)[idx n m v]? = some (m v) := by
  have q := idx_lt h hv
  unfold idx at *
  unfold pc at q
  rw [List.getElem?_eq_getElem q, List.getElem_idxOf]
theorem idx_inj {n : Nat} {m : Nat → Nat} (h : Inv m) {u v : Nat} (hu : u < n) (hv : v < n) : idx n m u = idx n m v ↔ m u = m v := by
  constructor
  · intro q
    have a := idx_get h hu
    rw [q, idx_get h hv] at a
    exact (Option.some.inj a).symm
  · intro q; unfold idx; rw [q]
theorem tauf_map (g : Nat → Nat) : ∀ (l : List (Nat × Nat)) (cls : List Nat) (f : Nat → Nat), tauf cls f (l.map fun e => (g e.1, g e.2)) = tauf cls (fun x => f (g x)) l
  | [], _, _ => rfl
  | e :: l, cls, f => by
    simp only [List.map_cons, tauf]
    rw [tauf_map g l cls f, tauf_map g l]
    rfl
theorem tauf_id {n : Nat} {es : List (Nat × Nat)} (h : InN n es) : tauf (List.range n) id es = tau n id es := by
  have e : reps n id = List.range n := by
    unfold reps
    exact List.filter_eq_self.mpr fun v _ => by simp
  rw [← e]
  exact tauf_tau inv_id h
/-- the ties of the pieces -/
def pcs (n E : Nat) (ed : Nat → Nat × Nat) (K X : List Nat) : List (Nat × Nat) := (free E X).map fun t => (idx n (mk (K.map ed)) (ed t).1, idx n (mk (K.map ed)) (ed t).2)
theorem pcs_in {n E : Nat} {ed : Nat → Nat × Nat} (he : ∀ t, t < E → (ed t).1 < n ∧ (ed t).2 < n) (K X : List Nat) : InN (pc n (mk (K.map ed))) (pcs n E ed K X) := fun e h => by
  obtain ⟨t, ht, rfl⟩ := List.mem_map.mp h
  obtain ⟨a, b⟩ := he t (mem_free.mp ht).1
  exact ⟨idx_lt (mk_inv _) a, idx_lt (mk_inv _) b⟩
theorem pcs_NT {n E : Nat} {ed : Nat → Nat × Nat} (he : ∀ t, t < E → (ed t).1 < n ∧ (ed t).2 < n) {K X : List Nat} (hK : K ∈ subs (List.range E)) (hd : ∀ t ∈ K, t ∉ X) (hf : K.length + pc n (mk (K.map ed)) = n) :
    tau (pc n (mk (K.map ed))) id (pcs n E ed K X) = NT n ed E K X := by
  rw [← tau_NT he hK hd hf, ← tauf_id (pcs_in he K X)]
  have hin : InN n ((free E X).map ed) := innm he fun t ht => (mem_free.mp ht).1
  rw [← tauf_tau (mk_inv _) hin]
  have e : pcs n E ed K X = ((free E X).map ed).map fun e => (idx n (mk (K.map ed)) e.1, idx n (mk (K.map ed)) e.2) := by
    unfold pcs; rw [List.map_map]; rfl
  rw [e, tauf_map]
  refine tauf_ker (fun v => v < n) _ _ _ _ _ (by simp [pc]) List.nodup_range (reps_nd _ _) (fun e h => ?_) (fun e h => ?_) (fun e h => hin e h) (fun u v hu hv => idx_inj (mk_inv _) hu hv)
  · obtain ⟨a, b⟩ := hin e h
    exact ⟨List.mem_range.mpr (idx_lt (mk_inv _) a), List.mem_range.mpr (idx_lt (mk_inv _) b)⟩
  · obtain ⟨a, b⟩ := hin e h
    exact ⟨(mk_inv _).mem a, (mk_inv _).mem b⟩
theorem pcs_len {n E : Nat} {ed : Nat → Nat × Nat} {K X : List Nat} : (pcs n E ed K X).length ≤ E := by
  unfold pcs free
  rw [List.length_map]
  have := List.length_filter_le (fun t => decide (t ∉ X)) (List.range E)
  rwa [List.length_range] at this
end MT
namespace MT
instance sepDec (ed : Nat → Nat × Nat) (S : List Nat) (t : Nat) : Decidable (sep ed S t) := by unfold sep; exact inferInstance
theorem sep_idx {n E : Nat} {ed : Nat → Nat × Nat} (he : Edge n E ed) {K : List Nat} {t : Nat} (ht : t < E) : sep ed K t ↔ idx n (mk (K.map ed)) (ed t).1 ≠ idx n (mk (K.map ed)) (ed t).2 := by
  obtain ⟨a, b⟩ := he t ht
  unfold sep
  rw [ne_eq, ne_eq, idx_inj (mk_inv _) a b]
theorem twin_idx {n E : Nat} {ed : Nat → Nat × Nat} (he : Edge n E ed) {K : List Nat} {t e : Nat} (ht : t < E) (hE : e < E) : Twin ed K t e ↔
    (min (idx n (mk (K.map ed)) (ed t).1) (idx n (mk (K.map ed)) (ed t).2) = min (idx n (mk (K.map ed)) (ed e).1) (idx n (mk (K.map ed)) (ed e).2) ∧
     max (idx n (mk (K.map ed)) (ed t).1) (idx n (mk (K.map ed)) (ed t).2) = max (idx n (mk (K.map ed)) (ed e).1) (idx n (mk (K.map ed)) (ed e).2)) := by
  obtain ⟨a, b⟩ := he t ht
  obtain ⟨c, d⟩ := he e hE
  unfold Twin
  rw [← idx_inj (mk_inv _) a c, ← idx_inj (mk_inv _) b d, ← idx_inj (mk_inv _) a d, ← idx_inj (mk_inv _) b c]
  omega
/-- the open ties in ascending order -/
def opens (E : Nat) (ed : Nat → Nat × Nat) (K X B : List Nat) : List Nat := (List.range E).filter (fun t => decide (t ∉ K ∧ t ∉ X ∧ t ∉ B ∧ sep ed K t))
theorem mem_opens {E : Nat} {ed : Nat → Nat × Nat} {K X B : List Nat} {t : Nat} : t ∈ opens E ed K X B ↔ Open ed E K X B t := by
  unfold opens Open
  rw [List.mem_filter, List.mem_range, decide_eq_true_eq]
theorem map_ed {es : List (Nat × Nat)} : (List.range es.length).map (fun t => es.getD t (0, 0)) = es := by
  refine List.ext_getElem? fun i => ?_
  rw [List.getElem?_map]
  by_cases h : i < es.length
  · rw [List.getElem?_range h, List.getElem?_eq_getElem h]
    simp [List.getD_eq_getElem?_getD, h]
  · rw [List.getElem?_eq_none (by simp; omega), List.getElem?_eq_none (by omega)]; rfl
theorem free_nil (E : Nat) : free E [] = List.range E := List.filter_eq_self.mpr fun _ _ => by simp
theorem tau_all {n E : Nat} {ed : Nat → Nat × Nat} (he : Edge n E ed) : tau n id ((List.range E).map ed) = NT n ed E [] [] := by
  have h := tau_NT he (kept := []) (shut := []) (mem_subs.mpr (List.nil_sublist _)) (fun t h => by cases h) (by
    show 0 + pc n id = n
    rw [pc_id, Nat.zero_add])
  rw [free_nil] at h
  exact h
/-- two trees: a tie beside the first that is no loop -/
theorem two_open {n E : Nat} {ed : Nat → Nat × Nat} (he : Edge n E ed) {B : List Nat} (hB : Tree n ed E B) (h : 2 ≤ NT n ed E [] []) : ∃ t, t < E ∧ t ∉ B ∧ (ed t).1 ≠ (ed t).2 := by
  refine Classical.byContradiction fun q => ?_
  have : NT n ed E [] [] ≤ [B].length := cnt_len (subs_nd (range_nd E)) fun T _ ⟨hT, _, _⟩ => by
    rw [List.mem_singleton]
    refine tree_eq hB hT fun t ht => Decidable.not_not.mp fun z => q ⟨t, sub_lt hT.sub ht, z, fun y => ?_⟩
    exact tree_sep he hT ht (by rw [y])
  simp at this
  omega
theorem part_first {n E : Nat} {ed : Nat → Nat × Nat} {B : List Nat} (hB : Tree n ed E B) {e : Nat} (h1 : e < E) (h2 : e ∉ B) (h3 : (ed e).1 ≠ (ed e).2) : PartOk n ed E [] [] B e :=
  ⟨mem_subs.mpr (List.nil_sublist _), mem_subs.mpr (List.nil_sublist _), fun t h => absurd h List.not_mem_nil, hB, fun t h => absurd h List.not_mem_nil, fun t _ h => List.not_mem_nil h, h1, h2, fun h => (List.not_mem_nil h), h3⟩
end MT
namespace MT
theorem xor_one (d : Nat) : d ^^^ 1 = if d % 2 = 0 then d + 1 else d - 1 := by
  have h1 : (d ^^^ 1) / 2 = d / 2 := by rw [Nat.xor_div_two]; simp
  have h2 : (d ^^^ 1) % 2 = (d % 2) ^^^ 1 := Nat.xor_mod_two_pow (n := 1)
  rcases Nat.mod_two_eq_zero_or_one d with h | h
  · rw [h] at h2
    have h2 : (d ^^^ 1) % 2 = 1 := h2
    rw [if_pos h]; omega
  · rw [h] at h2
    have h2 : (d ^^^ 1) % 2 = 0 := h2
    rw [if_neg (by omega)]; omega
/-- bundles in a ring, each tie turned or not -/
structure Rb (n E : Nat) (b : List (List Nat)) (fl : Nat → Nat) : Prop where
  intro ::
  n3 : 3 ≤ n
  bl : b.length = n
  perm : b.flatten.Perm (List.range E)
  ne : ∀ l ∈ b, l ≠ []
  l4 : ∀ l ∈ b, l.length ≤ 4
  f2 : ∀ t, fl t < 2
/-- tie j of bundle k; how many bundle k has -/
def tk (b : List (List Nat)) (k j : Nat) : Nat := (b.getD k []).getD j 0
def sz (b : List (List Nat)) (k : Nat) : Nat := (b.getD k []).length
def bi (b : List (List Nat)) (t : Nat) : Nat := b.findIdx (fun l => decide (t ∈ l))
def ti (b : List (List Nat)) (t : Nat) : Nat := (b.getD (bi b t) []).idxOf t
section
variable {n E : Nat} {b : List (List Nat)} {fl : Nat → Nat}
theorem getD_b {k : Nat} (hk : k < b.length) : b.getD k [] = b[k] := by simp [List.getD_eq_getElem?_getD, hk]
theorem tk_get {k j : Nat} (hk : k < b.length) (hj : j < (b[k]).length) : tk b k j = (b[k])[j] := by
  unfold tk; rw [getD_b hk]; simp [List.getD_eq_getElem?_getD, hj]
theorem sz_get {k : Nat} (hk : k < b.length) : sz b k = (b[k]).length := by unfold sz; rw [getD_b hk]
theorem Rb.nd (R : Rb n E b fl) : b.flatten.Nodup := R.perm.nodup_iff.mpr (range_nd E)
theorem Rb.szp (R : Rb n E b fl) {k : Nat} (hk : k < n) : 0 < sz b k ∧ sz b k ≤ 4 := by
  have hk' : k < b.length := by rw [R.bl]; exact hk
  rw [sz_get hk']
  exact ⟨List.length_pos_iff.mpr (R.ne _ (List.getElem_mem hk')), R.l4 _ (List.getElem_mem hk')⟩
theorem Rb.tk_lt (R : Rb n E b fl) {k j : Nat} (hk : k < n) (hj : j < sz b k) : tk b k j < E := by
  have hk' : k < b.length := by rw [R.bl]; exact hk
  rw [sz_get hk'] at hj
  rw [tk_get hk' hj]
  exact List.mem_range.mp (R.perm.mem_iff.mp (List.mem_flatten.mpr ⟨_, List.getElem_mem hk', List.getElem_mem hj⟩))
theorem Rb.pos (R : Rb n E b fl) {k j : Nat} (hk : k < n) (hj : j < sz b k) : bi b (tk b k j) = k ∧ ti b (tk b k j) = j := by
  have hk' : k < b.length := by rw [R.bl]; exact hk
  rw [sz_get hk'] at hj
  rw [tk_get hk' hj]
  have h1 : bi b ((b[k])[j]) = k := by
    have ex : ∃ x ∈ b, decide ((b[k])[j] ∈ x) = true := ⟨_, List.getElem_mem hk', by simp⟩
    have lt := List.findIdx_lt_length_of_exists ex
    have h := List.findIdx_getElem (w := lt)
    exact flat_one R.nd lt hk' (of_decide_eq_true h) (List.getElem_mem hj)
  refine ⟨h1, ?_⟩
  unfold ti
  rw [h1, getD_b hk']
  have lt := List.idxOf_lt_length_of_mem (List.getElem_mem hj)
  exact nd_inj (flat_nd R.nd hk') lt hj (List.getElem_idxOf lt)
theorem Rb.cover (R : Rb n E b fl) {t : Nat} (ht : t < E) : ∃ k j, k < n ∧ j < sz b k ∧ t = tk b k j := by
  obtain ⟨l, hl, h⟩ := List.mem_flatten.mp (R.perm.mem_iff.mpr (List.mem_range.mpr ht))
  obtain ⟨k, hk, rfl⟩ := List.mem_iff_getElem.mp hl
  obtain ⟨j, hj, rfl⟩ := List.mem_iff_getElem.mp h
  exact ⟨k, j, by rw [← R.bl]; exact hk, by rw [sz_get hk]; exact hj, (tk_get hk hj).symm⟩
/-- the darts of a tie: onward, backward -/
def on (fl : Nat → Nat) (t : Nat) : Nat := 2 * t + fl t
def bk (fl : Nat → Nat) (t : Nat) : Nat := 2 * t + 1 - fl t
theorem on_d (R : Rb n E b fl) (t : Nat) : on fl t / 2 = t ∧ on fl t % 2 = fl t := by
  have := R.f2 t; unfold on; omega
theorem bk_d (R : Rb n E b fl) (t : Nat) : bk fl t / 2 = t ∧ bk fl t % 2 = 1 - fl t := by
  have := R.f2 t; unfold bk; omega
theorem on_flip (R : Rb n E b fl) (t : Nat) : on fl t ^^^ 1 = bk fl t ∧ bk fl t ^^^ 1 = on fl t := by
  have := R.f2 t
  rw [xor_one, xor_one]
  unfold on bk
  constructor <;> split <;> omega
/-- the mark of a dart's round -/
def C (b : List (List Nat)) (k i : Nat) : Nat := if i = 0 then 0 else if i = sz b k then 1 else 2 + 5 * k + i
def lab (b : List (List Nat)) (fl : Nat → Nat) (d : Nat) : Nat := C b (bi b (d / 2)) (if d % 2 = fl (d / 2) then ti b (d / 2) else ti b (d / 2) + 1)
/-- the dart behind a dart in its round -/
def nx (n : Nat) (b : List (List Nat)) (fl : Nat → Nat) (d : Nat) : Nat :=
  if d % 2 = fl (d / 2) then (if ti b (d / 2) = 0 then on fl (tk b ((bi b (d / 2) + 1) % n) 0) else bk fl (tk b (bi b (d / 2)) (ti b (d / 2) - 1)))
  else if ti b (d / 2) + 1 < sz b (bi b (d / 2)) then on fl (tk b (bi b (d / 2)) (ti b (d / 2) + 1)) else bk fl (tk b ((bi b (d / 2) + (n - 1)) % n) (sz b ((bi b (d / 2) + (n - 1)) % n) - 1))
theorem Rb.lab_on (R : Rb n E b fl) {k j : Nat} (hk : k < n) (hj : j < sz b k) : lab b fl (on fl (tk b k j)) = C b k j := by
  obtain ⟨h1, h2⟩ := on_d R (tk b k j)
  obtain ⟨p1, p2⟩ := R.pos hk hj
  unfold lab
  rw [h1, h2, if_pos rfl, p1, p2]
theorem Rb.lab_bk (R : Rb n E b fl) {k j : Nat} (hk : k < n) (hj : j < sz b k) : lab b fl (bk fl (tk b k j)) = C b k (j + 1) := by
  obtain ⟨h1, h2⟩ := bk_d R (tk b k j)
  obtain ⟨p1, p2⟩ := R.pos hk hj
  unfold lab
  have := R.f2 (tk b k j)
  rw [h1, h2, if_neg (by omega), p1, p2]
theorem Rb.nx_on (R : Rb n E b fl) {k j : Nat} (hk : k < n) (hj : j < sz b k) : nx n b fl (on fl (tk b k j)) = if j = 0 then on fl (tk b ((k + 1) % n) 0) else bk fl (tk b k (j - 1)) := by
  obtain ⟨h1, h2⟩ := on_d R (tk b k j)
  obtain ⟨p1, p2⟩ := R.pos hk hj
  unfold nx
  rw [h1, h2, if_pos rfl, p1, p2]
theorem Rb.nx_bk (R : Rb n E b fl) {k j : Nat} (hk : k < n) (hj : j < sz b k) : nx n b fl (bk fl (tk b k j)) = if j + 1 < sz b k then on fl (tk b k (j + 1)) else bk fl (tk b ((k + (n - 1)) % n) (sz b ((k + (n - 1)) % n) - 1)) := by
  obtain ⟨h1, h2⟩ := bk_d R (tk b k j)
  obtain ⟨p1, p2⟩ := R.pos hk hj
  unfold nx
  have := R.f2 (tk b k j)
  rw [h1, h2, if_neg (by omega), p1, p2]
theorem Rb.dart (R : Rb n E b fl) {d : Nat} (hd : d < 2 * E) : ∃ k j, k < n ∧ j < sz b k ∧ (d = on fl (tk b k j) ∨ d = bk fl (tk b k j)) := by
  obtain ⟨k, j, hk, hj, e⟩ := R.cover (t := d / 2) (by omega)
  refine ⟨k, j, hk, hj, ?_⟩
  have := R.f2 (tk b k j)
  unfold on bk
  omega
theorem Rb.on_lt (R : Rb n E b fl) {k j : Nat} (hk : k < n) (hj : j < sz b k) : on fl (tk b k j) < 2 * E ∧ bk fl (tk b k j) < 2 * E := by
  have := R.tk_lt hk hj
  have := R.f2 (tk b k j)
  unfold on bk
  omega
theorem C_zero (b : List (List Nat)) (k : Nat) : C b k 0 = 0 := if_pos rfl
theorem C_last {k : Nat} (h : 0 < sz b k) : C b k (sz b k) = 1 := by unfold C; rw [if_neg (by omega), if_pos rfl]
theorem C_in {k i : Nat} (h0 : 0 < i) (h : i < sz b k) : C b k i = 2 + 5 * k + i := by unfold C; rw [if_neg (by omega), if_neg (by omega)]
theorem Rb.nx_lab (R : Rb n E b fl) {d : Nat} (hd : d < 2 * E) : nx n b fl d < 2 * E ∧ lab b fl (nx n b fl d) = lab b fl d := by
  have hn := R.n3
  obtain ⟨k, j, hk, hj, e | e⟩ := R.dart hd
  · rw [e, R.nx_on hk hj, R.lab_on hk hj]
    have hk1 : (k + 1) % n < n := Nat.mod_lt _ (by omega)
    split
    · rename_i h
      have := (R.szp hk1).1
      rw [R.lab_on hk1 this, h, C_zero, C_zero]
      exact ⟨(R.on_lt hk1 this).1, rfl⟩
    · rw [R.lab_bk hk (by omega), show j - 1 + 1 = j by omega]
      exact ⟨(R.on_lt hk (by omega)).2, rfl⟩
  · rw [e, R.nx_bk hk hj, R.lab_bk hk hj]
    have hk1 : (k + (n - 1)) % n < n := Nat.mod_lt _ (by omega)
    split
    · rename_i h
      rw [R.lab_on hk h]
      exact ⟨(R.on_lt hk h).1, rfl⟩
    · have h1 := R.szp hk1
      have h2 := R.szp hk
      rw [R.lab_bk hk1 (by omega), show sz b ((k + (n - 1)) % n) - 1 + 1 = sz b ((k + (n - 1)) % n) by omega, C_last h1.1, show j + 1 = sz b k by omega, C_last h2.1]
      exact ⟨(R.on_lt hk1 (by omega)).2, rfl⟩
/-- walking on -/
def itr (f : Nat → Nat) : Nat → Nat → Nat
  | 0, d => d
  | m + 1, d => f (itr f m d)
theorem Rb.walk_x (R : Rb n E b fl) {k : Nat} (hk : k < n) : ∀ m, itr (nx n b fl) m (on fl (tk b k 0)) = on fl (tk b ((k + m) % n) 0)
  | 0 => by rw [Nat.add_zero, Nat.mod_eq_of_lt hk]; rfl
  | m + 1 => by
    have hn := R.n3
    have hk1 : (k + m) % n < n := Nat.mod_lt _ (by omega)
    show nx n b fl (itr (nx n b fl) m _) = _
    rw [R.walk_x hk m, R.nx_on hk1 (R.szp hk1).1, if_pos rfl, Nat.mod_add_mod, Nat.add_assoc]
theorem Rb.walk_y (R : Rb n E b fl) {k : Nat} (hk : k < n) : ∀ m, itr (nx n b fl) m (bk fl (tk b k (sz b k - 1))) = bk fl (tk b ((k + (n - 1) * m) % n) (sz b ((k + (n - 1) * m) % n) - 1))
  | 0 => by rw [Nat.mul_zero, Nat.add_zero, Nat.mod_eq_of_lt hk]; rfl
  | m + 1 => by
    have hn := R.n3
    have hk1 : (k + (n - 1) * m) % n < n := Nat.mod_lt _ (by omega)
    show nx n b fl (itr (nx n b fl) m _) = _
    have h1 := R.szp hk1
    rw [R.walk_y hk m, R.nx_bk hk1 (by omega), if_neg (by omega), Nat.mod_add_mod, show k + (n - 1) * m + (n - 1) = k + (n - 1) * (m + 1) by rw [Nat.mul_succ, Nat.add_assoc]]
theorem C_cases (R : Rb n E b fl) {k i k' i' : Nat} (hk : k < n) (hi : i ≤ sz b k) (hk' : k' < n) (hi' : i' ≤ sz b k') (h : C b k i = C b k' i') : (i = 0 ∧ i' = 0) ∨ (i = sz b k ∧ i' = sz b k' ∧ 0 < i ∧ 0 < i') ∨ (k = k' ∧ i = i' ∧ 0 < i ∧ i < sz b k) := by
  have a1 := R.szp hk
  have a2 := R.szp hk'
  unfold C at h
  split at h
  · split at h
    · left; omega
    · split at h
      · omega
      · omega
  · split at h
    · split at h
      · omega
      · split at h
        · right; left; omega
        · omega
    · split at h
      · omega
      · split at h
        · omega
        · right; right
          have : k = k' := by omega
          subst this
          omega
theorem Rb.reach (R : Rb n E b fl) {d d' : Nat} (hd : d < 2 * E) (hd' : d' < 2 * E) (h : lab b fl d = lab b fl d') : ∃ m, itr (nx n b fl) m d = d' := by
  have hn := R.n3
  -- from the darts of a mark
  have key : ∀ (d d' k i k' i' : Nat), k < n → i ≤ sz b k → k' < n → i' ≤ sz b k' → ((i < sz b k ∧ d = on fl (tk b k i)) ∨ (0 < i ∧ d = bk fl (tk b k (i - 1)))) → ((i' < sz b k' ∧ d' = on fl (tk b k' i')) ∨ (0 < i' ∧ d' = bk fl (tk b k' (i' - 1)))) → C b k i = C b k' i' → ∃ m, itr (nx n b fl) m d = d' := by
    intro d d' k i k' i' hk hi hk' hi' h1 h2 hc
    rcases C_cases R hk hi hk' hi' hc with ⟨a, a'⟩ | ⟨a, a', z, z'⟩ | ⟨a, a', z, z'⟩
    · subst a; subst a'
      have e1 : d = on fl (tk b k 0) := h1.elim (·.2) (fun y => by omega)
      have e2 : d' = on fl (tk b k' 0) := h2.elim (·.2) (fun y => by omega)
      refine ⟨k' + n - k, ?_⟩
      rw [e1, e2, R.walk_x hk, show k + (k' + n - k) = k' + n by omega, Nat.add_mod_right, Nat.mod_eq_of_lt hk']
    · have e1 : d = bk fl (tk b k (sz b k - 1)) := h1.elim (fun y => by omega) (fun y => by rw [y.2, a])
      have e2 : d' = bk fl (tk b k' (sz b k' - 1)) := h2.elim (fun y => by omega) (fun y => by rw [y.2, a'])
      refine ⟨k + n - k', ?_⟩
      have e3 : (k + (n - 1) * (k + n - k')) % n = k' := by
        obtain ⟨q, hq⟩ : ∃ q, k + n - k' = q + 1 := ⟨k + n - k' - 1, by omega⟩
        obtain ⟨n', hn'⟩ : ∃ n', n = n' + 1 := ⟨n - 1, by omega⟩
        have : k + (n - 1) * (q + 1) = k' + n * q := by
          rw [hn'] at hq ⊢
          rw [show n' + 1 - 1 = n' by omega, Nat.mul_succ, Nat.succ_mul]
          omega
        rw [hq, this, Nat.add_mul_mod_self_left, Nat.mod_eq_of_lt hk']
      rw [e1, e2, R.walk_y hk, e3]
    · subst a; subst a'
      rcases h1 with ⟨_, e1⟩ | ⟨_, e1⟩ <;> rcases h2 with ⟨_, e2⟩ | ⟨_, e2⟩
      · exact ⟨0, by rw [e1, e2]; rfl⟩
      · refine ⟨1, ?_⟩
        show nx n b fl d = d'
        rw [e1, e2, R.nx_on hk z', if_neg (by omega)]
      · refine ⟨1, ?_⟩
        show nx n b fl d = d'
        rw [e1, e2, R.nx_bk hk (by omega), if_pos (by omega), show i - 1 + 1 = i by omega]
      · exact ⟨0, by rw [e1, e2]; rfl⟩
  obtain ⟨k, j, hk, hj, e⟩ := R.dart hd
  obtain ⟨k', j', hk', hj', e'⟩ := R.dart hd'
  rcases e with e | e <;> rcases e' with e' | e'
  · rw [e, e', R.lab_on hk hj, R.lab_on hk' hj'] at h
    exact key d d' k j k' j' hk (by omega) hk' (by omega) (.inl ⟨hj, e⟩) (.inl ⟨hj', e'⟩) h
  · rw [e, e', R.lab_on hk hj, R.lab_bk hk' hj'] at h
    exact key d d' k j k' (j' + 1) hk (by omega) hk' (by omega) (.inl ⟨hj, e⟩) (.inr ⟨by omega, e'⟩) h
  · rw [e, e', R.lab_bk hk hj, R.lab_on hk' hj'] at h
    exact key d d' k (j + 1) k' j' hk (by omega) hk' (by omega) (.inr ⟨by omega, e⟩) (.inl ⟨hj', e'⟩) h
  · rw [e, e', R.lab_bk hk hj, R.lab_bk hk' hj'] at h
    exact key d d' k (j + 1) k' (j' + 1) hk (by omega) hk' (by omega) (.inr ⟨by omega, e⟩) (.inr ⟨by omega, e'⟩) h
end
end MT
namespace MT
theorem b_at {b : List (List Nat)} {k : Nat} (hk : k < b.length) {t : Nat} (h : t ∈ b[k]) : ∃ j, j < sz b k ∧ t = tk b k j := by
  obtain ⟨j, hj, rfl⟩ := List.mem_iff_getElem.mp h
  exact ⟨j, by rw [sz_get hk]; exact hj, (tk_get hk hj).symm⟩
theorem Rb.ring {n E : Nat} {b : List (List Nat)} {fl : Nat → Nat} (R : Rb n E b fl) {ed : Nat → Nat × Nat} (h : ∀ k j, k < n → j < sz b k → ed (tk b k j) = if fl (tk b k j) = 0 then (k, (k + 1) % n) else ((k + 1) % n, k)) : Ring n E ed b :=
  ⟨R.n3, R.bl, R.perm, R.ne, fun k hk t ht => by
    obtain ⟨j, hj, rfl⟩ := b_at hk ht
    rw [h k j (by rw [← R.bl]; exact hk) hj]
    split
    · exact .inl rfl
    · exact .inr rfl⟩
/-- rounds: lists of darts, one for each mark -/
structure Rnds (D : Nat) (lab : Nat → Nat) (rs : List (List Nat)) : Prop where
  ne : ∀ r ∈ rs, r ≠ []
  lt : ∀ r ∈ rs, ∀ d ∈ r, d < D
  cover : ∀ d, d < D → ∃ r ∈ rs, d ∈ r
  cls : ∀ (i i' : Nat) (r r' : List Nat) (d d' : Nat), rs[i]? = some r → rs[i']? = some r' → d ∈ r → d' ∈ r' → (i = i' ↔ lab d = lab d')
def rn (rs : List (List Nat)) (d : Nat) : Nat := rs.findIdx (fun r => decide (d ∈ r))
section
variable {D : Nat} {lab : Nat → Nat} {rs : List (List Nat)}
theorem Rnds.at (R : Rnds D lab rs) {d : Nat} (hd : d < D) : ∃ r, rs[rn rs d]? = some r ∧ d ∈ r := by
  obtain ⟨r, hr, h⟩ := R.cover d hd
  have lt : rn rs d < rs.length := List.findIdx_lt_length_of_exists ⟨r, hr, by simpa using h⟩
  have g := List.findIdx_getElem (p := fun r => decide (d ∈ r)) (xs := rs) (w := lt)
  exact ⟨rs[rn rs d], List.getElem?_eq_getElem lt, of_decide_eq_true g⟩
theorem Rnds.num_lt (R : Rnds D lab rs) {d : Nat} (hd : d < D) : rn rs d < rs.length := by
  obtain ⟨r, hr, _⟩ := R.at hd
  exact (List.getElem?_eq_some_iff.mp hr).1
theorem Rnds.eq (R : Rnds D lab rs) {d d' : Nat} (hd : d < D) (hd' : d' < D) : rn rs d = rn rs d' ↔ lab d = lab d' := by
  obtain ⟨r, hr, h⟩ := R.at hd
  obtain ⟨r', hr', h'⟩ := R.at hd'
  exact R.cls _ _ _ _ _ _ hr hr' h h'
theorem Rnds.is (R : Rnds D lab rs) {i : Nat} {r : List Nat} (hr : rs[i]? = some r) {d : Nat} (h : d ∈ r) : rn rs d = i := by
  have hd := R.lt r (List.mem_of_getElem? hr) d h
  obtain ⟨r', hr', h'⟩ := R.at hd
  exact (R.cls _ _ _ _ _ _ hr' hr h' h).mpr rfl
theorem Rnds.full (R : Rnds D lab rs) {v : Nat} (hv : v < rs.length) : ∃ d, d < D ∧ rn rs d = v := by
  have hm := List.getElem_mem hv
  obtain ⟨d, hd⟩ := List.exists_mem_of_ne_nil _ (R.ne _ hm)
  exact ⟨d, R.lt _ hm d hd, R.is (List.getElem?_eq_getElem hv) hd⟩
/-- as many rounds as marks -/
theorem Rnds.count (R : Rnds D lab rs) {L : List Nat} (nd : L.Nodup) (h1 : ∀ l ∈ L, ∃ d, d < D ∧ lab d = l) (h2 : ∀ d, d < D → lab d ∈ L) : rs.length = L.length := by
  have nd2 : (rs.map fun r => lab (r.headD 0)).Nodup := by
    rw [List.nodup_iff_pairwise_ne, List.pairwise_map, List.pairwise_iff_getElem]
    intro i j hi hj hij q
    have m1 : (rs[i]).headD 0 ∈ rs[i] := by
      have := R.ne _ (List.getElem_mem hi)
      cases e : rs[i] with
      | nil => exact absurd e this
      | cons x xs => simp
    have m2 : (rs[j]).headD 0 ∈ rs[j] := by
      have := R.ne _ (List.getElem_mem hj)
      cases e : rs[j] with
      | nil => exact absurd e this
      | cons x xs => simp
    have := (R.cls i j _ _ _ _ (List.getElem?_eq_getElem hi) (List.getElem?_eq_getElem hj) m1 m2).mpr q
    omega
  rw [← List.length_map (fun r => lab (r.headD 0))]
  refine List.Perm.length_eq ((List.perm_ext_iff_of_nodup nd2 nd).mpr fun l => ⟨fun h => ?_, fun h => ?_⟩)
  · obtain ⟨r, hr, rfl⟩ := List.mem_map.mp h
    have m1 : r.headD 0 ∈ r := by
      have := R.ne _ hr
      cases e : r with
      | nil => exact absurd e this
      | cons x xs => simp
    exact h2 _ (R.lt r hr _ m1)
  · obtain ⟨d, hd, rfl⟩ := h1 l h
    obtain ⟨r, hr, hm⟩ := R.at hd
    have m1 : r.headD 0 ∈ r := by
      have := R.ne _ (List.mem_of_getElem? hr)
      cases e : r with
      | nil => exact absurd e this
      | cons x xs => simp
    exact List.mem_map.mpr ⟨r, List.mem_of_getElem? hr, ((R.cls _ _ _ _ _ _ hr hr m1 hm).mp rfl)⟩
end
/-- the marks between ties of a bundle -/
def LBn (b : List (List Nat)) : Nat → List Nat
  | 0 => []
  | k + 1 => LBn b k ++ (List.range' 1 (sz b k - 1)).map (fun i => 2 + 5 * k + i)
def szs (b : List (List Nat)) : Nat → Nat
  | 0 => 0
  | k + 1 => szs b k + sz b k
theorem mem_LBn {b : List (List Nat)} {x : Nat} : ∀ {n : Nat}, x ∈ LBn b n ↔ ∃ k i, k < n ∧ 0 < i ∧ i < sz b k ∧ x = 2 + 5 * k + i
  | 0 => by simp [LBn]
  | n + 1 => by
    unfold LBn
    rw [List.mem_append, mem_LBn (n := n), List.mem_map]
    constructor
    · rintro (⟨k, i, a, c⟩ | ⟨i, hi, rfl⟩)
      · exact ⟨k, i, by omega, c⟩
      · rw [List.mem_range'_1] at hi
        exact ⟨n, i, by omega, by omega, by omega, rfl⟩
    · rintro ⟨k, i, a, c, d, e⟩
      by_cases q : k < n
      · exact .inl ⟨k, i, q, c, d, e⟩
      · have : k = n := by omega
        subst this
        exact .inr ⟨i, by rw [List.mem_range'_1]; omega, e.symm⟩
theorem LBn_nd {b : List (List Nat)} : ∀ {n : Nat}, (∀ k, k < n → sz b k ≤ 4) → (LBn b n).Nodup
  | 0, _ => List.nodup_nil
  | n + 1, h => by
    unfold LBn
    refine List.nodup_append.mpr ⟨LBn_nd fun k hk => h k (by omega), ?_, fun a ha c hc q => ?_⟩
    · rw [List.nodup_iff_pairwise_ne, List.pairwise_map]
      exact (List.pairwise_lt_range' (s := 1) (n := sz b n - 1)).imp fun {x y} (z : x < y) (w : 2 + 5 * n + x = 2 + 5 * n + y) => by omega
    · obtain ⟨k, i, a1, a2, a3, a4⟩ := mem_LBn.mp ha
      obtain ⟨i', hi', e⟩ := List.mem_map.mp hc
      rw [List.mem_range'_1] at hi'
      have := h k (by omega)
      omega
theorem LBn_len {b : List (List Nat)} : ∀ {n : Nat}, (∀ k, k < n → 0 < sz b k) → (LBn b n).length + n = szs b n
  | 0, _ => rfl
  | n + 1, h => by
    have := LBn_len (b := b) (n := n) fun k hk => h k (by omega)
    have := h n (by omega)
    unfold LBn szs
    rw [List.length_append, List.length_map, List.length_range']
    omega
theorem szs_take {b : List (List Nat)} : ∀ {k : Nat}, k ≤ b.length → szs b k = (b.take k).flatten.length
  | 0, _ => rfl
  | k + 1, h => by
    have hk : k < b.length := by omega
    unfold szs
    rw [szs_take (k := k) (by omega), List.take_add_one, List.getElem?_eq_getElem hk, List.flatten_append, List.length_append, sz_get hk]
    simp
theorem Rb.szs {n E : Nat} {b : List (List Nat)} {fl : Nat → Nat} (R : Rb n E b fl) : szs b n = E := by
  rw [← R.bl, szs_take (Nat.le_refl _), List.take_length, R.perm.length_eq, List.length_range]
section
variable {n E : Nat} {b : List (List Nat)} {fl : Nat → Nat} {rs : List (List Nat)}
theorem Rb.num (R : Rb n E b fl) (S : Rnds (2 * E) (lab b fl) rs) : rs.length + n = E + 2 := by
  have hn := R.n3
  have e := S.count (L := [0, 1] ++ LBn b n) ?_ ?_ ?_
  · rw [e, List.length_append]
    have := LBn_len (b := b) (n := n) fun k hk => (R.szp hk).1
    have := R.szs
    simp only [List.length_cons, List.length_nil]
    omega
  · refine List.nodup_append.mpr ⟨by decide, LBn_nd fun k hk => (R.szp hk).2, fun a ha c hc q => ?_⟩
    obtain ⟨k, i, a1, a2, a3, a4⟩ := mem_LBn.mp hc
    simp at ha
    omega
  · intro l hl
    rcases List.mem_append.mp hl with h | h
    · have h0 := R.szp (k := 0) (by omega)
      simp at h
      rcases h with h | h
      · exact ⟨_, (R.on_lt (k := 0) (j := 0) (by omega) h0.1).1, by rw [R.lab_on (by omega) h0.1, h, C_zero]⟩
      · refine ⟨_, (R.on_lt (k := 0) (j := sz b 0 - 1) (by omega) (by omega)).2, ?_⟩
        rw [R.lab_bk (by omega) (by omega), show sz b 0 - 1 + 1 = sz b 0 by omega, C_last h0.1, h]
    · obtain ⟨k, i, a1, a2, a3, a4⟩ := mem_LBn.mp h
      exact ⟨_, (R.on_lt a1 a3).1, by rw [R.lab_on a1 a3, C_in a2 a3, a4]⟩
  · intro d hd
    have key : ∀ k i, k < n → i ≤ sz b k → C b k i ∈ [0, 1] ++ LBn b n := fun k i hk hi => by
      rw [List.mem_append]
      unfold C
      split
      · left; simp
      · split
        · left; simp
        · right
          exact mem_LBn.mpr ⟨k, i, hk, by omega, by omega, rfl⟩
    obtain ⟨k, j, hk, hj, e | e⟩ := R.dart hd
    · rw [e, R.lab_on hk hj]; exact key k j hk (by omega)
    · rw [e, R.lab_bk hk hj]; exact key k (j + 1) hk (by omega)
/-- the place of the other web behind i ties of bundle k -/
def cc (b : List (List Nat)) (fl : Nat → Nat) (rs : List (List Nat)) (k i : Nat) : Nat := if i < sz b k then rn rs (on fl (tk b k i)) else rn rs (bk fl (tk b k (sz b k - 1)))
theorem cc_is (R : Rb n E b fl) {k i : Nat} (hk : k < n) (hi : i ≤ sz b k) : ∃ d, d < 2 * E ∧ lab b fl d = C b k i ∧ cc b fl rs k i = rn rs d := by
  have h0 := R.szp hk
  unfold cc
  split
  · rename_i h
    exact ⟨_, (R.on_lt hk h).1, R.lab_on hk h, rfl⟩
  · refine ⟨_, (R.on_lt (k := k) (j := sz b k - 1) hk (by omega)).2, ?_, rfl⟩
    rw [R.lab_bk hk (by omega), show sz b k - 1 + 1 = i by omega]
theorem cc_eq (R : Rb n E b fl) (S : Rnds (2 * E) (lab b fl) rs) {k i k' i' : Nat} (hk : k < n) (hi : i ≤ sz b k) (hk' : k' < n) (hi' : i' ≤ sz b k') : cc b fl rs k i = cc b fl rs k' i' ↔ C b k i = C b k' i' := by
  obtain ⟨d, d1, d2, d3⟩ := cc_is (rs := rs) R hk hi
  obtain ⟨e, e1, e2, e3⟩ := cc_is (rs := rs) R hk' hi'
  rw [d3, e3, S.eq d1 e1, d2, e2]
theorem cc_bk (R : Rb n E b fl) (S : Rnds (2 * E) (lab b fl) rs) {k j : Nat} (hk : k < n) (hj : j < sz b k) : rn rs (bk fl (tk b k j)) = cc b fl rs k (j + 1) := by
  obtain ⟨e, e1, e2, e3⟩ := cc_is (rs := rs) R hk (i := j + 1) (by omega)
  rw [e3, S.eq (R.on_lt hk hj).2 e1, e2, R.lab_bk hk hj]
theorem Rb.dual (R : Rb n E b fl) (S : Rnds (2 * E) (lab b fl) rs) {ed' : Nat → Nat × Nat} (h : ∀ t, t < E → ed' t = (rn rs (2 * t), rn rs (2 * t + 1))) :
    Dual n E b rs.length ed' (cc b fl rs) (cc b fl rs 0 0) (cc b fl rs 0 (sz b 0)) := by
  have hn := R.n3
  have up : ∀ {k : Nat}, k < b.length → k < n := fun h => by rw [← R.bl]; exact h
  have z0 := R.szp (k := 0) (by omega)
  refine ⟨fun k hk => ?_, fun k hk => ?_, fun q => ?_, fun k i hk h0 hi => ⟨fun q => ?_, fun q => ?_⟩, fun k i k' i' hk hk' h0 hi h0' hi' q => ?_, fun k i hk hi => ?_, fun v hv => ?_, fun k i hk hi => ?_, ?_⟩
  · exact (cc_eq R S (up hk) (Nat.zero_le _) (by omega) (Nat.zero_le _)).mpr (by rw [C_zero, C_zero])
  · rw [← sz_get hk]
    exact (cc_eq R S (up hk) (Nat.le_refl _) (by omega) (Nat.le_refl _)).mpr (by rw [C_last (R.szp (up hk)).1, C_last z0.1])
  · have := (cc_eq R S (by omega) (Nat.zero_le _) (by omega) (Nat.le_refl _)).mp q
    rw [C_zero, C_last z0.1] at this
    omega
  · rw [← sz_get hk] at hi
    have := (cc_eq R S (up hk) (by omega) (by omega) (Nat.zero_le _)).mp q
    rw [C_zero, C_in h0 hi] at this
    omega
  · rw [← sz_get hk] at hi
    have := (cc_eq R S (up hk) (by omega) (by omega) (Nat.le_refl _)).mp q
    rw [C_last z0.1, C_in h0 hi] at this
    omega
  · rw [← sz_get hk] at hi
    rw [← sz_get hk'] at hi'
    have := (cc_eq R S (up hk) (by omega) (up hk') (by omega)).mp q
    rcases C_cases R (up hk) (by omega) (up hk') (by omega) this with z | z | z
    · omega
    · omega
    · exact ⟨z.1, z.2.1⟩
  · rw [← sz_get hk] at hi
    obtain ⟨d, d1, d2, d3⟩ := cc_is (rs := rs) R (up hk) hi
    rw [d3]
    exact S.num_lt d1
  · obtain ⟨d, hd, e⟩ := S.full hv
    obtain ⟨k, j, hk, hj, q | q⟩ := R.dart hd
    · have hk' : k < b.length := by rw [R.bl]; exact hk
      refine ⟨k, j, hk', by rw [← sz_get hk']; omega, ?_⟩
      rw [← e, q]
      unfold cc
      rw [if_pos hj]
    · have hk' : k < b.length := by rw [R.bl]; exact hk
      refine ⟨k, j + 1, hk', by rw [← sz_get hk']; omega, ?_⟩
      rw [← e, q, cc_bk R S hk hj]
  · have hi' := hi
    rw [← sz_get hk] at hi'
    rw [← tk_get hk hi]
    have e1 : cc b fl rs k i = rn rs (on fl (tk b k i)) := by unfold cc; rw [if_pos hi']
    rw [h _ (R.tk_lt (up hk) hi'), e1, ← cc_bk R S (up hk) hi']
    have := R.f2 (tk b k i)
    unfold on bk
    by_cases q : fl (tk b k i) = 0
    · left; rw [q]; rfl
    · right
      have : fl (tk b k i) = 1 := by omega
      rw [this]; rfl
  · exact R.num S
/-- a tie that is no loop lies in a tree -/
theorem tree_with {n E : Nat} {ed : Nat → Nat × Nat} (he : Edge n E ed) (hn : 0 < n) {B : List Nat} (hB : Tree n ed E B) {e : Nat} (hE : e < E) (hl : (ed e).1 ≠ (ed e).2) : 0 < NT n ed E [e] [] := by
  by_cases q : e ∈ B
  · exact NT_pos hB (fun t ht => by rw [List.mem_singleton.mp ht]; exact q) (fun t _ => List.not_mem_nil)
  · obtain ⟨f, f1, f2, f3⟩ := ring_loose he hn hB (K := []) (fun t h => absurd h List.not_mem_nil) hE hl
    have hT := exch he hB f1 q hE f3
    refine NT_pos hT (fun t ht => ?_) (fun t _ => List.not_mem_nil)
    rw [List.mem_singleton.mp ht, mem_swp hB.sub hE]
    exact .inr rfl
/-- a tie of a tree, kept: as many pieces less -/
theorem one_free {n E : Nat} {ed : Nat → Nat × Nat} (he : Edge n E ed) {e : Nat} (hE : e < E) (h : 0 < NT n ed E [e] []) : [e].length + pc n (mk ([e].map ed)) = n := by
  have : ∃ T, T ∈ subs (List.range E) ∧ Tree n ed E T ∧ e ∈ T := by
    refine Classical.byContradiction fun q => ?_
    have z : NT n ed E [e] [] = 0 := cnt_false fun T hT ⟨a, c, _⟩ => q ⟨T, hT, a, c e (List.mem_singleton.mpr rfl)⟩
    omega
  obtain ⟨T, _, hT, hm⟩ := this
  refine tree_part he hT (K := [e]) (mem_subs.mpr ?_) (fun t ht => by rw [List.mem_singleton.mp ht]; exact hm)
  exact List.singleton_sublist.mpr (List.mem_range.mpr hE)
theorem Dual.noloop {n E : Nat} {b : List (List Nat)} {n' : Nat} {ed ed' : Nat → Nat × Nat} {c : Nat → Nat → Nat} {X Y : Nat} (D : Dual n E b n' ed' c X Y) (R : Ring n E ed b) {t : Nat} (ht : t < E) : (ed' t).1 ≠ (ed' t).2 := by
  obtain ⟨k, hk, h⟩ := R.has ht
  obtain ⟨i, hi, rfl⟩ := List.mem_iff_getElem.mp h
  have key : c k i ≠ c k (i + 1) := fun q => by
    by_cases z0 : i = 0
    · subst z0
      rw [D.c0 k hk] at q
      by_cases z1 : 0 + 1 = (b[k]).length
      · rw [z1, D.cs k hk] at q; exact D.xy q
      · exact (D.inn k (0 + 1) hk (by omega) (by omega)).1 q.symm
    · by_cases z1 : i + 1 = (b[k]).length
      · rw [z1, D.cs k hk] at q
        exact (D.inn k i hk (by omega) hi).2 q
      · have := D.inj k i k (i + 1) hk hk (by omega) hi (by omega) (by omega) q
        omega
  rcases D.ends k i hk hi with e | e <;> rw [e]
  · exact key
  · exact key.symm
theorem Ring.noloop {n E : Nat} {b : List (List Nat)} {ed : Nat → Nat × Nat} (R : Ring n E ed b) {t : Nat} (ht : t < E) : (ed t).1 ≠ (ed t).2 := by
  have hn := R.n3
  have hb := R.bl
  obtain ⟨k, hk, h⟩ := R.has ht
  have key : k ≠ (k + 1) % n := by rw [nmod (by omega : k < n)]; split <;> omega
  rcases R.ends k hk t h with e | e <;> rw [e]
  · exact key
  · exact key.symm
end
end MT
namespace MT
theorem itr_ok {f lab : Nat → Nat} {D : Nat} (h : ∀ d, d < D → f d < D ∧ lab (f d) = lab d) {d : Nat} (hd : d < D) : ∀ m, itr f m d < D ∧ lab (itr f m d) = lab d
  | 0 => ⟨hd, rfl⟩
  | m + 1 => by
    obtain ⟨a, b⟩ := itr_ok h hd m
    obtain ⟨c, e⟩ := h _ a
    exact ⟨c, e.trans b⟩
/-- the first darts of a walk -/
def orb (f : Nat → Nat) (d j : Nat) : List Nat := (List.range j).map fun i => itr f i d
theorem orb_snoc (f : Nat → Nat) (d j : Nat) : orb f d (j + 1) = orb f d j ++ [itr f j d] := by
  unfold orb; rw [List.range_succ, List.map_append]; rfl
theorem orb_len (f : Nat → Nat) (d j : Nat) : (orb f d j).length = j := by unfold orb; simp
/-- a walk that comes back has met the whole round -/
theorem orb_full {f lab : Nat → Nat} {D : Nat} (reach : ∀ d d', d < D → d' < D → lab d = lab d' → ∃ m, itr f m d = d') {d j : Nat} (hd : d < D) (hin : itr f j d ∈ orb f d j) {d' : Nat} (hd' : d' < D) (hl : lab d' = lab d) : d' ∈ orb f d j := by
  have h0 : 0 < j := by
    rcases Nat.eq_zero_or_pos j with z | z
    · subst z; simp [orb] at hin
    · exact z
  have all : ∀ m, itr f m d ∈ orb f d j := fun m => by
    induction m with
    | zero => exact List.mem_map.mpr ⟨0, List.mem_range.mpr h0, rfl⟩
    | succ m ih =>
      obtain ⟨i, hi, e⟩ := List.mem_map.mp ih
      have e1 : itr f (m + 1) d = itr f (i + 1) d := by show f (itr f m d) = f (itr f i d); rw [e]
      rw [e1]
      by_cases q : i + 1 < j
      · exact List.mem_map.mpr ⟨i + 1, List.mem_range.mpr q, rfl⟩
      · have : i + 1 = j := by have := List.mem_range.mp hi; omega
        rw [this]; exact hin
  obtain ⟨m, e⟩ := reach d d' hd hd' hl.symm
  rw [← e]; exact all m
theorem orb_short {f lab : Nat → Nat} {D : Nat} (h : ∀ d, d < D → f d < D ∧ lab (f d) = lab d) {d j : Nat} (hd : d < D) (nd : (orb f d j).Nodup) : j ≤ D := by
  have := List.Nodup.length_le_of_subset nd (l₂ := List.range D) fun x hx => by
    obtain ⟨i, _, e⟩ := List.mem_map.mp hx
    rw [← e]
    exact List.mem_range.mpr (itr_ok h hd i).1
  rwa [orb_len, List.length_range] at this
/-- rounds that are found up to a dart -/
structure Rin (D : Nat) (lab : Nat → Nat) (i : Nat) (rs : List (List Nat)) : Prop where
  ne : ∀ r ∈ rs, r ≠ []
  lt : ∀ r ∈ rs, ∀ d ∈ r, d < D
  met : ∀ d, d < i → ∃ r ∈ rs, d ∈ r
  full : ∀ r ∈ rs, ∀ d ∈ r, ∀ d', d' < D → lab d' = lab d → d' ∈ r
  one : ∀ r ∈ rs, ∀ d ∈ r, ∀ d' ∈ r, lab d = lab d'
  apart : ∀ (j k : Nat) (r r' : List Nat) (d d' : Nat), rs[j]? = some r → rs[k]? = some r' → d ∈ r → d' ∈ r' → lab d = lab d' → j = k
  len : rs.length ≤ i
theorem Rin.zero (D : Nat) (lab : Nat → Nat) : Rin D lab 0 [] := ⟨by simp, by simp, fun d h => by omega, by simp, by simp, fun j k r r' d d' h => by simp at h, by simp⟩
theorem Rin.skip {D : Nat} {lab : Nat → Nat} {i : Nat} {rs : List (List Nat)} (R : Rin D lab i rs) (h : ∃ r ∈ rs, i ∈ r) : Rin D lab (i + 1) rs :=
  ⟨R.ne, R.lt, fun d hd => by
    by_cases q : d < i
    · exact R.met d q
    · rw [show d = i by omega]; exact h, R.full, R.one, R.apart, by have := R.len; omega⟩
theorem Rin.add {D : Nat} {lab : Nat → Nat} {i : Nat} {rs : List (List Nat)} (R : Rin D lab i rs) (hi : i < D) (h : ¬ ∃ r ∈ rs, i ∈ r) {r : List Nat} (h1 : i ∈ r) (h2 : ∀ d ∈ r, d < D ∧ lab d = lab i) (h3 : ∀ d, d < D → lab d = lab i → d ∈ r) : Rin D lab (i + 1) (rs ++ [r]) := by
  have no : ∀ s ∈ rs, ∀ d ∈ s, lab d ≠ lab i := fun s hs d hd q => h ⟨s, hs, R.full s hs d hd i hi q.symm⟩
  have cs : ∀ (j : Nat) (s : List Nat), (rs ++ [r])[j]? = some s → (rs[j]? = some s ∧ s ∈ rs) ∨ (j = rs.length ∧ s = r) := fun j s hs => by
    by_cases q : j < rs.length
    · rw [List.getElem?_append_left q] at hs
      exact .inl ⟨hs, List.mem_of_getElem? hs⟩
    · rw [List.getElem?_append_right (by omega)] at hs
      have h0 : j - rs.length = 0 := by
        obtain ⟨z1, _⟩ := List.getElem?_eq_some_iff.mp hs
        simp at z1; omega
      rw [h0] at hs
      exact .inr ⟨by omega, by simpa using hs.symm⟩
  refine ⟨fun s hs => ?_, fun s hs => ?_, fun d hd => ?_, fun s hs => ?_, fun s hs => ?_, fun j k s s' d d' hj hk hd hd' e => ?_, ?_⟩
  · rcases List.mem_append.mp hs with q | q
    · exact R.ne s q
    · rw [List.mem_singleton.mp q]; exact List.ne_nil_of_mem h1
  · rcases List.mem_append.mp hs with q | q
    · exact R.lt s q
    · rw [List.mem_singleton.mp q]; exact fun d hd => (h2 d hd).1
  · by_cases q : d < i
    · obtain ⟨s, a, b⟩ := R.met d q
      exact ⟨s, List.mem_append_left _ a, b⟩
    · rw [show d = i by omega]
      exact ⟨r, by simp, h1⟩
  · rcases List.mem_append.mp hs with q | q
    · exact R.full s q
    · rw [List.mem_singleton.mp q]
      exact fun d hd d' hd' e => h3 d' hd' (e.trans (h2 d hd).2)
  · rcases List.mem_append.mp hs with q | q
    · exact R.one s q
    · rw [List.mem_singleton.mp q]
      exact fun d hd d' hd' => (h2 d hd).2.trans (h2 d' hd').2.symm
  · rcases cs j s hj with ⟨a, a'⟩ | ⟨a, a'⟩ <;> rcases cs k s' hk with ⟨b, b'⟩ | ⟨b, b'⟩
    · exact R.apart j k s s' d d' a b hd hd' e
    · subst b'
      exact absurd (e.trans (h2 d' hd').2) (no s a' d hd)
    · subst a'
      exact absurd (e.symm.trans (h2 d hd).2) (no s' b' d' hd')
    · omega
  · rw [List.length_append]; have := R.len; simp; omega
theorem Rin.rnds {D : Nat} {lab : Nat → Nat} {rs : List (List Nat)} (R : Rin D lab D rs) : Rnds D lab rs :=
  ⟨R.ne, R.lt, R.met, fun i i' r r' d d' h h' m m' => ⟨fun q => by
    subst q
    rw [h] at h'
    cases Option.some.inj h'
    exact R.one r (List.mem_of_getElem? h) d m d' m', fun q => R.apart i i' r r' d d' h h' m m' q⟩⟩
end MT
namespace MT
/-! due -/
def sN (f : Nat → Nat) : Nat → Nat
  | 0 => 0
  | m + 1 => sN f m + f m
def wr (l : List Nat) (k : Nat) : Nat → Nat
  | 0 => 1
  | j + 1 => if j = k then wr l k j else wr l k j * l.getD j 0
theorem sN_congr {f g : Nat → Nat} : ∀ {m : Nat}, (∀ k, k < m → f k = g k) → sN f m = sN g m
  | 0, _ => rfl
  | m + 1, h => by unfold sN; rw [sN_congr (m := m) fun k hk => h k (by omega), h m (by omega)]
theorem sN_mul (f : Nat → Nat) (c : Nat) : ∀ m, sN (fun k => f k * c) m = sN f m * c
  | 0 => by simp [sN]
  | m + 1 => by unfold sN; rw [sN_mul f c m, Nat.add_mul]
theorem prN_snoc (y : Nat) : ∀ l : List Nat, prN (l ++ [y]) = prN l * y
  | [] => by simp [prN]
  | x :: l => by
    show x * prN (l ++ [y]) = x * prN l * y
    rw [prN_snoc y l, Nat.mul_assoc]
theorem elN_snoc (y : Nat) : ∀ l : List Nat, elN (l ++ [y]) = y * elN l + prN l
  | [] => by simp [elN, prN]
  | x :: l => by
    show prN (l ++ [y]) + x * elN (l ++ [y]) = y * (prN l + x * elN l) + x * prN l
    rw [prN_snoc, elN_snoc y l, Nat.mul_add, Nat.mul_add, Nat.mul_comm (prN l) y, ← Nat.mul_assoc, ← Nat.mul_assoc, Nat.mul_comm x y]
    omega
theorem wr_all {l : List Nat} {k : Nat} : ∀ {m : Nat}, m ≤ k → m ≤ l.length → wr l k m = prN (l.take m)
  | 0, _, _ => rfl
  | m + 1, h, hl => by
    have hm : m < l.length := by omega
    unfold wr
    rw [if_neg (by omega), wr_all (m := m) (by omega) (by omega), List.take_add_one, List.getElem?_eq_getElem hm]
    show _ = prN (l.take m ++ [l[m]])
    rw [prN_snoc]
    simp [List.getD_eq_getElem?_getD, hm]
theorem due_take {l : List Nat} : ∀ {m : Nat}, m ≤ l.length → sN (fun k => wr l k m) m = elN (l.take m)
  | 0, _ => rfl
  | m + 1, hl => by
    have hm : m < l.length := by omega
    unfold sN
    have e1 : wr l m (m + 1) = prN (l.take m) := by
      unfold wr
      rw [if_pos rfl, wr_all (Nat.le_refl _) (by omega)]
    have e2 : sN (fun k => wr l k (m + 1)) m = sN (fun k => wr l k m * l[m]) m := sN_congr fun k hk => by
      show wr l k (m + 1) = _
      conv => lhs; unfold wr
      rw [if_neg (by omega)]
      simp [List.getD_eq_getElem?_getD, hm]
    rw [e1, e2, sN_mul, due_take (m := m) (by omega), List.take_add_one, List.getElem?_eq_getElem hm]
    show _ = elN (l.take m ++ [l[m]])
    rw [elN_snoc, Nat.mul_comm]
theorem due_all (l : List Nat) : sN (fun k => wr l k l.length) l.length = elN l := by
  have := due_take (l := l) (Nat.le_refl _)
  rwa [List.take_length] at this
/-! the turns of a ring of bundles -/
def prev (n k : Nat) : Nat := (k + (n - 1)) % n
def trow (n : Nat) (b : List (List Nat)) (fl : Nat → Nat) (k : Nat) : List Nat := (b.getD k []).map (on fl) ++ ((b.getD (prev n k) []).reverse).map (bk fl)
def trows (n : Nat) (b : List (List Nat)) (fl : Nat → Nat) : List (List Nat) := (List.range n).map (trow n b fl)
/-- the ends of the ties -/
def rend (n : Nat) (b : List (List Nat)) (fl : Nat → Nat) (t : Nat) : Nat × Nat := if fl t = 0 then (bi b t, (bi b t + 1) % n) else ((bi b t + 1) % n, bi b t)
section
variable {n E : Nat} {b : List (List Nat)} {fl : Nat → Nat}
theorem prev_lt (hn : 0 < n) (k : Nat) : prev n k < n := Nat.mod_lt _ hn
theorem prev_next (hn : 0 < n) {k : Nat} (hk : k < n) : (prev n k + 1) % n = k := by
  unfold prev
  rw [Nat.mod_add_mod, show k + (n - 1) + 1 = k + n by omega, Nat.add_mod_right, Nat.mod_eq_of_lt hk]
theorem next_prev (hn : 0 < n) {k : Nat} (hk : k < n) : prev n ((k + 1) % n) = k := by
  unfold prev
  rw [Nat.mod_add_mod, show k + 1 + (n - 1) = k + n by omega, Nat.add_mod_right, Nat.mod_eq_of_lt hk]
theorem Rb.in_b (R : Rb n E b fl) {k : Nat} (hk : k < n) {t : Nat} (h : t ∈ b.getD k []) : ∃ j, j < sz b k ∧ t = tk b k j := by
  have hk' : k < b.length := by rw [R.bl]; exact hk
  rw [getD_b hk'] at h
  exact b_at hk' h
theorem Rb.of_b (R : Rb n E b fl) {k j : Nat} (hk : k < n) (hj : j < sz b k) : tk b k j ∈ b.getD k [] := by
  have hk' : k < b.length := by rw [R.bl]; exact hk
  rw [sz_get hk'] at hj
  rw [getD_b hk', tk_get hk' hj]
  exact List.getElem_mem hj
theorem b_get {k j : Nat} (hj : j < sz b k) : (b.getD k [])[j]? = some (tk b k j) := by
  unfold sz at hj
  unfold tk
  rw [List.getElem?_eq_getElem hj, List.getD_eq_getElem?_getD (l := b.getD k []), List.getElem?_eq_getElem hj]
  rfl
theorem mem_trow (R : Rb n E b fl) {k : Nat} (hk : k < n) {d : Nat} : d ∈ trow n b fl k ↔ (∃ j, j < sz b k ∧ d = on fl (tk b k j)) ∨ ∃ j, j < sz b (prev n k) ∧ d = bk fl (tk b (prev n k) j) := by
  have hn := R.n3
  unfold trow
  rw [List.mem_append, List.mem_map, List.mem_map]
  constructor
  · rintro (⟨t, h, rfl⟩ | ⟨t, h, rfl⟩)
    · obtain ⟨j, hj, rfl⟩ := R.in_b hk h
      exact .inl ⟨j, hj, rfl⟩
    · rw [List.mem_reverse] at h
      obtain ⟨j, hj, rfl⟩ := R.in_b (prev_lt (by omega) k) h
      exact .inr ⟨j, hj, rfl⟩
  · rintro (⟨j, hj, rfl⟩ | ⟨j, hj, rfl⟩)
    · exact .inl ⟨_, R.of_b hk hj, rfl⟩
    · exact .inr ⟨_, List.mem_reverse.mpr (R.of_b (prev_lt (by omega) k) hj), rfl⟩
theorem Rb.rend (R : Rb n E b fl) {k j : Nat} (hk : k < n) (hj : j < sz b k) : rend n b fl (tk b k j) = if fl (tk b k j) = 0 then (k, (k + 1) % n) else ((k + 1) % n, k) := by
  unfold MT.rend; rw [(R.pos hk hj).1]
/-- where a dart stands -/
def std (n : Nat) (b : List (List Nat)) (fl : Nat → Nat) (d : Nat) : Nat := if d % 2 = 0 then (rend n b fl (d / 2)).1 else (rend n b fl (d / 2)).2
theorem Rb.std_on (R : Rb n E b fl) {k j : Nat} (hk : k < n) (hj : j < sz b k) : std n b fl (on fl (tk b k j)) = k := by
  obtain ⟨h1, h2⟩ := on_d R (tk b k j)
  have := R.f2 (tk b k j)
  unfold std
  rw [h1, h2, R.rend hk hj]
  by_cases q : fl (tk b k j) = 0
  · rw [if_pos q, if_pos q]
  · rw [if_neg q, if_neg q]
theorem Rb.std_bk (R : Rb n E b fl) {k j : Nat} (hk : k < n) (hj : j < sz b k) : std n b fl (bk fl (tk b k j)) = (k + 1) % n := by
  obtain ⟨h1, h2⟩ := bk_d R (tk b k j)
  have := R.f2 (tk b k j)
  unfold std
  rw [h1, h2, R.rend hk hj]
  by_cases q : fl (tk b k j) = 0
  · rw [if_neg (by omega), if_pos q]
  · rw [if_pos (by omega), if_neg q]
theorem Rb.std_row (R : Rb n E b fl) {k : Nat} (hk : k < n) {d : Nat} (h : d ∈ trow n b fl k) : std n b fl d = k := by
  have hn := R.n3
  rcases (mem_trow R hk).mp h with ⟨j, hj, rfl⟩ | ⟨j, hj, rfl⟩
  · exact R.std_on hk hj
  · rw [R.std_bk (prev_lt (by omega) k) hj, prev_next (by omega) hk]
theorem Rb.row_lt (R : Rb n E b fl) {k : Nat} (hk : k < n) {d : Nat} (h : d ∈ trow n b fl k) : d < 2 * E := by
  have hn := R.n3
  rcases (mem_trow R hk).mp h with ⟨j, hj, rfl⟩ | ⟨j, hj, rfl⟩
  · exact (R.on_lt hk hj).1
  · exact (R.on_lt (prev_lt (by omega) k) hj).2
theorem Rb.b_nd (R : Rb n E b fl) {k : Nat} (hk : k < n) : (b.getD k []).Nodup := by
  have hk' : k < b.length := by rw [R.bl]; exact hk
  rw [getD_b hk']
  exact flat_nd R.nd hk'
theorem Rb.row_nd (R : Rb n E b fl) {k : Nat} (hk : k < n) : (trow n b fl k).Nodup := by
  have hn := R.n3
  unfold trow
  refine List.nodup_append.mpr ⟨?_, ?_, fun a ha c hc q => ?_⟩
  · rw [List.nodup_iff_pairwise_ne, List.pairwise_map]
    exact (List.nodup_iff_pairwise_ne.mp (R.b_nd hk)).imp fun {x y} (z : x ≠ y) (w : on fl x = on fl y) => z (by rw [← (on_d R x).1, w, (on_d R y).1])
  · rw [List.nodup_iff_pairwise_ne, List.pairwise_map]
    have nd : (b.getD (prev n k) []).reverse.Nodup := (List.reverse_perm _).nodup_iff.mpr (R.b_nd (prev_lt (by omega) k))
    exact (List.nodup_iff_pairwise_ne.mp nd).imp fun {x y} (z : x ≠ y) (w : bk fl x = bk fl y) => z (by rw [← (bk_d R x).1, w, (bk_d R y).1])
  · obtain ⟨x, _, rfl⟩ := List.mem_map.mp ha
    obtain ⟨y, _, rfl⟩ := List.mem_map.mp hc
    have e1 := (on_d R x).1
    rw [q, (bk_d R y).1] at e1
    subst e1
    have e2 := (on_d R y).2
    rw [q, (bk_d R y).2] at e2
    have := R.f2 y
    omega
theorem Rb.rows_nd (R : Rb n E b fl) : (trows n b fl).flatten.Nodup := by
  rw [List.nodup_iff_pairwise_ne, List.pairwise_flatten]
  unfold trows
  constructor
  · intro l hl
    obtain ⟨k, hk, rfl⟩ := List.mem_map.mp hl
    exact List.nodup_iff_pairwise_ne.mp (R.row_nd (List.mem_range.mp hk))
  · rw [List.pairwise_map]
    refine (List.pairwise_lt_range (n := n)).imp_of_mem fun {k k'} hk hk' (z : k < k') x hx y hy q => ?_
    have a := R.std_row (List.mem_range.mp hk) hx
    have c := R.std_row (List.mem_range.mp hk') hy
    rw [q, c] at a
    omega
theorem Rb.rows_mem (R : Rb n E b fl) {d : Nat} : d ∈ (trows n b fl).flatten ↔ d < 2 * E := by
  have hn := R.n3
  rw [List.mem_flatten]
  unfold trows
  constructor
  · rintro ⟨l, hl, hd⟩
    obtain ⟨k, hk, rfl⟩ := List.mem_map.mp hl
    exact R.row_lt (List.mem_range.mp hk) hd
  · intro hd
    obtain ⟨k, j, hk, hj, e | e⟩ := R.dart hd
    · exact ⟨_, List.mem_map_of_mem (List.mem_range.mpr hk), (mem_trow R hk).mpr (.inl ⟨j, hj, e⟩)⟩
    · have hk1 : (k + 1) % n < n := Nat.mod_lt _ (by omega)
      refine ⟨_, List.mem_map_of_mem (List.mem_range.mpr hk1), (mem_trow R hk1).mpr (.inr ?_)⟩
      rw [next_prev (by omega) hk]
      exact ⟨j, hj, e⟩
theorem Rb.rows_len (R : Rb n E b fl) : (trows n b fl).flatten.length = 2 * E := by
  have p : ((trows n b fl).flatten).Perm (List.range (2 * E)) := (List.perm_ext_iff_of_nodup R.rows_nd List.nodup_range).mpr fun d => by rw [R.rows_mem, List.mem_range]
  rw [p.length_eq, List.length_range]
theorem trow_len (n : Nat) (b : List (List Nat)) (fl : Nat → Nat) (k : Nat) : (trow n b fl k).length = sz b k + sz b (prev n k) := by unfold trow sz; simp
theorem trow_on {k i : Nat} (h : i < sz b k) : (trow n b fl k)[i]? = some (on fl (tk b k i)) := by
  unfold trow
  rw [List.getElem?_append_left (by rw [List.length_map]; exact h), List.getElem?_map, b_get h]; rfl
theorem trow_bk {k j : Nat} (h : j < sz b (prev n k)) : (trow n b fl k)[sz b k + (sz b (prev n k) - 1 - j)]? = some (bk fl (tk b (prev n k) j)) := by
  unfold trow
  have e : ((b.getD k []).map (on fl)).length = sz b k := by rw [List.length_map]; rfl
  rw [List.getElem?_append_right (by rw [e]; omega), e, List.getElem?_map, show sz b k + (sz b (prev n k) - 1 - j) - sz b k = sz b (prev n k) - 1 - j by omega]
  have h' : j < (b.getD (prev n k) []).length := h
  rw [List.getElem?_reverse (by show sz b (prev n k) - 1 - j < sz b (prev n k); omega)]
  show Option.map (bk fl) ((b.getD (prev n k) [])[sz b (prev n k) - 1 - (sz b (prev n k) - 1 - j)]?) = _
  rw [show sz b (prev n k) - 1 - (sz b (prev n k) - 1 - j) = j by omega, b_get h]; rfl
theorem Rb.rows_nxt (R : Rb n E b fl) {k : Nat} (hk : k < n) {i d : Nat} (h : (trow n b fl k)[i]? = some d) : (trow n b fl k)[(i + 1) % (trow n b fl k).length]? = some (nx n b fl (d ^^^ 1)) := by
  have hn := R.n3
  have hp := prev_lt (n := n) (by omega) k
  have s1 := R.szp hk
  have s2 := R.szp hp
  have hi : i < sz b k + sz b (prev n k) := by rw [← trow_len n b fl]; exact (List.getElem?_eq_some_iff.mp h).1
  rw [trow_len]
  by_cases q : i < sz b k
  · rw [trow_on q] at h
    rw [← Option.some.inj h, (on_flip R _).1, R.nx_bk hk q, Nat.mod_eq_of_lt (by omega)]
    by_cases q2 : i + 1 < sz b k
    · rw [if_pos q2, trow_on q2]
    · rw [if_neg q2]
      have := trow_bk (n := n) (b := b) (fl := fl) (k := k) (j := sz b (prev n k) - 1) (by omega)
      rw [show sz b k + (sz b (prev n k) - 1 - (sz b (prev n k) - 1)) = i + 1 by omega] at this
      rw [this]
      rfl
  · obtain ⟨j, hj, e⟩ : ∃ j, j < sz b (prev n k) ∧ i = sz b k + (sz b (prev n k) - 1 - j) := ⟨sz b (prev n k) - 1 - (i - sz b k), by omega, by omega⟩
    rw [e, trow_bk hj] at h
    rw [← Option.some.inj h, (on_flip R _).2, R.nx_on hp hj]
    by_cases q2 : j = 0
    · rw [if_pos q2, prev_next (by omega) hk, show (i + 1) = sz b k + sz b (prev n k) by omega, Nat.mod_self, trow_on s1.1]
    · rw [if_neg q2, Nat.mod_eq_of_lt (by omega)]
      have := trow_bk (n := n) (b := b) (fl := fl) (k := k) (j := j - 1) (by omega)
      rw [show sz b k + (sz b (prev n k) - 1 - (j - 1)) = i + 1 by omega] at this
      exact this
theorem Rb.small (R : Rb n E b fl) (h7 : n ≤ 7) : 0 < E ∧ E ≤ 28 ∧ n ≤ E := by
  have hn := R.n3
  have key : ∀ m, m ≤ n → m ≤ MT.szs b m ∧ MT.szs b m ≤ 4 * m := fun m => by
    induction m with
    | zero => intro _; exact ⟨Nat.le_refl _, Nat.le_refl _⟩
    | succ m ih =>
      intro h
      obtain ⟨a, c⟩ := ih (by omega)
      have := R.szp (k := m) (by omega)
      unfold MT.szs
      omega
  have := key n (Nat.le_refl _)
  rw [R.szs] at this
  omega
end
end MT
/-! Rules beside the layer: an item of a list read for op=, sorted of a tuple and of a keys view, list of a reversed list, set of a list of ints, len of a set. -/
namespace Sr
open PySem PySem.Spec PyProof.Rows L2
section
variable {X : Cx}
/-- xs[i], read ahead of xs[i] op= e -/
def gItem : V → V → Hp → VK → Prop := fun x y H Q => ∃ (p : Addr) (xs : List V) (j : Nat) (z : V), x = .ref p ∧ y = .int (j : Int) ∧ H p = some (.lst xs) ∧ xs[j]? = some z ∧ Q z H
theorem pget_list : PGet X gItem := by
  intro pins s σ H o i ov iv Q I ro ri h
  obtain ⟨p, xs, j, z, rfl, rfl, hp, hj, q⟩ := h
  cases ro
  obtain ⟨t, rfl⟩ := ri
  obtain ⟨its, rv, pl, hz⟩ := I.list (show SqL X.K H p xs from .inl (.inl hp))
  obtain ⟨u, hu, ru⟩ := rv.get hj
  have hlt : j < xs.length := (List.getElem?_eq_some_iff.mp hj).1
  have h63 := line63
  exact wpAny_getItem_list pl.isList (Int.natCast_nonneg j) (by omega) (by simpa using hu) ⟨z, H, I, ru, q⟩
end
section
variable {P : Program} {w : World} {A : Around} {E : Value → Shared → Prop} {s : Shared}
/-- sorted(x), x anything that is collected as ints (below 64) -/
theorem sorted_src {l : Addr} {ks : List Int} {Q : Value → Shared → Prop} (h64 : ks.length < 64)
    (hcol : ∀ (Q' : List Value → Shared → Prop), (∀ (vs : List Value) (h' : Heap) (tk : Nat), (∀ b o, s.heap.get? b = some o → h'.get? b = some o) → IntsAre vs ks → Q' vs { s with heap := h', toks := tk }) →
      wpAny (model P w) A.in1 (collect (.ref l)) Q' E s)
    (hQ : ∀ (h1 h2 : Heap) (tk : Nat) (out : Array Value) (c : Nat) (ns : List Int), (∀ b o, s.heap.get? b = some o → h1.get? b = some o) → (∀ b o, h1.get? b = some o → h2.get? b = some o) →
      h2.get? h1.objs.size = some (seqObj "list" out c) → IntsAre out.toList ns → ns.Perm ks → ns.Pairwise (· ≤ ·) → Q (.ref h1.objs.size) { s with heap := h2, toks := tk }) :
    wpAny (model P w) A (call (.builtin "sorted") [.ref l]) Q E s := by
  refine Calls.call_function_entry kind_sorted plain_sorted entry_sorted (args_sorted1 _) ?_
  unfold Builtin.«sorted»
  refine wpAny_bind (m := checkCount "sorted" 1 1 _) (wpAny_pure ?_)
  refine wpAny_bind (hcol _ fun vs h' tk hk hI => ?_)
  have hvl : vs.length = ks.length := IntsAre.length hI
  have hline : vs.length ≤ sizeLine := by rw [sizeLine_eq]; omega
  refine wpAny_bind (wpAny_newList ?_ hline)
  have hob : (h'.push (seqObj "list" vs.toArray 0)).get? h'.objs.size = some (seqObj "list" vs.toArray 0) := Heap.get?_push_size _ rfl
  show wpAny _ _ _ _ _ { s with heap := h'.push (seqObj "list" vs.toArray 0), toks := tk }
  refine wpAny_bind (wpAny_holding (wpAny_call_entry slot_list_sort ⟨_, hob, rfl⟩ entry_list_sort ?_ (args_list_sort _)))
  refine list_sort_tree (s := { s with heap := h'.push (seqObj "list" vs.toArray 0), toks := tk }) hob hI (by omega) fun out ys g1 g2 g3 => ⟨_, rfl, ?_⟩
  obtain ⟨c, hc⟩ := sortedHeap_at (vs := vs) (out := out) hob
  refine wpAny_pure ⟨_, rfl, hQ h' _ tk out c ys hk (fun b o e => ?_) hc g1 g2 g3⟩
  have hb := Heap.lt_size e
  rw [sortedHeap_old (Nat.ne_of_lt hb) (by rw [size_push']; exact Nat.lt_succ_of_lt hb)]
  exact Heap.get?_push_of_some _ e
end
section
variable {X : Cx}
/-- what is done behind sorted_src -/
theorem sorted_end {pins : List (Addr × Obj)} {s : Shared} {σ : L2.St} {H : Hp} {Q : VK} {ks : List Int} {l : Addr} (I : Inv X pins σ H s) (h64 : ks.length < 64)
    (hcol : ∀ (Q' : List Value → Shared → Prop), (∀ (vs : List Value) (h' : Heap) (tk : Nat), (∀ b o, s.heap.get? b = some o → h'.get? b = some o) → IntsAre vs ks → Q' vs { s with heap := h', toks := tk }) →
      wpAny (model X.prog X.w) X.A.in1 (collect (.ref l)) Q' X.xe s)
    (q : ∀ (ns : List Int) (p : Addr), ns.Perm ks → ns.Pairwise (· ≤ ·) → H p = none → Q (.ref p) (upd H p (.lst (ns.map V.int)))) :
    wpAny (model X.prog X.w) X.A (call (.builtin "sorted") [.ref l]) (EP X pins σ Q) X.xe s := by
  refine sorted_src h64 hcol fun h1 h2 tk out c ns k1 k2 hg hi hp hs => ?_
  have I1 : Inv X pins σ H { s with heap := h1, toks := tk } := I.kept k1
  have hlen : (ns.map V.int).length ≤ sizeLine := by rw [List.length_map, hp.length_eq, sizeLine_eq]; omega
  exact ⟨.ref h1.objs.size, _, I1.laid (t' := tk) (o := .lst (ns.map V.int)) k2 (Nat.le_refl _) ⟨hlen, out.toList, c, vals_of_ints hi, hg⟩, rfl, q ns _ hp hs (I1.hok.fresh (Nat.le_refl _))⟩
/-- sorted(t), t a tuple of ints -/
def rSortT : List V → Hp → VK → Prop := fun vs H Q => ∃ (a : Addr) (ks : List Int), vs = [.ref a] ∧ H a = some (.tup (ks.map V.int)) ∧ ks.length < 64 ∧
  ∀ (ns : List Int) (p : Addr), ns.Perm ks → ns.Pairwise (· ≤ ·) → H p = none → Q (.ref p) (upd H p (.lst (ns.map V.int)))
theorem cr_sortT : CallR X (.builtin "sorted") rSortT := by
  intro pins s σ H vs us Q I r h
  obtain ⟨a, ks, rfl, ha, h64, q⟩ := h
  rw [Vals.ref1 r]
  obtain ⟨its, rv, pt, hz⟩ := I.tuple (show SqT X.K H a (ks.map V.int) from .inl (.inl ha))
  obtain ⟨o, ho, hc, n, hd⟩ := pt
  refine sorted_end I h64 (fun Q' hq => ?_) q
  refine wpAny_collect_seq a (.inr rfl) ho hc hd (fun h' hk => ?_) (by rw [List.size_toArray, ← rv.length]; exact hz)
  exact hq _ h' s.toks hk (by simpa using rv.ints)
/-- the view d.keys() -/
def viewO (p d : Addr) : HO := .ext fun h => PySem.W.KdlKeysView h p d
def rKeys : V → List V → Hp → VK → Prop := fun x xs H Q => ∃ (d : Addr) (kvs : List (Key × V)), x = .ref d ∧ xs = [] ∧ H d = some (.dK kvs) ∧ ∀ p, H p = none → Q (.ref p) (upd H p (viewO p d))
theorem mt_keys : MtR X "dict.keys" rKeys := by
  intro pins s σ H x xs v us Q I rx rxs h
  obtain ⟨d, kvs, rfl, rfl, hd, q⟩ := h
  cases rx
  cases rxs
  obtain ⟨z, lo, vs, kv, dd⟩ := I.hok d _ hd
  refine call_meetsIn PySem.F.slot_dict_keys dd.typeIs PySem.F.entry_dict_keys (PySem.F.args_dict_keys_1 _) (PySem.W.kdl_meets_keys (mixKind X.prog X.w) d lo) ⟨⟨vs, dd⟩, ?_⟩
  refine ⟨.ref s.heap.objs.size, _, I.laid (t' := s.toks) (o := viewO s.heap.objs.size d) (fun b o e => Heap.get?_push_of_some _ e) (Nat.le_refl _) ?_, rfl, q _ (I.hok.fresh (Nat.le_refl _))⟩
  exact ⟨⟨_, Heap.get?_push_size _ rfl, rfl, rfl⟩, ⟨_, Heap.get?_push_size _ rfl⟩, fun h1 h2 ⟨o, ho, hx⟩ k => ⟨o, k o ho, hx⟩⟩
def rSortK : List V → Hp → VK → Prop := fun vs H Q => ∃ (p d : Addr) (kvs : List (Key × V)) (ks : List Int), vs = [.ref p] ∧ H p = some (viewO p d) ∧ H d = some (.dK kvs) ∧ kvs.map (·.1) = ks.map Sum.inl ∧ ks.length < 64 ∧
  ∀ (ns : List Int) (p : Addr), ns.Perm ks → ns.Pairwise (· ≤ ·) → H p = none → Q (.ref p) (upd H p (.lst (ns.map V.int)))
theorem keys_ints {P : Program} {w : World} {vs : List (Key × Value)} {acc : Array Value} {ks : List Int} (hk : vs.map (·.1) = ks.map Sum.inl)
    (hi : ItemsOf (fun i v => ∃ k x, vs[i]? = some (k, x) ∧ (mixKind P w).is k v = true) acc vs.length) : IntsAre acc.toList ks := by
  have hl : vs.length = ks.length := by simpa using congrArg List.length hk
  refine ints_each (by rw [Array.length_toList, hi.1, hl]) fun j v e => ?_
  obtain ⟨k, x, e1, e2⟩ := hi.2 j v (by rw [← Array.getElem?_toList]; exact e)
  have e3 : (ks.map Sum.inl)[j]? = some k := by rw [← hk, List.getElem?_map, e1]; rfl
  rw [List.getElem?_map] at e3
  cases e4 : ks[j]? with
  | none => rw [e4] at e3; cases e3
  | some y =>
    rw [e4] at e3
    cases Option.some.inj e3
    rcases keyIs_shape (show keyIs (Sum.inl y) v = true from e2) with ⟨i, t, ek, ev⟩ | ⟨z, t, ek, _⟩
    · cases ek
      exact ⟨y, t, rfl, ev⟩
    · cases ek
theorem cr_sortK (hc : X.calm = true) : CallR X (.builtin "sorted") rSortK := by
  intro pins s σ H vs us Q I r h
  obtain ⟨p, d, kvs, ks, rfl, hp, hd, hks, h64, q⟩ := h
  rw [Vals.ref1 r]
  obtain ⟨z, lo, vs, kv, dd⟩ := I.hok d _ hd
  obtain ⟨hv, _, _⟩ := I.hok p _ hp
  obtain ⟨ep, hat⟩ := dd.dictAt
  have hk : vs.map (·.1) = ks.map Sum.inl := kv.keys.symm.trans hks
  have hl : vs.length = ks.length := by simpa using congrArg List.length hk
  refine sorted_end I h64 (fun Q' hq => ?_) q
  exact PySem.W.kdu_collect (PySem.W.kdl_keys (knd := mixKind X.prog X.w) (kvs := vs) (ep := ep)) (I.ok.hd hc) ⟨hv, hat⟩ (by rw [hl, sizeLine_eq]; omega) fun h' tk acc hk' hi => hq _ h' tk hk' (keys_ints hk hi)
/-- len of a set -/
def rLenO (w : World) : List V → Hp → VK → Prop := fun vs H Q => ∃ (a : Addr) (S : Int → Bool) (n : Nat), vs = [.ref a] ∧ H a = some (SetO w a S n) ∧ Q (.int (n : Int)) H
theorem call_lenO : CallR X (.builtin "len") (rLenO X.w) := by
  intro pins s σ H vs us Q I r h
  obtain ⟨a, S, n, rfl, ha, q⟩ := h
  rw [Vals.ref1 r]
  obtain ⟨o, es, ep, t, ho, hex, hd, _, _, _, hb, hf, hn, _, _⟩ := setO_get I ha
  exact call_len_set ho hex hd hf (by have := hb; unfold scanBound at this; omega) ⟨.int (n : Int), H, I.tok _, ⟨_, by rw [hn]⟩, q⟩
end
end Sr
namespace Sr
open PySem PySem.Spec PyProof.Rows L2
/-- a set that stands new and empty; the heap with it -/
abbrev noSet (w : World) : Obj := { cls := .type "set", dict := none, data := .set #[] 0 (.fresh 0 0 (!w.params.followText "set-order")) }
abbrev withSet (w : World) (h : Heap) : Heap := h.push (noSet w)
section
variable {P : Program} {w : World} {A : Around} {E : Value → Shared → Prop} {s : Shared}
/-- its filling -/
theorem set_filled {l : Addr} {items : Array Value} (ns : List Int) (hh : A.handled = none) (hl : s.heap.IsList l items) (hit : IntsAre items.toList ns) (hb : ns.length + 1 < scanBound) {R : Result → Shared → Prop}
    (h : ∀ (h' : Heap) (tk c : Nat), SetR w h' s.heap.objs.size (fun j => decide (j ∈ ns)) c → c ≤ ns.length → (∀ b o, s.heap.get? b = some o → h'.get? b = some o) → R (.ok (.ret .none)) { s with heap := h', toks := tk }) :
    wpAny (model P w) A.in1 (Builtin.«set.__init__» ⟨[.ref s.heap.objs.size, .ref l], []⟩) (fun fin s' => match fin with | .done f => R (.ok f) s' | .again c' => c'.quiet = true ∧ codeAny (model P w) A c' R s') (fun e s' => R (.error e) s') { s with heap := withSet w s.heap } := by
  have hsz : items.size = ns.length := by simpa using IntsAre.length hit
  have new1 : (withSet w s.heap).get? s.heap.objs.size = some (noSet w) := Heap.get?_push_size _ rfl
  have isS : Shared.TypeIs { s with heap := withSet w s.heap } (.ref s.heap.objs.size) "set" := ⟨_, new1, rfl⟩
  have big : (withSet w s.heap).objs.size = s.heap.objs.size + 1 := Heap.size_push ..
  have there : l < s.heap.objs.size := by obtain ⟨o, e, _⟩ := hl; exact Heap.lt_size e
  have hl1 : (withSet w s.heap).IsList l items := hl.push _
  obtain ⟨⟨oc, od, oda, osl⟩, ho, e1, n1, e2⟩ := id hl1
  dsimp only at e1 e2; subst e1 e2
  have k1 := F.sub_list_set; have k2 := F.sub_list_frozenset
  have k3 : (Value.type "list" == Value.type "dict") = false := by decide
  unfold Builtin.«set.__init__» noKeywords Builtin.Frozenset.updateFrom
  generalize hI : pyIter = itf
  wp_walk
  subst hI
  refine wpAny_pyIter_list hl1 (wpAny_bind (wpAny_runValue ?_))
  have calm3 : A.in1.in1.handled = none := by simp [hh]
  have ne1 : l ≠ (withSet w s.heap).objs.size := Nat.ne_of_lt (by rw [big]; exact Nat.lt_succ_of_lt there)
  have ne2 : s.heap.objs.size ∉ [(withSet w s.heap).objs.size, l] := by
    simp only [List.mem_cons, List.not_mem_nil, or_false, not_or]
    exact ⟨Nat.ne_of_lt (by rw [big]; exact Nat.lt_succ_self _), Nat.ne_of_gt there⟩
  have vals : ∀ (i : Nat) (v : Value), items[i]? = some v → ∃ k t, ns[i]? = some k ∧ v = .int k t := fun i v hv => by
    have hi : i < ns.length := by rw [← hsz]; exact (Array.getElem?_eq_some_iff.mp hv).1
    obtain ⟨t, e⟩ := PyProof.Rows.IntsAre.int_at hit i v (by rw [Array.getElem?_toList]; exact hv)
    exact ⟨ns[i], t, List.getElem?_eq_getElem hi, by rw [e, List.getD_eq_getElem?_getD, List.getElem?_eq_getElem hi]; rfl⟩
  have zero : SetR w ((withSet w s.heap).push { cls := .type "list_iterator", data := .fields #[.ref l, .int 0 0] }) s.heap.objs.size (fun j => decide (j ∈ ns.take 0)) 0 := setR_new_at (Heap.get?_push_of_some _ new1)
  refine set_update_ints ((Walks.list calm3 _ l ne1 items).toS) s.heap.objs.size ne2 ns hsz hb vals (items.size - 0) 0 _ (by omega) (Nat.zero_le _) ?z1
    ?z0 fun s' c' hm hc hS => ?_
  case z0 => exact ⟨0, Nat.le_refl 0, zero⟩
  case z1 => exact ⟨⟨_, Heap.get?_push_size _ rfl, rfl, rfl⟩, hl1.push _⟩
  rw [Moved.eq_with hm]
  refine wpAny_pure ?_
  show wpAny _ _ (ret Value.none) _ _ _
  refine wpAny_pure (h s'.heap s'.toks c' hS (by omega) fun b o e => ?_)
  have lt := Heap.lt_size e
  refine hm.heap b o ?_ (Heap.get?_push_of_some _ (Heap.get?_push_of_some _ e))
  simp only [List.mem_cons, List.not_mem_nil, or_false, not_or]
  exact ⟨Nat.ne_of_lt lt, Nat.ne_of_lt (by rw [big]; exact Nat.lt_succ_of_lt lt)⟩
/-- set(xs), xs a list of ints: its members, and how many -/
theorem set_of_ints {l : Addr} {items : Array Value} (ns : List Int) {Q : Value → Shared → Prop} (hh : A.handled = none) (hl : s.heap.IsList l items) (hit : IntsAre items.toList ns) (hb : ns.length + 1 < scanBound)
    (h : ∀ (h' : Heap) (tk c : Nat), SetR w h' s.heap.objs.size (fun j => decide (j ∈ ns)) c → c ≤ ns.length → (∀ b o, s.heap.get? b = some o → h'.get? b = some o) → Q (.ref s.heap.objs.size) { s with heap := h', toks := tk }) :
    wpAny (model P w) A (call (.type "set") [.ref l]) Q E s := by
  obtain ⟨mc, mt, mro⟩ := F.called_set.mro
  have mk1 := F.called_set.made; have mk2 := F.called_set.sub; have mk3 := F.called_set.notType; have mk4 := F.called_set.canCreate
  have mk5 := F.typeCall_set_1 (.ref l)
  refine wpAny_call (codeAny_of_tree ?_)
  show wpAny _ _ (callAny (.type "set") _) _ _ _
  refine wpAny_pure ⟨Code.quiet_builtin _ (by decide +kernel), codeAny_builtin F.entry_type_call ?_⟩
  rw [Around.under_plain (weight_type_call_type "set" [.ref l] []) rfl]
  repeat (any_goals (first | assumption | wp_step))
  refine codeAny_mono (code_set_led1 (.ref l) (E := E) (Q₁ := fun x t => x = .ref s.heap.objs.size ∧ t = { s with heap := withSet w s.heap }) ⟨rfl, rfl⟩) fun r t hr => ?_
  match r, hr with
  | .error e, hr => exact hr
  | .ok (.ret x), hr =>
    obtain ⟨rfl, rfl⟩ := hr
    have isS : Shared.TypeIs { s with heap := withSet w s.heap } (.ref s.heap.objs.size) "set" := ⟨_, Heap.get?_push_size _ rfl, rfl⟩
    have i1 := F.called_set.init.lookup; have i2 := F.called_set.init.bind (.ref s.heap.objs.size)
    repeat (any_goals (first | assumption | wp_step))
    refine codeAny_mono (codeAny_call_builtin (R := wants (fun x t => x = .none ∧ ∃ h' tk c, t = { s with heap := h', toks := tk } ∧ SetR w h' s.heap.objs.size (fun j => decide (j ∈ ns)) c ∧ c ≤ ns.length ∧ (∀ b o, s.heap.get? b = some o → h'.get? b = some o)) E)
      F.called_set.init.plain F.entry_set_init (check_set_init_1 isS (set_filled ns (by simp [hh]) hl hit hb fun h' tk c a b d => ⟨rfl, h', tk, c, rfl, a, b, d⟩))) fun r2 t2 hr2 => ?_
    match r2, hr2 with
    | .error e, hr2 => exact hr2
    | .ok (.ret y), hr2 =>
      obtain ⟨rfl, h', tk, c, rfl, a, b, d⟩ := hr2
      repeat (any_goals (first | assumption | wp_step))
      exact h h' tk c a b d
end
section
variable {X : Cx}
def rSetL (w : World) : List V → Hp → VK → Prop := fun vs H Q => ∃ (a : Addr) (ns : List Int), vs = [.ref a] ∧ H a = some (.lst (ns.map V.int)) ∧ ns.length < 64 ∧
  ∀ (p : Addr) (c : Nat), H p = none → (∃ l : List Int, l.Nodup ∧ l.length = c ∧ ∀ k, k ∈ l ↔ k ∈ ns) → Q (.ref p) (upd H p (SetO w p (fun j => decide (j ∈ ns)) c))
theorem cr_setL (hc : X.calm = true) : CallR X (.type "set") (rSetL X.w) := by
  intro pins s σ H vs us Q I r h
  obtain ⟨a, ns, rfl, ha, h64, q⟩ := h
  rw [Vals.ref1 r]
  obtain ⟨its, rv, pl, hz⟩ := I.list (show SqL X.K H a (ns.map V.int) from .inl (.inl ha))
  refine set_of_ints ns (I.ok.hd hc) pl.isList (by simpa using rv.ints) (by unfold scanBound; omega) fun h' tk c hS hcl hk => ?_
  refine ⟨.ref s.heap.objs.size, _, I.laid (t' := tk) hk (Nat.le_refl _) (setO_new hS), rfl, q _ c (I.hok.fresh (Nat.le_refl _)) ?_⟩
  obtain ⟨o, es, ep, t, _, _, _, _, nd, mem, _, _, hn, _⟩ := hS
  exact ⟨es.toList.map keyOf, nd, by rw [List.length_map, Array.length_toList, hn], fun k => (mem k).symm.trans (by simp)⟩
end
/-! ### list(reversed(xs)) -/
section
variable {P : Program} {w : World} {A : Around} {E : Value → Shared → Prop} {s : Shared}
theorem hint_rev {it : Addr} {Q : Bool → Shared → Prop} (hT : s.TypeIs (.ref it) "list_reverseiterator") (h : Q false s) : wpAny (model P w) A (Builtin.List.listLengthHint (.ref it)) Q E s := by
  unfold Builtin.List.listLengthHint
  refine wpAny_bind (wpAny_specialOf hT RT.nolen_lri ?_)
  show wpAny _ A (specialOf (Value.ref it) (Str.ofString "__length_hint__") >>= _) _ E s
  refine wpAny_bind (wpAny_specialOf hT RT.hint_lri ?_)
  generalize hname : ("list_reverseiterator.__length_hint__" : String) = nm
  wp_delta
  rw [show splitId nm = some ("list_reverseiterator", "__length_hint__") by subst hname; decide +kernel]
  subst hname
  exact wpAny_bind (wpAny_isInstance (b := true) hT (by rw [isSubtype_type]; kernel_rfl) (wpAny_pure h))
/-- the list at S is filled from a reversed list's iterator -/
theorem list_rev_init {it l : Addr} {items : Array Value} {R : Result → Shared → Prop} (hh : A.handled = none) (hit : s.heap.IsRevIter it l ((items.size : Int) - 1)) (hl : s.heap.IsList l items) (hne : l ≠ it) (hn : items.size ≤ sizeLine)
    (hR : ∀ (h' : Heap) (tk : Nat) (acc : Array Value) (c : Nat), (∀ b o, b ≠ it → s.heap.get? b = some o → h'.get? b = some o) → h'.get? s.heap.objs.size = some { cls := .type "list", dict := none, data := .seq acc c, slots := #[] } →
      ItemsOf (fun i v => items[items.size - 1 - i]? = some v) acc items.size → R (.ok (.ret .none)) { s with heap := h', toks := tk }) :
    wpAny (model P w) A.in1 (Builtin.«list.__init__» ⟨[.ref s.heap.objs.size, .ref it], []⟩) (fun fin s' => match fin with | .done f => R (.ok f) s' | .again c' => c'.quiet = true ∧ codeAny (model P w) A c' R s') (fun e s' => R (.error e) s')
      { s with heap := s.heap.push { cls := .type "list", data := .seq #[] } } := by
  obtain ⟨oi, hoi, _⟩ := id hit
  obtain ⟨ol, hol, _⟩ := id hl
  have lit := Heap.lt_size hoi
  have ll := Heap.lt_size hol
  have n1 : s.heap.objs.size ≠ it := Nat.ne_of_gt lit
  have n2 : s.heap.objs.size ≠ l := Nat.ne_of_gt ll
  have n3 : s.heap.objs.size ∉ [it, l] := by simp only [List.mem_cons, List.not_mem_nil, or_false, not_or]; exact ⟨n1, n2⟩
  have new1 : (s.heap.push { cls := .type "list", data := .seq #[] }).get? s.heap.objs.size = some { cls := .type "list", data := .seq #[] } := Heap.get?_push_size _ rfl
  have keep : ∀ b o, b ≠ s.heap.objs.size → s.heap.get? b = some o → ((s.heap.push { cls := .type "list", data := .seq #[] }).update s.heap.objs.size (Obj.mapSeq (fun _ => (#[] : Array Value)))).get? b = some o := fun b o hb e =>
    (Heap.get?_update_other _ _ (Ne.symm hb)).trans (Heap.get?_push_of_some _ e)
  have new2 := Heap.get?_update_self (Obj.mapSeq (fun _ => (#[] : Array Value))) new1 rfl
  have hit2 : ((s.heap.push { cls := .type "list", data := .seq #[] }).update s.heap.objs.size (Obj.mapSeq (fun _ => (#[] : Array Value)))).IsRevIter it l ((items.size : Int) - 1) := hit.at fun o e => keep it o (Ne.symm n1) e
  have hl2 : ((s.heap.push { cls := .type "list", data := .seq #[] }).update s.heap.objs.size (Obj.mapSeq (fun _ => (#[] : Array Value)))).IsList l items := hl.at fun o e => keep l o (Ne.symm n2) e
  show wpAny _ _ (do let old ← Builtin.List.listItems (.ref s.heap.objs.size); Builtin.List.listUpdate (.ref s.heap.objs.size) (fun _ => #[]); letGo old.toList.reverse; Builtin.List.listExtendWith (.ref s.heap.objs.size) (.ref it) .none) _ _ _
  refine wpAny_bind ?_
  unfold Builtin.List.listItems
  refine wpAny_bind (wpAny_seqItems new1 rfl (wpAny_pure ?_))
  show wpAny _ _ (updateSeq s.heap.objs.size (fun _ => #[]) >>= fun _ => letGo (#[] : Array Value).toList.reverse >>= fun _ => Builtin.List.listExtendWith (.ref s.heap.objs.size) (.ref it) .none) _ _ _
  refine wpAny_bind (wpAny_updateSeq new1 rfl (wpAny_bind (wpAny_letGo ?_)))
  have isR := Heap.IsRevIter.typeIs (s := { s with heap := (s.heap.push { cls := .type "list", data := .seq #[] }).update s.heap.objs.size (Obj.mapSeq (fun _ => (#[] : Array Value))) }) hit2
  unfold Builtin.List.listExtendWith
  refine wpAny_bind (wpAny_typeOf isR ?_)
  have other : Builtin.List.listSameRef (.ref s.heap.objs.size) (.ref it) = false := by simp [Builtin.List.listSameRef, n1]
  rw [if_neg (by rw [other]; decide)]
  refine wpAny_bind (wpAny_pyIter_revIter hit2 (wpAny_bind (wpAny_holding (hint_rev isR ?_))))
  rw [if_neg (by decide)]
  have e0 : ((items.size : Nat) : Int) - 1 - ((0 : Nat) : Int) = (items.size : Int) - 1 := by omega
  have hh2 : A.in1.handled = none := by simp [hh]
  refine wpAny_pure ⟨plainId_quiet F.plain_extend_loop _, codeAny_extend_loopS (Walks.listRev hh2 it l hne items).toS hn _ n3 _ items.size 0 _ _ _ rfl (Nat.zero_le _) ⟨Nat.zero_le _, by rw [e0]; exact hit2, hl2⟩ new2 (ItemsOf.nil _) fun s' acc c hm hS hacc => ?_⟩
  rw [Moved.eq_with hm]
  refine hR s'.heap s'.toks acc c (fun b o hb e => hm.heap b o (fun q => ?_) (keep b o (Nat.ne_of_lt (Heap.lt_size e)) e)) hS hacc
  rcases List.mem_cons.mp q with q | q
  · exact absurd (Heap.lt_size e) (by rw [q]; exact Nat.lt_irrefl _)
  · exact hb (List.mem_singleton.mp q)
/-- list(it), it a reversed list's iterator -/
theorem list_of_rev {it l : Addr} {items : Array Value} {Q : Value → Shared → Prop} (hh : A.handled = none) (hit : s.heap.IsRevIter it l ((items.size : Int) - 1)) (hl : s.heap.IsList l items) (hne : l ≠ it) (hn : items.size ≤ sizeLine)
    (hQ : ∀ (h' : Heap) (tk : Nat) (acc : Array Value) (c : Nat), (∀ b o, b ≠ it → s.heap.get? b = some o → h'.get? b = some o) → h'.get? s.heap.objs.size = some { cls := .type "list", dict := none, data := .seq acc c, slots := #[] } →
      ItemsOf (fun i v => items[items.size - 1 - i]? = some v) acc items.size → Q (.ref s.heap.objs.size) { s with heap := h', toks := tk }) :
    wpAny (model P w) A (call (.type "list") [.ref it]) Q E s := by
  refine callType_codes (Q₁ := fun x t => x = .ref s.heap.objs.size ∧ t = { s with heap := s.heap.push { cls := .type "list", data := .seq #[] } }) F.called_list (F.typeCall_list_1 _) F.entry_list_init (code_list_new _ ⟨rfl, rfl⟩) fun x t ht => ?_
  obtain ⟨rfl, rfl⟩ := ht
  exact ⟨⟨_, Heap.get?_push_size _ rfl, rfl⟩, F.args_list_init_2 _ _, list_rev_init (A := A.in1) (by simp [hh]) hit hl hne hn fun h' tk acc c k hS hi => ⟨rfl, hQ h' tk acc c k hS hi⟩⟩
end
section
variable {X : Cx}
/-- list(reversed(e)), e a list: a new list -/
def tListRev (te : TE) : TE := fun σ H Q => te σ H fun v H1 => ∃ (a : Addr) (xs : List V), v = .ref a ∧ H1 a = some (.lst xs) ∧ ∀ q, H1 q = none → Q (.ref q) (upd H1 q (.lst xs.reverse))
theorem pe_listRev {e : Expr} {te : TE} {p p2 pos pos2 : Pos} (hc : X.calm = true) (hg : Gl X "list") (hm : X.mg "list" = none) (hg2 : Gl X "reversed") (hm2 : X.mg "reversed" = none) (he : PE X e te)
    (hs : starEach [e] X.env = (false, eval e X.env) :: starEach [] X.env := by rfl)
    (hs2 : starEach [.Call (.Name "reversed" p2) [e] [] pos2] X.env = (false, eval (.Call (.Name "reversed" p2) [e] [] pos2) X.env) :: starEach [] X.env := by rfl) :
    PE X (.Call (.Name "list" p) [.Call (.Name "reversed" p2) [e] [] pos2] [] pos) (tListRev te) := by
  refine ⟨fun pins s σ H Q I h => ?_⟩
  have inner : wpAny (model X.prog X.w) X.A (eval (.Call (.Name "reversed" p2) [e] [] pos2) X.env) (fun v t => wpAny (model X.prog X.w) X.A (call (.type "list") [v]) (EP X pins σ Q) X.xe t) X.xe s := by
    refine Call_ (ld_blt I hg2 hm2 PyProof.Rows.boot_reversed (PyProof.Rows.callWith_type1 (args_cons (thn (he.run pins s σ H _ I h) fun u s1 ⟨v, H1, I1, r1, a, xs, ev, hq, q⟩ => args_nil ?_) hs) hs rfl))
    subst ev
    cases r1
    obtain ⟨its, rv, pl, hz⟩ := I1.list (show SqL X.K H1 a xs from .inl (.inl hq))
    refine call_reversed_list pl.isList ?_
    have I2 : Inv X pins σ H1 { s1 with heap := s1.heap.push (revObj a ((its.toArray.size : Int) - 1)) } := I1.kept (t' := s1.toks) fun b o e => Heap.get?_push_of_some _ e
    have fp := I1.fpOk (H' := H1) (b := s1.heap.objs.size) (Nat.le_refl _) (I1.hok.fresh (Nat.le_refl _))
    have old : a < s1.heap.objs.size := by obtain ⟨o, ho, _⟩ := pl.isList; exact Heap.lt_size ho
    refine list_of_rev (s := { s1 with heap := s1.heap.push (revObj a ((its.toArray.size : Int) - 1)) }) (I1.ok.hd hc) ⟨_, Heap.get?_push_size _ rfl, rfl, rfl⟩ (pl.isList.push _) (Nat.ne_of_lt old) (by rw [List.size_toArray, ← rv.length]; exact hz) fun h' tk acc c hk hS hi => ?_
    have hlen : xs.reverse.length ≤ sizeLine := by rw [List.length_reverse]; exact hz
    refine ⟨.ref _, _, I2.turnedNew (t' := tk) (ch := [s1.heap.objs.size]) (T := (s1.heap.push (revObj a ((its.toArray.size : Int) - 1))).objs.size) (ob := .lst xs.reverse) (fun b o hb e => hk b o (fun z => hb (by simp [z])) e) (fun b hb => by rw [List.mem_singleton.mp hb]; exact fp) (Nat.le_refl _)
      ⟨hlen, acc.toList, c, RT.vals_rev rv hi, by rw [Array.toArray_toList]; exact hS⟩, rfl, q _ (I2.hok.fresh (Nat.le_refl _))⟩
  exact Call_ (ld_blt I hg hm boot_list (PyProof.Rows.callWith_type1 (args_cons (wpAny_mono inner (fun v t h => args_nil h) fun _ _ h => h) hs2) hs2 rfl))
end
end Sr
/-! The text by places, what the walk asks of the top, promises by name, the data. -/
namespace Sr
open PySem PySem.Spec PyProof.Rows L2 Evl
def topS (i : Nat) : Stmt := PySem.Challenge.pw_spanrow_k97_whole_rings_of_bundles.main.body.getD i (.Pass ⟨0, 0, 0, 0⟩)
abbrev s_webinit : Stmt := inClass (topS 15) 0
abbrev s_made_set : Stmt := topS 16
abbrev s_marks_over : Stmt := topS 17
abbrev s_pieces_of : Stmt := topS 18
abbrev s_is_joined : Stmt := topS 19
abbrev s_is_tree : Stmt := topS 21
abbrev s_look_at_tree : Stmt := topS 22
abbrev s_grown : Stmt := topS 23
abbrev s_least_tree : Stmt := topS 24
abbrev s_without_tie : Stmt := topS 25
abbrev s_ring_of : Stmt := topS 26
abbrev s_place_from : Stmt := topS 28
abbrev s_look_at_turns : Stmt := topS 29
abbrev s_darts_behind : Stmt := topS 30
abbrev s_rounds_of : Stmt := topS 31
abbrev s_lies_flat : Stmt := topS 32
abbrev s_other_web : Stmt := topS 33
abbrev s_left_of : Stmt := topS 34
abbrev s_look_at_table : Stmt := topS 36
abbrev s_first_row_with : Stmt := topS 37
abbrev s_cleared : Stmt := topS 38
abbrev s_determinant : Stmt := topS 39
abbrev s_pulls : Stmt := topS 41
abbrev s_without_last : Stmt := topS 42
abbrev s_pull_table : Stmt := topS 43
abbrev s_tree_count : Stmt := topS 44
abbrev s_count_with : Stmt := topS 45
abbrev s_strinit : Stmt := inClass (topS 47) 0
abbrev s_st_piece_ends : Stmt := inClass (topS 47) 1
abbrev s_st_loose_on_ring : Stmt := inClass (topS 47) 2
abbrev s_st_next_lead : Stmt := inClass (topS 47) 3
abbrev s_st_first_half : Stmt := inClass (topS 47) 4
abbrev s_st_second_half : Stmt := inClass (topS 47) 5
abbrev s_st_laid_out : Stmt := inClass (topS 47) 6
abbrev s_st_between : Stmt := inClass (topS 47) 7
abbrev s_swapped : Stmt := topS 48
abbrev s_least_open : Stmt := topS 49
abbrev s_whole_row : Stmt := topS 50
abbrev s_row_at : Stmt := topS 51
abbrev s_row_from : Stmt := topS 52
abbrev s_common_measure : Stmt := topS 54
abbrev s_lowest : Stmt := topS 55
abbrev s_look_for_parts : Stmt := topS 56
abbrev s_share_of : Stmt := topS 57
abbrev s_law_mixed : Stmt := topS 60
abbrev s_law_bundles : Stmt := topS 61
abbrev s_law_made : Stmt := topS 62
abbrev s_law_due : Stmt := topS 63
abbrev s_law_other_good : Stmt := topS 64
abbrev s_law : Stmt := topS 65
theorem sc_webinit : FnScope ["self", "places", "ties", "one", "other"] ["self", "places", "ties"] (defScope s_webinit) := ⟨rfl, rfl, rfl, by decide +kernel, rfl, by decide +kernel, by decide +kernel⟩
theorem sc_made_set : FnScope ["web", "ties", "ahead", "tie"] ["web", "ties"] (defScope s_made_set) := ⟨rfl, rfl, rfl, by decide +kernel, rfl, by decide +kernel, by decide +kernel⟩
theorem sc_marks_over : FnScope ["web", "ties", "marks", "tie", "one", "other", "low", "high", "mark"] ["web", "ties"] (defScope s_marks_over) := ⟨rfl, rfl, rfl, by decide +kernel, rfl, by decide +kernel, by decide +kernel⟩
theorem sc_pieces_of : FnScope ["web", "ties", "marks", "mark", "place"] ["web", "ties"] (defScope s_pieces_of) := ⟨rfl, rfl, rfl, by decide +kernel, rfl, by decide +kernel, by decide +kernel⟩
theorem sc_is_joined : FnScope ["web", "ties"] ["web", "ties"] (defScope s_is_joined) := ⟨rfl, rfl, rfl, by decide +kernel, rfl, by decide +kernel, by decide +kernel⟩
theorem sc_is_tree : FnScope ["web", "ties", "ahead", "tie"] ["web", "ties"] (defScope s_is_tree) := ⟨rfl, rfl, rfl, by decide +kernel, rfl, by decide +kernel, by decide +kernel⟩
theorem sc_look_at_tree : FnScope ["web", "tree"] ["web", "tree"] (defScope s_look_at_tree) := ⟨rfl, rfl, rfl, by decide +kernel, rfl, by decide +kernel, by decide +kernel⟩
theorem sc_grown : FnScope ["web", "kept", "order", "told", "marks", "tie", "one", "other"] ["web", "kept", "order"] (defScope s_grown) := ⟨rfl, rfl, rfl, by decide +kernel, rfl, by decide +kernel, by decide +kernel⟩
theorem sc_least_tree : FnScope ["web", "tree"] ["web"] (defScope s_least_tree) := ⟨rfl, rfl, rfl, by decide +kernel, rfl, by decide +kernel, by decide +kernel⟩
theorem sc_without_tie : FnScope ["ties", "tie", "other"] ["ties", "tie"] (defScope s_without_tie) := ⟨rfl, rfl, rfl, by decide +kernel, rfl, by decide +kernel, by decide +kernel⟩
theorem sc_ring_of : FnScope ["web", "tree", "tie", "one", "other", "told", "inner", "marks"] ["web", "tree", "tie"] (defScope s_ring_of) := ⟨rfl, rfl, rfl, by decide +kernel, rfl, by decide +kernel, by decide +kernel⟩
theorem sc_place_from : FnScope ["web", "dart"] ["web", "dart"] (defScope s_place_from) := ⟨rfl, rfl, rfl, by decide +kernel, rfl, by decide +kernel, by decide +kernel⟩
theorem sc_look_at_turns : FnScope ["web", "turns", "met", "place", "row", "dart"] ["web", "turns"] (defScope s_look_at_turns) := ⟨rfl, rfl, rfl, by decide +kernel, rfl, by decide +kernel, by decide +kernel⟩
theorem sc_darts_behind : FnScope ["turns", "told", "row", "k", "dart"] ["turns"] (defScope s_darts_behind) := ⟨rfl, rfl, rfl, by decide +kernel, rfl, by decide +kernel, by decide +kernel⟩
theorem sc_rounds_of : FnScope ["web", "turns", "behind", "met", "told", "dart", "row", "at"] ["web", "turns"] (defScope s_rounds_of) := ⟨rfl, rfl, rfl, by decide +kernel, rfl, by decide +kernel, by decide +kernel⟩
theorem sc_lies_flat : FnScope ["web", "turns", "rounds", "everything"] ["web", "turns"] (defScope s_lies_flat) := ⟨rfl, rfl, rfl, by decide +kernel, rfl, by decide +kernel, by decide +kernel⟩
theorem sc_other_web : FnScope ["web", "turns", "rounds", "place", "k", "row", "dart", "tie"] ["web", "turns"] (defScope s_other_web) := ⟨rfl, rfl, rfl, by decide +kernel, rfl, by decide +kernel, by decide +kernel⟩
theorem sc_left_of : FnScope ["web", "tree", "tie"] ["web", "tree"] (defScope s_left_of) := ⟨rfl, rfl, rfl, by decide +kernel, rfl, by decide +kernel, by decide +kernel⟩
theorem sc_look_at_table : FnScope ["table", "row"] ["table"] (defScope s_look_at_table) := ⟨rfl, rfl, rfl, by decide +kernel, rfl, by decide +kernel, by decide +kernel⟩
theorem sc_first_row_with : FnScope ["rows", "at", "k"] ["rows", "at"] (defScope s_first_row_with) := ⟨rfl, rfl, rfl, by decide +kernel, rfl, by decide +kernel, by decide +kernel⟩
theorem sc_cleared : FnScope ["rows", "at", "ahead", "told", "pivot", "row", "made", "j"] ["rows", "at", "ahead"] (defScope s_cleared) := ⟨rfl, rfl, rfl, by decide +kernel, rfl, by decide +kernel, by decide +kernel⟩
theorem sc_determinant : FnScope ["table", "rows", "sign", "ahead", "at", "found", "row"] ["table"] (defScope s_determinant) := ⟨rfl, rfl, rfl, by decide +kernel, rfl, by decide +kernel, by decide +kernel⟩
theorem sc_pulls : FnScope ["count", "ties", "table", "one", "other", "place"] ["count", "ties"] (defScope s_pulls) := ⟨rfl, rfl, rfl, by decide +kernel, rfl, by decide +kernel, by decide +kernel⟩
theorem sc_without_last : FnScope ["table", "row"] ["table"] (defScope s_without_last) := ⟨rfl, rfl, rfl, by decide +kernel, rfl, by decide +kernel, by decide +kernel⟩
theorem sc_pull_table : FnScope ["web"] ["web"] (defScope s_pull_table) := ⟨rfl, rfl, rfl, by decide +kernel, rfl, by decide +kernel, by decide +kernel⟩
theorem sc_tree_count : FnScope ["web"] ["web"] (defScope s_tree_count) := ⟨rfl, rfl, rfl, by decide +kernel, rfl, by decide +kernel, by decide +kernel⟩
theorem sc_count_with : FnScope ["web", "inside", "outside", "kept", "shut", "pieces", "place", "k", "piece", "one", "ties", "tie", "pair"] ["web", "inside", "outside"] (defScope s_count_with) := ⟨rfl, rfl, rfl, by decide +kernel, rfl, by decide +kernel, by decide +kernel⟩
theorem sc_strinit : FnScope ["self", "web", "kept", "shut", "base", "lead", "count"] ["self", "web", "kept", "shut", "base", "lead", "count"] (defScope s_strinit) := ⟨rfl, rfl, rfl, by decide +kernel, rfl, by decide +kernel, by decide +kernel⟩
theorem sc_st_piece_ends : FnScope ["self", "marks", "k", "piece", "place", "ends", "tie", "pair", "one", "other"] ["self"] (defScope s_st_piece_ends) := ⟨rfl, rfl, rfl, by decide +kernel, rfl, by decide +kernel, by decide +kernel⟩
theorem sc_st_loose_on_ring : FnScope ["self", "ring", "tie"] ["self"] (defScope s_st_loose_on_ring) := ⟨rfl, rfl, rfl, by decide +kernel, rfl, by decide +kernel, by decide +kernel⟩
theorem sc_st_next_lead : FnScope ["self", "ends", "tie"] ["self"] (defScope s_st_next_lead) := ⟨rfl, rfl, rfl, by decide +kernel, rfl, by decide +kernel, by decide +kernel⟩
theorem sc_st_first_half : FnScope ["self", "lead", "shut", "count"] ["self", "lead"] (defScope s_st_first_half) := ⟨rfl, rfl, rfl, by decide +kernel, rfl, by decide +kernel, by decide +kernel⟩
theorem sc_st_second_half : FnScope ["self", "lead", "first", "kept", "base"] ["self", "lead", "first"] (defScope s_st_second_half) := ⟨rfl, rfl, rfl, by decide +kernel, rfl, by decide +kernel, by decide +kernel⟩
theorem sc_st_laid_out : FnScope ["self", "loose", "tie", "twins", "told", "k", "out_row", "out"] ["self"] (defScope s_st_laid_out) := ⟨rfl, rfl, rfl, by decide +kernel, rfl, by decide +kernel, by decide +kernel⟩
theorem sc_st_between : FnScope ["self", "low", "high", "lead", "told", "first", "second", "behind"] ["self", "low", "high"] (defScope s_st_between) := ⟨rfl, rfl, rfl, by decide +kernel, rfl, by decide +kernel, by decide +kernel⟩
theorem sc_swapped : FnScope ["tree", "out", "into", "tie"] ["tree", "out", "into"] (defScope s_swapped) := ⟨rfl, rfl, rfl, by decide +kernel, rfl, by decide +kernel, by decide +kernel⟩
theorem sc_least_open : FnScope ["web", "base", "tie", "pair"] ["web", "base"] (defScope s_least_open) := ⟨rfl, rfl, rfl, by decide +kernel, rfl, by decide +kernel, by decide +kernel⟩
theorem sc_whole_row : FnScope ["web", "count", "base"] ["web"] (defScope s_whole_row) := ⟨rfl, rfl, rfl, by decide +kernel, rfl, by decide +kernel, by decide +kernel⟩
theorem sc_row_at : FnScope ["web", "number"] ["web", "number"] (defScope s_row_at) := ⟨rfl, rfl, rfl, by decide +kernel, rfl, by decide +kernel, by decide +kernel⟩
theorem sc_row_from : FnScope ["web", "number", "most", "count", "last", "row"] ["web", "number", "most"] (defScope s_row_from) := ⟨rfl, rfl, rfl, by decide +kernel, rfl, by decide +kernel, by decide +kernel⟩
theorem sc_common_measure : FnScope ["one", "other"] ["one", "other"] (defScope s_common_measure) := ⟨rfl, rfl, rfl, by decide +kernel, rfl, by decide +kernel, by decide +kernel⟩
theorem sc_lowest : FnScope ["top", "bottom", "measure"] ["top", "bottom"] (defScope s_lowest) := ⟨rfl, rfl, rfl, by decide +kernel, rfl, by decide +kernel, by decide +kernel⟩
theorem sc_look_for_parts : FnScope ["web"] ["web"] (defScope s_look_for_parts) := ⟨rfl, rfl, rfl, by decide +kernel, rfl, by decide +kernel, by decide +kernel⟩
theorem sc_share_of : FnScope ["web", "ties", "inside"] ["web", "ties"] (defScope s_share_of) := ⟨rfl, rfl, rfl, by decide +kernel, rfl, by decide +kernel, by decide +kernel⟩
theorem sc_law_mixed : FnScope ["cell", "k", "first", "second"] ["cell", "k"] (defScope s_law_mixed) := ⟨rfl, rfl, rfl, by decide +kernel, rfl, by decide +kernel, by decide +kernel⟩
theorem sc_law_bundles : FnScope ["cell", "places", "k", "sizes", "left", "bundles", "bundle", "j"] ["cell"] (defScope s_law_bundles) := ⟨rfl, rfl, rfl, by decide +kernel, rfl, by decide +kernel, by decide +kernel⟩
theorem sc_law_made : FnScope ["bundles", "cell", "places", "ties", "turns", "tie", "flips", "k", "ends", "onward", "backward", "bundle"] ["bundles", "cell"] (defScope s_law_made) := ⟨rfl, rfl, rfl, by decide +kernel, rfl, by decide +kernel, by decide +kernel⟩
theorem sc_law_due : FnScope ["bundles", "told", "k", "ways", "j"] ["bundles"] (defScope s_law_due) := ⟨rfl, rfl, rfl, by decide +kernel, rfl, by decide +kernel, by decide +kernel⟩
theorem sc_law_other_good : FnScope ["web", "turns", "cell", "many", "other", "k", "tree", "rest", "tie", "one", "two"] ["web", "turns", "cell", "many"] (defScope s_law_other_good) := ⟨rfl, rfl, rfl, by decide +kernel, rfl, by decide +kernel, by decide +kernel⟩
theorem sc_law : FnScope ["script", "cell", "bundles", "ties", "turns", "web", "many", "rounds"] ["script"] (defScope s_law) := ⟨rfl, rfl, rfl, by decide +kernel, rfl, by decide +kernel, by decide +kernel⟩
/-! ### where the defs stand -/
def At (K : PySem.W.Frag) (mg : Str → Option Value) (x : Str) (st : Stmt) (ps : List Str) : Prop := ∃ f fd, mg x = some (.ref f) ∧ Fun K x x st f fd ∧ Binds K fd ps []
def MAt (K : PySem.W.Frag) (C : Addr) (m qual : Str) (st : Stmt) (ps : List Str) : Prop := ∃ f fd, Meth K C m f ∧ Fun K m qual st f fd ∧ Binds K fd ps []
def IAt (K : PySem.W.Frag) (C : Addr) (qual : Str) (st : Stmt) (ps : List Str) : Prop := ∃ f fd, Mk K C f ∧ Fun K "__init__" qual st f fd ∧ Binds K fd ps []
structure Txt (K : PySem.W.Frag) (mg : Str → Option Value) (CW CS : Addr) : Prop where
  intro ::
  z_len : mg "len" = none
  z_range : mg "range" = none
  z_list : mg "list" = none
  z_tuple : mg "tuple" = none
  z_min : mg "min" = none
  z_max : mg "max" = none
  z_sorted : mg "sorted" = none
  z_set : mg "set" = none
  z_enumerate : mg "enumerate" = none
  z_reversed : mg "reversed" = none
  z_any : mg "any" = none
  z_sum : mg "sum" = none
  z_abs : mg "abs" = none
  g_MOST_PLACES : ∃ t, mg "MOST_PLACES" = some (.int 14 t)
  g_MOST_TIES : ∃ t, mg "MOST_TIES" = some (.int 30 t)
  cW : Cls K CW
  cS : Cls K CS
  nW_places : NoAttr K CW "places"
  nW_ties : NoAttr K CW "ties"
  nS_web : NoAttr K CS "web"
  nS_kept : NoAttr K CS "kept"
  nS_shut : NoAttr K CS "shut"
  nS_base : NoAttr K CS "base"
  nS_lead : NoAttr K CS "lead"
  nS_size : NoAttr K CS "size"
  mW : mg "Web" = some (.ref CW)
  mS : mg "Stretch" = some (.ref CS)
  a_webinit : IAt K CW "Web.__init__" s_webinit ["self", "places", "ties"]
  a_made_set : At K mg "made_set" s_made_set ["web", "ties"]
  a_marks_over : At K mg "marks_over" s_marks_over ["web", "ties"]
  a_pieces_of : At K mg "pieces_of" s_pieces_of ["web", "ties"]
  a_is_joined : At K mg "is_joined" s_is_joined ["web", "ties"]
  a_is_tree : At K mg "is_tree" s_is_tree ["web", "ties"]
  a_look_at_tree : At K mg "look_at_tree" s_look_at_tree ["web", "tree"]
  a_grown : At K mg "grown" s_grown ["web", "kept", "order"]
  a_least_tree : At K mg "least_tree" s_least_tree ["web"]
  a_without_tie : At K mg "without_tie" s_without_tie ["ties", "tie"]
  a_ring_of : At K mg "ring_of" s_ring_of ["web", "tree", "tie"]
  a_place_from : At K mg "place_from" s_place_from ["web", "dart"]
  a_look_at_turns : At K mg "look_at_turns" s_look_at_turns ["web", "turns"]
  a_darts_behind : At K mg "darts_behind" s_darts_behind ["turns"]
  a_rounds_of : At K mg "rounds_of" s_rounds_of ["web", "turns"]
  a_lies_flat : At K mg "lies_flat" s_lies_flat ["web", "turns"]
  a_other_web : At K mg "other_web" s_other_web ["web", "turns"]
  a_left_of : At K mg "left_of" s_left_of ["web", "tree"]
  a_look_at_table : At K mg "look_at_table" s_look_at_table ["table"]
  a_first_row_with : At K mg "first_row_with" s_first_row_with ["rows", "at"]
  a_cleared : At K mg "cleared" s_cleared ["rows", "at", "ahead"]
  a_determinant : At K mg "determinant" s_determinant ["table"]
  a_pulls : At K mg "pulls" s_pulls ["count", "ties"]
  a_without_last : At K mg "without_last" s_without_last ["table"]
  a_pull_table : At K mg "pull_table" s_pull_table ["web"]
  a_tree_count : At K mg "tree_count" s_tree_count ["web"]
  a_count_with : At K mg "count_with" s_count_with ["web", "inside", "outside"]
  a_strinit : IAt K CS "Stretch.__init__" s_strinit ["self", "web", "kept", "shut", "base", "lead", "count"]
  a_st_piece_ends : MAt K CS "piece_ends" "Stretch.piece_ends" s_st_piece_ends ["self"]
  a_st_loose_on_ring : MAt K CS "loose_on_ring" "Stretch.loose_on_ring" s_st_loose_on_ring ["self"]
  a_st_next_lead : MAt K CS "next_lead" "Stretch.next_lead" s_st_next_lead ["self"]
  a_st_first_half : MAt K CS "first_half" "Stretch.first_half" s_st_first_half ["self", "lead"]
  a_st_second_half : MAt K CS "second_half" "Stretch.second_half" s_st_second_half ["self", "lead", "first"]
  a_st_laid_out : MAt K CS "laid_out" "Stretch.laid_out" s_st_laid_out ["self"]
  a_st_between : MAt K CS "between" "Stretch.between" s_st_between ["self", "low", "high"]
  a_swapped : At K mg "swapped" s_swapped ["tree", "out", "into"]
  a_least_open : At K mg "least_open" s_least_open ["web", "base"]
  a_whole_row : At K mg "whole_row" s_whole_row ["web"]
  a_row_at : At K mg "row_at" s_row_at ["web", "number"]
  a_row_from : At K mg "row_from" s_row_from ["web", "number", "most"]
  a_common_measure : At K mg "common_measure" s_common_measure ["one", "other"]
  a_lowest : At K mg "lowest" s_lowest ["top", "bottom"]
  a_look_for_parts : At K mg "look_for_parts" s_look_for_parts ["web"]
  a_share_of : At K mg "share_of" s_share_of ["web", "ties"]
  a_law_mixed : At K mg "_law_mixed" s_law_mixed ["cell", "k"]
  a_law_bundles : At K mg "_law_bundles" s_law_bundles ["cell"]
  a_law_made : At K mg "_law_made" s_law_made ["bundles", "cell"]
  a_law_due : At K mg "_law_due" s_law_due ["bundles"]
  a_law_other_good : At K mg "_law_other_good" s_law_other_good ["web", "turns", "cell", "many"]
/-! ### promises by name -/
section
variable (P : Program) (w : World) (K : PySem.W.Frag) (mg : Str → Option Value) (base : Heap)
def Def (x : Str) (k : Nat) (ps : List Str) (sp : Sp) : Prop := ∃ f fd, mg x = some (.ref f) ∧ PySem.W.keepIn K (.ref f) = true ∧ Binds K fd ps [] ∧ FnOk P w K mg base CX0 k f fd ps sp
def MDef (C : Addr) (m : Str) (k : Nat) (ps : List Str) (sp : Sp) : Prop := ∃ f fd, Meth K C m f ∧ Binds K fd ps [] ∧ FnOk P w K mg base CX0 k f fd ps sp
def IDef (C : Addr) (k : Nat) (ps : List Str) (sp : Sp) : Prop := ∃ f fd, Mk K C f ∧ Binds K fd ps [] ∧ FnOk P w K mg base CX0 k f fd ps sp
end
section
variable {P : Program} {w : World} {K : PySem.W.Frag} {mg : Str → Option Value} {base : Heap} {C : Addr} {x m qual : Str} {st : Stmt} {N ps : List Str} {k : Nat} {sp : Sp}
theorem def_by (A : At K mg x st ps) (S : FnScope N ps (defScope st)) (len : ∀ vs H Q E, sp vs H Q E → vs.length = ps.length)
    (h : ∀ (f : Addr) (cdv : Value) (A : Around) (outer : List Env) (s : Shared) (H : Hp) (vs : List V) (Q : VK) (E : XK), Room k (A.deeper (envOfC x (defScope st) s.heap.objs.size f cdv)) → sp vs H Q E →
      ∃ t, PSs (cxOf CX0 P w K mg base N x (defScope st) f cdv A outer s H E).nox (defBody st) t ∧ t { nx := fun _ H' => Q .non H', rt := Q } (start N vs) H) : Def P w K mg base x (k + 1) ps sp := by
  obtain ⟨f, fd, a, F, b⟩ := A
  exact ⟨f, fd, a, F.kp, b, F.ok S len (h f)⟩
theorem mdef_by (A : MAt K C m qual st ps) (S : FnScope N ps (defScope st)) (len : ∀ vs H Q E, sp vs H Q E → vs.length = ps.length)
    (h : ∀ (f : Addr) (cdv : Value) (A : Around) (outer : List Env) (s : Shared) (H : Hp) (vs : List V) (Q : VK) (E : XK), Room k (A.deeper (envOfC qual (defScope st) s.heap.objs.size f cdv)) → sp vs H Q E →
      ∃ t, PSs (cxOf CX0 P w K mg base N qual (defScope st) f cdv A outer s H E).nox (defBody st) t ∧ t { nx := fun _ H' => Q .non H', rt := Q } (start N vs) H) : MDef P w K mg base C m (k + 1) ps sp := by
  obtain ⟨f, fd, a, F, b⟩ := A
  exact ⟨f, fd, a, b, F.ok S len (h f)⟩
theorem idef_by (A : IAt K C qual st ps) (S : FnScope N ps (defScope st)) (len : ∀ vs H Q E, sp vs H Q E → vs.length = ps.length)
    (h : ∀ (f : Addr) (cdv : Value) (A : Around) (outer : List Env) (s : Shared) (H : Hp) (vs : List V) (Q : VK) (E : XK), Room k (A.deeper (envOfC qual (defScope st) s.heap.objs.size f cdv)) → sp vs H Q E →
      ∃ t, PSs (cxOf CX0 P w K mg base N qual (defScope st) f cdv A outer s H E).nox (defBody st) t ∧ t { nx := fun _ H' => Q .non H', rt := Q } (start N vs) H) : IDef P w K mg base C (k + 1) ps sp := by
  obtain ⟨f, fd, a, F, b⟩ := A
  exact ⟨f, fd, a, b, F.ok S len (h f)⟩
end
section
variable {X : Cx} {C : Addr} {x m : Str} {ps : List Str} {k j : Nat} {sp : Sp} {e o : Expr} {es : List Expr} {t : TA} {to : TE} {p pos apos : Pos}
theorem pe_def (D : Def X.prog X.w X.K X.mg X.base x k ps sp) (hr : Room j X.A) (hkj : k ≤ j) (hg : Gl X x) (ha : PA X (e :: es) t)
    (hdb : (x == ("__debug__" : Str)) = false := by decide) (he : starEach (e :: es) X.env = (false, eval e X.env) :: starEach es X.env := by rfl) (hpl : (backTo pos (starEach es X.env)).any (·.1) = false := by rfl) :
    PE X (.Call (.Name x p) (e :: es) [] pos) (tCall sp [] E0 t) := by
  obtain ⟨f, fd, a, b, c, d⟩ := D
  exact pe_call d (hr.mono hkj) hg a b c .nil pass0 ha hdb he hpl
theorem pe_md {pl : Sem Bool} (ho : PE X o to) (c : Cls X.K C) (D : MDef X.prog X.w X.K X.mg X.base C m k ps sp) (hr : Room j X.A) (hkj : k ≤ j) (ha : PA X (e :: es) t)
    (hst : starEach (e :: es) X.env = (false, eval e X.env) :: starEach es X.env := by rfl) (hpl : (backTo pos (starEach es X.env)).any (·.1) = false := by rfl)
    (ht : eval (.Call (.Attribute o m apos) (e :: es) [] pos) X.env = (do
      let ov ← eval o X.env
      standAt apos.atName
      let (f, first) ← holding [ov] (getMethod ov m pl)
      callWith pos f first (backTo pos (starEach (e :: es) X.env)) (backToKw pos (keywordEach [] X.env))) := by rfl) :
    PE X (.Call (.Attribute o m apos) (e :: es) [] pos) (tMeth C m sp [] E0 to t) := by
  obtain ⟨f, fd, a, b, d⟩ := D
  exact pe_meth ho c a d (hr.mono hkj) b .nil pass0 ha hst hpl ht
theorem pe_md0 {pl : Sem Bool} (ho : PE X o to) (c : Cls X.K C) (D : MDef X.prog X.w X.K X.mg X.base C m k ps sp) (hr : Room j X.A) (hkj : k ≤ j)
    (ht : eval (.Call (.Attribute o m apos) [] [] pos) X.env = (do
      let ov ← eval o X.env
      standAt apos.atName
      let (f, first) ← holding [ov] (getMethod ov m pl)
      callWith pos f first (backTo pos (starEach [] X.env)) (backToKw pos (keywordEach [] X.env))) := by rfl) :
    PE X (.Call (.Attribute o m apos) [] [] pos) (tMeth C m sp [] E0 to tNil) := by
  obtain ⟨f, fd, a, b, d⟩ := D
  exact pe_meth0 ho c a d (hr.mono hkj) b .nil pass0 ht
theorem pe_mk (D : IDef X.prog X.w X.K X.mg X.base C k ps sp) (hr : Room j X.A) (hkj : k + 1 ≤ j) (hg : Gl X x) (hm : X.mg x = some (.ref C)) (ha : PA X (e :: es) t)
    (hdb : (x == ("__debug__" : Str)) = false := by decide) (he : starEach (e :: es) X.env = (false, eval e X.env) :: starEach es X.env := by rfl) (hpl : (backTo pos (starEach es X.env)).any (·.1) = false := by rfl) :
    PE X (.Call (.Name x p) (e :: es) [] pos) (tMake C sp [] E0 t) := by
  obtain ⟨f, fd, a, b, d⟩ := D
  exact pe_make a d (hr.mono hkj) hg hm b .nil pass0 ha hdb he hpl
end
/-! ### data -/
def nI (l : List Nat) : List V := l.map fun (n : Nat) => V.int (n : Int)
theorem nI_len (l : List Nat) : (nI l).length = l.length := List.length_map _
theorem nI_app (l l' : List Nat) : nI (l ++ l') = nI l ++ nI l' := List.map_append
theorem nI_one (n : Nat) : nI [n] = [.int (n : Int)] := rfl
theorem nI_get {l : List Nat} {i n : Nat} (h : l[i]? = some n) : (nI l)[i]? = some (.int (n : Int)) := by
  unfold nI; rw [List.getElem?_map, h]; rfl
theorem nI_got {l : List Nat} {i : Nat} {x : V} (h : (nI l)[i]? = some x) : ∃ n, l[i]? = some n ∧ x = .int (n : Int) := by
  unfold nI at h
  rw [List.getElem?_map] at h
  cases e : l[i]? with
  | none => rw [e] at h; cases h
  | some n => rw [e] at h; exact ⟨n, rfl, (Option.some.inj h).symm⟩
theorem nI_int (l : List Nat) : nI l = (l.map (fun (n : Nat) => (n : Int))).map V.int := by unfold nI; rw [List.map_map]; rfl
theorem nI_inj {l l' : List Nat} (h : nI l = nI l') : l = l' := by
  unfold nI at h
  refine List.map_inj_right ?_ |>.mp h
  intro a b q
  exact Int.ofNat.inj (V.int.inj q)
theorem nI_flat (l : List Nat) : (nI l).all flatV = true := by
  unfold nI
  rw [List.all_map]
  exact List.all_eq_true.mpr fun _ _ => rfl
theorem nI_in (n : Nat) (l : List Nat) : inV (.int (n : Int)) (nI l) = decide (n ∈ l) := by
  unfold inV nI
  rw [List.any_map, Bool.eq_iff_iff, List.any_eq_true, decide_eq_true_eq]
  constructor
  · rintro ⟨x, hx, q⟩
    have : (x : Int) = (n : Int) := by simpa [eqV] using q
    have : x = n := by omega
    exact this ▸ hx
  · intro h
    exact ⟨n, h, by simp [eqV]⟩
/-- the ends of a tie -/
def ed (es : List (Nat × Nat)) (t : Nat) : Nat × Nat := es.getD t (0, 0)
def eV (e : Nat × Nat) : HO := .tup [.int (e.1 : Int), .int (e.2 : Int)]
/-- a list of pairs -/
def PL (H : Hp) (l : Addr) (es : List (Nat × Nat)) : Prop := ∃ ps : List Addr, H l = some (.lst (ps.map V.ref)) ∧ ps.length = es.length ∧ ∀ (i : Nat) (a : Addr) (e : Nat × Nat), ps[i]? = some a → es[i]? = some e → H a = some (eV e)
theorem PL.mono {H H' : Hp} {l : Addr} {es : List (Nat × Nat)} (h : PL H l es) (e : Ex H H') : PL H' l es := by
  obtain ⟨ps, a, b, c⟩ := h
  exact ⟨ps, e _ _ a, b, fun i x y p q => e _ _ (c i x y p q)⟩
def wfs (n : Nat) (l : Addr) : List (Str × V) := putF "ties" (.ref l) (putF "places" (.int (n : Int)) [])
theorem k_pt : ¬ (("places" : Str) = "ties") := by decide +kernel
theorem wfs_places (n : Nat) (l : Addr) : (wfs n l).lookup ("places" : Str) = some (.int (n : Int)) := by
  unfold wfs
  rw [lookup_putF, if_neg k_pt, lookup_putF, if_pos rfl]
theorem wfs_ties (n : Nat) (l : Addr) : (wfs n l).lookup ("ties" : Str) = some (.ref l) := by
  unfold wfs
  rw [lookup_putF, if_pos rfl]
/-- a web stands at p -/
def WebAt (CW : Addr) (H : Hp) (p : Addr) (n : Nat) (es : List (Nat × Nat)) : Prop := ∃ dx l, H p = some (.ins CW dx (wfs n l)) ∧ PL H l es ∧ 1 ≤ n ∧ n ≤ 14 ∧ es.length ≤ 30 ∧ MT.InN n es
theorem WebAt.mono {CW : Addr} {H H' : Hp} {p : Addr} {n : Nat} {es : List (Nat × Nat)} (h : WebAt CW H p n es) (e : Ex H H') : WebAt CW H' p n es := by
  obtain ⟨dx, l, a, b, c⟩ := h
  exact ⟨dx, l, e _ _ a, b.mono e, c⟩
/-- a list of lists of ints -/
def LL (H : Hp) (l : Addr) (rows : List (List Int)) : Prop := ∃ ps : List Addr, H l = some (.lst (ps.map V.ref)) ∧ ps.length = rows.length ∧ ∀ (i : Nat) (a : Addr) (r : List Int), ps[i]? = some a → rows[i]? = some r → H a = some (.lst (r.map V.int))
theorem LL.mono {H H' : Hp} {l : Addr} {rows : List (List Int)} (h : LL H l rows) (e : Ex H H') : LL H' l rows := by
  obtain ⟨ps, a, b, c⟩ := h
  exact ⟨ps, e _ _ a, b, fun i x y p q => e _ _ (c i x y p q)⟩
/-- a list of lists of numbers from nought on -/
def NL (H : Hp) (l : Addr) (rows : List (List Nat)) : Prop := ∃ ps : List Addr, H l = some (.lst (ps.map V.ref)) ∧ ps.length = rows.length ∧ ∀ (i : Nat) (a : Addr) (r : List Nat), ps[i]? = some a → rows[i]? = some r → H a = some (.lst (nI r))
theorem NL.mono {H H' : Hp} {l : Addr} {rows : List (List Nat)} (h : NL H l rows) (e : Ex H H') : NL H' l rows := by
  obtain ⟨ps, a, b, c⟩ := h
  exact ⟨ps, e _ _ a, b, fun i x y p q => e _ _ (c i x y p q)⟩
theorem sz {n : Nat} (h : n ≤ 100000) : n ≤ sizeLine := sz_of h
theorem ref_get {ps : List Addr} {i : Nat} {x : V} (h : (ps.map V.ref)[i]? = some x) : ∃ a, ps[i]? = some a ∧ x = .ref a := by
  rw [List.getElem?_map] at h
  cases e : ps[i]? with
  | none => rw [e] at h; cases h
  | some a => rw [e] at h; exact ⟨a, rfl, (Option.some.inj h).symm⟩
theorem some_of {α : Type} {l : List α} {i : Nat} (h : i < l.length) : ∃ a, l[i]? = some a := ⟨l[i], List.getElem?_eq_getElem h⟩
theorem PL.at {H : Hp} {l : Addr} {es : List (Nat × Nat)} (h : PL H l es) {t : Nat} (ht : t < es.length) : ∃ xs a, H l = some (.lst xs) ∧ xs.length = es.length ∧ xs[t]? = some (.ref a) ∧ H a = some (eV (ed es t)) := by
  obtain ⟨ps, a, b, c⟩ := h
  obtain ⟨q, hq⟩ := some_of (l := ps) (i := t) (by omega)
  refine ⟨_, q, a, by rw [List.length_map, b], by rw [List.getElem?_map, hq]; rfl, c t q _ hq ?_⟩
  unfold ed
  rw [List.getD_eq_getElem?_getD, List.getElem?_eq_getElem ht]; rfl
end Sr
/-! Tests that are known; comprehensions over any walk; what evaluates to what, told by a word. -/
namespace Sr
open PySem PySem.Spec PyProof.Rows L2 Evl
theorem ifF {c A B : Prop} [Decidable c] (h : ¬ c) (b : B) : if decide c = true then A else B := by
  rw [if_neg (by simp [h])]; exact b
theorem ifT {c A B : Prop} [Decidable c] (h : c) (a : A) : if decide c = true then A else B := by
  rw [if_pos (by simp [h])]; exact a
theorem ifN {c A B : Prop} [Decidable c] (h : c) (b : B) : if (!decide c) = true then A else B := by
  rw [if_neg (by simp [h])]; exact b
theorem ifNT {c A B : Prop} [Decidable c] (h : ¬ c) (a : A) : if (!decide c) = true then A else B := by
  rw [if_pos (by simp [h])]; exact a
theorem asc_of {E : Nat} {S : List Nat} (h : S ∈ MT.subs (List.range E)) : S.Pairwise (· < ·) := List.Pairwise.sublist (MT.mem_subs.mp h) List.pairwise_lt_range
theorem asc_get {S : List Nat} (h : S.Pairwise (· < ·)) {i j a b : Nat} (hi : S[i]? = some a) (hj : S[j]? = some b) (ij : i < j) : a < b := by
  obtain ⟨h1, e1⟩ := List.getElem?_eq_some_iff.mp hi
  obtain ⟨h2, e2⟩ := List.getElem?_eq_some_iff.mp hj
  rw [← e1, ← e2]
  exact List.pairwise_iff_getElem.mp h i j h1 h2 ij
/-- what evaluates to something of which φ holds -/
def EvP (te : TE) (σ : L2.St) (H : Hp) (φ : V → Hp → Prop) : Prop := ∀ H1, Ex H H1 → ∀ Q : VK, (∀ v H2, Ex H1 H2 → φ v H2 → Q v H2) → te σ H1 Q
def SpP (sp : Sp) (vs : List V) (H : Hp) (φ : V → Hp → Prop) : Prop := ∀ H1, Ex H H1 → ∀ Q : VK, (∀ v H2, Ex H1 H2 → φ v H2 → Q v H2) → sp vs H1 Q E0
section
variable {K : PySem.W.Frag} {σ : L2.St} {H H' : Hp} {ta tb te tx : TE} {t u : TT} {x y z v : V} {r : R2} {φ ψ : V → Hp → Prop}
theorem EvP.go (h : EvP te σ H φ) {Q : VK} (q : ∀ v H2, Ex H H2 → φ v H2 → Q v H2) : te σ H Q := h H (Ex.refl H) Q q
theorem Ev.p (h : Ev te σ H v) : EvP te σ H (fun x _ => x = v) := fun H1 e Q q => h H1 e Q fun H2 e2 => q v H2 e2 rfl
theorem EvP.imp (h : EvP te σ H φ) (i : ∀ v H, φ v H → ψ v H) : EvP te σ H ψ := fun H1 e Q q => h H1 e Q fun v H2 e2 p => q v H2 e2 (i v H2 p)
theorem EvP.mono (e : Ex H H') (h : EvP te σ H φ) : EvP te σ H' φ := fun H1 a Q q => h H1 (e.trans a) Q q
theorem evp_call {sp : Sp} {vs : List V} {tas : TA} (h : EvA tas σ H vs) (hs : SpP sp vs H φ) : EvP (tCall sp [] E0 tas) σ H φ := fun H1 e Q q =>
  h H1 e _ fun H2 e2 => by
    show sp (vs ++ []) H2 Q E0
    rw [List.append_nil]
    exact hs H2 (e.trans e2) Q fun v H3 e3 p => q v H3 (e2.trans e3) p
/-- a call whose one argument is made on the way -/
theorem evp_call1 {sp : Sp} (h : EvP te σ H φ) (hs : ∀ v H1, Ex H H1 → φ v H1 → SpP sp [v] H1 ψ) : EvP (tCall sp [] E0 (tCons te tNil)) σ H ψ := fun H1 e Q q =>
  h H1 e _ fun v H2 e2 p => hs v H2 (e.trans e2) p H2 (Ex.refl H2) Q fun w H3 e3 p3 => q w H3 (e2.trans e3) p3
theorem ev_fld {p C dx : Addr} {fs : List (Str × V)} {f : Str} (h : Ev te σ H (.ref p)) (hp : H p = some (.ins C dx fs)) (c : Cls K C) (n : NoAttr K C f) (l : fs.lookup f = some v) : Ev (tFld K te f) σ H v := fun H1 e Q q =>
  h H1 e _ fun H2 e2 => ⟨p, C, dx, fs, v, rfl, e2 _ _ (e _ _ hp), c, n, l, q H2 e2⟩
theorem ev_lenS {p : Addr} {xs : List V} (h : Ev te σ H (.ref p)) (hx : H p = some (.lst xs) ∨ H p = some (.tup xs)) : Ev (tCB (rLenS K) (tCons te tNil)) σ H (.int (xs.length : Int)) := fun H1 e Q q =>
  h H1 e _ fun H2 e2 => ⟨p, xs, rfl, hx.elim (fun a => .inl (sq_of (e2 _ _ (e _ _ a)))) (fun a => .inr (st_of (e2 _ _ (e _ _ a)))), q H2 e2⟩
theorem et_yes : EvT tYes σ H true := fun H1 _ _ q => q H1 (Ex.refl H1)
theorem ev_ixL {p : Addr} {xs : List V} {j : Nat} (ha : Ev ta σ H (.ref p)) (hb : Ev tb σ H (.int (j : Int))) (hp : H p = some (.lst xs)) (hj : xs[j]? = some v) : Ev (tOp (rIxL K) ta tb) σ H v := ev_op ha hb (rv_ixL (sq_of hp) (atI_nat hj))
theorem ev_ixT {p : Addr} {xs : List V} {j : Nat} (ha : Ev ta σ H (.ref p)) (hb : Ev tb σ H (.int (j : Int))) (hp : H p = some (.tup xs)) (hj : xs[j]? = some v) : Ev (tOp (rIxT K) ta tb) σ H v := ev_op ha hb (rv_ixT (st_of hp) (atI_nat hj))
end
/-- a target carries what follows -/
def GMono (g : TG) : Prop := ∀ v σ H (Q Q' : L2.St → Hp → Prop), (∀ σ H, Q σ H → Q' σ H) → g v σ H Q → g v σ H Q'
theorem gm_name (j : Nat) : GMono (gName j) := fun _ _ _ _ _ k h => k _ _ h
theorem gm_nil : ∀ vs σ H (Q Q' : L2.St → Hp → Prop), (∀ σ H, Q σ H → Q' σ H) → gNil vs σ H Q → gNil vs σ H Q' := fun _ _ _ _ _ k h => ⟨h.1, k _ _ h.2⟩
theorem gm_two {K : PySem.W.Frag} {n i j : Nat} : GMono (gTup K n (gCons (gName i) (gCons (gName j) gNil))) := fun v σ H Q Q' k ⟨a, xs, e1, e2, e3, v1, r1, e4, v2, r2, e5, e6, h⟩ => ⟨a, xs, e1, e2, e3, v1, r1, e4, v2, r2, e5, e6, k _ _ h⟩
/-- all but D stays -/
def ExB (D : Addr) (H H' : Hp) : Prop := ∀ b o, b ≠ D → H b = some o → H' b = some o
theorem exB {D : Addr} {H H' : Hp} (e : Ex H H') : ExB D H H' := fun b o _ h => e b o h
theorem ExB.trans {D : Addr} {H H' H'' : Hp} (a : ExB D H H') (b : ExB D H' H'') : ExB D H H'' := fun c o n h => b c o n (a c o n h)
theorem ExB.upd {D : Addr} {H : Hp} {o : HO} : ExB D H (upd H D o) := fun b u n h => by rw [upd_ne n]; exact h
/-- a list of its own beside D; a tuple -/
def IsL (D : Addr) (xs : List V) (v : V) (H : Hp) : Prop := ∃ p, v = .ref p ∧ p ≠ D ∧ H p = some (.lst xs)
def IsT (D : Addr) (xs : List V) (v : V) (H : Hp) : Prop := ∃ p, v = .ref p ∧ p ≠ D ∧ H p = some (.tup xs)
theorem IsL.m {D : Addr} {xs : List V} {v : V} {H H' : Hp} (e : ExB D H H') (h : IsL D xs v H) : IsL D xs v H' := by
  obtain ⟨p, a, b, c⟩ := h; exact ⟨p, a, b, e p _ b c⟩
theorem IsT.m {D : Addr} {xs : List V} {v : V} {H H' : Hp} (e : ExB D H H') (h : IsT D xs v H) : IsT D xs v H' := by
  obtain ⟨p, a, b, c⟩ := h; exact ⟨p, a, b, e p _ b c⟩
/-- the turns that gave something gave ys -/
def Kept (n : Nat) (f : Nat → Bool) (φ : Nat → V → Hp → Prop) (ys : List V) (H : Hp) : Prop := ys.length = ((List.range n).filter f).length ∧ ∀ (j k : Nat) (y : V), ((List.range n).filter f)[j]? = some k → ys[j]? = some y → φ k y H
theorem kept_zero (f : Nat → Bool) (φ : Nat → V → Hp → Prop) (H : Hp) : Kept 0 f φ [] H := ⟨rfl, fun j k y h _ => by simp at h⟩
theorem kept_no {n : Nat} {f : Nat → Bool} {φ : Nat → V → Hp → Prop} {ys : List V} {H H' : Hp} {D : Addr} (m : ∀ k y H H', ExB D H H' → φ k y H → φ k y H') (e : ExB D H H') (h : Kept n f φ ys H) (hf : f n = false) : Kept (n + 1) f φ ys H' := by
  have q : (List.range (n + 1)).filter f = (List.range n).filter f := by
    rw [List.range_succ, List.filter_append, List.filter_cons_of_neg (by simp [hf])]; simp
  unfold Kept
  rw [q]
  exact ⟨h.1, fun j k y a b => m k y H H' e (h.2 j k y a b)⟩
theorem kept_yes {n : Nat} {f : Nat → Bool} {φ : Nat → V → Hp → Prop} {ys : List V} {H H' : Hp} {y : V} {D : Addr} (m : ∀ k y H H', ExB D H H' → φ k y H → φ k y H') (e : ExB D H H') (h : Kept n f φ ys H) (hf : f n = true) (hy : φ n y H') : Kept (n + 1) f φ (ys ++ [y]) H' := by
  have q : (List.range (n + 1)).filter f = (List.range n).filter f ++ [n] := by
    rw [List.range_succ, List.filter_append, List.filter_cons_of_pos hf]; simp
  unfold Kept
  rw [q]
  refine ⟨by simp [h.1], fun j k z a b => ?_⟩
  by_cases hj : j < ys.length
  · rw [List.getElem?_append_left hj] at b
    rw [List.getElem?_append_left (by rw [← h.1]; exact hj)] at a
    exact m k z H H' e (h.2 j k z a b)
  · rw [List.getElem?_append_right (by omega)] at b
    rw [List.getElem?_append_right (by rw [← h.1]; omega)] at a
    have h0 : j - ys.length = 0 := by
      obtain ⟨z1, _⟩ := List.getElem?_eq_some_iff.mp b
      simp at z1; omega
    rw [h0] at b
    rw [← h.1, h0] at a
    have b' : y = z := by simpa using b
    have a' : n = k := by simpa using a
    rw [← a', ← b']; exact hy
/-- a comprehension over any walk -/
theorem lc_fin {J : It} {n : Nat} {G : Hp → Prop} {Y : Nat → Hp → V → Hp → Prop} (w : Walk J n G Y) (hn : n ≤ 40000) {g : TG} (gm : GMono g) {tt : TT} {te : TE} {vs : List Nat} {σ : L2.St} {H1 : Hp} {D : Addr} {Qd : Hp → Prop}
    (f : Nat → Bool) (φ : Nat → V → Hp → Prop) (m : ∀ k y H H', ExB D H H' → φ k y H → φ k y H') (nD : H1 D = none) (hG : ∀ H, Ex H1 H → G H)
    (hs : ∀ i x Ha Hb, i < n → Ex H1 Ha → (∃ zs, Ha D = some (.lst zs)) → Y i Ha x Hb → g x (wipe σ vs) Hb fun σ2 H2 => wipe σ2 vs = wipe σ vs ∧ Ex Ha H2 ∧ EvT tt σ2 H2 (f i) ∧ (f i = true → EvP te σ2 H2 (φ i)))
    (hd : ∀ ys H2, Ex H1 H2 → H2 D = some (.lst ys) → Kept n f φ ys H2 → Qd H2) :
    ∃ W : Nat → Nat → Hp → Prop, (∃ m, W 0 m (upd H1 D (.lst []))) ∧ ∀ i m H, W i m H →
      (J.stop i H ∧ Qd H) ∨ (J.go i H ∧ ∃ Nx : Hp → Prop, (∀ H', Nx H' → ∃ m', m' < m ∧ W (i + 1) m' H') ∧ ∀ x H', J.yld i H x H' → g x (wipe σ vs) H' fun σ2 H2 => wipe σ2 vs = wipe σ vs ∧ tt σ2 H2 fun b H3 =>
        if b = true then te σ2 H3 fun y H4 => ∃ acc, H4 D = some (.lst acc) ∧ acc.length < sizeLine ∧ Nx (upd H4 D (.lst (acc ++ [y]))) else Nx H3) := by
  refine lc_it w (fun i H => Ex H1 H ∧ ∃ ys, H D = some (.lst ys) ∧ ys.length ≤ i ∧ Kept i f φ ys H) ⟨Ex.new nD, [], upd_same, Nat.le_refl _, kept_zero _ _ _⟩ (fun i H _ p => hG H p.1) ?_ (fun H ⟨e, ys, a, _, b⟩ => hd ys H e a b)
  rintro i x Ha Hb hi ⟨e, ys, hD, hl, hk⟩ hy
  refine gm _ _ _ _ _ ?_ (hs i x Ha Hb hi e ⟨ys, hD⟩ hy)
  rintro σ2 H2 ⟨h1, h2, h3, h4⟩
  refine ⟨h1, h3 H2 (Ex.refl _) _ fun H3 e3 => ?_⟩
  cases hf : f i with
  | false =>
    refine iteF ⟨e.trans (h2.trans e3), ys, (h2.trans e3) _ _ hD, by omega, kept_no m (exB (h2.trans e3)) hk hf⟩
  | true =>
    refine iteT (h4 hf H3 e3 _ fun y H4 e4 p => ⟨ys, ((h2.trans e3).trans e4) _ _ hD, sz_lt (by omega), ?_⟩)
    have e5 : Ex Ha H4 := (h2.trans e3).trans e4
    refine ⟨Ex.mut (e.trans e5) nD, ys ++ [y], upd_same, by simp; omega, ?_⟩
    exact kept_yes m ((exB e5).trans .upd) hk hf (m i y _ _ .upd p)
end Sr
namespace Sr
open PySem PySem.Spec PyProof.Rows L2 Evl
section
variable {P : Program} {w : World} {K : PySem.W.Frag} {mg : Str → Option Value} {base : Heap} {CW CS : Addr}
def spMadeSet (CW : Addr) : Sp := fun vs H Q _ => ∃ (p t : Addr) (n : Nat) (es : List (Nat × Nat)) (S : List Nat), vs = [.ref p, .ref t] ∧ WebAt CW H p n es ∧ (H t = some (.tup (nI S)) ∨ H t = some (.lst (nI S))) ∧ S ∈ MT.subs (List.range es.length) ∧
  ∀ H' r, Ex H H' → H' r = some (.tup (nI S)) → Q (.ref r) H'
theorem d_made_set (T : Txt K mg CW CS) : Def P w K mg base "made_set" 1 ["web", "ties"] (spMadeSet CW) := by
  refine def_by T.a_made_set sc_made_set (fun vs H Q E h => ?_) (fun f cdv A outer s H vs Q E hr h => ?_)
  · obtain ⟨p, t, n, es, S, rfl, _⟩ := h; rfl
  obtain ⟨p, t, n, es, S, rfl, ⟨dx, l, hp, hl, h1, h14, h30, hin⟩, ht, hS, q⟩ := h
  obtain ⟨ps, hl1, hl2, hl3⟩ := id hl
  have asc := asc_of hS
  have step : ∀ (i z : Nat) (ah : Int), (∀ (j m : Nat), i ≤ j → S[j]? = some m → ah < (m : Int)) → S[i]? = some z → (¬ (z : Int) ≤ ah) ∧ (¬ ((ps.map V.ref).length : Int) ≤ (z : Int)) ∧ ∀ (j m : Nat), i + 1 ≤ j → S[j]? = some m → (z : Int) < (m : Int) := fun i z ah hi hz => by
    have a := hi i z (Nat.le_refl _) hz
    have b := MT.sub_lt hS (List.mem_of_getElem? hz)
    refine ⟨by omega, by rw [List.length_map, hl2]; omega, fun j m hj hm => ?_⟩
    have := asc_get asc hz hm (by omega)
    omega
  rcases ht with ht | ht
  · refine ⟨_, (pss_cons (ps_set (i := 2) sc_made_set.nd rfl (by first | exact Or.inl rfl | exact Or.inr rfl) (pe_un un_neg pe_int))
      (pss_cons (ps_for PassesOwn.never rfl (pi_tup (pv 1)) (pg_name (i := 3) sc_made_set.nd rfl (by first | exact Or.inl rfl | exact Or.inr rfl))
        (pss_cons (ps_if (PW.pt (pw_or (pt_cmpR op_le (pv 3) (pv 2) (nomark _)) (pw_or1 (pt_cmpR op_ge (pv 3) (pe_callB call_len_seq (by rfl) T.z_len PySem.boot_len (pa_cons (pe_fld (pv 0) rfl) pa_nil)) (nomark _))))) (pss_one ps_never) pss_nil)
        (pss_one (ps_set (i := 2) sc_made_set.nd rfl (by first | exact Or.inl rfl | exact Or.inr rfl) (pv 3)))))
      (pss_one (ps_ret (pe_callTy call_tuple_of (by rfl) T.z_tuple boot_tuple (pa_cons (pv 1) pa_nil)))))), ?_⟩
    refine ⟨1, rfl, ?_⟩
    refine ⟨.ref t, rfl, t, rfl, ⟨_, st_of ht⟩, for_tup (K := K) (a := t) (xs := nI S) (fun i σ' H' => ∃ (ah : Int) (y : Option V), σ' = [some (.ref p), some (.ref t), some (.int ah), y] ∧ H' = H ∧ ∀ (j m : Nat), i ≤ j → S[j]? = some m → ah < (m : Int)) ⟨-1, none, rfl, rfl, fun j m _ _ => by omega⟩ (fun i σ' H' _ ⟨_, _, _, e, _⟩ => e ▸ st_of ht) ?_ ?_⟩
    · rintro i x σ' H' hx ⟨ah, y, rfl, rfl, hi⟩
      obtain ⟨z, hz, rfl⟩ := nI_got hx
      obtain ⟨a, b, c⟩ := step i z ah hi hz
      refine ⟨_, rfl, _, rfl, _, _, rfl, rfl, _, rfl, ifF a ?_⟩
      refine ⟨_, rfl, .ref p, rfl, p, CW, dx, _, _, rfl, hp, T.cW, T.nW_ties, wfs_ties n l, l, _, rfl, .inl (sq_of hl1), _, _, rfl, rfl, _, rfl, ifF b ?_⟩
      exact ⟨_, rfl, _, _, rfl, rfl, c⟩
    · rintro σ' H' ⟨ah, y, rfl, rfl, _⟩
      exact ⟨_, rfl, t, _, rfl, .inr ⟨st_of ht, q _ t (Ex.refl _) ht⟩⟩
  · refine ⟨_, (pss_cons (ps_set (i := 2) sc_made_set.nd rfl (by first | exact Or.inl rfl | exact Or.inr rfl) (pe_un un_neg pe_int))
      (pss_cons (ps_for PassesOwn.never rfl (pi_list (pv 1)) (pg_name (i := 3) sc_made_set.nd rfl (by first | exact Or.inl rfl | exact Or.inr rfl))
        (pss_cons (ps_if (PW.pt (pw_or (pt_cmpR op_le (pv 3) (pv 2) (nomark _)) (pw_or1 (pt_cmpR op_ge (pv 3) (pe_callB call_len_seq (by rfl) T.z_len PySem.boot_len (pa_cons (pe_fld (pv 0) rfl) pa_nil)) (nomark _))))) (pss_one ps_never) pss_nil)
        (pss_one (ps_set (i := 2) sc_made_set.nd rfl (by first | exact Or.inl rfl | exact Or.inr rfl) (pv 3)))))
      (pss_one (ps_ret (pe_callTy call_tuple_of (by rfl) T.z_tuple boot_tuple (pa_cons (pv 1) pa_nil)))))), ?_⟩
    refine ⟨1, rfl, ?_⟩
    refine ⟨.ref t, rfl, t, rfl, ⟨_, sq_of ht⟩, for_list (K := K) (a := t) (xs := nI S) (fun i σ' H' => ∃ (ah : Int) (y : Option V), σ' = [some (.ref p), some (.ref t), some (.int ah), y] ∧ H' = H ∧ ∀ (j m : Nat), i ≤ j → S[j]? = some m → ah < (m : Int)) ⟨-1, none, rfl, rfl, fun j m _ _ => by omega⟩ (fun i σ' H' _ ⟨_, _, _, e, _⟩ => e ▸ sq_of ht) ?_ ?_⟩
    · rintro i x σ' H' hx ⟨ah, y, rfl, rfl, hi⟩
      obtain ⟨z, hz, rfl⟩ := nI_got hx
      obtain ⟨a, b, c⟩ := step i z ah hi hz
      refine ⟨_, rfl, _, rfl, _, _, rfl, rfl, _, rfl, ifF a ?_⟩
      refine ⟨_, rfl, .ref p, rfl, p, CW, dx, _, _, rfl, hp, T.cW, T.nW_ties, wfs_ties n l, l, _, rfl, .inl (sq_of hl1), _, _, rfl, rfl, _, rfl, ifF b ?_⟩
      exact ⟨_, rfl, _, _, rfl, rfl, c⟩
    · rintro σ' H' ⟨ah, y, rfl, rfl, _⟩
      exact ⟨_, rfl, t, _, rfl, .inl ⟨sq_of ht, fun r nr => q _ r (Ex.new nr) upd_same⟩⟩
end
end Sr
namespace Sr
open PySem PySem.Spec PyProof.Rows L2 Evl
theorem rgV_nI (n : Nat) : rgV 0 (n : Int) = nI (List.range n) := by
  unfold rgV nI
  rw [show ((n : Int) - 0).toNat = n by omega]
  exact List.map_congr_left fun i _ => by rw [Int.zero_add]
def marksL (n : Nat) (es : List (Nat × Nat)) (S : List Nat) : List Nat := (List.range n).map (MT.mk (S.map (ed es)))
theorem marksL_get {n : Nat} {es : List (Nat × Nat)} {S : List Nat} {v : Nat} (h : v < n) : (marksL n es S)[v]? = some (MT.mk (S.map (ed es)) v) := by
  unfold marksL
  rw [List.getElem?_map, List.getElem?_range h]; rfl
theorem marksL_zero (n : Nat) (es : List (Nat × Nat)) : marksL n es [] = List.range n := List.map_id _
theorem marksL_snoc (n : Nat) (es : List (Nat × Nat)) (S : List Nat) (t : Nat) : marksL n es (S ++ [t]) =
    (marksL n es S).map fun x => if x = max (MT.mk (S.map (ed es)) (ed es t).1) (MT.mk (S.map (ed es)) (ed es t).2) then min (MT.mk (S.map (ed es)) (ed es t).1) (MT.mk (S.map (ed es)) (ed es t).2) else x := by
  unfold marksL
  rw [MT.mk_snoc, List.map_map]
  rfl
theorem marksL_len (n : Nat) (es : List (Nat × Nat)) (S : List Nat) : (marksL n es S).length = n := by unfold marksL; simp
theorem min_int (a b : Nat) : (if (b : Int) < (a : Int) then (b : Int) else (a : Int)) = ((min a b : Nat) : Int) := by split <;> omega
theorem max_int (a b : Nat) : (if (b : Int) > (a : Int) then (b : Int) else (a : Int)) = ((max a b : Nat) : Int) := by split <;> omega
/-- what a comprehension over ints gave, where it gave each -/
theorem kept_ints {n : Nat} {g : Nat → Nat} {ys : List V} {H : Hp} (h : Kept n (fun _ => true) (fun k y _ => y = .int ((g k : Nat) : Int)) ys H) : ys = nI ((List.range n).map g) := by
  obtain ⟨h1, h2⟩ := h
  have e : (List.range n).filter (fun _ => true) = List.range n := List.filter_eq_self.mpr fun _ _ => rfl
  rw [e] at h1 h2
  rw [List.length_range] at h1
  refine List.ext_getElem? fun i => ?_
  by_cases hi : i < n
  · obtain ⟨y, hy⟩ := some_of (l := ys) (i := i) (by omega)
    have := h2 i i y (List.getElem?_range hi) hy
    rw [hy, this]
    unfold nI
    rw [List.getElem?_map, List.getElem?_map, List.getElem?_range hi]; rfl
  · rw [List.getElem?_eq_none (by omega), List.getElem?_eq_none (by rw [nI_len]; simp; omega)]
section
variable {P : Program} {w : World} {K : PySem.W.Frag} {mg : Str → Option Value} {base : Heap} {CW CS : Addr}
def spMarks (CW : Addr) : Sp := fun vs H Q _ => ∃ (p t : Addr) (n : Nat) (es : List (Nat × Nat)) (S : List Nat), vs = [.ref p, .ref t] ∧ WebAt CW H p n es ∧ (H t = some (.tup (nI S)) ∨ H t = some (.lst (nI S))) ∧ (∀ t ∈ S, t < es.length) ∧
  ∀ H' r, Ex H H' → H' r = some (.lst (nI (marksL n es S))) → Q (.ref r) H'
theorem d_marks_over (T : Txt K mg CW CS) : Def P w K mg base "marks_over" 1 ["web", "ties"] (spMarks CW) := by
  refine def_by T.a_marks_over sc_marks_over (fun vs H Q E h => ?_) (fun f cdv A outer s H vs Q E hr h => ?_)
  · obtain ⟨p, t, n, es, S, rfl, _⟩ := h; rfl
  obtain ⟨p, t, n, es, S, rfl, hw, ht, hS, q⟩ := h
  have body : ∀ (D : Ends) (i z : Nat) (σ' : L2.St) (H' : Hp) (R : L2.St → Hp → Prop), Ex H H' → S[i]? = some z → (∃ (mm : Addr) (y3 y4 y5 y6 y7 : Option V), σ' = [some (.ref p), some (.ref t), some (.ref mm), some (.int (z : Int)), y4, y5, y6, y7, none] ∧ H' mm = some (.lst (nI (marksL n es (S.take i))))) → True := fun _ _ _ _ _ _ _ _ _ => trivial
  obtain ⟨dx, l, hp, hl, h1, h14, h30, hin⟩ := id hw
  rcases ht with ht | ht
  · refine ⟨_, (pss_cons (ps_set (i := 2) sc_marks_over.nd rfl (by first | exact Or.inl rfl | exact Or.inr rfl) (pe_listRg rfl (by rfl) T.z_list (prg_1 (by rfl) T.z_range (pe_fld (pv 0) rfl))))
      (pss_cons (ps_for PassesOwn.never rfl (pi_tup (pv 1)) (pg_name (i := 3) sc_marks_over.nd rfl (by first | exact Or.inl rfl | exact Or.inr rfl))
        (pss_cons (ps_asg (pe_ix ix_list (pe_fld (pv 0) rfl) (pv 3) (fun _ _ => rfl)) (pg_tup rfl (pgs_cons (pg_name (i := 4) sc_marks_over.nd rfl (by first | exact Or.inl rfl | exact Or.inr rfl)) (pgs_cons (pg_name (i := 5) sc_marks_over.nd rfl (by first | exact Or.inl rfl | exact Or.inr rfl)) pgs_nil))))
        (pss_cons (ps_set (i := 6) sc_marks_over.nd rfl (by first | exact Or.inl rfl | exact Or.inr rfl) (pe_callB (call_min2 rfl) (by rfl) T.z_min (by decide +kernel) (pa_cons (pe_ix ix_list (pv 2) (pv 4) (fun _ _ => rfl)) (pa_cons (pe_ix ix_list (pv 2) (pv 5) (fun _ _ => rfl)) pa_nil))))
        (pss_cons (ps_set (i := 7) sc_marks_over.nd rfl (by first | exact Or.inl rfl | exact Or.inr rfl) (pe_callB (call_max2 rfl) (by rfl) T.z_max (by decide +kernel) (pa_cons (pe_ix ix_list (pv 2) (pv 4) (fun _ _ => rfl)) (pa_cons (pe_ix ix_list (pv 2) (pv 5) (fun _ _ => rfl)) pa_nil))))
        (pss_one (ps_setLc (i := 2) (own := [("mark", 8)]) (g := (gName 8)) rfl sc_marks_over.nd rfl rfl (sw_true rfl rfl rfl (by decide +kernel)) (pi_list (pv 2)) (blkOk_by (own := [("mark", 8)]) (N := ["web", "ties", "marks", "tie", "one", "other", "low", "high", "mark"]) (sc := defScope s_marks_over) (by decide +kernel)) (fun _ _ _ _ _ => (pg_name (i := 8) sc_marks_over.nd rfl (by first | exact Or.inl rfl | exact Or.inr rfl))) (fun _ _ _ _ _ => pts_nil) (fun _ _ _ _ _ => (pe_ifExp (pt_cmpR op_eq (pv 8) (pv 7) (nomark _)) (pv 6) (pv 8)))))))))
      (pss_one (ps_ret (pv 2))))), ?_⟩
    -- marks = list(range(web.places))
    refine ⟨.ref p, rfl, p, CW, dx, _, _, rfl, hp, T.cW, T.nW_places, wfs_places n l, _, rfl, RgOk.of_le (Int.le_refl 0) (by omega) (by omega) (by omega), fun m0 nm0 => ?_⟩
    refine ⟨.ref t, rfl, t, rfl, ⟨_, st_of (Ex.new nm0 _ _ ht)⟩, for_tup (K := K) (a := t) (xs := nI S) (fun i σ' H' => ∃ (mm : Addr) (y3 y4 y5 y6 y7 : Option V), σ' = [some (.ref p), some (.ref t), some (.ref mm), y3, y4, y5, y6, y7, none] ∧ Ex H H' ∧ H' mm = some (.lst (nI (marksL n es (S.take i)))))
      ⟨m0, none, none, none, none, none, rfl, Ex.new nm0, ?_⟩ (fun i σ' H' _ ⟨_, _, _, _, _, _, _, e, _⟩ => st_of (e _ _ ht)) ?_ ?_⟩
    · rw [upd_same, rgV_nI, List.take_zero, marksL_zero]
    · rintro i x σ' H' hx ⟨mm, y3, y4, y5, y6, y7, rfl, e, hm⟩
      obtain ⟨z, hz, rfl⟩ := nI_got hx
      have hzl : z < es.length := hS z (List.mem_of_getElem? hz)
      obtain ⟨xs, a, hl1, hl2, hl3, hl4⟩ := (hl.mono e).at hzl
      obtain ⟨i1, i2⟩ := hin (ed es z) (by unfold ed; rw [List.getD_eq_getElem?_getD, List.getElem?_eq_getElem hzl]; exact List.getElem_mem hzl)
      have m1 := nI_get (marksL_get (es := es) (S := S.take i) i1)
      have m2 := nI_get (marksL_get (es := es) (S := S.take i) i2)
      -- one, other = web.ties[tie]
      refine ⟨.ref p, rfl, p, CW, dx, _, _, rfl, e _ _ hp, T.cW, T.nW_ties, wfs_ties n l, _, rfl, l, xs, _, _, rfl, rfl, sq_of hl1, atI_nat hl3, a, _, rfl, st_of hl4, rfl, _, _, rfl, _, _, rfl, rfl, ?_⟩
      -- low, high
      refine ⟨_, rfl, _, rfl, mm, _, _, _, rfl, rfl, sq_of hm, atI_nat m1, _, rfl, _, rfl, mm, _, _, _, rfl, rfl, sq_of hm, atI_nat m2, _, _, rfl, ?_⟩
      refine ⟨_, rfl, _, rfl, mm, _, _, _, rfl, rfl, sq_of hm, atI_nat m1, _, rfl, _, rfl, mm, _, _, _, rfl, rfl, sq_of hm, atI_nat m2, _, _, rfl, ?_⟩
      -- marks = [..]
      rw [min_int, max_int]
      generalize hlo : min (MT.mk ((S.take i).map (ed es)) (ed es z).1) (MT.mk ((S.take i).map (ed es)) (ed es z).2) = lo
      generalize hhi : max (MT.mk ((S.take i).map (ed es)) (ed es z).1) (MT.mk ((S.take i).map (ed es)) (ed es z).2) = hi
      refine ⟨_, rfl, mm, rfl, ⟨_, sq_of hm⟩, fun D nD => lc_fin (D := D) (walk_list (xs := nI (marksL n es (S.take i)))) (by rw [nI_len, marksL_len]; omega) (gm_name 8) (fun _ => true) (fun k y _ => y = .int (((if (marksL n es (S.take i)).getD k 0 = hi then lo else (marksL n es (S.take i)).getD k 0) : Nat) : Int)) (fun _ _ _ _ _ h => h) nD (fun H2 e2 => sq_of (e2 _ _ hm)) ?_ ?_⟩
      · rintro j y Ha Hb hj ea _ ⟨rfl, hy⟩
        obtain ⟨v, hv, rfl⟩ := nI_got hy
        refine ⟨rfl, Ex.refl _, et_yes, fun _ => Ev.p ?_⟩
        have ev : (marksL n es (S.take i)).getD j 0 = v := by rw [List.getD_eq_getElem?_getD, hv]; rfl
        rw [ev]
        refine ev_if (b := decide (v = hi)) (et_test (ev_is (ev_op (ev_var rfl) (ev_var rfl) (rv_eq rfl)) ?_)) (fun hb => ev_is (ev_var rfl) ?_) (fun hb => ev_is (ev_var rfl) ?_)
        · congr 1
          rw [decide_eq_decide]
          exact ⟨fun q => by have := V.int.inj q; omega, fun q => by rw [q]⟩
        · rw [if_pos (of_decide_eq_true hb)]
        · rw [if_neg (of_decide_eq_false hb)]
      · intro ys H2 e2 hD hk
        refine ⟨D, _, _, _, _, _, rfl, e.trans e2, ?_⟩
        rw [hD, kept_ints hk, nI_len, marksL_len]
        congr 3
        have : S.take (i + 1) = S.take i ++ [z] := by rw [List.take_add_one, hz]; rfl
        rw [this, marksL_snoc, hlo, hhi]
        refine List.ext_getElem? fun k => ?_
        rw [List.getElem?_map, List.getElem?_map]
        by_cases hk : k < n
        · rw [List.getElem?_range hk, marksL_get hk]
          simp only [Option.map_some]
          rw [List.getD_eq_getElem?_getD, marksL_get hk]; rfl
        · rw [List.getElem?_eq_none (by simp; omega), List.getElem?_eq_none (by rw [marksL_len]; omega)]; rfl
    · rintro σ' H' ⟨mm, y3, y4, y5, y6, y7, rfl, e, hm⟩
      rw [nI_len, List.take_length] at hm
      exact ⟨_, rfl, q H' mm e hm⟩
  · refine ⟨_, (pss_cons (ps_set (i := 2) sc_marks_over.nd rfl (by first | exact Or.inl rfl | exact Or.inr rfl) (pe_listRg rfl (by rfl) T.z_list (prg_1 (by rfl) T.z_range (pe_fld (pv 0) rfl))))
      (pss_cons (ps_for PassesOwn.never rfl (pi_list (pv 1)) (pg_name (i := 3) sc_marks_over.nd rfl (by first | exact Or.inl rfl | exact Or.inr rfl))
        (pss_cons (ps_asg (pe_ix ix_list (pe_fld (pv 0) rfl) (pv 3) (fun _ _ => rfl)) (pg_tup rfl (pgs_cons (pg_name (i := 4) sc_marks_over.nd rfl (by first | exact Or.inl rfl | exact Or.inr rfl)) (pgs_cons (pg_name (i := 5) sc_marks_over.nd rfl (by first | exact Or.inl rfl | exact Or.inr rfl)) pgs_nil))))
        (pss_cons (ps_set (i := 6) sc_marks_over.nd rfl (by first | exact Or.inl rfl | exact Or.inr rfl) (pe_callB (call_min2 rfl) (by rfl) T.z_min (by decide +kernel) (pa_cons (pe_ix ix_list (pv 2) (pv 4) (fun _ _ => rfl)) (pa_cons (pe_ix ix_list (pv 2) (pv 5) (fun _ _ => rfl)) pa_nil))))
        (pss_cons (ps_set (i := 7) sc_marks_over.nd rfl (by first | exact Or.inl rfl | exact Or.inr rfl) (pe_callB (call_max2 rfl) (by rfl) T.z_max (by decide +kernel) (pa_cons (pe_ix ix_list (pv 2) (pv 4) (fun _ _ => rfl)) (pa_cons (pe_ix ix_list (pv 2) (pv 5) (fun _ _ => rfl)) pa_nil))))
        (pss_one (ps_setLc (i := 2) (own := [("mark", 8)]) (g := (gName 8)) rfl sc_marks_over.nd rfl rfl (sw_true rfl rfl rfl (by decide +kernel)) (pi_list (pv 2)) (blkOk_by (own := [("mark", 8)]) (N := ["web", "ties", "marks", "tie", "one", "other", "low", "high", "mark"]) (sc := defScope s_marks_over) (by decide +kernel)) (fun _ _ _ _ _ => (pg_name (i := 8) sc_marks_over.nd rfl (by first | exact Or.inl rfl | exact Or.inr rfl))) (fun _ _ _ _ _ => pts_nil) (fun _ _ _ _ _ => (pe_ifExp (pt_cmpR op_eq (pv 8) (pv 7) (nomark _)) (pv 6) (pv 8)))))))))
      (pss_one (ps_ret (pv 2))))), ?_⟩
    -- marks = list(range(web.places))
    refine ⟨.ref p, rfl, p, CW, dx, _, _, rfl, hp, T.cW, T.nW_places, wfs_places n l, _, rfl, RgOk.of_le (Int.le_refl 0) (by omega) (by omega) (by omega), fun m0 nm0 => ?_⟩
    refine ⟨.ref t, rfl, t, rfl, ⟨_, sq_of (Ex.new nm0 _ _ ht)⟩, for_list (K := K) (a := t) (xs := nI S) (fun i σ' H' => ∃ (mm : Addr) (y3 y4 y5 y6 y7 : Option V), σ' = [some (.ref p), some (.ref t), some (.ref mm), y3, y4, y5, y6, y7, none] ∧ Ex H H' ∧ H' mm = some (.lst (nI (marksL n es (S.take i)))))
      ⟨m0, none, none, none, none, none, rfl, Ex.new nm0, ?_⟩ (fun i σ' H' _ ⟨_, _, _, _, _, _, _, e, _⟩ => sq_of (e _ _ ht)) ?_ ?_⟩
    · rw [upd_same, rgV_nI, List.take_zero, marksL_zero]
    · rintro i x σ' H' hx ⟨mm, y3, y4, y5, y6, y7, rfl, e, hm⟩
      obtain ⟨z, hz, rfl⟩ := nI_got hx
      have hzl : z < es.length := hS z (List.mem_of_getElem? hz)
      obtain ⟨xs, a, hl1, hl2, hl3, hl4⟩ := (hl.mono e).at hzl
      obtain ⟨i1, i2⟩ := hin (ed es z) (by unfold ed; rw [List.getD_eq_getElem?_getD, List.getElem?_eq_getElem hzl]; exact List.getElem_mem hzl)
      have m1 := nI_get (marksL_get (es := es) (S := S.take i) i1)
      have m2 := nI_get (marksL_get (es := es) (S := S.take i) i2)
      -- one, other = web.ties[tie]
      refine ⟨.ref p, rfl, p, CW, dx, _, _, rfl, e _ _ hp, T.cW, T.nW_ties, wfs_ties n l, _, rfl, l, xs, _, _, rfl, rfl, sq_of hl1, atI_nat hl3, a, _, rfl, st_of hl4, rfl, _, _, rfl, _, _, rfl, rfl, ?_⟩
      -- low, high
      refine ⟨_, rfl, _, rfl, mm, _, _, _, rfl, rfl, sq_of hm, atI_nat m1, _, rfl, _, rfl, mm, _, _, _, rfl, rfl, sq_of hm, atI_nat m2, _, _, rfl, ?_⟩
      refine ⟨_, rfl, _, rfl, mm, _, _, _, rfl, rfl, sq_of hm, atI_nat m1, _, rfl, _, rfl, mm, _, _, _, rfl, rfl, sq_of hm, atI_nat m2, _, _, rfl, ?_⟩
      -- marks = [..]
      rw [min_int, max_int]
      generalize hlo : min (MT.mk ((S.take i).map (ed es)) (ed es z).1) (MT.mk ((S.take i).map (ed es)) (ed es z).2) = lo
      generalize hhi : max (MT.mk ((S.take i).map (ed es)) (ed es z).1) (MT.mk ((S.take i).map (ed es)) (ed es z).2) = hi
      refine ⟨_, rfl, mm, rfl, ⟨_, sq_of hm⟩, fun D nD => lc_fin (D := D) (walk_list (xs := nI (marksL n es (S.take i)))) (by rw [nI_len, marksL_len]; omega) (gm_name 8) (fun _ => true) (fun k y _ => y = .int (((if (marksL n es (S.take i)).getD k 0 = hi then lo else (marksL n es (S.take i)).getD k 0) : Nat) : Int)) (fun _ _ _ _ _ h => h) nD (fun H2 e2 => sq_of (e2 _ _ hm)) ?_ ?_⟩
      · rintro j y Ha Hb hj ea _ ⟨rfl, hy⟩
        obtain ⟨v, hv, rfl⟩ := nI_got hy
        refine ⟨rfl, Ex.refl _, et_yes, fun _ => Ev.p ?_⟩
        have ev : (marksL n es (S.take i)).getD j 0 = v := by rw [List.getD_eq_getElem?_getD, hv]; rfl
        rw [ev]
        refine ev_if (b := decide (v = hi)) (et_test (ev_is (ev_op (ev_var rfl) (ev_var rfl) (rv_eq rfl)) ?_)) (fun hb => ev_is (ev_var rfl) ?_) (fun hb => ev_is (ev_var rfl) ?_)
        · congr 1
          rw [decide_eq_decide]
          exact ⟨fun q => by have := V.int.inj q; omega, fun q => by rw [q]⟩
        · rw [if_pos (of_decide_eq_true hb)]
        · rw [if_neg (of_decide_eq_false hb)]
      · intro ys H2 e2 hD hk
        refine ⟨D, _, _, _, _, _, rfl, e.trans e2, ?_⟩
        rw [hD, kept_ints hk, nI_len, marksL_len]
        congr 3
        have : S.take (i + 1) = S.take i ++ [z] := by rw [List.take_add_one, hz]; rfl
        rw [this, marksL_snoc, hlo, hhi]
        refine List.ext_getElem? fun k => ?_
        rw [List.getElem?_map, List.getElem?_map]
        by_cases hk : k < n
        · rw [List.getElem?_range hk, marksL_get hk]
          simp only [Option.map_some]
          rw [List.getD_eq_getElem?_getD, marksL_get hk]; rfl
        · rw [List.getElem?_eq_none (by simp; omega), List.getElem?_eq_none (by rw [marksL_len]; omega)]; rfl
    · rintro σ' H' ⟨mm, y3, y4, y5, y6, y7, rfl, e, hm⟩
      rw [nI_len, List.take_length] at hm
      exact ⟨_, rfl, q H' mm e hm⟩
end
end Sr
namespace Sr
open PySem PySem.Spec PyProof.Rows L2 Evl
theorem asc_unique {l l' : List Int} (h : l.Pairwise (· < ·)) (h' : l'.Pairwise (· < ·)) (q : ∀ k, k ∈ l ↔ k ∈ l') : l = l' := by
  have nd : ∀ {l : List Int}, l.Pairwise (· < ·) → l.Nodup := fun h => h.imp fun {a b} (q : a < b) (e : a = b) => by omega
  have p : l.Perm l' := (List.perm_ext_iff_of_nodup (nd h) (nd h')).mpr q
  exact p.eq_of_pairwise (fun a b _ _ (x : a < b) (y : b < a) => by omega) h h'
theorem asc_uniqueN {l l' : List Nat} (h : l.Pairwise (· < ·)) (h' : l'.Pairwise (· < ·)) (q : ∀ k, k ∈ l ↔ k ∈ l') : l = l' := by
  have nd : ∀ {l : List Nat}, l.Pairwise (· < ·) → l.Nodup := fun h => h.imp fun {a b} (q : a < b) (e : a = b) => by omega
  have p : l.Perm l' := (List.perm_ext_iff_of_nodup (nd h) (nd h')).mpr q
  exact p.eq_of_pairwise (fun a b _ _ (x : a < b) (y : b < a) => by omega) h h'
/-- ints that are told sorted without doubles are the numbers -/
theorem asc_nat {ns : List Int} {l : List Nat} (h : ns.Pairwise (· < ·)) (hl : l.Pairwise (· < ·)) (q : ∀ k : Int, k ∈ ns ↔ ∃ n ∈ l, k = ((n : Nat) : Int)) : ns.map V.int = nI l := by
  rw [nI_int]
  congr 1
  refine asc_unique h (List.pairwise_map.mpr (hl.imp fun {a b} (z : a < b) => by show ((a : Nat) : Int) < (b : Int); omega)) fun k => ?_
  rw [q k, List.mem_map]
  exact ⟨fun ⟨n, a, b⟩ => ⟨n, a, b.symm⟩, fun ⟨n, a, b⟩ => ⟨n, a, b.symm⟩⟩
/-- a sorted arrangement of numbers without doubles -/
theorem sorted_nat {ns : List Int} {L l : List Nat} (hp : ns.Perm (L.map (fun (n : Nat) => (n : Int)))) (hs : ns.Pairwise (· ≤ ·)) (nd : L.Nodup) (hl : l.Pairwise (· < ·)) (q : ∀ n, n ∈ l ↔ n ∈ L) : ns.map V.int = nI l := by
  have ndi : (L.map (fun (n : Nat) => (n : Int))).Nodup := List.pairwise_map.mpr (nd.imp fun {a b} (z : a ≠ b) (y : ((a : Nat) : Int) = (b : Int)) => z (by omega))
  have ndn : ns.Nodup := hp.nodup_iff.mpr ndi
  have lt : ns.Pairwise (· < ·) := by
    have := hs.and ndn
    exact this.imp fun {a b} ⟨x, y⟩ => by omega
  refine asc_nat lt hl fun k => ?_
  rw [hp.mem_iff, List.mem_map]
  exact ⟨fun ⟨n, a, b⟩ => ⟨n, (q n).mpr a, b.symm⟩, fun ⟨n, a, b⟩ => ⟨n, (q n).mp a, b.symm⟩⟩
theorem set_one {ns : List Int} {c : Nat} {z : Int} (h : ∃ l : List Int, l.Nodup ∧ l.length = c ∧ ∀ k, k ∈ l ↔ k ∈ ns) (hz : ∀ k ∈ ns, k = z) (h0 : z ∈ ns) : c = 1 := by
  obtain ⟨l, nd, hl, hm⟩ := h
  have all : ∀ k ∈ l, k = z := fun k hk => hz k ((hm k).mp hk)
  have hin := (hm z).mpr h0
  match l, nd, all, hin, hl with
  | [x], _, _, _, hl => exact hl.symm
  | x :: y :: r, nd, all, _, _ =>
    have a := all x (by simp)
    have b := all y (by simp)
    rw [a, b] at nd
    simp at nd
/-- what a comprehension over ints gave -/
theorem kept_intsF {n : Nat} {f : Nat → Bool} {g : Nat → Nat} {ys : List V} {H : Hp} (h : Kept n f (fun k y _ => y = .int ((g k : Nat) : Int)) ys H) : ys = nI (((List.range n).filter f).map g) := by
  obtain ⟨h1, h2⟩ := h
  refine List.ext_getElem? fun i => ?_
  unfold nI
  rw [List.getElem?_map, List.getElem?_map]
  by_cases hi : i < ys.length
  · obtain ⟨y, hy⟩ := some_of hi
    obtain ⟨k, hk⟩ := some_of (l := (List.range n).filter f) (i := i) (by omega)
    rw [hy, hk, h2 i k y hk hy]; rfl
  · rw [List.getElem?_eq_none (by omega), List.getElem?_eq_none (by omega)]; rfl
theorem all_refs {ys : List V} (h : ∀ y ∈ ys, ∃ p : Addr, y = .ref p) : ∃ ps : List Addr, ys = ps.map V.ref := by
  induction ys with
  | nil => exact ⟨[], rfl⟩
  | cons y ys ih =>
    obtain ⟨p, rfl⟩ := h y List.mem_cons_self
    obtain ⟨ps, rfl⟩ := ih fun z hz => h z (List.mem_cons_of_mem _ hz)
    exact ⟨p :: ps, rfl⟩
/-- what a comprehension of new objects gave -/
theorem kept_objs {n : Nat} {o : Nat → HO} {ys : List V} {H : Hp} {ψ : Nat → Addr → Prop} (h : Kept n (fun _ => true) (fun k y H => ∃ p, y = .ref p ∧ ψ k p ∧ H p = some (o k)) ys H) :
    ∃ ps : List Addr, ys = ps.map V.ref ∧ ps.length = n ∧ ∀ (i : Nat) (a : Addr), ps[i]? = some a → H a = some (o i) ∧ ψ i a := by
  obtain ⟨h1, h2⟩ := h
  have e : (List.range n).filter (fun _ => true) = List.range n := List.filter_eq_self.mpr fun _ _ => rfl
  rw [e] at h1 h2
  rw [List.length_range] at h1
  obtain ⟨ps, rfl⟩ := all_refs (ys := ys) fun y hy => by
    obtain ⟨i, hi, rfl⟩ := List.mem_iff_getElem.mp hy
    obtain ⟨p, hp, _⟩ := h2 i i _ (List.getElem?_range (by omega)) (List.getElem?_eq_getElem hi)
    exact ⟨p, hp⟩
  rw [List.length_map] at h1
  refine ⟨ps, rfl, h1, fun i a ha => ?_⟩
  have hi : i < n := by rw [← h1]; exact (List.getElem?_eq_some_iff.mp ha).1
  obtain ⟨p, hp, h3, h4⟩ := h2 i i (.ref a) (List.getElem?_range hi) (by rw [List.getElem?_map, ha]; rfl)
  cases hp
  exact ⟨h4, h3⟩
theorem kept_NL {n : Nat} {g : Nat → List Nat} {ys : List V} {H : Hp} {D : Addr} (hD : H D = some (.lst ys)) (h : Kept n (fun _ => true) (fun k y H => IsL D (nI (g k)) y H) ys H) : NL H D ((List.range n).map g) := by
  obtain ⟨ps, rfl, h1, h2⟩ := kept_objs (o := fun k => .lst (nI (g k))) (ψ := fun _ p => p ≠ D) h
  refine ⟨ps, hD, by rw [h1]; simp, fun i a r ha hr => ?_⟩
  rw [(h2 i a ha).1]
  have hi : i < n := by rw [← h1]; exact (List.getElem?_eq_some_iff.mp ha).1
  rw [List.getElem?_map, List.getElem?_range hi] at hr
  rw [← Option.some.inj hr]
theorem kept_LL {n : Nat} {g : Nat → List Int} {ys : List V} {H : Hp} {D : Addr} (hD : H D = some (.lst ys)) (h : Kept n (fun _ => true) (fun k y H => IsL D ((g k).map V.int) y H) ys H) : LL H D ((List.range n).map g) := by
  obtain ⟨ps, rfl, h1, h2⟩ := kept_objs (o := fun k => .lst ((g k).map V.int)) (ψ := fun _ p => p ≠ D) h
  refine ⟨ps, hD, by rw [h1]; simp, fun i a r ha hr => ?_⟩
  rw [(h2 i a ha).1]
  have hi : i < n := by rw [← h1]; exact (List.getElem?_eq_some_iff.mp ha).1
  rw [List.getElem?_map, List.getElem?_range hi] at hr
  rw [← Option.some.inj hr]
theorem map_range {α β : Type} (l : List α) (d : α) (g : α → β) : (List.range l.length).map (fun i => g (l.getD i d)) = l.map g := by
  refine List.ext_getElem? fun i => ?_
  rw [List.getElem?_map, List.getElem?_map]
  by_cases hi : i < l.length
  · rw [List.getElem?_range hi, List.getElem?_eq_getElem hi]
    simp [List.getD_eq_getElem?_getD, hi]
  · rw [List.getElem?_eq_none (by simp; omega), List.getElem?_eq_none (by omega)]; rfl
theorem filter_range {α β : Type} (l : List α) (d : α) (p : α → Bool) (g : α → β) : ((List.range l.length).filter (fun i => p (l.getD i d))).map (fun i => g (l.getD i d)) = (l.filter p).map g := by
  have e : l = (List.range l.length).map (fun i => l.getD i d) := by
    have := map_range l d (fun x => x)
    simpa using this.symm
  conv => rhs; rw [e, List.filter_map, List.map_map]
  rfl
theorem walk_rangeN {n : Nat} : Walk (Itr 0 n) n (fun _ => True) (fun i H x H' => H' = H ∧ x = V.int (i : Int)) :=
  walk_range.mono (fun _ h => h) fun i H x H' _ _ ⟨a, b⟩ => ⟨a, b.trans (congrArg V.int (Int.zero_add _))⟩
theorem nil_sub (E : Nat) : ([] : List Nat) ∈ MT.subs (List.range E) := MT.mem_subs.mpr (List.nil_sublist _)
theorem tup_nI0 : (nI [] : List V) = [] := rfl
end Sr
namespace Sr
open PySem PySem.Spec PyProof.Rows L2 Evl
theorem ed_in {n : Nat} {es : List (Nat × Nat)} (h : MT.InN n es) : MT.Edge n es.length (ed es) := fun t ht => by
  refine h _ ?_
  unfold ed
  rw [List.getD_eq_getElem?_getD, List.getElem?_eq_getElem ht]; exact List.getElem_mem ht
theorem neqT {a b : V} {A B : Prop} (h : a ≠ b) (x : A) : if (!decide (a = b)) = true then A else B := by
  rw [if_pos (by simp [h])]; exact x
theorem neqF {a b : V} {A B : Prop} (h : a = b) (x : B) : if (!decide (a = b)) = true then A else B := by
  rw [if_neg (by simp [h])]; exact x
theorem int_ne {a b : Nat} (h : a ≠ b) : V.int (a : Int) ≠ V.int (b : Int) := fun q => h (by have := V.int.inj q; omega)
theorem int_eq {a b : Nat} : (V.int (a : Int) = V.int (b : Int)) ↔ a = b := ⟨fun q => by have := V.int.inj q; omega, fun q => by rw [q]⟩
theorem inF {n : Nat} {l : List Nat} {A B : Prop} (h : n ∉ l) (b : B) : if (if false = true then !inV (.int (n : Int)) (nI l) else inV (.int (n : Int)) (nI l)) = true then A else B := by
  rw [if_neg]; exact b
  rw [if_neg (by simp), nI_in]; simp [h]
theorem inT {n : Nat} {l : List Nat} {A B : Prop} (h : n ∈ l) (a : A) : if (if false = true then !inV (.int (n : Int)) (nI l) else inV (.int (n : Int)) (nI l)) = true then A else B := by
  rw [if_pos]; exact a
  rw [if_neg (by simp), nI_in]; simp [h]
theorem niF {n : Nat} {l : List Nat} {A B : Prop} (h : n ∈ l) (b : B) : if (if true = true then !inV (.int (n : Int)) (nI l) else inV (.int (n : Int)) (nI l)) = true then A else B := by
  rw [if_neg]; exact b
  rw [if_pos rfl, nI_in]; simp [h]
theorem niT {n : Nat} {l : List Nat} {A B : Prop} (h : n ∉ l) (a : A) : if (if true = true then !inV (.int (n : Int)) (nI l) else inV (.int (n : Int)) (nI l)) = true then A else B := by
  rw [if_pos]; exact a
  rw [if_pos rfl, nI_in]; simp [h]
theorem asc_nodup {l : List Nat} (h : l.Pairwise (· < ·)) : l.Nodup := h.imp fun {a b} (q : a < b) (e : a = b) => by omega
theorem sub_pair {E : Nat} {S : List Nat} (h : S.Pairwise (· < ·)) (b : ∀ t ∈ S, t < E) : S ∈ MT.subs (List.range E) := by
  have : S = (List.range E).filter (fun t => decide (t ∈ S)) := by
    refine asc_uniqueN h (List.Pairwise.sublist List.filter_sublist List.pairwise_lt_range) fun k => ?_
    rw [List.mem_filter, decide_eq_true_eq, List.mem_range]
    exact ⟨fun q => ⟨b k q, q⟩, fun q => q.2⟩
  rw [this]
  exact MT.filter_sub _ _
theorem sub_len {E : Nat} {S : List Nat} (h : S ∈ MT.subs (List.range E)) : S.length ≤ E := by
  have := (MT.mem_subs.mp h).length_le
  rwa [List.length_range] at this
/-- sorted numbers in ascending order -/
theorem sorted_ins {ns : List Int} {L l : List Nat} (hp : ns.Perm (L.map (fun (n : Nat) => (n : Int)))) (hs : ns.Pairwise (· ≤ ·)) (nd : L.Nodup) (hl : l.Pairwise (· < ·)) (q : ∀ n, n ∈ l ↔ n ∈ L) : ns.map V.int = nI l := sorted_nat hp hs nd hl q
theorem nI_sq (l : List Nat) : nI l = (l.map (fun (n : Nat) => (n : Int))).map V.int := nI_int l
/-- growing over the ties up to i -/
structure Grow (n E : Nat) (ed : Nat → Nat × Nat) (i : Nat) (S : List Nat) : Prop where
  sub : S ∈ MT.subs (List.range i)
  same : MT.mk (S.map ed) = MT.mk ((List.range i).map ed)
  len : S.length + MT.pc n (MT.mk (S.map ed)) = n
theorem grow_zero (n E : Nat) (ed : Nat → Nat × Nat) : Grow n E ed 0 [] := ⟨nil_sub 0, rfl, by
  show 0 + MT.pc n id = n
  rw [MT.pc_id, Nat.zero_add]⟩
theorem range_snoc (i : Nat) : List.range (i + 1) = List.range i ++ [i] := List.range_succ
theorem Grow.yes {n E : Nat} {ed : Nat → Nat × Nat} {i : Nat} {S : List Nat} (he : MT.Edge n E ed) (h : Grow n E ed i S) (hi : i < E) (q : MT.mk (S.map ed) (ed i).1 ≠ MT.mk (S.map ed) (ed i).2) : Grow n E ed (i + 1) (S ++ [i]) := by
  refine ⟨?_, ?_, ?_⟩
  · rw [range_snoc]
    exact MT.mem_subs.mpr (List.Sublist.append (MT.mem_subs.mp h.sub) (List.Sublist.refl _))
  · rw [MT.mk_snoc, range_snoc, MT.mk_snoc, h.same]
  · have := MT.pc_sep he (S := S) (e := i) (fun t ht => Nat.lt_trans (MT.sub_lt h.sub ht) hi) hi q
    have := h.len
    rw [List.length_append]; show S.length + 1 + MT.pc n (MT.mk ((S ++ [i]).map ed)) = n; omega
theorem Grow.no {n E : Nat} {ed : Nat → Nat × Nat} {i : Nat} {S : List Nat} (h : Grow n E ed i S) (q : MT.mk (S.map ed) (ed i).1 = MT.mk (S.map ed) (ed i).2) : Grow n E ed (i + 1) S := by
  refine ⟨?_, ?_, h.len⟩
  · rw [range_snoc]
    exact MT.mem_subs.mpr ((MT.mem_subs.mp h.sub).trans (List.sublist_append_left _ _))
  · rw [range_snoc, MT.mk_snoc, ← h.same, MT.mkS_same q]
theorem Grow.tree {n E : Nat} {ed : Nat → Nat × Nat} {S : List Nat} (h : Grow n E ed E S) (q : MT.pc n (MT.mk ((List.range E).map ed)) = 1) : MT.Tree n ed E S := by
  have := h.len
  rw [h.same, q] at this
  exact ⟨h.sub, this, by rw [h.same]; exact q⟩
/-- list(xs) -/
def rListOf (K : PySem.W.Frag) : List V → Hp → VK → Prop := fun xs H Q => ∃ p ys, xs = [.ref p] ∧ (SqL K H p ys ∨ SqT K H p ys) ∧ ∀ l, H l = none → Q (.ref l) (upd H l (.lst ys))
theorem list_ofK {X : Cx} : CallR X (.type "list") (rListOf X.K) := call_list_of
theorem len_seqK {X : Cx} : CallR X (.builtin "len") (rLenS X.K) := call_len_seq
theorem pow_le28 {n : Nat} (h : n ≤ 28) : (2 : Int) ^ n ≤ 2 ^ 28 := by
  have := Nat.pow_le_pow_right (n := 2) (by decide) h
  have e : ((2 ^ n : Nat) : Int) ≤ ((2 ^ 28 : Nat) : Int) := Int.ofNat_le.mpr this
  rw [Int.natCast_pow, Int.natCast_pow] at e
  exact e
theorem pe_fldK {X : Cx} {K' : PySem.W.Frag} {e : Expr} {f : Str} {pos : Pos} {ta : TE} (hK : X.K = K') (he : PE X e ta) (hb : attributeBase e f X.env (eval e X.env) = eval e X.env) : PE X (.Attribute e f pos) (tFld K' ta f) := by
  subst hK; exact pe_fld he hb
end Sr
namespace Sr
open PySem PySem.Spec PyProof.Rows L2 Evl
theorem marks_zero {n : Nat} {es : List (Nat × Nat)} {S : List Nat} (hn : 1 ≤ n) (h : MT.pc n (MT.mk (S.map (ed es))) = 1) : (∀ k ∈ (marksL n es S).map (fun (x : Nat) => (x : Int)), k = 0) ∧ (0 : Int) ∈ (marksL n es S).map (fun (x : Nat) => (x : Int)) := by
  have z := (MT.pc_one (MT.mk_inv _) hn).mp h
  constructor
  · intro k hk
    obtain ⟨x, hx, rfl⟩ := List.mem_map.mp hk
    unfold marksL at hx
    obtain ⟨v, hv, rfl⟩ := List.mem_map.mp hx
    rw [z v (List.mem_range.mp hv)]; rfl
  · refine List.mem_map.mpr ⟨0, ?_, rfl⟩
    unfold marksL
    exact List.mem_map.mpr ⟨0, List.mem_range.mpr hn, z 0 hn⟩
section
variable {P : Program} {w : World} {K : PySem.W.Frag} {mg : Str → Option Value} {base : Heap} {CW CS : Addr}
def spJoined (CW : Addr) : Sp := fun vs H Q _ => ∃ (p t : Addr) (n : Nat) (es : List (Nat × Nat)) (S : List Nat), vs = [.ref p, .ref t] ∧ WebAt CW H p n es ∧ (H t = some (.tup (nI S)) ∨ H t = some (.lst (nI S))) ∧ S ∈ MT.subs (List.range es.length) ∧
  MT.pc n (MT.mk (S.map (ed es))) = 1 ∧ ∀ H', Ex H H' → Q (.bl true) H'
theorem d_is_joined (T : Txt K mg CW CS) : Def P w K mg base "is_joined" 2 ["web", "ties"] (spJoined CW) := by
  have D_made_set : Def P w K mg base "made_set" 1 ["web", "ties"] (spMadeSet CW) := d_made_set T
  have D_marks_over : Def P w K mg base "marks_over" 1 ["web", "ties"] (spMarks CW) := d_marks_over T
  refine def_by T.a_is_joined sc_is_joined (fun vs H Q E h => ?_) (fun f cdv A outer s H vs Q E hr h => ?_)
  · obtain ⟨p, t, n, es, S, rfl, _⟩ := h; rfl
  obtain ⟨p, t, n, es, S, rfl, hw, ht, hS, hj, q⟩ := h
  refine ⟨_, (pss_one (ps_ret (pe_cmpR op_eq (pe_callB call_lenO (by rfl) T.z_len PySem.boot_len (pa_cons (pe_callTy (cr_setL rfl) (by rfl) T.z_set boot_set (pa_cons (pe_def D_marks_over hr (by decide) (by rfl) (pa_cons (pv 0) (pa_cons (pe_def D_made_set hr (by decide) (by rfl) (pa_cons (pv 0) (pa_cons (pv 1) pa_nil))) pa_nil))) pa_nil)) pa_nil)) pe_int (nomark _)))), ?_⟩
  refine ⟨_, rfl, _, rfl, _, rfl, p, t, n, es, S, rfl, hw, ht, hS, fun H1 r e1 h1 => ?_⟩
  refine ⟨p, r, n, es, S, rfl, hw.mono e1, .inl h1, fun t ht => MT.sub_lt hS ht, fun H2 m e2 h2 => ?_⟩
  obtain ⟨z1, z2⟩ := marks_zero hw.choose_spec.choose_spec.2.2.1 hj
  refine ⟨m, (marksL n es S).map (fun (x : Nat) => (x : Int)), rfl, by rw [← nI_int]; exact h2, ?_, fun sp c np hc => ?_⟩
  · rw [List.length_map, marksL_len]
    have := hw.choose_spec.choose_spec.2.2.2.1
    omega
  have c1 := set_one hc z1 z2
  subst c1
  exact ⟨sp, _, 1, rfl, upd_same, rfl, q _ ((e1.trans e2).trans (Ex.new np))⟩
def spIsTree (CW : Addr) : Sp := fun vs H Q _ => ∃ (p t : Addr) (n : Nat) (es : List (Nat × Nat)) (S : List Nat), vs = [.ref p, .ref t] ∧ WebAt CW H p n es ∧ H t = some (.tup (nI S)) ∧ MT.Tree n (ed es) es.length S ∧ ∀ H', Ex H H' → Q (.bl true) H'
theorem d_is_tree (T : Txt K mg CW CS) : Def P w K mg base "is_tree" 2 ["web", "ties"] (spIsTree CW) := by
  have D_marks_over : Def P w K mg base "marks_over" 1 ["web", "ties"] (spMarks CW) := d_marks_over T
  refine def_by T.a_is_tree sc_is_tree (fun vs H Q E h => ?_) (fun f cdv A outer s H vs Q E hr h => ?_)
  · obtain ⟨p, t, n, es, S, rfl, _⟩ := h; rfl
  obtain ⟨p, t, n, es, S, rfl, hw, ht, hT, q⟩ := h
  obtain ⟨dx, l, hp, hl, h1, h14, h30, hin⟩ := id hw
  obtain ⟨ps, hl1, hl2, hl3⟩ := id hl
  have hS := hT.sub
  have asc := asc_of hS
  have step : ∀ (i z : Nat) (ah : Int), (∀ (j m : Nat), i ≤ j → S[j]? = some m → ah < (m : Int)) → S[i]? = some z → (¬ (z : Int) ≤ ah) ∧ (¬ ((ps.map V.ref).length : Int) ≤ (z : Int)) ∧ ∀ (j m : Nat), i + 1 ≤ j → S[j]? = some m → (z : Int) < (m : Int) := fun i z ah hi hz => by
    have a := hi i z (Nat.le_refl _) hz
    have b := MT.sub_lt hS (List.mem_of_getElem? hz)
    refine ⟨by omega, by rw [List.length_map, hl2]; omega, fun j m hj hm => ?_⟩
    have := asc_get asc hz hm (by omega)
    omega
  refine ⟨_, (pss_cons (ps_if (pt_cmpR op_ne (pe_callB call_len_seq (by rfl) T.z_len PySem.boot_len (pa_cons (pv 1) pa_nil)) (pe_op op_sub (pe_fld (pv 0) (by rfl)) pe_int) (nomark _)) (pss_one (ps_ret pe_bl)) pss_nil)
      (pss_cons (ps_set (i := 2) sc_is_tree.nd rfl (by first | exact Or.inl rfl | exact Or.inr rfl) (pe_un un_neg pe_int))
      (pss_cons (ps_for PassesOwn.never rfl (pi_tup (pv 1)) (pg_name (i := 3) sc_is_tree.nd rfl (by first | exact Or.inl rfl | exact Or.inr rfl))
        (pss_cons (ps_if (PW.pt (pw_or (pt_cmpR op_le (pv 3) (pv 2) (nomark _)) (pw_or1 (pt_cmpR op_ge (pv 3) (pe_callB call_len_seq (by rfl) T.z_len PySem.boot_len (pa_cons (pe_fld (pv 0) (by rfl)) pa_nil)) (nomark _))))) (pss_one (ps_ret pe_bl)) pss_nil)
        (pss_one (ps_set (i := 2) sc_is_tree.nd rfl (by first | exact Or.inl rfl | exact Or.inr rfl) (pv 3)))))
      (pss_one (ps_ret (pe_cmpR op_eq (pe_callB call_lenO (by rfl) T.z_len PySem.boot_len (pa_cons (pe_callTy (cr_setL rfl) (by rfl) T.z_set boot_set (pa_cons (pe_def D_marks_over hr (by decide) (by rfl) (pa_cons (pv 0) (pa_cons (pv 1) pa_nil))) pa_nil)) pa_nil)) pe_int (nomark _))))))), ?_⟩
  -- len(ties) != web.places - 1
  refine ⟨_, rfl, t, _, rfl, .inr (st_of ht), _, rfl, p, CW, dx, _, _, rfl, hp, T.cW, T.nW_places, wfs_places n l, _, _, rfl, rfl, rfl, _, rfl, ifN ?_ ?_⟩
  · congr 1
    have := hT.len
    rw [nI_len]; omega
  refine ⟨1, rfl, ?_⟩
  refine ⟨.ref t, rfl, t, rfl, ⟨_, st_of ht⟩, for_tup (K := K) (a := t) (xs := nI S) (fun i σ' H' => ∃ (ah : Int) (y : Option V), σ' = [some (.ref p), some (.ref t), some (.int ah), y] ∧ H' = H ∧ ∀ (j m : Nat), i ≤ j → S[j]? = some m → ah < (m : Int)) ⟨-1, none, rfl, rfl, fun j m _ _ => by omega⟩ (fun i σ' H' _ ⟨_, _, _, e, _⟩ => e ▸ st_of ht) ?_ ?_⟩
  · rintro i x σ' H' hx ⟨ah, y, rfl, rfl, hi⟩
    obtain ⟨z, hz, rfl⟩ := nI_got hx
    obtain ⟨a, b, c⟩ := step i z ah hi hz
    refine ⟨_, rfl, _, rfl, _, _, rfl, rfl, _, rfl, ifF a ?_⟩
    refine ⟨_, rfl, .ref p, rfl, p, CW, dx, _, _, rfl, hp, T.cW, T.nW_ties, wfs_ties n l, l, _, rfl, .inl (sq_of hl1), _, _, rfl, rfl, _, rfl, ifF b ?_⟩
    exact ⟨_, rfl, _, _, rfl, rfl, c⟩
  · rintro σ' H' ⟨ah, y, rfl, rfl, _⟩
    refine ⟨_, rfl, _, rfl, p, t, n, es, S, rfl, hw, .inl ht, fun t ht => MT.sub_lt hS ht, fun H2 m e2 h2 => ?_⟩
    obtain ⟨z1, z2⟩ := marks_zero h1 hT.one
    refine ⟨m, (marksL n es S).map (fun (x : Nat) => (x : Int)), rfl, by rw [← nI_int]; exact h2, by rw [List.length_map, marksL_len]; omega, fun sp c np hc => ?_⟩
    have c1 := set_one hc z1 z2
    subst c1
    exact ⟨sp, _, 1, rfl, upd_same, rfl, q _ (e2.trans (Ex.new np))⟩
def spLookTree (CW : Addr) : Sp := fun vs H Q _ => ∃ (p t : Addr) (n : Nat) (es : List (Nat × Nat)) (S : List Nat), vs = [.ref p, .ref t] ∧ WebAt CW H p n es ∧ H t = some (.tup (nI S)) ∧ MT.Tree n (ed es) es.length S ∧ ∀ H', Ex H H' → Q .non H'
theorem d_look_at_tree (T : Txt K mg CW CS) : Def P w K mg base "look_at_tree" 3 ["web", "tree"] (spLookTree CW) := by
  have D_is_tree : Def P w K mg base "is_tree" 2 ["web", "ties"] (spIsTree CW) := d_is_tree T
  refine def_by T.a_look_at_tree sc_look_at_tree (fun vs H Q E h => ?_) (fun f cdv A outer s H vs Q E hr h => ?_)
  · obtain ⟨p, t, n, es, S, rfl, _⟩ := h; rfl
  obtain ⟨p, t, n, es, S, rfl, hw, ht, hT, q⟩ := h
  refine ⟨_, (pss_one (ps_if (pt_not (pt_val (pe_def D_is_tree hr (by decide) (by rfl) (pa_cons (pv 0) (pa_cons (pv 1) pa_nil))))) (pss_one ps_never) pss_nil)), ?_⟩
  exact ⟨_, rfl, _, rfl, p, t, n, es, S, rfl, hw, ht, hT, fun H1 e1 => ⟨true, rfl, iteF (q H1 e1)⟩⟩
/-- the pieces as they are listed -/
def piecesL (n : Nat) (m : Nat → Nat) : List (List Nat) := (MT.reps n m).map fun r => (List.range n).filter fun v => m v == r
def spPieces (CW : Addr) : Sp := fun vs H Q _ => ∃ (p t : Addr) (n : Nat) (es : List (Nat × Nat)) (S : List Nat), vs = [.ref p, .ref t] ∧ WebAt CW H p n es ∧ (H t = some (.tup (nI S)) ∨ H t = some (.lst (nI S))) ∧ S ∈ MT.subs (List.range es.length) ∧
  ∀ H' r, Ex H H' → NL H' r (piecesL n (MT.mk (S.map (ed es)))) → Q (.ref r) H'
theorem reps_asc (n : Nat) (m : Nat → Nat) : (MT.reps n m).Pairwise (· < ·) := List.Pairwise.sublist List.filter_sublist List.pairwise_lt_range
theorem d_pieces_of (T : Txt K mg CW CS) : Def P w K mg base "pieces_of" 2 ["web", "ties"] (spPieces CW) := by
  have D_made_set : Def P w K mg base "made_set" 1 ["web", "ties"] (spMadeSet CW) := d_made_set T
  have D_marks_over : Def P w K mg base "marks_over" 1 ["web", "ties"] (spMarks CW) := d_marks_over T
  refine def_by T.a_pieces_of sc_pieces_of (fun vs H Q E h => ?_) (fun f cdv A outer s H vs Q E hr h => ?_)
  · obtain ⟨p, t, n, es, S, rfl, _⟩ := h; rfl
  obtain ⟨p, t, n, es, S, rfl, hw, ht, hS, q⟩ := h
  obtain ⟨dx, l, hp, hl, h1, h14, h30, hin⟩ := id hw
  refine ⟨_, (pss_cons (ps_set (i := 2) sc_pieces_of.nd rfl (by first | exact Or.inl rfl | exact Or.inr rfl) (pe_def D_marks_over hr (by decide) (by rfl) (pa_cons (pv 0) (pa_cons (pe_def D_made_set hr (by decide) (by rfl) (pa_cons (pv 0) (pa_cons (pv 1) pa_nil))) pa_nil))))
      (pss_one (ps_ret (pe_lc  (te := tLc (iRng1 (tCons (tFld K (tVar 0) "places") tNil)) (gName 4) (tTest (tOp rEq (tOp (rIxL K) (tVar 2) (tVar 4)) (tVar 3))) (tVar 4) [4]) (own := [("mark", 3)]) (g := (gName 3)) rfl sc_pieces_of.nd (pi_list (pe_callB (cr_sortedSet rfl) (by rfl) T.z_sorted (by decide +kernel) (pa_cons (pe_callTy (cr_setL rfl) (by rfl) T.z_set boot_set (pa_cons (pv 2) pa_nil)) pa_nil))) (blkOk_by (own := [("mark", 3)]) (N := ["web", "ties", "marks", "mark", "place"]) (sc := defScope s_pieces_of) (by decide +kernel)) (fun _ _ _ _ _ => (pg_name (i := 3) sc_pieces_of.nd rfl (by first | exact Or.inl rfl | exact Or.inr rfl))) (fun _ _ _ _ _ => pts_nil) (fun _ _ _ _ _ => (by exact pe_lc  (own := [("place", 4)]) (g := (gName 4)) rfl sc_pieces_of.nd (pi_range1 (by rfl) T.z_range (pa_cons (pe_fld (pv 0) (by rfl)) pa_nil)) (blkOk_by (own := [("place", 4)]) (N := ["web", "ties", "marks", "mark", "place"]) (sc := { kind := .function, names := [(".0", .local), ("mark", .cell), ("range", .globalImplicit), ("marks", .cell), ("web", .cell)], isGenerator := false, isCoroutine := false }) (by decide +kernel)) (fun _ _ _ _ _ => (pg_name (i := 4) sc_pieces_of.nd rfl (by first | exact Or.inl rfl | exact Or.inr rfl))) (fun _ _ _ _ _ => (pts_one (pt_cmpR op_eq (pe_ix ix_list (pv 2) (pv 4) (fun _ _ => rfl)) (pv 3) (nomark _)))) (fun _ _ _ _ _ => (pv 4)))))))), ?_⟩
  refine ⟨_, rfl, _, rfl, _, rfl, p, t, n, es, S, rfl, hw, ht, hS, fun H1 r e1 h1 => ?_⟩
  refine ⟨p, r, n, es, S, rfl, hw.mono e1, .inl h1, fun t ht => MT.sub_lt hS ht, fun H2 m e2 h2 => ?_⟩
  -- sorted(set(marks))
  refine ⟨_, rfl, m, (marksL n es S).map (fun (x : Nat) => (x : Int)), rfl, by rw [← nI_int]; exact h2, by rw [List.length_map, marksL_len]; omega, fun sp c np hc => ?_⟩
  have hc64 : c < 64 := by
    obtain ⟨ll, nd, hl, hm⟩ := hc
    have := List.Nodup.length_le_of_subset nd (l₂ := (marksL n es S).map (fun (x : Nat) => (x : Int))) fun k hk => (hm k).mp hk
    rw [List.length_map, marksL_len] at this
    omega
  refine ⟨sp, _, c, rfl, upd_same, hc64, fun ns sl hlt hmem hlen nsl => ?_⟩
  have e34 := (Ex.new (o := _) np).trans (Ex.new (o := .lst (ns.map V.int)) nsl)
  have ens : ns.map V.int = nI (MT.reps n (MT.mk (S.map (ed es)))) := by
    refine asc_nat hlt (reps_asc _ _) fun k => ?_
    rw [hmem k, decide_eq_true_eq, List.mem_map]
    constructor
    · rintro ⟨x, hx, rfl⟩
      unfold marksL at hx
      obtain ⟨v, hv, rfl⟩ := List.mem_map.mp hx
      exact ⟨_, (MT.mk_inv _).mem (List.mem_range.mp hv), rfl⟩
    · rintro ⟨x, hx, rfl⟩
      obtain ⟨a, b⟩ := MT.mem_reps.mp hx
      exact ⟨x, List.mem_map.mpr ⟨x, List.mem_range.mpr a, b⟩, rfl⟩
  rw [ens] at e34 ⊢
  have hm4 := e34 _ _ h2
  have hp4 := e34 _ _ (e2 _ _ (e1 _ _ hp))
  have lenr : (MT.reps n (MT.mk (S.map (ed es)))).length ≤ n := by
    have := List.length_filter_le (fun v => MT.mk (S.map (ed es)) v == v) (List.range n)
    rw [List.length_range] at this
    exact this
  refine ⟨sl, rfl, ⟨_, sq_of upd_same⟩, fun D nD => lc_fin (D := D) (walk_list (xs := nI (MT.reps n (MT.mk (S.map (ed es)))))) (by rw [nI_len]; omega) (gm_name 3) (fun _ => true)
    (fun k y H => IsL D (nI ((List.range n).filter fun v => MT.mk (S.map (ed es)) v == (MT.reps n (MT.mk (S.map (ed es)))).getD k 0)) y H) (fun _ _ _ _ e h => h.m e) nD (fun H2 e2 => sq_of (e2 _ _ upd_same)) ?_ ?_⟩
  · rintro j y Ha Hb hj ea ⟨zs, hz⟩ ⟨rfl, hy⟩
    obtain ⟨v, hv, rfl⟩ := nI_got hy
    have ev : (MT.reps n (MT.mk (S.map (ed es)))).getD j 0 = v := by rw [List.getD_eq_getElem?_getD, hv]; rfl
    refine ⟨rfl, Ex.refl _, et_yes, fun _ => ?_⟩
    rw [ev]
    intro Hc ec Q' q'
    -- the inner comprehension
    refine ⟨_, rfl, p, CW, dx, _, _, rfl, ec _ _ (ea _ _ hp4), T.cW, T.nW_places, wfs_places n l, (n : Int), rfl, by omega, by omega, fun D2 nD2 => ?_⟩
    refine lc_fin (D := D2) (walk_rangeN (n := (n : Int).toNat)) (by omega) (gm_name 4) (fun k => MT.mk (S.map (ed es)) k == v) (fun k y _ => y = .int ((k : Nat) : Int)) (fun _ _ _ _ _ h => h) nD2 (fun _ _ => trivial) ?_ ?_
    · rintro k y Ha2 Hb2 hk ea2 _ ⟨rfl, rfl⟩
      have hk' : k < n := by omega
      refine ⟨rfl, Ex.refl _, ?_, fun _ => Ev.p (ev_var rfl)⟩
      have hm5 : Hb2 m = some (.lst (nI (marksL n es S))) := ea2 _ _ (ec _ _ (ea _ _ hm4))
      refine et_test (ev_is (ev_op (ev_ixL (j := k) (ev_var rfl) (ev_var rfl) hm5 (nI_get (marksL_get hk'))) (ev_var rfl) (rv_eq rfl)) ?_)
      congr 1
      rw [Bool.eq_iff_iff, decide_eq_true_eq, beq_iff_eq]
      exact ⟨fun q => by have := V.int.inj q; omega, fun q => by rw [q]⟩
    · intro ys H5 e5 hD2 hk
      have := kept_intsF (g := fun k => k) hk
      rw [List.map_id', show (n : Int).toNat = n by omega] at this
      rw [this] at hD2
      exact q' _ H5 e5 ⟨D2, rfl, (ne_of_none (ec _ _ hz) nD2).symm, hD2⟩
  · intro ys H5 e5 hD hk
    refine q H5 D (((e1.trans e2).trans e34).trans e5) ?_
    have := kept_NL (g := fun k => (List.range n).filter fun v => MT.mk (S.map (ed es)) v == (MT.reps n (MT.mk (S.map (ed es)))).getD k 0) hD hk
    rw [nI_len, map_range (MT.reps n (MT.mk (S.map (ed es)))) 0 (fun r => (List.range n).filter fun v => MT.mk (S.map (ed es)) v == r)] at this
    exact this
end
end Sr
namespace Sr
open PySem PySem.Spec PyProof.Rows L2 Evl
section
variable {P : Program} {w : World} {K : PySem.W.Frag} {mg : Str → Option Value} {base : Heap} {CW CS : Addr}
def spGrown (CW : Addr) : Sp := fun vs H Q _ => ∃ (p t o : Addr) (n : Nat) (es : List (Nat × Nat)), vs = [.ref p, .ref t, .ref o] ∧ WebAt CW H p n es ∧ H t = some (.tup []) ∧ H o = some (.lst (nI (List.range es.length))) ∧ MT.pc n (MT.mk ((List.range es.length).map (ed es))) = 1 ∧
  ∀ H' r S, Ex H H' → H' r = some (.tup (nI S)) → MT.Tree n (ed es) es.length S → Q (.ref r) H'
theorem d_grown (T : Txt K mg CW CS) : Def P w K mg base "grown" 2 ["web", "kept", "order"] (spGrown CW) := by
  have D_marks_over : Def P w K mg base "marks_over" 1 ["web", "ties"] (spMarks CW) := d_marks_over T
  refine def_by T.a_grown sc_grown (fun vs H Q E h => ?_) (fun f cdv A outer s H vs Q E hr h => ?_)
  · obtain ⟨p, t, o, n, es, rfl, _⟩ := h; rfl
  obtain ⟨p, t, o, n, es, rfl, hw, ht, ho, hj, q⟩ := h
  obtain ⟨dx, l, hp, hl, h1, h14, h30, hin⟩ := id hw
  refine ⟨_, (pss_cons (ps_set (i := 3) sc_grown.nd rfl (by first | exact Or.inl rfl | exact Or.inr rfl) (pe_callTy (r := rListOf K) list_ofK (by rfl) T.z_list boot_list (pa_cons (pv 1) pa_nil)))
      (pss_cons (ps_set (i := 4) sc_grown.nd rfl (by first | exact Or.inl rfl | exact Or.inr rfl) (pe_def D_marks_over hr (by decide) (by rfl) (pa_cons (pv 0) (pa_cons (pv 3) pa_nil))))
      (pss_cons (ps_for PassesOwn.never rfl (pi_list (pv 2)) (pg_name (i := 5) sc_grown.nd rfl (by first | exact Or.inl rfl | exact Or.inr rfl))
        (pss_cons (ps_asg (pe_ix (r := rIxL K) ix_list (pe_fldK (K' := K) rfl (pv 0) (by rfl)) (pv 5) (fun _ _ => rfl)) (pg_tup rfl (pgs_cons (pg_name (i := 6) sc_grown.nd rfl (by first | exact Or.inl rfl | exact Or.inr rfl)) (pgs_cons (pg_name (i := 7) sc_grown.nd rfl (by first | exact Or.inl rfl | exact Or.inr rfl)) pgs_nil))))
        (pss_one (ps_if (pt_cmpR op_ne (pe_ix (r := rIxL K) ix_list (pv 4) (pv 6) (fun _ _ => rfl)) (pe_ix (r := rIxL K) ix_list (pv 4) (pv 7) (fun _ _ => rfl)) (nomark _)) (pss_cons (ps_expr (pe_bm PySem.F.plainAttrs_list PySem.F.slot_list_append PySem.F.type_list_append mt_append (pv 3) (pa_cons (pv 5) pa_nil)))
          (pss_one (ps_set (i := 4) sc_grown.nd rfl (by first | exact Or.inl rfl | exact Or.inr rfl) (pe_def D_marks_over hr (by decide) (by rfl) (pa_cons (pv 0) (pa_cons (pv 3) pa_nil)))))) pss_nil))))
      (pss_one (ps_ret (pe_callTy call_tuple_of (by rfl) T.z_tuple boot_tuple (pa_cons (pe_callB cr_sorted (by rfl) T.z_sorted (by decide +kernel) (pa_cons (pv 3) pa_nil)) pa_nil))))))), ?_⟩
  refine ⟨_, rfl, t, _, rfl, .inr (st_of ht), fun td ntd => ?_⟩
  have e1 := Ex.new (o := .lst []) ntd
  refine ⟨_, rfl, _, rfl, p, td, n, es, [], rfl, hw.mono e1, .inr upd_same, fun t ht => absurd ht List.not_mem_nil, fun H2 m e2 h2 => ?_⟩
  refine ⟨.ref o, rfl, o, rfl, ⟨_, sq_of ((e1.trans e2) _ _ ho)⟩, for_list (K := K) (a := o) (xs := nI (List.range es.length)) (fun i σ' H' => ∃ (S : List Nat) (mm : Addr) (y5 y6 y7 : Option V), σ' = [some (.ref p), some (.ref t), some (.ref o), some (.ref td), some (.ref mm), y5, y6, y7] ∧ Ex H H' ∧ Grow n es.length (ed es) i S ∧ H' td = some (.lst (nI S)) ∧ H' mm = some (.lst (nI (marksL n es S))))
    ⟨[], m, none, none, none, rfl, e1.trans e2, grow_zero _ _ _, e2 _ _ upd_same, h2⟩ (fun i σ' H' _ ⟨_, _, _, _, _, _, e, _⟩ => sq_of (e _ _ ho)) ?_ ?_⟩
  · rintro i x σ' H' hx ⟨S, mm, y5, y6, y7, rfl, e, hg, htd, hm⟩
    obtain ⟨z, hz, rfl⟩ := nI_got hx
    obtain ⟨hi, hz'⟩ := List.getElem?_eq_some_iff.mp hz
    rw [List.getElem_range] at hz'
    subst hz'
    rw [List.length_range] at hi
    obtain ⟨xs, a, hl1, hl2, hl3, hl4⟩ := (hl.mono e).at hi
    obtain ⟨i1, i2⟩ := ed_in hin i hi
    have m1 := nI_get (marksL_get (es := es) (S := S) i1)
    have m2 := nI_get (marksL_get (es := es) (S := S) i2)
    refine ⟨.ref p, rfl, p, CW, dx, _, _, rfl, e _ _ hp, T.cW, T.nW_ties, wfs_ties n l, _, rfl, l, xs, _, _, rfl, rfl, sq_of hl1, atI_nat hl3, a, _, rfl, st_of hl4, rfl, _, _, rfl, _, _, rfl, rfl, ?_⟩
    refine ⟨_, rfl, _, rfl, mm, _, _, _, rfl, rfl, sq_of hm, atI_nat m1, _, rfl, _, rfl, mm, _, _, _, rfl, rfl, sq_of hm, atI_nat m2, rfl, _, rfl, ?_⟩
    by_cases hq : MT.mk (S.map (ed es)) (ed es i).1 = MT.mk (S.map (ed es)) (ed es i).2
    · refine neqF (by rw [hq]) ?_
      exact ⟨S, mm, _, _, _, rfl, e, hg.no hq, htd, hm⟩
    · refine neqT (int_ne hq) ?_
      have hlen := sub_len hg.sub
      have hg' := hg.yes (ed_in hin) hi hq
      refine ⟨_, rfl, .inl ⟨rfl, _, sq_of htd⟩, _, rfl, td, _, _, rfl, rfl, htd, sz_lt (by rw [nI_len]; omega), ?_⟩
      have e5 := Ex.mut (o := .lst (nI S ++ [V.int (i : Int)])) e ntd
      refine ⟨_, rfl, _, rfl, p, td, n, es, S ++ [i], rfl, hw.mono e5, .inr (by rw [upd_same, nI_app]; rfl), fun t ht => ?_, fun H6 m' e6 h6 => ?_⟩
      · have := MT.sub_lt hg'.sub ht; omega
      · refine ⟨S ++ [i], m', _, _, _, rfl, e5.trans e6, hg', e6 _ _ (by rw [upd_same, nI_app]; rfl), h6⟩
  · rintro σ' H' ⟨S, mm, y5, y6, y7, rfl, e, hg, htd, hm⟩
    rw [nI_len, List.length_range] at hg
    have hlen := sub_len hg.sub
    refine ⟨_, rfl, td, S.map (fun (x : Nat) => (x : Int)), rfl, by rw [← nI_int]; exact sq_of htd, by rw [List.length_map]; omega, fun ns' p' hperm hs np => ?_⟩
    have ens := sorted_nat hperm hs (MT.sub_nd hg.sub) (asc_of hg.sub) (fun _ => Iff.rfl)
    rw [ens]
    refine ⟨p', _, rfl, .inl ⟨sq_of upd_same, fun r nr => ?_⟩⟩
    exact q _ r S ((e.trans (Ex.new np)).trans (Ex.new nr)) upd_same (hg.tree hj)
def spLeast (CW : Addr) : Sp := fun vs H Q _ => ∃ (p : Addr) (n : Nat) (es : List (Nat × Nat)), vs = [.ref p] ∧ WebAt CW H p n es ∧ MT.pc n (MT.mk ((List.range es.length).map (ed es))) = 1 ∧
  ∀ H' r S, Ex H H' → H' r = some (.tup (nI S)) → MT.Tree n (ed es) es.length S → Q (.ref r) H'
theorem d_least_tree (T : Txt K mg CW CS) : Def P w K mg base "least_tree" 3 ["web"] (spLeast CW) := by
  have D_grown : Def P w K mg base "grown" 2 ["web", "kept", "order"] (spGrown CW) := d_grown T
  refine def_by T.a_least_tree sc_least_tree (fun vs H Q E h => ?_) (fun f cdv A outer s H vs Q E hr h => ?_)
  · obtain ⟨p, n, es, rfl, _⟩ := h; rfl
  obtain ⟨p, n, es, rfl, hw, hj, q⟩ := h
  obtain ⟨dx, l, hp, hl, h1, h14, h30, hin⟩ := id hw
  obtain ⟨ps, hl1, hl2, hl3⟩ := id hl
  have hc : (ps.map V.ref).length ≤ 30 := by rw [List.length_map]; omega
  refine ⟨_, (pss_cons (ps_set (i := 1) sc_least_tree.nd rfl (by first | exact Or.inl rfl | exact Or.inr rfl) (pe_def D_grown hr (by decide) (by rfl) (pa_cons (pv 0) (pa_cons (pe_tup pa_nil) (pa_cons (pe_listRg rfl (by rfl) T.z_list (prg_1 (by rfl) T.z_range (pe_callB (X := _) (r := rLenS K) len_seqK (by rfl) T.z_len PySem.boot_len (pa_cons (pe_fldK (K' := K) rfl (pv 0) (by rfl)) pa_nil)))) pa_nil)))))
      (pss_cons (ps_if (pt_cmpR op_lt (pe_callB (X := _) (r := rLenS K) len_seqK (by rfl) T.z_len PySem.boot_len (pa_cons (pv 1) pa_nil)) (pe_op op_sub (pe_fldK (K' := K) rfl (pv 0) (by rfl)) pe_int) (nomark _)) (pss_one ps_never) pss_nil)
      (pss_one (ps_ret (pv 1))))), ?_⟩
  refine ⟨_, rfl, sz (by simp), fun t0 nt0 => ?_⟩
  have e1 := Ex.new (o := .tup []) nt0
  refine ⟨_, rfl, p, CW, dx, _, _, rfl, e1 _ _ hp, T.cW, T.nW_ties, wfs_ties n l, l, _, rfl, .inl (sq_of (e1 _ _ hl1)), _, rfl, RgOk.of_le (by omega) (by omega) (by omega) (by omega), fun o no => ?_⟩
  have e2 := Ex.new (o := .lst (rgV 0 ((ps.map V.ref).length : Int))) no
  refine ⟨p, t0, o, n, es, rfl, hw.mono (e1.trans e2), e2 _ _ upd_same, by rw [upd_same, rgV_nI, List.length_map, hl2], hj, fun H3 r S e3 h3 hT => ?_⟩
  refine ⟨_, rfl, r, _, rfl, .inr (st_of h3), _, rfl, p, CW, dx, _, _, rfl, (e1.trans (e2.trans e3)) _ _ hp, T.cW, T.nW_places, wfs_places n l, _, _, rfl, rfl, _, _, rfl, rfl, _, rfl, ifF ?_ ?_⟩
  · have := hT.len
    rw [nI_len]; omega
  exact ⟨_, rfl, q H3 r S (e1.trans (e2.trans e3)) h3 hT⟩
def spWithout : Sp := fun vs H Q _ => ∃ (t : Addr) (S : List Nat) (f : Nat), vs = [.ref t, .int (f : Int)] ∧ H t = some (.tup (nI S)) ∧ S.length ≤ 40 ∧
  ∀ H' r, Ex H H' → H' r = some (.tup (nI (MT.rem S f))) → Q (.ref r) H'
theorem d_without_tie (T : Txt K mg CW CS) : Def P w K mg base "without_tie" 1 ["ties", "tie"] spWithout := by
  refine def_by T.a_without_tie sc_without_tie (fun vs H Q E h => ?_) (fun f cdv A outer s H vs Q E hr h => ?_)
  · obtain ⟨p, n, es, rfl, _⟩ := h; rfl
  obtain ⟨t, S, g, rfl, ht, hS, q⟩ := h
  refine ⟨_, (pss_one (ps_ret (pe_callTy call_tuple_of (by rfl) T.z_tuple boot_tuple (pa_cons (pe_lc  (own := [("other", 2)]) (g := (gName 2)) rfl sc_without_tie.nd (pi_tup (pv 0)) (blkOk_by (own := [("other", 2)]) (N := ["ties", "tie", "other"]) (sc := defScope s_without_tie) (by decide +kernel)) (fun _ _ _ _ _ => (pg_name (i := 2) sc_without_tie.nd rfl (by first | exact Or.inl rfl | exact Or.inr rfl))) (fun _ _ _ _ _ => (pts_one (pt_cmpR op_ne (pv 2) (pv 1) (nomark _)))) (fun _ _ _ _ _ => (pv 2))) pa_nil)))), ?_⟩
  refine ⟨_, rfl, t, rfl, ⟨_, st_of ht⟩, fun D nD => lc_fin (D := D) (walk_tup (xs := nI S)) (by rw [nI_len]; omega) (gm_name 2) (fun k => decide (S.getD k 0 ≠ g)) (fun k y _ => y = .int ((S.getD k 0 : Nat) : Int)) (fun _ _ _ _ _ h => h) nD (fun H2 e2 => st_of (e2 _ _ ht)) ?_ ?_⟩
  · rintro j y Ha Hb hj ea _ ⟨rfl, hy⟩
    obtain ⟨v, hv, rfl⟩ := nI_got hy
    have ev : S.getD j 0 = v := by rw [List.getD_eq_getElem?_getD, hv]; rfl
    rw [ev]
    refine ⟨rfl, Ex.refl _, et_test (ev_is (ev_op (ev_var rfl) (ev_var rfl) (rv_ne rfl)) ?_), fun _ => Ev.p (ev_var rfl)⟩
    congr 1
    rw [Bool.eq_iff_iff]
    simp only [Bool.not_eq_true', decide_eq_false_iff_not, decide_eq_true_eq, ne_eq, int_eq]
  · intro ys H2 e2 hD hk
    have e := kept_intsF (g := fun k => S.getD k 0) hk
    rw [nI_len, filter_range S 0 (fun x => decide (x ≠ g)) (fun x => x), List.map_id'] at e
    rw [e] at hD
    refine ⟨D, _, rfl, .inl ⟨sq_of hD, fun r nr => ?_⟩⟩
    exact q _ r (e2.trans (Ex.new nr)) upd_same
/-- a tie and the ties of a tree that are on its ring -/
def IsRing (ed : Nat → Nat × Nat) (B : List Nat) (e : Nat) (R : List Nat) : Prop := R.Pairwise (· < ·) ∧ ∀ f, f ∈ R ↔ f = e ∨ (f ∈ B ∧ MT.sep ed (MT.rem B f) e)
instance sepD (ed : Nat → Nat × Nat) (S : List Nat) (t : Nat) : Decidable (MT.sep ed S t) := by unfold MT.sep; exact inferInstance
def spRing (CW : Addr) : Sp := fun vs H Q _ => ∃ (p t : Addr) (n : Nat) (es : List (Nat × Nat)) (B : List Nat) (e : Nat), vs = [.ref p, .ref t, .int (e : Int)] ∧ WebAt CW H p n es ∧ H t = some (.tup (nI B)) ∧ MT.Tree n (ed es) es.length B ∧ e < es.length ∧ e ∉ B ∧
  ∀ H' r R, Ex H H' → H' r = some (.tup (nI R)) → IsRing (ed es) B e R → Q (.ref r) H'
theorem ring_sort {ns : List Int} {L : List Nat} (hp : ns.Perm (L.map (fun (n : Nat) => (n : Int)))) (hs : ns.Pairwise (· ≤ ·)) (nd : L.Nodup) : ∃ l : List Nat, ns.map V.int = nI l ∧ l.Pairwise (· < ·) ∧ ∀ n, n ∈ l ↔ n ∈ L := by
  have p := List.mergeSort_perm L (· ≤ ·)
  have s := List.pairwise_mergeSort (le := fun a b : Nat => decide (a ≤ b)) (fun a b c h h' => by simp at *; omega) (fun a b => by simp; omega) L
  have nd' : (L.mergeSort (· ≤ ·)).Nodup := p.nodup_iff.mpr nd
  have lt : (L.mergeSort (· ≤ ·)).Pairwise (· < ·) := (s.and nd').imp fun {a b} ⟨x, y⟩ => by simp at x; omega
  have m : ∀ n, n ∈ L.mergeSort (· ≤ ·) ↔ n ∈ L := fun n => p.mem_iff
  exact ⟨_, sorted_nat hp hs nd lt m, lt, m⟩
theorem d_ring_of (T : Txt K mg CW CS) : Def P w K mg base "ring_of" 4 ["web", "tree", "tie"] (spRing CW) := by
  have D_marks_over : Def P w K mg base "marks_over" 1 ["web", "ties"] (spMarks CW) := d_marks_over T
  have D_without_tie : Def P w K mg base "without_tie" 1 ["ties", "tie"] spWithout := d_without_tie T
  have D_look_at_tree : Def P w K mg base "look_at_tree" 3 ["web", "tree"] (spLookTree CW) := d_look_at_tree T
  refine def_by T.a_ring_of sc_ring_of (fun vs H Q E h => ?_) (fun f cdv A outer s H vs Q E hr h => ?_)
  · obtain ⟨p, t, n, es, B, e, rfl, _⟩ := h; rfl
  obtain ⟨p, t, n, es, B, e, rfl, hw, ht, hT, he, heB, q⟩ := h
  obtain ⟨dx, l, hp, hl, h1, h14, h30, hin⟩ := id hw
  have lenB := sub_len hT.sub
  refine ⟨_, (pss_cons (ps_expr (pe_def D_look_at_tree hr (by decide) (by rfl) (pa_cons (pv 0) (pa_cons (pv 1) pa_nil))))
      (pss_cons (ps_if (PW.pt (pw_or (pt_not (pt_chain op_le op_lt pe_int (pv 2) (pe_callB (X := _) (r := rLenS K) len_seqK (by rfl) T.z_len PySem.boot_len (pa_cons (pe_fldK (K' := K) rfl (pv 0) (by rfl)) pa_nil)))) (pw_or1 (pt_cmpR (r := rIn K false) op_in_seq (pv 2) (pv 1) (by with_unfolding_all rfl))))) (pss_one ps_never) pss_nil)
      (pss_cons (ps_asg (pe_ix (r := rIxL K) ix_list (pe_fldK (K' := K) rfl (pv 0) (by rfl)) (pv 2) (fun _ _ => rfl)) (pg_tup rfl (pgs_cons (pg_name (i := 3) sc_ring_of.nd rfl (by first | exact Or.inl rfl | exact Or.inr rfl)) (pgs_cons (pg_name (i := 4) sc_ring_of.nd rfl (by first | exact Or.inl rfl | exact Or.inr rfl)) pgs_nil))))
      (pss_cons (ps_set (i := 5) sc_ring_of.nd rfl (by first | exact Or.inl rfl | exact Or.inr rfl) (pe_lst (pa_cons (pv 2) pa_nil)))
      (pss_cons (ps_for PassesOwn.never rfl (pi_tup (pv 1)) (pg_name (i := 6) sc_ring_of.nd rfl (by first | exact Or.inl rfl | exact Or.inr rfl))
        (pss_cons (ps_set (i := 7) sc_ring_of.nd rfl (by first | exact Or.inl rfl | exact Or.inr rfl) (pe_def D_marks_over hr (by decide) (by rfl) (pa_cons (pv 0) (pa_cons (pe_def D_without_tie hr (by decide) (by rfl) (pa_cons (pv 1) (pa_cons (pv 6) pa_nil))) pa_nil))))
        (pss_one (ps_if (pt_cmpR op_ne (pe_ix (r := rIxL K) ix_list (pv 7) (pv 3) (fun _ _ => rfl)) (pe_ix (r := rIxL K) ix_list (pv 7) (pv 4) (fun _ _ => rfl)) (nomark _)) (pss_one (ps_expr (pe_bm PySem.F.plainAttrs_list PySem.F.slot_list_append PySem.F.type_list_append mt_append (pv 5) (pa_cons (pv 6) pa_nil)))) pss_nil))))
      (pss_one (ps_ret (pe_callTy call_tuple_of (by rfl) T.z_tuple boot_tuple (pa_cons (pe_callB cr_sorted (by rfl) T.z_sorted (by decide +kernel) (pa_cons (pv 5) pa_nil)) pa_nil))))))))), ?_⟩
  refine ⟨_, rfl, _, rfl, p, t, n, es, B, rfl, hw, ht, hT, fun H1 e1 => ?_⟩
  obtain ⟨xs, a, hl1, hl2, hl3, hl4⟩ := (hl.mono e1).at he
  refine ⟨_, rfl, _, _, rfl, rfl, _, rfl, ifT (by omega) ⟨.ref p, rfl, p, CW, dx, _, _, rfl, e1 _ _ hp, T.cW, T.nW_ties, wfs_ties n l, l, _, rfl, .inl (sq_of hl1), _, _, rfl, rfl, _, rfl, ifN (by omega) ?_⟩⟩
  refine ⟨_, rfl, _, rfl, t, _, rfl, .inr (st_of (e1 _ _ ht)), rfl, nI_flat _, _, rfl, inF heB ?_⟩
  -- one, other
  refine ⟨.ref p, rfl, p, CW, dx, _, _, rfl, e1 _ _ hp, T.cW, T.nW_ties, wfs_ties n l, _, rfl, l, xs, _, _, rfl, rfl, sq_of hl1, atI_nat hl3, a, _, rfl, st_of hl4, rfl, _, _, rfl, _, _, rfl, rfl, ?_⟩
  refine ⟨_, rfl, sz (by simp), fun td ntd => ?_⟩
  have e2 := Ex.mut (o := .lst [V.int (e : Int)]) e1 (fresh_back e1 ntd)
  have ntd' := fresh_back e1 ntd
  have lenR : ∀ i, ((B.take i).filter fun f => decide (MT.sep (ed es) (MT.rem B f) e)).length ≤ 30 := fun i => by
    have a := List.length_filter_le (fun f => decide (MT.sep (ed es) (MT.rem B f) e)) (B.take i)
    have b := (List.take_sublist i B).length_le
    omega
  refine ⟨.ref t, rfl, t, rfl, ⟨_, st_of (e2 _ _ ht)⟩, for_tup (K := K) (a := t) (xs := nI B) (fun i σ' H' => ∃ (y6 y7 : Option V), σ' = [some (.ref p), some (.ref t), some (.int (e : Int)), some (.int ((ed es e).1 : Int)), some (.int ((ed es e).2 : Int)), some (.ref td), y6, y7] ∧ Ex H H' ∧ H' td = some (.lst (nI (e :: (B.take i).filter fun f => decide (MT.sep (ed es) (MT.rem B f) e)))))
    ⟨none, none, rfl, e2, upd_same⟩ (fun i σ' H' _ ⟨_, _, _, e, _⟩ => st_of (e _ _ ht)) ?_ ?_⟩
  · rintro i x σ' H' hx ⟨y6, y7, rfl, e3, htd⟩
    obtain ⟨z, hz, rfl⟩ := nI_got hx
    refine ⟨_, rfl, _, rfl, _, rfl, t, B, z, rfl, e3 _ _ ht, by omega, fun H4 r e4 h4 => ?_⟩
    refine ⟨p, r, n, es, MT.rem B z, rfl, hw.mono (e3.trans e4), .inl h4, fun t ht => MT.sub_lt hT.sub (MT.mem_rem.mp ht).1, fun H5 m e5 h5 => ?_⟩
    have e35 := (e3.trans e4).trans e5
    obtain ⟨i1, i2⟩ := ed_in hin e he
    have m1 := nI_get (marksL_get (es := es) (S := MT.rem B z) i1)
    have m2 := nI_get (marksL_get (es := es) (S := MT.rem B z) i2)
    have htk : B.take (i + 1) = B.take i ++ [z] := by rw [List.take_add_one, hz]; rfl
    refine ⟨_, rfl, _, rfl, m, _, _, _, rfl, rfl, sq_of h5, atI_nat m1, _, rfl, _, rfl, m, _, _, _, rfl, rfl, sq_of h5, atI_nat m2, rfl, _, rfl, ?_⟩
    have h5d := e5 _ _ (e4 _ _ htd)
    by_cases hq : MT.sep (ed es) (MT.rem B z) e
    · refine neqT (int_ne hq) ?_
      refine ⟨_, rfl, .inl ⟨rfl, _, sq_of h5d⟩, _, rfl, td, _, _, rfl, rfl, h5d, sz_lt (by rw [nI_len, List.length_cons]; have := lenR i; omega), ?_⟩
      refine ⟨_, _, rfl, Ex.mut e35 ntd', ?_⟩
      rw [upd_same, htk, List.filter_append, List.filter_cons_of_pos (by simpa using hq), ← List.cons_append, nI_app]; rfl
    · have hq' := hq
      unfold MT.sep at hq'
      refine neqF (by rw [Decidable.not_not.mp hq']) ?_
      refine ⟨_, _, rfl, e35, ?_⟩
      rw [h5d, htk, List.filter_append, List.filter_cons_of_neg (by simpa using hq), List.filter_nil, List.append_nil]
  · rintro σ' H' ⟨y6, y7, rfl, e3, htd⟩
    rw [nI_len, List.take_length] at htd
    have lR := lenR B.length
    rw [List.take_length] at lR
    refine ⟨_, rfl, td, (e :: B.filter fun f => decide (MT.sep (ed es) (MT.rem B f) e)).map (fun (x : Nat) => (x : Int)), rfl, by rw [← nI_int]; exact sq_of htd, by rw [List.length_map, List.length_cons]; omega, fun ns' p' hperm hs np => ?_⟩
    obtain ⟨R, hR, asc, mem⟩ := ring_sort hperm hs (List.nodup_cons.mpr ⟨fun z => heB (List.mem_filter.mp z).1, List.Nodup.sublist List.filter_sublist (MT.sub_nd hT.sub)⟩)
    rw [hR]
    refine ⟨p', _, rfl, .inl ⟨sq_of upd_same, fun r nr => ?_⟩⟩
    refine q _ r R ((e3.trans (Ex.new np)).trans (Ex.new nr)) upd_same ⟨asc, fun f => ?_⟩
    rw [mem, List.mem_cons, List.mem_filter, decide_eq_true_eq]
end
end Sr
/-! Tables: rows as lists, rows that are written in place, lists that are grown by append. -/
namespace Sr
open PySem PySem.Spec PyProof.Rows L2 Evl
/-- the table of M, k rows of m -/
def tab (k m : Nat) (M : Nat → Nat → Int) : List (List Int) := (List.range k).map fun i => (List.range m).map fun j => M i j
theorem tab_len (k m : Nat) (M : Nat → Nat → Int) : (tab k m M).length = k := by unfold tab; simp
theorem tab_row {k m : Nat} {M : Nat → Nat → Int} {i : Nat} (h : i < k) : (tab k m M)[i]? = some ((List.range m).map fun j => M i j) := by
  unfold tab; rw [List.getElem?_map, List.getElem?_range h]; rfl
theorem row_at {m : Nat} {f : Nat → Int} {j : Nat} (h : j < m) : (((List.range m).map f).map V.int)[j]? = some (V.int (f j)) := by
  rw [List.getElem?_map, List.getElem?_map, List.getElem?_range h]; rfl
theorem row_len (m : Nat) (f : Nat → Int) : (((List.range m).map f).map V.int).length = m := by simp
theorem tab_congr {k m : Nat} {M M' : Nat → Nat → Int} (h : ∀ i j, i < k → j < m → M i j = M' i j) : tab k m M = tab k m M' := by
  unfold tab
  exact List.map_congr_left fun i hi => List.map_congr_left fun j hj => h i j (List.mem_range.mp hi) (List.mem_range.mp hj)
theorem LL.at {H : Hp} {l : Addr} {rows : List (List Int)} (h : LL H l rows) : ∃ ps : List Addr, H l = some (.lst (ps.map V.ref)) ∧ ps.length = rows.length ∧ ∀ (i : Nat) (r : List Int), rows[i]? = some r → ∃ a, ps[i]? = some a ∧ (ps.map V.ref)[i]? = some (.ref a) ∧ H a = some (.lst (r.map V.int)) := by
  obtain ⟨ps, h1, h2, h3⟩ := h
  refine ⟨ps, h1, h2, fun i r hr => ?_⟩
  have hi : i < ps.length := by rw [h2]; exact (List.getElem?_eq_some_iff.mp hr).1
  obtain ⟨a, ha⟩ := some_of hi
  exact ⟨a, ha, by rw [List.getElem?_map, ha]; rfl, h3 i a r ha hr⟩
theorem walk_from {a n : Nat} : Walk (Itr (a : Int) n) n (fun _ => True) (fun i H x H' => H' = H ∧ x = V.int ((a + i : Nat) : Int)) :=
  walk_range.mono (fun _ h => h) fun i H x H' _ _ ⟨p, b⟩ => ⟨p, b.trans (congrArg V.int (by omega))⟩
/-- a list that is grown by append, each thing in it of its own -/
structure Bld (H : Hp) (td : Addr) (g : Nat → HO) (i : Nat) (H' : Hp) : Prop where
  ex : Ex H H'
  fresh : H td = none
  has : ∃ ps : List Addr, H' td = some (.lst (ps.map V.ref)) ∧ ps.length = i ∧ ∀ u a, ps[u]? = some a → a ≠ td ∧ H' a = some (g u)
theorem Bld.zero {H H' : Hp} {td : Addr} {g : Nat → HO} (e : Ex H H') (n : H td = none) (h : H' td = some (.lst [])) : Bld H td g 0 H' := ⟨e, n, [], h, rfl, fun u a h => by simp at h⟩
theorem Bld.mono {H H' H'' : Hp} {td : Addr} {g : Nat → HO} {i : Nat} (b : Bld H td g i H') (e : Ex H' H'') : Bld H td g i H'' := by
  obtain ⟨a, n, ps, h1, h2, h3⟩ := b
  exact ⟨a.trans e, n, ps, e _ _ h1, h2, fun u a h => ⟨(h3 u a h).1, e _ _ (h3 u a h).2⟩⟩
theorem Bld.push {H H' : Hp} {td a : Addr} {g : Nat → HO} {i : Nat} (b : Bld H td g i H') (ha : H' a = some (g i)) (na : a ≠ td) (hi : i ≤ 1000) :
    ∃ xs, H' td = some (.lst xs) ∧ xs.length < sizeLine ∧ Bld H td g (i + 1) (upd H' td (.lst (xs ++ [V.ref a]))) := by
  obtain ⟨e, n, ps, h1, h2, h3⟩ := b
  refine ⟨_, h1, sz_lt (by rw [List.length_map]; omega), Ex.mut e n, n, ps ++ [a], ?_, by simp [h2], fun u c h => ?_⟩
  · rw [upd_same, List.map_append]; rfl
  · by_cases hu : u < ps.length
    · rw [List.getElem?_append_left hu] at h
      exact ⟨(h3 u c h).1, by rw [upd_ne (h3 u c h).1]; exact (h3 u c h).2⟩
    · rw [List.getElem?_append_right (by omega)] at h
      have h0 : u - ps.length = 0 := by
        obtain ⟨z1, _⟩ := List.getElem?_eq_some_iff.mp h
        simp at z1; omega
      rw [h0] at h
      have h' : a = c := by simpa using h
      subst h'
      have : u = i := by omega
      subst this
      exact ⟨na, by rw [upd_ne na]; exact ha⟩
theorem Bld.seq {H H' : Hp} {td : Addr} {g : Nat → HO} {i : Nat} (b : Bld H td g i H') : ∃ xs, H' td = some (.lst xs) ∧ xs.length = i := by
  obtain ⟨e, n, ps, h1, h2, h3⟩ := b
  exact ⟨_, h1, by rw [List.length_map, h2]⟩
theorem Bld.ne {H H' : Hp} {td a : Addr} {g : Nat → HO} {i : Nat} (b : Bld H td g i H') (h : H' a = none) : a ≠ td := fun q => by
  obtain ⟨e, n, ps, h1, h2, h3⟩ := b
  rw [q, h1] at h; cases h
theorem Bld.ll {H H' : Hp} {td : Addr} {g : Nat → List Int} {i : Nat} (b : Bld H td (fun u => .lst ((g u).map V.int)) i H') : LL H' td ((List.range i).map g) := by
  obtain ⟨e, n, ps, h1, h2, h3⟩ := b
  refine ⟨ps, h1, by simp [h2], fun u a r ha hr => ?_⟩
  rw [(h3 u a ha).2]
  have hu : u < i := by rw [← h2]; exact (List.getElem?_eq_some_iff.mp ha).1
  rw [List.getElem?_map, List.getElem?_range hu] at hr
  rw [← Option.some.inj hr]
theorem Bld.nl {H H' : Hp} {td : Addr} {g : Nat → List Nat} {i : Nat} (b : Bld H td (fun u => .lst (nI (g u))) i H') : NL H' td ((List.range i).map g) := by
  obtain ⟨e, n, ps, h1, h2, h3⟩ := b
  refine ⟨ps, h1, by simp [h2], fun u a r ha hr => ?_⟩
  rw [(h3 u a ha).2]
  have hu : u < i := by rw [← h2]; exact (List.getElem?_eq_some_iff.mp ha).1
  rw [List.getElem?_map, List.getElem?_range hu] at hr
  rw [← Option.some.inj hr]
/-- a list of numbers that is grown by append -/
theorem grow_at {H' : Hp} {td : Addr} {l : List Nat} {n : Nat} : upd H' td (.lst (nI l ++ [V.int (n : Int)])) td = some (.lst (nI (l ++ [n]))) := by rw [upd_same, nI_app]; rfl
/-! ### the steps of the determinant -/
def RM (A : Nat → Nat → Int) (p : Nat → Int) : Nat → Nat → Nat → Int
  | 0 => A
  | t + 1 => fun i j => if i ≤ t then RM A p t i j else if j ≤ t then 0 else Int.fdiv (RM A p t i j * RM A p t t t - RM A p t i t * RM A p t t j) (p t)
theorem RM_bar {k n : Nat} {A : Nat → Nat → Int} {D : Int} {B : Nat → Nat → Nat → Int} {p : Nat → Int} (b : MT.Bar k n A D B p) : ∀ t, t ≤ k → ∀ i j, t ≤ i → t ≤ j → i < k → j < k → RM A p t i j = B t i j
  | 0, _, i, j, _, _, hi, hj => (b.b0 i j hi hj).symm
  | t + 1, ht, i, j, ti, tj, hi, hj => by
    have ih := RM_bar b t (by omega)
    unfold RM
    rw [if_neg (by omega), if_neg (by omega), ih i j (by omega) (by omega) hi hj, ih t t (by omega) (by omega) (by omega) (by omega), ih i t (by omega) (by omega) hi (by omega), ih t j (by omega) (by omega) (by omega) hj,
      b.step t i j (by omega) (by omega) hi hj]
    have := (b.pos t (by omega)).1
    exact Int.mul_fdiv_cancel _ (by omega)
theorem RM_piv {k n : Nat} {A : Nat → Nat → Int} {D : Int} {B : Nat → Nat → Nat → Int} {p : Nat → Int} (b : MT.Bar k n A D B p) {t : Nat} (ht : t < k) : RM A p t t t = p (t + 1) ∧ RM A p (t + 1) t t = p (t + 1) := by
  have h := (RM_bar b t (by omega) t t (by omega) (by omega) ht ht).trans (b.piv t ht)
  refine ⟨h, ?_⟩
  unfold RM
  rw [if_pos (Nat.le_refl _)]
  exact h
end Sr
namespace Sr
open PySem PySem.Spec PyProof.Rows L2 Evl
theorem cut_from {xs : List V} {a : Nat} (h : a ≤ xs.length) : cutV xs (some (a : Int)) none = xs.drop a := by
  unfold cutV
  rw [HT.sIx_none]
  have : HT.sIx xs.length 0 (some (a : Int)) = a := by
    show (if ((a : Nat) : Int) < 0 then (((a : Nat) : Int) + (xs.length : Int)).toNat else min ((a : Nat) : Int).toNat xs.length) = a
    rw [if_neg (by omega)]; omega
  rw [this, List.take_of_length_le (by rw [List.length_drop]; omega)]
theorem cut_to {xs : List V} {a : Nat} (h : a ≤ xs.length) : cutV xs none (some (a : Int)) = xs.take a := by
  unfold cutV
  rw [HT.sIx_none]
  have : HT.sIx xs.length xs.length (some (a : Int)) = a := by
    show (if ((a : Nat) : Int) < 0 then (((a : Nat) : Int) + (xs.length : Int)).toNat else min ((a : Nat) : Int).toNat xs.length) = a
    rw [if_neg (by omega)]; omega
  rw [this, Nat.sub_zero, List.drop_zero]
theorem cut_but {xs : List V} : cutV xs none (some (-1)) = xs.take (xs.length - 1) := by
  unfold cutV
  rw [HT.sIx_none]
  have : HT.sIx xs.length xs.length (some (-1)) = xs.length - 1 := by
    show (if (-1 : Int) < 0 then ((-1 : Int) + (xs.length : Int)).toNat else min (-1 : Int).toNat xs.length) = xs.length - 1
    rw [if_pos (by omega)]; omega
  rw [this, Nat.sub_zero, List.drop_zero]
theorem LL.cat {H : Hp} {r : Addr} {ps qs : List Addr} {k a : Nat} {M M' : Nat → Nat → Int} {g : Nat → List Int} (hr : H r = some (.lst ((ps.map V.ref).take a ++ qs.map V.ref))) (hl : ps.length = k) (ha : a ≤ k)
    (h1 : ∀ i, i < a → ∃ c, ps[i]? = some c ∧ H c = some (.lst (((List.range k).map fun j => M i j).map V.int))) (hq : qs.length = k - a) (h2 : ∀ i c, qs[i]? = some c → H c = some (.lst ((g i).map V.int)))
    (hM : ∀ i j, i < a → j < k → M i j = M' i j) (hg : ∀ i, a + i < k → g i = (List.range k).map fun j => M' (a + i) j) : LL H r (tab k k M') := by
  refine ⟨ps.take a ++ qs, by rw [hr, List.map_append, List.map_take], by rw [tab_len, List.length_append, List.length_take]; omega, fun i c row hc hrow => ?_⟩
  have hi : i < k := by
    have := (List.getElem?_eq_some_iff.mp hrow).1
    rwa [tab_len] at this
  rw [tab_row hi] at hrow
  rw [← Option.some.inj hrow]
  by_cases q : i < a
  · rw [List.getElem?_append_left (by rw [List.length_take]; omega), List.getElem?_take_of_lt q] at hc
    obtain ⟨c', e, h⟩ := h1 i q
    rw [e] at hc
    rw [← Option.some.inj hc, h]
    congr 3
    exact List.map_congr_left fun j hj => hM i j q (List.mem_range.mp hj)
  · rw [List.getElem?_append_right (by rw [List.length_take]; omega), List.length_take, show i - min a ps.length = i - a by omega] at hc
    rw [h2 _ c hc, hg (i - a) (by omega), show a + (i - a) = i by omega]
end Sr
namespace Sr
open PySem PySem.Spec PyProof.Rows L2 Evl
section
variable {P : Program} {w : World} {K : PySem.W.Frag} {mg : Str → Option Value} {base : Heap} {CW CS : Addr}
def spLookTable : Sp := fun vs H Q _ => ∃ (t : Addr) (k : Nat) (M : Nat → Nat → Int), vs = [.ref t] ∧ LL H t (tab k k M) ∧ Q .non H
theorem d_look_at_table (T : Txt K mg CW CS) : Def P w K mg base "look_at_table" 1 ["table"] spLookTable := by
  refine def_by T.a_look_at_table sc_look_at_table (fun vs H Q E h => ?_) (fun f cdv A outer s H vs Q E hr h => ?_)
  · obtain ⟨p, n, es, rfl, _⟩ := h; rfl
  obtain ⟨t, k, M, rfl, ht, q⟩ := h
  obtain ⟨ps, h1, h2, h3⟩ := ht.at
  refine ⟨_, (pss_one (ps_for PassesOwn.never rfl (pi_list (pv 0)) (pg_name (i := 1) sc_look_at_table.nd rfl (by first | exact Or.inl rfl | exact Or.inr rfl))
        (pss_one (ps_if (pt_cmpR op_ne (pe_callB (X := _) (r := rLenS K) len_seqK (by rfl) T.z_len PySem.boot_len (pa_cons (pv 1) pa_nil)) (pe_callB (X := _) (r := rLenS K) len_seqK (by rfl) T.z_len PySem.boot_len (pa_cons (pv 0) pa_nil)) (nomark _)) (pss_one ps_never) pss_nil)))), ?_⟩
  rw [tab_len] at h2
  refine ⟨.ref t, rfl, t, rfl, ⟨_, sq_of h1⟩, for_list (K := K) (a := t) (xs := ps.map V.ref) (fun i σ' H' => ∃ y, σ' = [some (.ref t), y] ∧ H' = H) ⟨none, rfl, rfl⟩ (fun i σ' H' _ ⟨_, _, e⟩ => e ▸ sq_of h1) ?_ ?_⟩
  · rintro i x σ' H' hx ⟨y, rfl, rfl⟩
    have hi : i < k := by rw [← h2, ← List.length_map (f := V.ref)]; exact (List.getElem?_eq_some_iff.mp hx).1
    obtain ⟨a, ha, hx', hc⟩ := h3 i _ (tab_row hi)
    rw [hx'] at hx
    cases hx
    refine ⟨_, rfl, a, _, rfl, .inl (sq_of hc), _, rfl, t, _, rfl, .inl (sq_of h1), rfl, _, rfl, neqF ?_ ?_⟩
    · rw [row_len, List.length_map, h2]
    · exact ⟨_, rfl, rfl⟩
  · rintro σ' H' ⟨y, rfl, rfl⟩
    exact q
def spFirst : Sp := fun vs H Q _ => ∃ (t : Addr) (k at' : Nat) (M : Nat → Nat → Int), vs = [.ref t, .int (at' : Int)] ∧ LL H t (tab k k M) ∧ at' < k ∧ k ≤ 14 ∧ M at' at' ≠ 0 ∧ Q (.int (at' : Int)) H
theorem d_first_row_with (T : Txt K mg CW CS) : Def P w K mg base "first_row_with" 1 ["rows", "at"] spFirst := by
  refine def_by T.a_first_row_with sc_first_row_with (fun vs H Q E h => ?_) (fun f cdv A outer s H vs Q E hr h => ?_)
  · obtain ⟨p, n, es, _, rfl, _⟩ := h; rfl
  obtain ⟨t, k, at', M, rfl, ht, hat, hk, hM, q⟩ := h
  obtain ⟨ps, h1, h2, h3⟩ := ht.at
  refine ⟨_, (pss_cons (ps_for PassesOwn.never rfl (pi_range2 (by rfl) T.z_range (pa_cons (pv 1) (pa_cons (pe_callB (X := _) (r := rLenS K) len_seqK (by rfl) T.z_len PySem.boot_len (pa_cons (pv 0) pa_nil)) pa_nil))) (pg_name (i := 2) sc_first_row_with.nd rfl (by first | exact Or.inl rfl | exact Or.inr rfl))
        (pss_one (ps_if (pt_cmpR op_ne (pe_ix (r := rIxL K) ix_list (pe_ix (r := rIxL K) ix_list (pv 0) (pv 2) (fun _ _ => rfl)) (pv 1) (fun _ _ => rfl)) pe_int (nomark _)) (pss_one (ps_ret (pv 2))) pss_nil)))
      (pss_one (ps_ret pe_non))), ?_⟩
  rw [tab_len] at h2
  have hl : (ps.map V.ref).length = k := by rw [List.length_map, h2]
  refine ⟨_, rfl, _, rfl, t, _, rfl, .inl (sq_of h1), (at' : Int), _, rfl, ⟨by omega, by omega, by omega, by omega⟩, ?_⟩
  refine for_it (walk_from (a := at')) (fun i σ' H' => i = 0 ∧ σ' = [some (.ref t), some (.int (at' : Int)), none] ∧ H' = H) ⟨rfl, rfl, rfl⟩ (fun _ _ _ _ _ => trivial) ?_ ?_
  · rintro i x σ' Ha Hb hi ⟨rfl, rfl, rfl⟩ ⟨rfl, rfl⟩
    obtain ⟨a, ha, hx', hc⟩ := h3 at' _ (tab_row hat)
    refine ⟨_, rfl, _, rfl, t, _, _, _, rfl, rfl, sq_of h1, atI_nat hx', _, rfl, a, _, _, _, rfl, rfl, sq_of hc, atI_nat (row_at hat), rfl, _, rfl, neqT ?_ ?_⟩
    · exact fun z => hM (V.int.inj z)
    · exact ⟨_, rfl, q⟩
  · rintro σ' H' ⟨h0, _⟩
    omega
/-- what is left of M behind a step -/
def clr (k at' : Nat) (M : Nat → Nat → Int) (ah : Int) (u : Nat) : List Int := (List.range k).map fun j => if j ≤ at' then 0 else Int.fdiv (M (at' + 1 + u) j * M at' at' - M (at' + 1 + u) at' * M at' j) ah
def spCleared : Sp := fun vs H Q _ => ∃ (t : Addr) (k at' : Nat) (M : Nat → Nat → Int) (ah : Int), vs = [.ref t, .int (at' : Int), .int ah] ∧ LL H t (tab k k M) ∧ at' < k ∧ k ≤ 14 ∧ ah ≠ 0 ∧ ah.natAbs < 1073741824 ∧
  (- (2 ^ 64) < M at' at' ∧ M at' at' < 2 ^ 64) ∧ (∀ i, at' < i → i < k → - (2 ^ 64) < M i at' ∧ M i at' < 2 ^ 64) ∧
  ∀ H' r, Ex H H' → LL H' r ((List.range (k - (at' + 1))).map (clr k at' M ah)) → Q (.ref r) H'
theorem d_cleared (T : Txt K mg CW CS) : Def P w K mg base "cleared" 1 ["rows", "at", "ahead"] spCleared := by
  refine def_by T.a_cleared sc_cleared (fun vs H Q E h => ?_) (fun f cdv A outer s H vs Q E hr h => ?_)
  · obtain ⟨p, n, es, _, _, rfl, _⟩ := h; rfl
  obtain ⟨t, k, at', M, ah, rfl, ht, hat, hk, ha0, ha1, hp, hm, q⟩ := h
  obtain ⟨ps, h1, h2, h3⟩ := ht.at
  refine ⟨_, (pss_cons (ps_set (i := 3) sc_cleared.nd rfl (by first | exact Or.inl rfl | exact Or.inr rfl) (pe_lst pa_nil))
      (pss_cons (ps_set (i := 4) sc_cleared.nd rfl (by first | exact Or.inl rfl | exact Or.inr rfl) (pe_ix (r := rIxL K) ix_list (pv 0) (pv 1) (fun _ _ => rfl)))
      (pss_cons (ps_for PassesOwn.never rfl (pi_list (pe_slice (r := rSlL K) sl_list (pv 0) (po_some (pe_op op_add (pv 1) pe_int)) po_none)) (pg_name (i := 5) sc_cleared.nd rfl (by first | exact Or.inl rfl | exact Or.inr rfl))
        (pss_cons (ps_set (i := 6) sc_cleared.nd rfl (by first | exact Or.inl rfl | exact Or.inr rfl) (pe_op op_rep (pe_lst (pa_cons pe_int pa_nil)) (pe_op op_add (pv 1) pe_int)))
        (pss_cons (ps_for PassesOwn.never rfl (pi_range2 (by rfl) T.z_range (pa_cons (pe_op op_add (pv 1) pe_int) (pa_cons (pe_callB (X := _) (r := rLenS K) len_seqK (by rfl) T.z_len PySem.boot_len (pa_cons (pv 5) pa_nil)) pa_nil))) (pg_name (i := 7) sc_cleared.nd rfl (by first | exact Or.inl rfl | exact Or.inr rfl))
          (pss_one (ps_expr (pe_bm PySem.F.plainAttrs_list PySem.F.slot_list_append PySem.F.type_list_append mt_append (pv 6) (pa_cons (pe_op op_fdivN (pe_op op_sub (pe_op op_mul (pe_ix (r := rIxL K) ix_list (pv 5) (pv 7) (fun _ _ => rfl)) (pe_ix (r := rIxL K) ix_list (pv 4) (pv 1) (fun _ _ => rfl))) (pe_op op_mul (pe_ix (r := rIxL K) ix_list (pv 5) (pv 1) (fun _ _ => rfl)) (pe_ix (r := rIxL K) ix_list (pv 4) (pv 7) (fun _ _ => rfl)))) (pv 2)) pa_nil)))))
        (pss_one (ps_expr (pe_bm PySem.F.plainAttrs_list PySem.F.slot_list_append PySem.F.type_list_append mt_append (pv 3) (pa_cons (pv 6) pa_nil)))))))
      (pss_one (ps_ret (pv 3)))))), ?_⟩
  rw [tab_len] at h2
  have hl : (ps.map V.ref).length = k := by rw [List.length_map, h2]
  obtain ⟨pa, hpa, hpx, hpc⟩ := h3 at' _ (tab_row hat)
  refine ⟨sz (by simp), fun td ntd => ?_⟩
  have e1 := Ex.new (o := .lst []) ntd
  refine ⟨_, rfl, _, rfl, t, _, _, _, rfl, rfl, sq_of (e1 _ _ h1), atI_nat hpx, ?_⟩
  refine ⟨_, rfl, _, rfl, _, _, rfl, rfl, _, rfl, t, _, rfl, sq_of (e1 _ _ h1), fun cp ncp => ⟨cp, rfl, ⟨_, sq_of upd_same⟩, ?_⟩⟩
  have ecut : cutV (ps.map V.ref) (some ((at' : Int) + 1)) none = (ps.map V.ref).drop (at' + 1) := cut_from (a := at' + 1) (by omega)
  rw [ecut]
  have e2 := e1.trans (Ex.new (o := .lst ((ps.map V.ref).drop (at' + 1))) ncp)
  have ld : ((ps.map V.ref).drop (at' + 1)).length = k - (at' + 1) := by rw [List.length_drop, hl]
  refine for_list (K := K) (a := cp) (xs := (ps.map V.ref).drop (at' + 1)) (fun i σ' H' => ∃ (y5 y6 y7 : Option V), σ' = [some (.ref t), some (.int (at' : Int)), some (.int ah), some (.ref td), some (.ref pa), y5, y6, y7] ∧ Bld H td (fun u => .lst ((clr k at' M ah u).map V.int)) i H' ∧ H' cp = some (.lst ((ps.map V.ref).drop (at' + 1))) ∧ cp ≠ td)
    ⟨none, none, none, rfl, .zero e2 ntd ((Ex.new ncp) _ _ upd_same), upd_same, fun q => by rw [q, upd_same] at ncp; cases ncp⟩ (fun i σ' H' _ ⟨_, _, _, _, _, e, _⟩ => sq_of e) ?_ ?_
  · rintro i x σ' Ho hx ⟨y5, y6, y7, rfl, hb, hcp, ncd⟩
    have hi : at' + 1 + i < k := by
      have := (List.getElem?_eq_some_iff.mp hx).1
      rw [ld] at this; omega
    rw [List.getElem?_drop] at hx
    obtain ⟨ra, hra, hrx, hrc⟩ := h3 (at' + 1 + i) _ (tab_row hi)
    rw [hrx] at hx
    cases hx
    obtain ⟨pv1, pv2⟩ := hp
    obtain ⟨rv1, rv2⟩ := hm (at' + 1 + i) (by omega) hi
    -- made = [0] * (at + 1)
    refine ⟨sz (by simp), fun zl nzl => ⟨_, rfl, _, _, rfl, rfl, zl, _, _, rfl, rfl, upd_same, by omega, by omega, sz (by simp; omega), fun md nmd => ?_⟩⟩
    have e3 := (Ex.new (o := .lst [V.int 0]) nzl).trans (Ex.new (o := .lst (List.replicate ((at' : Int) + 1).toNat [V.int 0]).flatten) nmd)
    have nmd0 : Ho md = none := fresh_back (Ex.new nzl) nmd
    have hra3 := e3 _ _ (hb.ex _ _ hrc)
    refine ⟨_, rfl, _, _, rfl, rfl, _, rfl, ra, _, rfl, .inl (sq_of hra3), ((at' + 1 : Nat) : Int), _, rfl, ⟨by omega, by omega, by omega, by rw [row_len]; omega⟩, ?_⟩
    have eln : ((((((List.range k).map fun j => M (at' + 1 + i) j).map V.int).length : Nat) : Int) - ((at' + 1 : Nat) : Int)).toNat = k - (at' + 1) := by rw [row_len]; omega
    rw [eln]
    refine for_it (walk_from (a := at' + 1)) (fun u σ' H' => ∃ (y7 : Option V), σ' = [some (.ref t), some (.int (at' : Int)), some (.int ah), some (.ref td), some (.ref pa), some (.ref ra), some (.ref md), y7] ∧ Ex Ho H' ∧ H' md = some (.lst (((List.range (at' + 1 + u)).map fun j => if j ≤ at' then 0 else Int.fdiv (M (at' + 1 + i) j * M at' at' - M (at' + 1 + i) at' * M at' j) ah).map V.int)))
      ⟨_, rfl, e3, ?_⟩ (fun _ _ _ _ _ => trivial) ?_ ?_
    · rw [upd_same]
      have : (List.replicate ((at' : Int) + 1).toNat [V.int 0]).flatten = List.replicate (at' + 1) (V.int 0) := by
        rw [show ((at' : Int) + 1).toNat = at' + 1 by omega]
        simp
      rw [this]
      congr 2
      rw [List.map_map, Nat.add_zero]
      symm
      rw [List.eq_replicate_iff]
      refine ⟨by simp, fun b hb => ?_⟩
      obtain ⟨j, hj, rfl⟩ := List.mem_map.mp hb
      have := List.mem_range.mp hj
      show V.int (if j ≤ at' then 0 else _) = V.int 0
      rw [if_pos (by omega)]
    · rintro u x σ' Ha Hb hu ⟨y7, rfl, e4, hmd⟩ ⟨rfl, rfl⟩
      have hj : at' + 1 + u < k := by omega
      have hra4 := e4 _ _ (hb.ex _ _ hrc)
      have hpa4 := e4 _ _ (hb.ex _ _ hpc)
      refine ⟨_, rfl, .inl ⟨rfl, _, sq_of hmd⟩, ?_⟩
      refine ⟨_, rfl, _, rfl, ra, _, _, _, rfl, rfl, sq_of hra4, atI_nat (row_at hj), _, rfl, _, rfl, pa, _, _, _, rfl, rfl, sq_of hpa4, atI_nat (row_at hat), _, _, rfl, rfl, .inr ⟨pv1, pv2⟩, ?_⟩
      refine ⟨_, rfl, _, rfl, ra, _, _, _, rfl, rfl, sq_of hra4, atI_nat (row_at hat), _, rfl, _, rfl, pa, _, _, _, rfl, rfl, sq_of hpa4, atI_nat (row_at hj), _, _, rfl, rfl, .inl ⟨rv1, rv2⟩, ?_⟩
      refine ⟨_, _, rfl, rfl, _, rfl, _, _, rfl, rfl, ⟨ha0, ha1⟩, md, _, _, rfl, rfl, hmd, sz_lt (by simp; omega), ?_⟩
      refine ⟨_, rfl, Ex.mut e4 nmd0, ?_⟩
      rw [upd_same, ← Nat.add_assoc, List.range_succ, List.map_append, List.map_append]
      congr 3
      show [V.int _] = [V.int (if at' + 1 + u ≤ at' then _ else _)]
      rw [if_neg (by omega)]
    · rintro σ' H' ⟨y7, rfl, e4, hmd⟩
      rw [show at' + 1 + (k - (at' + 1)) = k by omega] at hmd
      have hb4 := hb.mono e4
      obtain ⟨xs, hx1, hx2, hb5⟩ := hb4.push hmd (hb.ne nmd0) (by omega)
      refine ⟨_, rfl, .inl ⟨rfl, _, sq_of hx1⟩, _, rfl, td, xs, _, rfl, rfl, hx1, hx2, ?_⟩
      exact ⟨_, _, _, rfl, hb5, by rw [upd_ne ncd]; exact e4 _ _ hcp, ncd⟩
  · rintro σ' H' ⟨y5, y6, y7, rfl, hb, hcp, ncd⟩
    rw [ld] at hb
    exact ⟨_, rfl, q H' td hb.ex hb.ll⟩
def spDet : Sp := fun vs H Q _ => ∃ (t : Addr) (k n : Nat) (M : Nat → Nat → Int) (D : Int) (B : Nat → Nat → Nat → Int) (p : Nat → Int), vs = [.ref t] ∧ LL H t (tab k k M) ∧ k ≤ 14 ∧ MT.Bar k n M D B p ∧ n ≤ 28 ∧ ∀ H', Ex H H' → Q (.int D) H'
theorem d_determinant (T : Txt K mg CW CS) : Def P w K mg base "determinant" 2 ["table"] spDet := by
  have D_look_at_table : Def P w K mg base "look_at_table" 1 ["table"] spLookTable := d_look_at_table T
  have D_first_row_with : Def P w K mg base "first_row_with" 1 ["rows", "at"] spFirst := d_first_row_with T
  have D_cleared : Def P w K mg base "cleared" 1 ["rows", "at", "ahead"] spCleared := d_cleared T
  refine def_by T.a_determinant sc_determinant (fun vs H Q E h => ?_) (fun f cdv A outer s H vs Q E hr h => ?_)
  · obtain ⟨p, n, es, _, _, _, _, rfl, _⟩ := h; rfl
  obtain ⟨t, k, n, M, D, B, p, rfl, ht, hk, hb, hn, q⟩ := h
  obtain ⟨ps, h1, h2, h3⟩ := ht.at
  rw [tab_len] at h2
  have hl : (ps.map V.ref).length = k := by rw [List.length_map, h2]
  have p30 : (2 : Int) ^ n ≤ 2 ^ 28 := pow_le28 hn
  refine ⟨_, (pss_cons (ps_expr (pe_def D_look_at_table hr (by decide) (by rfl) (pa_cons (pv 0) pa_nil)))
      (pss_cons (ps_setLc (i := 1)  (own := [("row", 6)]) (g := (gName 6)) rfl sc_determinant.nd rfl rfl (sw_true rfl rfl rfl (by decide +kernel)) (pi_list (pv 0)) (blkOk_by (own := [("row", 6)]) (N := ["table", "rows", "sign", "ahead", "at", "found", "row"]) (sc := defScope s_determinant) (by decide +kernel)) (fun _ _ _ _ _ => (pg_name (i := 6) sc_determinant.nd rfl (by first | exact Or.inl rfl | exact Or.inr rfl))) (fun _ _ _ _ _ => pts_nil) (fun _ _ _ _ _ => (pe_callTy (r := rListOf K) list_ofK (by rfl) T.z_list boot_list (pa_cons (pv 6) pa_nil))))
      (pss_cons (ps_set (i := 2) sc_determinant.nd rfl (by first | exact Or.inl rfl | exact Or.inr rfl) pe_int)
      (pss_cons (ps_set (i := 3) sc_determinant.nd rfl (by first | exact Or.inl rfl | exact Or.inr rfl) pe_int)
      (pss_cons (ps_for PassesOwn.never rfl (pi_range1 (by rfl) T.z_range (pa_cons (pe_callB (X := _) (r := rLenS K) len_seqK (by rfl) T.z_len PySem.boot_len (pa_cons (pv 1) pa_nil)) pa_nil)) (pg_name (i := 4) sc_determinant.nd rfl (by first | exact Or.inl rfl | exact Or.inr rfl))
        (pss_cons (ps_set (i := 5) sc_determinant.nd rfl (by first | exact Or.inl rfl | exact Or.inr rfl) (pe_def D_first_row_with hr (by decide) (by rfl) (pa_cons (pv 1) (pa_cons (pv 4) pa_nil))))
        (pss_cons (ps_if (pt_cmpR op_isN (pv 5) pe_non (nomark _)) (pss_one (ps_ret pe_int)) pss_nil)
        (pss_cons (ps_if (pt_cmpR op_ne (pv 5) (pv 4) (nomark _)) (pss_cons ps_never
          (pss_one (ps_set (i := 2) sc_determinant.nd rfl (by first | exact Or.inl rfl | exact Or.inr rfl) (pe_un un_neg (pv 2))))) pss_nil)
        (pss_cons (ps_set (i := 1) sc_determinant.nd rfl (by first | exact Or.inl rfl | exact Or.inr rfl) (pe_op op_cat (pe_slice (r := rSlL K) sl_list (pv 1) po_none (po_some (pe_op op_add (pv 4) pe_int))) (pe_def D_cleared hr (by decide) (by rfl) (pa_cons (pv 1) (pa_cons (pv 4) (pa_cons (pv 3) pa_nil))))))
        (pss_one (ps_set (i := 3) sc_determinant.nd rfl (by first | exact Or.inl rfl | exact Or.inr rfl) (pe_ix (r := rIxL K) ix_list (pe_ix (r := rIxL K) ix_list (pv 1) (pv 4) (fun _ _ => rfl)) (pv 4) (fun _ _ => rfl)))))))))
      (pss_one (ps_ret (pe_op op_mul (pv 2) (pv 3))))))))), ?_⟩
  refine ⟨_, rfl, t, k, M, rfl, ht, ?_⟩
  refine ⟨_, rfl, t, rfl, ⟨_, sq_of h1⟩, fun R0 nR0 => lc_fin (D := R0) (walk_list (xs := ps.map V.ref)) (by omega) (gm_name 6) (fun _ => true) (fun i y H => IsL R0 (((List.range k).map fun j => M i j).map V.int) y H) (fun _ _ _ _ e h => h.m e) nR0 (fun H2 e2 => sq_of (e2 _ _ h1)) ?_ ?_⟩
  · rintro i y Ha Hb hi ea ⟨zs, hz⟩ ⟨rfl, hy⟩
    rw [hl] at hi
    obtain ⟨ra, hra, hrx, hrc⟩ := h3 i _ (tab_row hi)
    rw [hrx] at hy
    cases hy
    refine ⟨rfl, Ex.refl _, et_yes, fun _ Hc ec Q' q' => ?_⟩
    refine ⟨_, rfl, ra, _, rfl, .inl (sq_of (ec _ _ (ea _ _ hrc))), fun c nc => q' _ _ (Ex.new nc) ⟨c, rfl, (ne_of_none (ec _ _ hz) nc).symm, upd_same⟩⟩
  intro ys H1 e1 hR hk1
  have hL := kept_LL (g := fun i => (List.range k).map fun j => M i j) hR hk1
  rw [hl] at hL
  obtain ⟨ps0, g1, g2, g3⟩ := hL.at
  have hl0 : (ps0.map V.ref).length = k := by rw [List.length_map, g2]; simp
  refine ⟨_, rfl, R0, _, rfl, .inl (sq_of g1), ((ps0.map V.ref).length : Nat), rfl, by omega, by omega, ?_⟩
  rw [hl0, show ((k : Nat) : Int).toNat = k by omega]
  refine for_it walk_rangeN (fun i σ' H' => ∃ (rr : Addr) (y4 y5 : Option V), σ' = [some (.ref t), some (.ref rr), some (.int 1), some (.int (p i)), y4, y5, none] ∧ Ex H H' ∧ LL H' rr (tab k k (RM M p i)))
    ⟨R0, none, none, by rw [hb.p0]; rfl, e1, hL⟩ (fun _ _ _ _ _ => trivial) ?_ ?_
  · rintro i x σ' Ha Hb hi ⟨rr, y4, y5, rfl, e, hrr⟩ ⟨rfl, rfl⟩
    obtain ⟨piv, piv2⟩ := RM_piv hb hi
    obtain ⟨pp1, pp2⟩ := hb.pos i (by omega)
    obtain ⟨pq1, pq2⟩ := hb.pos (i + 1) (by omega)
    refine ⟨_, rfl, _, rfl, rr, k, i, _, rfl, hrr, hi, hk, by rw [piv]; omega, ?_⟩
    refine ⟨_, rfl, rfl, _, rfl, ifF (by simp) ?_⟩
    refine ⟨_, rfl, _, rfl, rfl, _, rfl, neqF rfl ?_⟩
    obtain ⟨qs, r1, r2, r3⟩ := hrr.at
    rw [tab_len] at r2
    have hlq : (qs.map V.ref).length = k := by rw [List.length_map, r2]
    refine ⟨_, rfl, _, rfl, _, _, rfl, rfl, _, rfl, rr, _, rfl, sq_of r1, fun c1 nc1 => ?_⟩
    have ecut : cutV (qs.map V.ref) none (some ((i : Int) + 1)) = (qs.map V.ref).take (i + 1) := cut_to (a := i + 1) (by omega)
    rw [ecut]
    have e2 := Ex.new (o := .lst ((qs.map V.ref).take (i + 1))) nc1
    refine ⟨_, rfl, _, rfl, _, rfl, rr, k, i, RM M p i, p i, rfl, hrr.mono e2, hi, hk, by omega, by omega, ⟨by rw [piv]; omega, by rw [piv]; omega⟩, fun u hu hu' => ?_, fun H3 r e3 h3' => ?_⟩
    · rw [RM_bar hb i (by omega) u i (by omega) (Nat.le_refl _) hu' hi]
      have := hb.small i u hu hu'
      omega
    obtain ⟨zs, z1, z2, z3⟩ := h3'
    have z2' : zs.length = k - (i + 1) := by rw [z2]; simp
    have lz : ((qs.map V.ref).take (i + 1)).length + (zs.map V.ref).length ≤ 100000 := by rw [List.length_take, List.length_map, List.length_map]; omega
    refine ⟨c1, r, _, _, rfl, rfl, e3 _ _ upd_same, z1, sz lz, fun nr nnr => ?_⟩
    have e4 := Ex.new (o := .lst ((qs.map V.ref).take (i + 1) ++ zs.map V.ref)) nnr
    have e24 := (e2.trans e3).trans e4
    have hnew : LL (upd H3 nr (.lst ((qs.map V.ref).take (i + 1) ++ zs.map V.ref))) nr (tab k k (RM M p (i + 1))) := by
      refine LL.cat (M := RM M p i) (g := clr k i (RM M p i) (p i)) upd_same r2 (by omega) (fun u hu => ?_) (by rw [z2]; simp) (fun u c hc => ?_) (fun u v hu hv => ?_) (fun u hu => ?_)
      · obtain ⟨c, c1, c2, c3⟩ := r3 u _ (tab_row (by omega))
        exact ⟨c, c1, e24 _ _ c3⟩
      · have hu : u < k - (i + 1) := by
          have := (List.getElem?_eq_some_iff.mp hc).1
          rw [z2] at this; simpa using this
        exact e4 _ _ (z3 u c _ hc (by rw [List.getElem?_map, List.getElem?_range hu]; rfl))
      · show _ = if u ≤ i then _ else _
        rw [if_pos (by omega)]
      · unfold clr
        refine List.map_congr_left fun v hv => ?_
        exact (if_neg (show ¬ i + 1 + u ≤ i by omega)).symm
    obtain ⟨ws, w1, w2, w3⟩ := hnew.at
    obtain ⟨wa, wa1, wa2, wa3⟩ := w3 i _ (tab_row hi)
    refine ⟨_, rfl, _, rfl, nr, _, _, _, rfl, rfl, sq_of w1, atI_nat wa2, _, rfl, wa, _, _, _, rfl, rfl, sq_of wa3, atI_nat (row_at hi), ?_⟩
    exact ⟨nr, _, _, by rw [piv2]; rfl, e.trans e24, hnew⟩
  · rintro σ' H' ⟨rr, y4, y5, rfl, e, hrr⟩
    refine ⟨_, rfl, _, rfl, _, _, rfl, rfl, .inl ⟨by decide, by decide⟩, ?_⟩
    show Q (V.int (1 * p k)) H'
    rw [hb.last, Int.one_mul]
    exact q H' e
end
end Sr
namespace Sr
open PySem PySem.Spec PyProof.Rows L2 Evl
/-- a table of its own, written in place -/
structure Tb (H : Hp) (r : Addr) (k : Nat) (M : Nat → Nat → Int) (H' : Hp) : Prop where
  ex : Ex H H'
  has : ∃ ps : List Addr, H' r = some (.lst (ps.map V.ref)) ∧ ps.length = k ∧ ps.Nodup ∧ ∀ (u : Nat) (a : Addr), ps[u]? = some a → a ≠ r ∧ H a = none ∧ H' a = some (.lst (((List.range k).map fun j => M u j).map V.int))
theorem nd_at {l : List Addr} (h : l.Nodup) {i j : Nat} {a : Addr} (hi : l[i]? = some a) (hj : l[j]? = some a) : i = j := by
  obtain ⟨h1, e1⟩ := List.getElem?_eq_some_iff.mp hi
  obtain ⟨h2, e2⟩ := List.getElem?_eq_some_iff.mp hj
  exact (List.getElem_inj h).mp (e1.trans e2.symm)
theorem Tb.put {H H' : Hp} {r : Addr} {k : Nat} {M : Nat → Nat → Int} (b : Tb H r k M H') {u v : Nat} (hu : u < k) (hv : v < k) : ∃ zs a xs, H' r = some (.lst zs) ∧ zs[u]? = some (.ref a) ∧ H' a = some (.lst xs) ∧ xs[v]? = some (.int (M u v)) ∧ ixN xs.length (v : Int) = some v ∧
    ∀ z, Tb H r k (fun i j => if i = u ∧ j = v then z else M i j) (upd H' a (.lst (xs.set v (.int z)))) := by
  obtain ⟨e, ps, h1, h2, nd, h3⟩ := b
  obtain ⟨a, ha⟩ := some_of (l := ps) (i := u) (by omega)
  obtain ⟨n1, n2, n3⟩ := h3 u a ha
  refine ⟨_, a, _, h1, by rw [List.getElem?_map, ha]; rfl, n3, row_at hv, ixN_nat (by rw [row_len]; exact hv), fun z => ⟨Ex.mut e n2, ps, by rw [upd_ne n1.symm]; exact h1, h2, nd, fun i c hc => ?_⟩⟩
  obtain ⟨m1, m2, m3⟩ := h3 i c hc
  refine ⟨m1, m2, ?_⟩
  by_cases q : i = u
  · subst q
    rw [ha] at hc
    cases hc
    rw [upd_same]
    congr 2
    refine List.ext_getElem? fun j => ?_
    rw [List.getElem?_set]
    by_cases hj : j < k
    · rw [row_at hj, row_at hj, row_len]
      by_cases q : v = j
      · subst q; simp [hj]
      · rw [if_neg q]
        have : ¬ (j = v) := fun z => q z.symm
        simp [this]
    · rw [if_neg (by omega), List.getElem?_eq_none (by rw [row_len]; omega), List.getElem?_eq_none (by rw [row_len]; omega)]
  · rw [upd_ne (show c ≠ a from fun z => q (nd_at nd hc (by rw [z]; exact ha))), m3]
    congr 3
    refine List.map_congr_left fun j _ => ?_
    rw [if_neg (fun z => q z.1)]
theorem Tb.congr {H H' : Hp} {r : Addr} {k : Nat} {M M' : Nat → Nat → Int} (b : Tb H r k M H') (h : ∀ i j, i < k → j < k → M i j = M' i j) : Tb H r k M' H' := by
  obtain ⟨e, ps, h1, h2, nd, h3⟩ := b
  refine ⟨e, ps, h1, h2, nd, fun i c hc => ?_⟩
  obtain ⟨m1, m2, m3⟩ := h3 i c hc
  have hi : i < k := by rw [← h2]; exact (List.getElem?_eq_some_iff.mp hc).1
  refine ⟨m1, m2, by rw [m3]; congr 3; exact List.map_congr_left fun j hj => h i j hi (List.mem_range.mp hj)⟩
theorem Tb.ll {H H' : Hp} {r : Addr} {k : Nat} {M : Nat → Nat → Int} (b : Tb H r k M H') : LL H' r (tab k k M) := by
  obtain ⟨e, ps, h1, h2, nd, h3⟩ := b
  refine ⟨ps, h1, by rw [tab_len, h2], fun i c row hc hrow => ?_⟩
  have hi : i < k := by rw [← h2]; exact (List.getElem?_eq_some_iff.mp hc).1
  rw [tab_row hi] at hrow
  rw [← Option.some.inj hrow]
  exact (h3 i c hc).2.2
theorem lap_snoc (f : Nat → Nat) (e : Nat × Nat) : ∀ (l : List (Nat × Nat)) (i j : Nat), MT.lap f (l ++ [e]) i j = MT.lap f l i j + MT.lp (f e.1) (f e.2) i j
  | [], i, j => rfl
  | x :: l, i, j => by
    show MT.lap f (l ++ [e]) i j + MT.lp (f x.1) (f x.2) i j = MT.lap f l i j + MT.lp (f x.1) (f x.2) i j + _
    rw [lap_snoc f e l i j]; omega
theorem lp_same {a b i j : Nat} (h : a = b) : MT.lp a b i j = 0 := if_pos h
def U1 (M : Nat → Nat → Int) (a b : Nat) : Nat → Nat → Int := fun i j => if i = a ∧ j = a then M a a + 1 else M i j
def U2 (M : Nat → Nat → Int) (a b : Nat) : Nat → Nat → Int := fun i j => if i = b ∧ j = b then U1 M a b b b + 1 else U1 M a b i j
def U3 (M : Nat → Nat → Int) (a b : Nat) : Nat → Nat → Int := fun i j => if i = a ∧ j = b then U2 M a b a b - 1 else U2 M a b i j
def U4 (M : Nat → Nat → Int) (a b : Nat) : Nat → Nat → Int := fun i j => if i = b ∧ j = a then U3 M a b b a - 1 else U3 M a b i j
theorem lap_lp {a b i j : Nat} {M : Nat → Nat → Int} (h : a ≠ b) : U4 M a b i j = M i j + MT.lp a b i j := by
  simp only [MT.lp, U4, U3, U2, U1]
  have h' : ¬ b = a := fun z => h z.symm
  by_cases q1 : i = a <;> by_cases q2 : j = a <;> by_cases q3 : i = b <;> by_cases q4 : j = b <;> simp_all <;> (try omega) <;> grind
end Sr
namespace Sr
open PySem PySem.Spec PyProof.Rows L2 Evl
section
variable {P : Program} {w : World} {K : PySem.W.Frag} {mg : Str → Option Value} {base : Heap} {CW CS : Addr}
def spPulls : Sp := fun vs H Q _ => ∃ (l : Addr) (k : Nat) (es : List (Nat × Nat)), vs = [.int (k : Int), .ref l] ∧ PL H l es ∧ MT.InN k es ∧ k ≤ 14 ∧ es.length ≤ 30 ∧ ∀ H' r, Ex H H' → LL H' r (tab k k (MT.lap id es)) → Q (.ref r) H'
theorem d_pulls (T : Txt K mg CW CS) : Def P w K mg base "pulls" 1 ["count", "ties"] spPulls := by
  refine def_by T.a_pulls sc_pulls (fun vs H Q E h => ?_) (fun f cdv A outer s H vs Q E hr h => ?_)
  · obtain ⟨p, n, es, rfl, _⟩ := h; rfl
  obtain ⟨l, k, es, rfl, hl, hin, hk, h30, q⟩ := h
  obtain ⟨ps, hl1, hl2, hl3⟩ := id hl
  have llen : (ps.map V.ref).length = es.length := by rw [List.length_map, hl2]
  refine ⟨_, (pss_cons (ps_setLc (i := 2)  (own := [("place", 5)]) (g := (gName 5)) rfl sc_pulls.nd rfl rfl (sw_true rfl rfl rfl (by decide +kernel)) (pi_range1 (by rfl) T.z_range (pa_cons (pv 0) pa_nil)) (blkOk_by (own := [("place", 5)]) (N := ["count", "ties", "table", "one", "other", "place"]) (sc := defScope s_pulls) (by decide +kernel)) (fun _ _ _ _ _ => (pg_name (i := 5) sc_pulls.nd rfl (by first | exact Or.inl rfl | exact Or.inr rfl))) (fun _ _ _ _ _ => pts_nil) (fun _ _ _ _ _ => (pe_op op_rep (pe_lst (pa_cons pe_int pa_nil)) (pv 0))))
      (pss_cons (ps_for PassesOwn.never rfl (pi_list (pv 1)) (pg_tup rfl (pgs_cons (pg_name (i := 3) sc_pulls.nd rfl (by first | exact Or.inl rfl | exact Or.inr rfl)) (pgs_cons (pg_name (i := 4) sc_pulls.nd rfl (by first | exact Or.inl rfl | exact Or.inr rfl)) pgs_nil)))
        (pss_one (ps_if (pt_cmpR op_ne (pv 3) (pv 4) (nomark _)) (pss_cons (ps_augS (pe_ix (r := rIxL K) ix_list (pv 2) (pv 3) (fun _ _ => rfl)) (pv 3) pget_list pe_int ip_add set_list)
          (pss_cons (ps_augS (pe_ix (r := rIxL K) ix_list (pv 2) (pv 4) (fun _ _ => rfl)) (pv 4) pget_list pe_int ip_add set_list)
          (pss_cons (ps_augS (pe_ix (r := rIxL K) ix_list (pv 2) (pv 3) (fun _ _ => rfl)) (pv 4) pget_list pe_int ip_sub set_list)
          (pss_one (ps_augS (pe_ix (r := rIxL K) ix_list (pv 2) (pv 4) (fun _ _ => rfl)) (pv 3) pget_list pe_int ip_sub set_list))))) pss_nil)))
      (pss_one (ps_ret (pv 2))))), ?_⟩
  refine ⟨_, rfl, (k : Int), rfl, by omega, by omega, fun D nD => ?_⟩
  rw [show ((k : Nat) : Int).toNat = k by omega]
  refine lc_it walk_rangeN (fun i H' => Ex H H' ∧ ∃ ps : List Addr, H' D = some (.lst (ps.map V.ref)) ∧ ps.length = i ∧ ps.Nodup ∧ ∀ (u : Nat) (a : Addr), ps[u]? = some a → a ≠ D ∧ H a = none ∧ H' a = some (.lst (List.replicate k (V.int 0))))
    ⟨Ex.new nD, [], upd_same, rfl, List.nodup_nil, fun u a h => by simp at h⟩ (fun _ _ _ _ => trivial) ?_ ?_
  · rintro i x Ha Hb hi ⟨e, qs, d1, d2, d3, d4⟩ ⟨rfl, rfl⟩
    refine ⟨rfl, ?_⟩
    show tOp rRep (tLst (tCons (tC (V.int 0)) tNil)) (tVar 0) _ _ _
    refine ⟨sz (by simp), fun zl nzl => ⟨_, rfl, zl, _, _, rfl, rfl, upd_same, by omega, by omega, sz (by simp; omega), fun md nmd => ?_⟩⟩
    have e3 := (Ex.new (o := .lst [V.int 0]) nzl).trans (Ex.new (o := .lst (List.replicate ((k : Nat) : Int).toNat [V.int 0]).flatten) nmd)
    have nmd0 : Hb md = none := fresh_back (Ex.new nzl) nmd
    have mdD : md ≠ D := (ne_of_none d1 nmd0).symm
    refine ⟨_, e3 _ _ d1, sz_lt (by rw [List.length_map, d2]; omega), Ex.mut (e.trans e3) nD, qs ++ [md], by rw [upd_same, List.map_append]; rfl, by simp [d2], ?_, fun u a hu => ?_⟩
    · refine List.nodup_append.mpr ⟨d3, by simp, fun a ha b hb z => ?_⟩
      rw [List.mem_singleton] at hb
      obtain ⟨j, hj⟩ := List.getElem?_of_mem ha
      have := (d4 j a hj).2.2
      rw [z, hb, nmd0] at this
      cases this
    · by_cases hu' : u < qs.length
      · rw [List.getElem?_append_left hu'] at hu
        obtain ⟨m1, m2, m3⟩ := d4 u a hu
        exact ⟨m1, m2, by rw [upd_ne m1]; exact e3 _ _ m3⟩
      · rw [List.getElem?_append_right (by omega)] at hu
        have h0 : u - qs.length = 0 := by
          obtain ⟨z1, _⟩ := List.getElem?_eq_some_iff.mp hu
          simp at z1; omega
        rw [h0] at hu
        have h' : md = a := by simpa using hu
        subst h'
        refine ⟨mdD, fresh_back e nmd0, ?_⟩
        rw [upd_ne mdD, upd_same]
        rw [show ((k : Nat) : Int).toNat = k by omega]
        simp
  rintro H1 ⟨e1, qs, d1, d2, d3, d4⟩
  have t0 : Tb H D k (fun _ _ => 0) H1 := ⟨e1, qs, d1, d2, d3, fun u a hu => by
    obtain ⟨m1, m2, m3⟩ := d4 u a hu
    refine ⟨m1, m2, ?_⟩
    rw [m3]
    congr 2
    rw [List.map_map]
    symm
    rw [List.eq_replicate_iff]
    refine ⟨by simp, fun b hb => ?_⟩
    obtain ⟨j, _, rfl⟩ := List.mem_map.mp hb
    rfl⟩
  refine ⟨_, rfl, l, rfl, ⟨_, sq_of (e1 _ _ hl1)⟩, for_list (K := K) (a := l) (xs := ps.map V.ref) (fun i σ' H' => ∃ (y3 y4 : Option V), σ' = [some (.int (k : Int)), some (.ref l), some (.ref D), y3, y4, none] ∧ Tb H D k (MT.lap id (es.take i)) H')
    ⟨none, none, rfl, t0⟩ (fun i σ' H' _ ⟨_, _, _, t⟩ => sq_of (t.ex _ _ hl1)) ?_ ?_⟩
  · rintro i x σ' H' hx ⟨y3, y4, rfl, t⟩
    obtain ⟨a, ha, rfl⟩ := ref_get hx
    have hi : i < es.length := by rw [← hl2]; exact (List.getElem?_eq_some_iff.mp ha).1
    obtain ⟨e, he⟩ := some_of hi
    have hea := t.ex _ _ (hl3 i a e ha he)
    obtain ⟨b1, b2⟩ := hin e (List.mem_of_getElem? he)
    have tk : es.take (i + 1) = es.take i ++ [e] := by rw [List.take_add_one, he]; rfl
    refine ⟨a, _, rfl, st_of hea, rfl, _, _, rfl, _, _, rfl, rfl, ?_⟩
    refine ⟨_, rfl, _, rfl, rfl, _, rfl, ?_⟩
    by_cases hq : e.1 = e.2
    · refine neqF (by rw [hq]) ⟨_, _, rfl, t.congr fun u v _ _ => ?_⟩
      rw [tk, lap_snoc, id, id, lp_same hq]; omega
    · refine neqT (int_ne hq) ?_
      obtain ⟨z1, a1, x1, p1, p2, p3, p4, p5, p6⟩ := t.put b1 b1
      refine ⟨_, rfl, _, rfl, D, _, _, _, rfl, rfl, sq_of p1, atI_nat p2, _, rfl, a1, _, _, _, rfl, rfl, p3, p4, _, _, rfl, rfl, a1, _, _, _, rfl, rfl, p3, p5, ?_⟩
      have t1 : Tb H D k (U1 (MT.lap id (es.take i)) e.1 e.2) _ := p6 _
      obtain ⟨z1, a2, x2, p1', p2', p3', p4', p5', p6'⟩ := t1.put b2 b2
      refine ⟨_, rfl, _, rfl, D, _, _, _, rfl, rfl, sq_of p1', atI_nat p2', _, rfl, a2, _, _, _, rfl, rfl, p3', p4', _, _, rfl, rfl, a2, _, _, _, rfl, rfl, p3', p5', ?_⟩
      have t2 : Tb H D k (U2 (MT.lap id (es.take i)) e.1 e.2) _ := p6' _
      clear p6 p6'
      obtain ⟨z1, a3, x3, p1', p2', p3', p4', p5', p6'⟩ := t2.put b1 b2
      refine ⟨_, rfl, _, rfl, D, _, _, _, rfl, rfl, sq_of p1', atI_nat p2', _, rfl, a3, _, _, _, rfl, rfl, p3', p4', _, _, rfl, rfl, a3, _, _, _, rfl, rfl, p3', p5', ?_⟩
      have t3 : Tb H D k (U3 (MT.lap id (es.take i)) e.1 e.2) _ := p6' _
      clear p6'
      obtain ⟨z1, a4, x4, p1', p2', p3', p4', p5', p6'⟩ := t3.put b2 b1
      refine ⟨_, rfl, _, rfl, D, _, _, _, rfl, rfl, sq_of p1', atI_nat p2', _, rfl, a4, _, _, _, rfl, rfl, p3', p4', _, _, rfl, rfl, a4, _, _, _, rfl, rfl, p3', p5', ?_⟩
      have t4 : Tb H D k (U4 (MT.lap id (es.take i)) e.1 e.2) _ := p6' _
      refine ⟨_, _, rfl, t4.congr fun u v _ _ => ?_⟩
      rw [tk, lap_snoc]
      exact lap_lp hq
  · rintro σ' H' ⟨y3, y4, rfl, t⟩
    rw [llen, List.take_length] at t
    exact ⟨_, rfl, q H' D t.ex t.ll⟩
def spBut : Sp := fun vs H Q _ => ∃ (t : Addr) (k : Nat) (M : Nat → Nat → Int), vs = [.ref t] ∧ LL H t (tab k k M) ∧ k ≤ 14 ∧ ∀ H' r, Ex H H' → LL H' r (tab (k - 1) (k - 1) M) → Q (.ref r) H'
theorem d_without_last (T : Txt K mg CW CS) : Def P w K mg base "without_last" 1 ["table"] spBut := by
  refine def_by T.a_without_last sc_without_last (fun vs H Q E h => ?_) (fun f cdv A outer s H vs Q E hr h => ?_)
  · obtain ⟨p, n, es, rfl, _⟩ := h; rfl
  obtain ⟨t, k, M, rfl, ht, hk, q⟩ := h
  obtain ⟨ps, h1, h2, h3⟩ := ht.at
  rw [tab_len] at h2
  have hl : (ps.map V.ref).length = k := by rw [List.length_map, h2]
  refine ⟨_, (pss_one (ps_ret (pe_lc  (own := [("row", 1)]) (g := (gName 1)) rfl sc_without_last.nd (pi_list (pe_slice (r := rSlL K) sl_list (pv 0) po_none (po_some (pe_un un_neg pe_int)))) (blkOk_by (own := [("row", 1)]) (N := ["table", "row"]) (sc := defScope s_without_last) (by decide +kernel)) (fun _ _ _ _ _ => (pg_name (i := 1) sc_without_last.nd rfl (by first | exact Or.inl rfl | exact Or.inr rfl))) (fun _ _ _ _ _ => pts_nil) (fun _ _ _ _ _ => (pe_slice (r := rSlL K) sl_list (pv 1) po_none (po_some (pe_un un_neg pe_int))))))), ?_⟩
  refine ⟨_, rfl, _, rfl, _, rfl, t, _, rfl, sq_of h1, fun cp ncp => ⟨cp, rfl, ⟨_, sq_of upd_same⟩, ?_⟩⟩
  have ecut : cutV (ps.map V.ref) none (some (-1)) = (ps.map V.ref).take (k - 1) := by rw [cut_but, hl]
  rw [ecut]
  have e1 := Ex.new (o := .lst ((ps.map V.ref).take (k - 1))) ncp
  have lt : ((ps.map V.ref).take (k - 1)).length = k - 1 := by rw [List.length_take, hl]; omega
  refine fun D nD => lc_fin (D := D) (walk_list (xs := (ps.map V.ref).take (k - 1))) (by omega) (gm_name 1) (fun _ => true) (fun i y H => IsL D (((List.range (k - 1)).map fun j => M i j).map V.int) y H) (fun _ _ _ _ e h => h.m e) nD (fun H2 e2 => sq_of (e2 _ _ upd_same)) ?_ ?_
  · rintro i y Ha Hb hi ea ⟨zs, hz⟩ ⟨rfl, hy⟩
    rw [lt] at hi
    obtain ⟨ra, hra, hrx, hrc⟩ := h3 i _ (tab_row (by omega))
    rw [List.getElem?_take_of_lt hi, hrx] at hy
    cases hy
    refine ⟨rfl, Ex.refl _, et_yes, fun _ Hc ec Q' q' => ?_⟩
    refine ⟨_, rfl, _, rfl, _, rfl, ra, _, rfl, sq_of (ec _ _ (ea _ _ (e1 _ _ hrc))), fun c nc => q' _ _ (Ex.new nc) ⟨c, rfl, (ne_of_none (ec _ _ hz) nc).symm, ?_⟩⟩
    rw [upd_same]
    have e2 : ∀ xs : List V, xs.length = k → cutV xs none (some (-1)) = xs.take (k - 1) := fun xs hx => by rw [cut_but, hx]
    rw [show (-(1 : Int)) = -1 from rfl, e2 _ (row_len _ _), ← List.map_take, ← List.map_take, List.take_range, show min (k - 1) k = k - 1 by omega]
  · intro ys H2 e2 hD hk2
    have := kept_LL (g := fun i => (List.range (k - 1)).map fun j => M i j) hD hk2
    rw [lt] at this
    exact q H2 D (e1.trans e2) this
def spPullTable (CW : Addr) : Sp := fun vs H Q _ => ∃ (p : Addr) (n : Nat) (es : List (Nat × Nat)), vs = [.ref p] ∧ WebAt CW H p n es ∧ ∀ H' r, Ex H H' → LL H' r (tab n n (MT.lap id es)) → Q (.ref r) H'
theorem d_pull_table (T : Txt K mg CW CS) : Def P w K mg base "pull_table" 2 ["web"] (spPullTable CW) := by
  have D_pulls : Def P w K mg base "pulls" 1 ["count", "ties"] spPulls := d_pulls T
  refine def_by T.a_pull_table sc_pull_table (fun vs H Q E h => ?_) (fun f cdv A outer s H vs Q E hr h => ?_)
  · obtain ⟨p, n, es, rfl, _⟩ := h; rfl
  obtain ⟨p, n, es, rfl, ⟨dx, l, hp, hl, h1, h14, h30, hin⟩, q⟩ := h
  refine ⟨_, (pss_one (ps_ret (pe_def D_pulls hr (by decide) (by rfl) (pa_cons (pe_fldK (K' := K) rfl (pv 0) (by rfl)) (pa_cons (pe_fldK (K' := K) rfl (pv 0) (by rfl)) pa_nil))))), ?_⟩
  refine ⟨.ref p, rfl, p, CW, dx, _, _, rfl, hp, T.cW, T.nW_places, wfs_places n l, .ref p, rfl, p, CW, dx, _, _, rfl, hp, T.cW, T.nW_ties, wfs_ties n l, l, n, es, rfl, hl, hin, h14, h30, q⟩
/-- the count of the trees of a web -/
def spCount (CW : Addr) : Sp := fun vs H Q _ => ∃ (p : Addr) (n : Nat) (es : List (Nat × Nat)), vs = [.ref p] ∧ WebAt CW H p n es ∧ es.length ≤ 28 ∧ MT.tau n id es ≠ 0 ∧ ∀ H', Ex H H' → Q (.int ((MT.tau n id es : Nat) : Int)) H'
theorem tauf_id {n : Nat} {es : List (Nat × Nat)} (h : MT.InN n es) : MT.tauf (List.range n) id es = MT.tau n id es := by
  have e : MT.reps n id = List.range n := by
    unfold MT.reps
    exact List.filter_eq_self.mpr fun v _ => by simp
  rw [← e]
  exact MT.tauf_tau MT.inv_id h
theorem d_tree_count (T : Txt K mg CW CS) : Def P w K mg base "tree_count" 3 ["web"] (spCount CW) := by
  have D_determinant : Def P w K mg base "determinant" 2 ["table"] spDet := d_determinant T
  have D_without_last : Def P w K mg base "without_last" 1 ["table"] spBut := d_without_last T
  have D_pull_table : Def P w K mg base "pull_table" 2 ["web"] (spPullTable CW) := d_pull_table T
  refine def_by T.a_tree_count sc_tree_count (fun vs H Q E h => ?_) (fun f cdv A outer s H vs Q E hr h => ?_)
  · obtain ⟨p, n, es, rfl, _⟩ := h; rfl
  obtain ⟨p, n, es, rfl, hw, h28, h0, q⟩ := h
  obtain ⟨dx, l, hp, hl, h1, h14, h30, hin⟩ := id hw
  have hb := MT.bareiss (k := n) (f := id) (es := es) h1 (fun e he => by have := hin e he; simp [this]) (by rw [tauf_id hin]; exact h0)
  rw [tauf_id hin] at hb
  refine ⟨_, (pss_one (ps_ret (pe_def D_determinant hr (by decide) (by rfl) (pa_cons (pe_def D_without_last hr (by decide) (by rfl) (pa_cons (pe_def D_pull_table hr (by decide) (by rfl) (pa_cons (pv 0) pa_nil)) pa_nil)) pa_nil)))), ?_⟩
  refine ⟨_, rfl, p, n, es, rfl, hw, fun H1 r1 e1 t1 => ⟨r1, n, _, rfl, t1, h14, fun H2 r2 e2 t2 => ?_⟩⟩
  exact ⟨r2, n - 1, es.length, _, _, _, _, rfl, t2, by omega, hb, h28, fun H3 e3 => q H3 (e1.trans (e2.trans e3))⟩
end
end Sr
namespace Sr
open PySem PySem.Spec PyProof.Rows L2 Evl
theorem kept_map {n : Nat} {F : Nat → V} {ys : List V} {H : Hp} (h : Kept n (fun _ => true) (fun k y _ => y = F k) ys H) : ys = (List.range n).map F := by
  obtain ⟨h1, h2⟩ := h
  have e : (List.range n).filter (fun _ => true) = List.range n := List.filter_eq_self.mpr fun _ _ => rfl
  rw [e] at h1 h2
  rw [List.length_range] at h1
  refine List.ext_getElem? fun i => ?_
  by_cases hi : i < n
  · obtain ⟨y, hy⟩ := some_of (l := ys) (i := i) (by omega)
    have := h2 i i y (List.getElem?_range hi) hy
    rw [hy, this, List.getElem?_map, List.getElem?_range hi]; rfl
  · rw [List.getElem?_eq_none (by omega), List.getElem?_eq_none (by simp; omega)]
/-- what a comprehension with a test gave, new objects -/
theorem kept_objsF {n : Nat} {f : Nat → Bool} {o : Nat → HO} {ys : List V} {H : Hp} {ψ : Nat → Addr → Prop} (h : Kept n f (fun k y H => ∃ p, y = .ref p ∧ ψ k p ∧ H p = some (o k)) ys H) :
    ∃ ps : List Addr, ys = ps.map V.ref ∧ ps.length = ((List.range n).filter f).length ∧ ∀ (i k : Nat) (a : Addr), ps[i]? = some a → ((List.range n).filter f)[i]? = some k → H a = some (o k) ∧ ψ k a := by
  obtain ⟨h1, h2⟩ := h
  obtain ⟨ps, rfl⟩ := all_refs (ys := ys) fun y hy => by
    obtain ⟨i, hi, rfl⟩ := List.mem_iff_getElem.mp hy
    obtain ⟨k, hk⟩ := some_of (l := (List.range n).filter f) (i := i) (by omega)
    obtain ⟨p, hp, _⟩ := h2 i k _ hk (List.getElem?_eq_getElem hi)
    exact ⟨p, hp⟩
  rw [List.length_map] at h1
  refine ⟨ps, rfl, h1, fun i k a ha hk => ?_⟩
  obtain ⟨p, hp, h3, h4⟩ := h2 i k (.ref a) hk (by rw [List.getElem?_map, ha]; rfl)
  cases hp
  exact ⟨h4, h3⟩
theorem kept_PL {n : Nat} {f : Nat → Bool} {g : Nat → Nat × Nat} {ys : List V} {H : Hp} {D : Addr} (hD : H D = some (.lst ys)) (h : Kept n f (fun k y H => IsT D [.int ((g k).1 : Int), .int ((g k).2 : Int)] y H) ys H) : PL H D (((List.range n).filter f).map g) := by
  obtain ⟨ps, rfl, h1, h2⟩ := kept_objsF (o := fun k => eV (g k)) (ψ := fun _ p => p ≠ D) h
  refine ⟨ps, hD, by rw [h1, List.length_map], fun i a e ha he => ?_⟩
  rw [List.getElem?_map] at he
  cases hk : ((List.range n).filter f)[i]? with
  | none => rw [hk] at he; cases he
  | some k =>
    rw [hk] at he
    rw [(h2 i k a ha hk).1, ← Option.some.inj he]
theorem NL.at {H : Hp} {l : Addr} {rows : List (List Nat)} (h : NL H l rows) : ∃ ps : List Addr, H l = some (.lst (ps.map V.ref)) ∧ ps.length = rows.length ∧ ∀ (i : Nat) (a : Addr), ps[i]? = some a → ∃ r, rows[i]? = some r ∧ H a = some (.lst (nI r)) := by
  obtain ⟨ps, h1, h2, h3⟩ := h
  refine ⟨ps, h1, h2, fun i a ha => ?_⟩
  have hi : i < rows.length := by rw [← h2]; exact (List.getElem?_eq_some_iff.mp ha).1
  obtain ⟨r, hr⟩ := some_of hi
  exact ⟨r, hr, h3 i a r ha hr⟩
theorem putK_len {kvs : List (Key × V)} {k : Key} {v : V} : (putK kvs k v).length ≤ kvs.length + 1 := by
  unfold putK; split
  · rw [List.length_map]; omega
  · simp
theorem nodup_reps (n : Nat) (m : Nat → Nat) : (MT.reps n m).Nodup := MT.reps_nd n m
/-- in the piece of that number -/
theorem in_piece {n : Nat} {m : Nat → Nat} (h : MT.Inv m) {i r : Nat} (hi : (MT.reps n m)[i]? = some r) {v : Nat} (hv : v < n) : m v = r ↔ MT.idx n m v = i := by
  have g := MT.idx_get h hv
  constructor
  · intro q
    rw [q] at g
    obtain ⟨h1, e1⟩ := List.getElem?_eq_some_iff.mp hi
    obtain ⟨h2, e2⟩ := List.getElem?_eq_some_iff.mp g
    exact (List.getElem_inj (nodup_reps n m)).mp (e2.trans e1.symm)
  · intro q
    rw [q, hi] at g
    exact (Option.some.inj g).symm
theorem dget_at {H : Hp} {d : Addr} {kvs : List (Key × V)} {k : Int} {v : V} (h : H d = some (.dK kvs)) (hv : valV kvs (.inl k) = some v) : DGet H d (.int k) (some v) := hv ▸ DGet.k (k := .inl k) h
theorem dget_no {H : Hp} {d : Addr} {kvs : List (Key × V)} {k : Int} (h : H d = some (.dK kvs)) (hv : valV kvs (.inl k) = none) : DGet H d (.int k) none := hv ▸ DGet.k (k := .inl k) h
end Sr
namespace Sr
open PySem PySem.Spec PyProof.Rows L2 Evl
section
variable {P : Program} {w : World} {K : PySem.W.Frag} {mg : Str → Option Value} {base : Heap} {CW CS : Addr}
def spCountW (CW : Addr) : Sp := fun vs H Q _ => ∃ (p ti to : Addr) (n : Nat) (es : List (Nat × Nat)) (S X : List Nat), vs = [.ref p, .ref ti, .ref to] ∧ WebAt CW H p n es ∧ (H ti = some (.tup (nI S)) ∨ H ti = some (.lst (nI S))) ∧ (H to = some (.tup (nI X)) ∨ H to = some (.lst (nI X))) ∧
  S ∈ MT.subs (List.range es.length) ∧ X ∈ MT.subs (List.range es.length) ∧ S.length + MT.pc n (MT.mk (S.map (ed es))) = n ∧ (∀ t ∈ S, t ∉ X) ∧ es.length ≤ 28 ∧ 0 < MT.NT n (ed es) es.length S X ∧
  ∀ H', Ex H H' → Q (.int ((MT.NT n (ed es) es.length S X : Nat) : Int)) H'
theorem d_count_with (T : Txt K mg CW CS) : Def P w K mg base "count_with" 3 ["web", "inside", "outside"] (spCountW CW) := by
  have D_determinant : Def P w K mg base "determinant" 2 ["table"] spDet := d_determinant T
  have D_without_last : Def P w K mg base "without_last" 1 ["table"] spBut := d_without_last T
  have D_pulls : Def P w K mg base "pulls" 1 ["count", "ties"] spPulls := d_pulls T
  have D_made_set : Def P w K mg base "made_set" 1 ["web", "ties"] (spMadeSet CW) := d_made_set T
  have D_pieces_of : Def P w K mg base "pieces_of" 2 ["web", "ties"] (spPieces CW) := d_pieces_of T
  refine def_by T.a_count_with sc_count_with (fun vs H Q E h => ?_) (fun f cdv A outer s H vs Q E hr h => ?_)
  · obtain ⟨p, n, es, _, _, _, _, rfl, _⟩ := h; rfl
  obtain ⟨p, ti, to, n, es, S, X, rfl, hw, hti, hto, hS, hX, hfree, hd, h28, hNT, q⟩ := h
  obtain ⟨dx, l, hp, hl, h1, h14, h30, hin⟩ := id hw
  have he := ed_in hin
  have hu : (A.deeper (envOfC "count_with" (defScope s_count_with) s.heap.objs.size f cdv)).units + 1 < cLine := by have := hr.units; omega
  have lS := sub_len hS
  have lX := sub_len hX
  have inv := MT.mk_inv (S.map (ed es))
  refine ⟨_, (pss_cons (ps_set (i := 3) sc_count_with.nd rfl (by first | exact Or.inl rfl | exact Or.inr rfl) (pe_def D_made_set hr (by decide) (by rfl) (pa_cons (pv 0) (pa_cons (pv 1) pa_nil))))
      (pss_cons (ps_set (i := 4) sc_count_with.nd rfl (by first | exact Or.inl rfl | exact Or.inr rfl) (pe_def D_made_set hr (by decide) (by rfl) (pa_cons (pv 0) (pa_cons (pv 2) pa_nil))))
      (pss_cons (ps_set (i := 5) sc_count_with.nd rfl (by first | exact Or.inl rfl | exact Or.inr rfl) (pe_def D_pieces_of hr (by decide) (by rfl) (pa_cons (pv 0) (pa_cons (pv 3) pa_nil))))
      (pss_cons (ps_if (PW.pt (pw_or (pt_cmpR op_ne (pe_callB (X := _) (r := rLenS K) len_seqK (by rfl) T.z_len PySem.boot_len (pa_cons (pv 3) pa_nil)) (pe_op op_sub (pe_fldK (K' := K) rfl (pv 0) (by rfl)) (pe_callB (X := _) (r := rLenS K) len_seqK (by rfl) T.z_len PySem.boot_len (pa_cons (pv 5) pa_nil))) (nomark _)) (pw_or1 (pt_val (pe_callB (cr_any rfl) (by rfl) T.z_any (by decide +kernel) (pa_cons (pe_lc  (own := [("tie", 11)]) (g := (gName 11)) rfl sc_count_with.nd (pi_tup (pv 3)) (blkOk_by (own := [("tie", 11)]) (N := ["web", "inside", "outside", "kept", "shut", "pieces", "place", "k", "piece", "one", "ties", "tie", "pair"]) (sc := defScope s_count_with) (by decide +kernel)) (fun _ _ _ _ _ => (pg_name (i := 11) sc_count_with.nd rfl (by first | exact Or.inl rfl | exact Or.inr rfl))) (fun _ _ _ _ _ => pts_nil) (fun _ _ _ _ _ => (pe_cmpR (r := rIn K false) op_in_seq (pv 11) (pv 4) (by with_unfolding_all rfl)))) pa_nil)))))) (pss_one (ps_ret pe_int)) pss_nil)
      (pss_cons (ps_set (i := 6) sc_count_with.nd rfl (by first | exact Or.inl rfl | exact Or.inr rfl) pe_dnewK)
      (pss_cons (ps_for PassesOwn.never rfl (pi_enum (by rfl) T.z_enumerate (pa_cons (pv 5) pa_nil)) (pg_tup rfl (pgs_cons (pg_name (i := 7) sc_count_with.nd rfl (by first | exact Or.inl rfl | exact Or.inr rfl)) (pgs_cons (pg_name (i := 8) sc_count_with.nd rfl (by first | exact Or.inl rfl | exact Or.inr rfl)) pgs_nil)))
        (pss_one (ps_for PassesOwn.never rfl (pi_list (pv 8)) (pg_name (i := 9) sc_count_with.nd rfl (by first | exact Or.inl rfl | exact Or.inr rfl))
          (pss_one (ps_dput hu (pv 6) (pv 9) (pv 7) rfl)))))
      (pss_cons (ps_setLc (i := 10)  (own := [("tie", 11), ("pair", 12)]) (g := (gTup K 2 (gCons (gName 11) (gCons (gName 12) gNil)))) rfl sc_count_with.nd rfl rfl (sw_true rfl rfl rfl (by decide +kernel)) (pi_enum (by rfl) T.z_enumerate (pa_cons (pe_fldK (K' := K) rfl (pv 0) (by rfl)) pa_nil)) (blkOk_by (own := [("tie", 11), ("pair", 12)]) (N := ["web", "inside", "outside", "kept", "shut", "pieces", "place", "k", "piece", "one", "ties", "tie", "pair"]) (sc := defScope s_count_with) (by decide +kernel)) (fun _ _ _ _ _ => (pg_tup rfl (pgs_cons (pg_name (i := 11) sc_count_with.nd rfl (by first | exact Or.inl rfl | exact Or.inr rfl)) (pgs_cons (pg_name (i := 12) sc_count_with.nd rfl (by first | exact Or.inl rfl | exact Or.inr rfl)) pgs_nil)))) (fun _ _ _ _ _ => (pts_one (pt_cmpR (r := rIn K true) op_notIn_seq (pv 11) (pv 4) (by with_unfolding_all rfl)))) (fun _ _ _ _ _ => (pe_tup (pa_cons (pe_dget hu (pv 6) (pe_ix (r := rIxT K) ix_tup (pv 12) pe_int (fun _ _ => rfl)) (fun _ _ => rfl)) (pa_cons (pe_dget hu (pv 6) (pe_ix (r := rIxT K) ix_tup (pv 12) pe_int (fun _ _ => rfl)) (fun _ _ => rfl)) pa_nil)))))
      (pss_one (ps_ret (pe_def D_determinant hr (by decide) (by rfl) (pa_cons (pe_def D_without_last hr (by decide) (by rfl) (pa_cons (pe_def D_pulls hr (by decide) (by rfl) (pa_cons (pe_callB (X := _) (r := rLenS K) len_seqK (by rfl) T.z_len PySem.boot_len (pa_cons (pv 5) pa_nil)) (pa_cons (pv 10) pa_nil))) pa_nil)) pa_nil))))))))))), ?_⟩
  refine ⟨_, rfl, _, rfl, p, ti, n, es, S, rfl, hw, hti, hS, fun H1 k1 e1 hk1 => ?_⟩
  have hto1 : H1 to = some (.tup (nI X)) ∨ H1 to = some (.lst (nI X)) := hto.elim (fun a => .inl (e1 _ _ a)) (fun a => .inr (e1 _ _ a))
  refine ⟨_, rfl, _, rfl, p, to, n, es, X, rfl, hw.mono e1, hto1, hX, fun H2 k2 e2 hk2 => ?_⟩
  refine ⟨_, rfl, _, rfl, p, k1, n, es, S, rfl, hw.mono (e1.trans e2), .inl (e2 _ _ hk1), hS, fun H3 r3 e3 hr3 => ?_⟩
  have e13 := (e1.trans e2).trans e3
  have hk13 := e3 _ _ (e2 _ _ hk1)
  have hk23 := e3 _ _ hk2
  obtain ⟨ps, p1, p2, p3⟩ := hr3.at
  have lp : ps.length = MT.pc n (MT.mk (S.map (ed es))) := by rw [p2]; unfold piecesL MT.pc; rw [List.length_map]
  have lp14 : ps.length ≤ n := by omega
  refine ⟨_, rfl, k1, _, rfl, .inr (st_of hk13), .ref p, rfl, p, CW, dx, _, _, rfl, e13 _ _ hp, T.cW, T.nW_places, wfs_places n l, _, rfl, r3, _, rfl, .inl (sq_of p1), _, _, rfl, rfl, rfl, _, rfl, neqF ?_ ?_⟩
  · congr 1
    rw [nI_len, List.length_map, lp]; omega
  -- any([..])
  refine ⟨_, rfl, k1, rfl, ⟨_, st_of hk13⟩, fun D nD => lc_fin (D := D) (walk_tup (xs := nI S)) (by rw [nI_len]; omega) (gm_name 11) (fun _ => true) (fun k y _ => y = .bl false) (fun _ _ _ _ _ h => h) nD (fun H2 e2 => st_of (e2 _ _ hk13)) ?_ ?_⟩
  · rintro j y Ha Hb hj ea _ ⟨rfl, hy⟩
    obtain ⟨v, hv, rfl⟩ := nI_got hy
    refine ⟨rfl, Ex.refl _, et_yes, fun _ => Ev.p ?_⟩
    refine ev_is (ev_op (ev_var rfl) (ev_var rfl) (rv_isT (st_of (ea _ _ hk23)) rfl (nI_flat _))) ?_
    rw [nI_in]
    congr 1
    exact decide_eq_false (hd v (List.mem_of_getElem? hv))
  intro ys H4 e4 hD hk
  have ey := kept_map (F := fun _ => .bl false) hk
  have ey' : ys = (List.replicate S.length false).map V.bl := by
    rw [ey, nI_len, List.map_replicate]
    exact List.eq_replicate_iff.mpr ⟨by simp, fun b hb => by obtain ⟨_, _, rfl⟩ := List.mem_map.mp hb; rfl⟩
  refine ⟨D, List.replicate S.length false, rfl, by rw [← ey']; exact sq_of hD, ⟨_, rfl, ?_⟩⟩
  rw [show (List.replicate S.length false).any id = false from List.any_eq_false.mpr fun b hb => by rw [List.eq_of_mem_replicate hb]; simp]
  refine iteF ?_
  intro pl npl
  have e5 := Ex.new (o := .dK []) npl
  have hr4 := e4 _ _ p1
  refine ⟨_, rfl, r3, _, rfl, sq_of (e5 _ _ hr4), for_it walk_enum (fun i σ' H' => ∃ (y7 y8 y9 : Option V) (kvs : List (Key × V)), σ' = [some (.ref p), some (.ref ti), some (.ref to), some (.ref k1), some (.ref k2), some (.ref r3), some (.ref pl), y7, y8, y9, none, none, none] ∧ Ex H4 H' ∧ H' pl = some (.dK kvs) ∧ kvs.length ≤ 14 * i ∧
      ∀ v, v < n → MT.idx n (MT.mk (S.map (ed es))) v < i → valV kvs (.inl (v : Int)) = some (.int (MT.idx n (MT.mk (S.map (ed es))) v : Int)))
    ⟨none, none, none, [], rfl, e5, upd_same, by simp, fun v _ h => by omega⟩ (fun i σ' H' _ ⟨_, _, _, _, _, e, _⟩ => sq_of (e _ _ hr4)) ?_ ?_⟩
  · rintro i x σ' Ha Hb hi ⟨y7, y8, y9, kvs, rfl, e, hkv, lkv, hval⟩ ⟨Tu, vi, vp, rfl, nTu, rfl, hvi, hvp⟩
    cases hvi
    obtain ⟨pa, hpa, rfl⟩ := ref_get hvp
    rw [List.length_map] at hi
    obtain ⟨row, hrow, hpc⟩ := p3 i pa hpa
    have e6 := e.trans (Ex.new (o := .tup [.int (i : Int), .ref pa]) nTu)
    refine ⟨Tu, _, rfl, st_of upd_same, rfl, _, _, rfl, _, _, rfl, rfl, ?_⟩
    obtain ⟨rr, hrr⟩ := some_of (l := MT.reps n (MT.mk (S.map (ed es)))) (i := i) (by unfold MT.pc at lp; omega)
    have erow : row = (List.range n).filter (fun v => MT.mk (S.map (ed es)) v == rr) := by
      unfold piecesL at hrow
      rw [List.getElem?_map, hrr] at hrow
      exact (Option.some.inj hrow).symm
    have lrow : row.length ≤ 14 := by
      have := List.length_filter_le (fun v => MT.mk (S.map (ed es)) v == rr) (List.range n)
      rw [← erow, List.length_range] at this; omega
    have hpa6 := e6 _ _ (e4 _ _ hpc)
    refine ⟨_, rfl, pa, rfl, ⟨_, sq_of hpa6⟩, for_list (K := K) (a := pa) (xs := nI row) (fun j σ' H' => ∃ (y9 : Option V) (kvs : List (Key × V)), σ' = [some (.ref p), some (.ref ti), some (.ref to), some (.ref k1), some (.ref k2), some (.ref r3), some (.ref pl), some (.int (i : Int)), some (.ref pa), y9, none, none, none] ∧ Ex H4 H' ∧ H' pl = some (.dK kvs) ∧ kvs.length ≤ 14 * i + j ∧
        ∀ v, v < n → (MT.idx n (MT.mk (S.map (ed es))) v < i ∨ v ∈ row.take j) → valV kvs (.inl (v : Int)) = some (.int (MT.idx n (MT.mk (S.map (ed es))) v : Int)))
      ⟨y9, kvs, rfl, e6, by rw [upd_ne (ne_of_none hkv nTu)]; exact hkv, by omega, fun v hv h => hval v hv (h.elim id fun z => by simp at z)⟩ (fun j σ' H' _ ⟨_, _, _, e, _⟩ => sq_of (e _ _ (e4 _ _ hpc))) ?_ ?_⟩
    · rintro j x σ' H' hx ⟨y9, kvs, rfl, e, hkv, lkv, hval⟩
      obtain ⟨z, hz, rfl⟩ := nI_got hx
      have hj : j < row.length := (List.getElem?_eq_some_iff.mp hz).1
      have lps : i < 14 := by omega
      refine ⟨_, rfl, _, rfl, _, rfl, pl, _, rfl, DPut.k (k := .inl (z : Int)) hkv (sz_lt (by omega)), ?_⟩
      refine ⟨_, _, rfl, Ex.mut e npl, upd_same, by have := putK_len (kvs := kvs) (k := .inl (z : Int)) (v := .int (i : Int)); omega, fun v hv h => ?_⟩
      have hzm : z ∈ row := List.mem_of_getElem? hz
      rw [erow, List.mem_filter, List.mem_range, beq_iff_eq] at hzm
      have hzi := (in_piece inv hrr hzm.1).mp hzm.2
      rw [valV_put]
      by_cases q : v = z
      · rw [if_pos (by rw [q]), q, hzi]
      · rw [if_neg (fun y => q (by have := Sum.inl.inj y; omega))]
        refine hval v hv (h.elim .inl fun y => ?_)
        rw [List.take_add_one, hz, List.mem_append] at y
        exact y.elim .inr fun y => absurd (by simpa using y) q
    · rintro σ' H' ⟨y9, kvs, rfl, e, hkv, lkv, hval⟩
      rw [nI_len, List.take_length] at hval
      rw [nI_len] at lkv
      refine ⟨_, _, _, kvs, rfl, e, hkv, by omega, fun v hv h => hval v hv ?_⟩
      by_cases q : MT.idx n (MT.mk (S.map (ed es))) v < i
      · exact .inl q
      · right
        rw [erow, List.mem_filter, List.mem_range, beq_iff_eq]
        exact ⟨hv, (in_piece inv hrr hv).mpr (by omega)⟩
  · rintro σ' H5 ⟨y7, y8, y9, kvs, rfl, e, hkv, lkv, hval⟩
    rw [List.length_map, lp] at hval
    have e15 := (e13.trans e4).trans e
    have hl5 := hl.mono e15
    obtain ⟨qs, l1, l2, l3⟩ := id hl5
    have ll : (qs.map V.ref).length = es.length := by rw [List.length_map, l2]
    have hk25 := e _ _ (e4 _ _ hk23)
    refine ⟨.ref p, rfl, p, CW, dx, _, _, rfl, e15 _ _ hp, T.cW, T.nW_ties, wfs_ties n l, l, _, rfl, sq_of l1, fun D2 nD2 => lc_fin (D := D2) (walk_enum (xs := qs.map V.ref)) (by omega) gm_two (fun t => decide (t ∉ X)) (fun t y H => IsT D2 [.int (MT.idx n (MT.mk (S.map (ed es))) (ed es t).1 : Int), .int (MT.idx n (MT.mk (S.map (ed es))) (ed es t).2 : Int)] y H)
      (fun _ _ _ _ e h => h.m e) nD2 (fun H2 e2 => sq_of (e2 _ _ l1)) ?_ ?_⟩
    · rintro j y Ha Hb hj ea ⟨zs, hz⟩ ⟨Tu, vi, vp, rfl, nTu, rfl, hvi, hvp⟩
      cases hvi
      obtain ⟨pa, hpa, rfl⟩ := ref_get hvp
      have hj' : j < es.length := by rw [← l2]; exact (List.getElem?_eq_some_iff.mp hpa).1
      have e6 := Ex.new (o := .tup [.int (j : Int), .ref pa]) nTu
      have eg : es[j]? = some (ed es j) := by
        unfold ed; rw [List.getD_eq_getElem?_getD, List.getElem?_eq_getElem hj']; rfl
      have hpe := e6 _ _ (ea _ _ (l3 j pa _ hpa eg))
      obtain ⟨i1, i2⟩ := he j hj'
      refine ⟨Tu, _, rfl, st_of upd_same, rfl, _, _, rfl, _, _, rfl, rfl, rfl, e6, ?_, fun _ Hc ec Q' q' => ?_⟩
      · refine et_test (ev_is (ev_op (ev_var rfl) (ev_var rfl) (rv_niT (st_of (e6 _ _ (ea _ _ hk25))) rfl (nI_flat _))) ?_)
        rw [nI_in]
        congr 1
        rw [Bool.eq_iff_iff]
        simp
      have hkvc := ec _ _ (e6 _ _ (ea _ _ hkv))
      have hpec := ec _ _ hpe
      refine ⟨_, rfl, _, rfl, pa, _, 0, _, rfl, rfl, st_of hpec, rfl, pl, _, rfl, dget_at hkvc (hval _ i1 (MT.idx_lt inv i1)), ?_⟩
      refine ⟨_, rfl, _, rfl, pa, _, 1, _, rfl, rfl, st_of hpec, rfl, pl, _, rfl, dget_at hkvc (hval _ i2 (MT.idx_lt inv i2)), ?_⟩
      refine ⟨sz (by simp), fun c nc => q' _ _ (Ex.new nc) ⟨c, rfl, (ne_of_none (ec _ _ (e6 _ _ hz)) nc).symm, upd_same⟩⟩
    · intro ys2 H6 e6 hD2 hk2
      have hPL := kept_PL (g := fun t => (MT.idx n (MT.mk (S.map (ed es))) (ed es t).1, MT.idx n (MT.mk (S.map (ed es))) (ed es t).2)) hD2 hk2
      rw [ll] at hPL
      have hPL' : PL H6 D2 (MT.pcs n es.length (ed es) S X) := hPL
      have r6 := e6 _ _ (e _ _ hr4)
      have hNT' := MT.pcs_NT he hS hd hfree
      have hp0 : 0 < MT.pc n (MT.mk (S.map (ed es))) := MT.pc_pos inv h1
      have inn := MT.pcs_in he S X
      have lpc := MT.pcs_len (n := n) (E := es.length) (ed := ed es) (K := S) (X := X)
      have hb := MT.bareiss (k := MT.pc n (MT.mk (S.map (ed es)))) (f := id) (es := MT.pcs n es.length (ed es) S X) hp0 (fun e he => by have := inn e he; simp [this]) (by rw [MT.tauf_id inn, hNT']; omega)
      rw [MT.tauf_id inn, hNT'] at hb
      refine ⟨_, rfl, r3, _, rfl, .inl (sq_of r6), _, rfl, D2, _, _, by rw [List.length_map, lp]; rfl, hPL', inn, by omega, by omega, fun H7 r7 e7 t7 => ?_⟩
      refine ⟨r7, _, _, rfl, t7, by omega, fun H8 r8 e8 t8 => ?_⟩
      exact ⟨r8, _, _, _, _, _, _, rfl, t8, by omega, hb, by omega, fun H9 e9 => q H9 (((e15.trans e6).trans e7).trans (e8.trans e9))⟩
end
end Sr
namespace Sr
open PySem PySem.Spec PyProof.Rows L2 Evl
def sfs (pw kt xt bt : Addr) (e size : Nat) : List (Str × V) := putF "size" (.int (size : Int)) (putF "lead" (.int (e : Int)) (putF "base" (.ref bt) (putF "shut" (.ref xt) (putF "kept" (.ref kt) (putF "web" (.ref pw) [])))))
section
variable (pw kt xt bt : Addr) (e size : Nat)
theorem sfs_size : (sfs pw kt xt bt e size).lookup ("size" : Str) = some (.int (size : Int)) := by
  unfold sfs; rw [lookup_putF, if_pos rfl]
theorem sfs_lead : (sfs pw kt xt bt e size).lookup ("lead" : Str) = some (.int (e : Int)) := by
  unfold sfs; rw [lookup_putF, if_neg (by decide +kernel), lookup_putF, if_pos rfl]
theorem sfs_base : (sfs pw kt xt bt e size).lookup ("base" : Str) = some (.ref bt) := by
  unfold sfs; rw [lookup_putF, if_neg (by decide +kernel), lookup_putF, if_neg (by decide +kernel), lookup_putF, if_pos rfl]
theorem sfs_shut : (sfs pw kt xt bt e size).lookup ("shut" : Str) = some (.ref xt) := by
  unfold sfs; rw [lookup_putF, if_neg (by decide +kernel), lookup_putF, if_neg (by decide +kernel), lookup_putF, if_neg (by decide +kernel), lookup_putF, if_pos rfl]
theorem sfs_kept : (sfs pw kt xt bt e size).lookup ("kept" : Str) = some (.ref kt) := by
  unfold sfs; rw [lookup_putF, if_neg (by decide +kernel), lookup_putF, if_neg (by decide +kernel), lookup_putF, if_neg (by decide +kernel), lookup_putF, if_neg (by decide +kernel), lookup_putF, if_pos rfl]
theorem sfs_web : (sfs pw kt xt bt e size).lookup ("web" : Str) = some (.ref pw) := by
  unfold sfs; rw [lookup_putF, if_neg (by decide +kernel), lookup_putF, if_neg (by decide +kernel), lookup_putF, if_neg (by decide +kernel), lookup_putF, if_neg (by decide +kernel), lookup_putF, if_neg (by decide +kernel), lookup_putF, if_pos rfl]
theorem sfs_none {m : Str} (h1 : ¬ m = "size") (h2 : ¬ m = "lead") (h3 : ¬ m = "base") (h4 : ¬ m = "shut") (h5 : ¬ m = "kept") (h6 : ¬ m = "web") : (sfs pw kt xt bt e size).lookup m = none := by
  unfold sfs; rw [lookup_putF, if_neg h1, lookup_putF, if_neg h2, lookup_putF, if_neg h3, lookup_putF, if_neg h4, lookup_putF, if_neg h5, lookup_putF, if_neg h6]; rfl
theorem sfs_n1 : (sfs pw kt xt bt e size).lookup ("piece_ends" : Str) = none := sfs_none _ _ _ _ _ _ (by decide +kernel) (by decide +kernel) (by decide +kernel) (by decide +kernel) (by decide +kernel) (by decide +kernel)
theorem sfs_n2 : (sfs pw kt xt bt e size).lookup ("loose_on_ring" : Str) = none := sfs_none _ _ _ _ _ _ (by decide +kernel) (by decide +kernel) (by decide +kernel) (by decide +kernel) (by decide +kernel) (by decide +kernel)
theorem sfs_n3 : (sfs pw kt xt bt e size).lookup ("next_lead" : Str) = none := sfs_none _ _ _ _ _ _ (by decide +kernel) (by decide +kernel) (by decide +kernel) (by decide +kernel) (by decide +kernel) (by decide +kernel)
theorem sfs_n4 : (sfs pw kt xt bt e size).lookup ("first_half" : Str) = none := sfs_none _ _ _ _ _ _ (by decide +kernel) (by decide +kernel) (by decide +kernel) (by decide +kernel) (by decide +kernel) (by decide +kernel)
theorem sfs_n5 : (sfs pw kt xt bt e size).lookup ("second_half" : Str) = none := sfs_none _ _ _ _ _ _ (by decide +kernel) (by decide +kernel) (by decide +kernel) (by decide +kernel) (by decide +kernel) (by decide +kernel)
theorem sfs_n6 : (sfs pw kt xt bt e size).lookup ("laid_out" : Str) = none := sfs_none _ _ _ _ _ _ (by decide +kernel) (by decide +kernel) (by decide +kernel) (by decide +kernel) (by decide +kernel) (by decide +kernel)
theorem sfs_n7 : (sfs pw kt xt bt e size).lookup ("between" : Str) = none := sfs_none _ _ _ _ _ _ (by decide +kernel) (by decide +kernel) (by decide +kernel) (by decide +kernel) (by decide +kernel) (by decide +kernel)
end
/-- a part of the row stands at p -/
def StrAt (CW CS : Addr) (H : Hp) (p pw : Addr) (n : Nat) (es : List (Nat × Nat)) (K X B : List Nat) (e : Nat) : Prop := ∃ dx kt xt bt, H p = some (.ins CS dx (sfs pw kt xt bt e (MT.NT n (ed es) es.length K X))) ∧ WebAt CW H pw n es ∧
  H kt = some (.tup (nI K)) ∧ H xt = some (.tup (nI X)) ∧ H bt = some (.tup (nI B)) ∧ MT.PartOk n (ed es) es.length K X B e ∧ es.length ≤ 28
theorem StrAt.mono {CW CS : Addr} {H H' : Hp} {p pw : Addr} {n : Nat} {es : List (Nat × Nat)} {K X B : List Nat} {e : Nat} (h : StrAt CW CS H p pw n es K X B e) (x : Ex H H') : StrAt CW CS H' p pw n es K X B e := by
  obtain ⟨dx, kt, xt, bt, a, b, c, d, f, g⟩ := h
  exact ⟨dx, kt, xt, bt, x _ _ a, b.mono x, x _ _ c, x _ _ d, x _ _ f, g⟩
/-- a list of trees, each a tuple -/
def TL (H : Hp) (l : Addr) (rows : List (List Nat)) : Prop := ∃ ps : List Addr, H l = some (.lst (ps.map V.ref)) ∧ ps.length = rows.length ∧ ∀ (i : Nat) (a : Addr) (r : List Nat), ps[i]? = some a → rows[i]? = some r → H a = some (.tup (nI r))
theorem TL.mono {H H' : Hp} {l : Addr} {rows : List (List Nat)} (h : TL H l rows) (e : Ex H H') : TL H' l rows := by
  obtain ⟨ps, a, b, c⟩ := h
  exact ⟨ps, e _ _ a, b, fun i x y p q => e _ _ (c i x y p q)⟩
theorem kept_TL {n : Nat} {g : Nat → List Nat} {ys : List V} {H : Hp} {D : Addr} (hD : H D = some (.lst ys)) (h : Kept n (fun _ => true) (fun k y H => IsT D (nI (g k)) y H) ys H) : TL H D ((List.range n).map g) := by
  obtain ⟨ps, rfl, h1, h2⟩ := kept_objs (o := fun k => .tup (nI (g k))) (ψ := fun _ p => p ≠ D) h
  refine ⟨ps, hD, by rw [h1]; simp, fun i a r ha hr => ?_⟩
  rw [(h2 i a ha).1]
  have hi : i < n := by rw [← h1]; exact (List.getElem?_eq_some_iff.mp ha).1
  rw [List.getElem?_map, List.getElem?_range hi] at hr
  rw [← Option.some.inj hr]
theorem putK_new {kvs : List (Key × V)} {k : Key} {v : V} (h : valV kvs k = none) : putK kvs k v = kvs ++ [(k, v)] := by
  unfold putK
  rw [valV_any, h]; rfl
theorem valV_no {kvs : List (Key × V)} {k : Key} (h : k ∉ kvs.map (·.1)) : valV kvs k = none := by
  cases e : valV kvs k with
  | none => rfl
  | some v => exact absurd (valV_in e) h
theorem pair_data {K : PySem.W.Frag} {H : Hp} {a : Addr} {i j : Int} (h : H a = some (.tup [.int i, .int j])) : Dp K H (.ref a) (.tuple [.int i, .int j]) := .tup (st_of h) (.cons (.int i) (.cons (.int j) .nil))
theorem pair_shaped (i j : Int) : SeqAt.shaped (.tuple [.int i, .int j]) = true := rfl
theorem pair_eqv (i j k l : Int) : PyData.eqv (.tuple [.int i, .int j]) (.tuple [.int k, .int l]) = decide (i = k ∧ j = l) := by
  rw [Bool.eq_iff_iff, decide_eq_true_eq]
  simp [PyData.eqv, PyData.eqvAll]
end Sr
namespace Sr
open PySem PySem.Spec PyProof.Rows L2 Evl
theorem ex_made {H H2 : Hp} {x dx : Addr} {o1 o2 : HO} (h1 : H x = none) (h2 : H dx = none) (e : ExB x (upd (upd H dx o1) x o2) H2) : Ex H H2 := fun b o hb => by
  have n1 : b ≠ x := ne_of_none hb h1
  have n2 : b ≠ dx := ne_of_none hb h2
  exact e b o n1 (by rw [upd_ne n1, upd_ne n2]; exact hb)
theorem putF_le {f : Str} {v : V} {n : Nat} : ∀ {fs : List (Str × V)}, fs.length ≤ n → (putF f v fs).length ≤ n + 1
  | [], _ => by simp [putF]
  | (g, x) :: r, h => by
    unfold putF
    split
    · simp at *; omega
    · have h' : r.length + 1 ≤ n := h
      have := putF_le (f := f) (v := v) (n := n - 1) (fs := r) (by omega)
      rw [List.length_cons]; omega
theorem pf1 {a : Str} {x : V} : (putF a x []).length < 1000 := Nat.lt_of_le_of_lt (putF_le (n := 0) (Nat.le_refl 0)) (by decide)
theorem pf2 {a b : Str} {x y : V} : (putF a x (putF b y [])).length < 1000 := Nat.lt_of_le_of_lt (putF_le (putF_le (n := 0) (Nat.le_refl 0))) (by decide)
theorem pf3 {a b c : Str} {x y z : V} : (putF a x (putF b y (putF c z []))).length < 1000 := Nat.lt_of_le_of_lt (putF_le (putF_le (putF_le (n := 0) (Nat.le_refl 0)))) (by decide)
theorem pf4 {a b c d : Str} {x y z u : V} : (putF a x (putF b y (putF c z (putF d u [])))).length < 1000 := Nat.lt_of_le_of_lt (putF_le (putF_le (putF_le (putF_le (n := 0) (Nat.le_refl 0))))) (by decide)
theorem pf5 {a b c d e : Str} {x y z u v : V} : (putF a x (putF b y (putF c z (putF d u (putF e v []))))).length < 1000 := Nat.lt_of_le_of_lt (putF_le (putF_le (putF_le (putF_le (putF_le (n := 0) (Nat.le_refl 0)))))) (by decide)
section
variable {P : Program} {w : World} {K : PySem.W.Frag} {mg : Str → Option Value} {base : Heap} {CW CS : Addr}
def spStrInit (CS : Addr) : Sp := fun vs H Q _ => ∃ (x dx pw kt xt bt : Addr) (e size : Nat), vs = [.ref x, .ref pw, .ref kt, .ref xt, .ref bt, .int (e : Int), .int (size : Int)] ∧ H x = some (.ins CS dx []) ∧
  ∀ H', ExB x H H' → H' x = some (.ins CS dx (sfs pw kt xt bt e size)) → Q .non H'
theorem d_strinit (T : Txt K mg CW CS) : IDef P w K mg base CS 1 ["self", "web", "kept", "shut", "base", "lead", "count"] (spStrInit CS) := by
  refine idef_by T.a_strinit sc_strinit (fun vs H Q E h => ?_) (fun f cdv A outer s H vs Q E hr h => ?_)
  · obtain ⟨p, n, es, _, _, _, _, _, rfl, _⟩ := h; rfl
  obtain ⟨x, dx, pw, kt, xt, bt, e, size, rfl, hx, q⟩ := h
  refine ⟨_, (pss_cons (ps_fld (pv 0) (pv 1) rfl)
      (pss_cons (ps_fld (pv 0) (pv 2) rfl)
      (pss_cons (ps_fld (pv 0) (pv 3) rfl)
      (pss_cons (ps_fld (pv 0) (pv 4) rfl)
      (pss_cons (ps_fld (pv 0) (pv 5) rfl)
      (pss_one (ps_fld (pv 0) (pv 6) rfl))))))), ?_⟩
  refine ⟨_, rfl, _, rfl, x, CS, dx, _, rfl, hx, T.cS, T.nS_web, by decide, ?_⟩
  refine ⟨_, rfl, _, rfl, x, CS, dx, _, rfl, upd_same, T.cS, T.nS_kept, pf1, ?_⟩
  refine ⟨_, rfl, _, rfl, x, CS, dx, _, rfl, upd_same, T.cS, T.nS_shut, pf2, ?_⟩
  refine ⟨_, rfl, _, rfl, x, CS, dx, _, rfl, upd_same, T.cS, T.nS_base, pf3, ?_⟩
  refine ⟨_, rfl, _, rfl, x, CS, dx, _, rfl, upd_same, T.cS, T.nS_lead, pf4, ?_⟩
  refine ⟨_, rfl, _, rfl, x, CS, dx, _, rfl, upd_same, T.cS, T.nS_size, pf5, ?_⟩
  exact q _ (((((ExB.upd.trans .upd).trans .upd).trans .upd).trans .upd).trans .upd) upd_same
def spWebInit (CW : Addr) : Sp := fun vs H Q _ => ∃ (x dx l : Addr) (n : Nat) (es : List (Nat × Nat)), vs = [.ref x, .int (n : Int), .ref l] ∧ H x = some (.ins CW dx []) ∧ PL H l es ∧ 1 ≤ n ∧ n ≤ 14 ∧ es.length ≤ 30 ∧ MT.InN n es ∧
  ∀ H' l', ExB x H H' → H' x = some (.ins CW dx (wfs n l')) → PL H' l' es → Q .non H'
theorem d_webinit (T : Txt K mg CW CS) : IDef P w K mg base CW 1 ["self", "places", "ties"] (spWebInit CW) := by
  obtain ⟨_, m_MOST_PLACES⟩ := T.g_MOST_PLACES
  obtain ⟨_, m_MOST_TIES⟩ := T.g_MOST_TIES
  refine idef_by T.a_webinit sc_webinit (fun vs H Q E h => ?_) (fun f cdv A outer s H vs Q E hr h => ?_)
  · obtain ⟨p, n, es, _, _, rfl, _⟩ := h; rfl
  obtain ⟨x, dx, l, n, es, rfl, hx, hl, h1, h14, h30, hin, q⟩ := h
  obtain ⟨ps, hl1, hl2, hl3⟩ := id hl
  have ll : (ps.map V.ref).length = es.length := by rw [List.length_map, hl2]
  refine ⟨_, (pss_cons (ps_if (PW.pt (pw_or (pt_not (pt_chain op_le op_le pe_int (pv 1) (pe_glob (v := .int 14) rfl m_MOST_PLACES ⟨_, rfl⟩))) (pw_or1 (pt_cmpR op_gt (pe_callB (X := _) (r := rLenS K) len_seqK (by rfl) T.z_len PySem.boot_len (pa_cons (pv 2) pa_nil)) (pe_glob (v := .int 30) rfl m_MOST_TIES ⟨_, rfl⟩) (nomark _))))) (pss_one ps_never) pss_nil)
      (pss_cons (ps_for PassesOwn.never rfl (pi_list (pv 2)) (pg_tup rfl (pgs_cons (pg_name (i := 3) sc_webinit.nd rfl (by first | exact Or.inl rfl | exact Or.inr rfl)) (pgs_cons (pg_name (i := 4) sc_webinit.nd rfl (by first | exact Or.inl rfl | exact Or.inr rfl)) pgs_nil)))
        (pss_one (ps_if (PW.pt (pw_or (pt_not (pt_chain op_le op_lt pe_int (pv 3) (pv 1))) (pw_or1 (pt_not (pt_chain op_le op_lt pe_int (pv 4) (pv 1)))))) (pss_one ps_never) pss_nil)))
      (pss_cons (ps_fld (pv 0) (pv 1) rfl)
      (pss_one (ps_fld (pv 0) (pe_callTy (r := rListOf K) list_ofK (by rfl) T.z_list boot_list (pa_cons (pv 2) pa_nil)) rfl))))), ?_⟩
  refine ⟨_, rfl, _, _, rfl, rfl, _, rfl, ifT (by omega) ⟨_, _, rfl, rfl, _, rfl, ifN (by omega) ?_⟩⟩
  refine ⟨_, rfl, l, _, rfl, .inl (sq_of hl1), _, _, rfl, rfl, _, rfl, ifF (by omega) ?_⟩
  refine ⟨_, rfl, l, rfl, ⟨_, sq_of hl1⟩, for_list (K := K) (a := l) (xs := ps.map V.ref) (fun i σ' H' => ∃ (y3 y4 : Option V), σ' = [some (.ref x), some (.int (n : Int)), some (.ref l), y3, y4] ∧ H' = H) ⟨none, none, rfl, rfl⟩ (fun i σ' H' _ ⟨_, _, _, e⟩ => e ▸ sq_of hl1) ?_ ?_⟩
  · rintro i z σ' H' hz ⟨y3, y4, rfl, rfl⟩
    obtain ⟨a, ha, rfl⟩ := ref_get hz
    have hi : i < es.length := by rw [← hl2]; exact (List.getElem?_eq_some_iff.mp ha).1
    obtain ⟨e, he⟩ := some_of hi
    have hea := hl3 i a e ha he
    obtain ⟨b1, b2⟩ := hin e (List.mem_of_getElem? he)
    refine ⟨a, _, rfl, st_of hea, rfl, _, _, rfl, _, _, rfl, rfl, ?_⟩
    refine ⟨_, rfl, _, _, rfl, rfl, _, rfl, ifT (by omega) ⟨_, rfl, _, _, rfl, rfl, _, rfl, ifN (by omega) ?_⟩⟩
    refine ⟨_, rfl, _, _, rfl, rfl, _, rfl, ifT (by omega) ⟨_, rfl, _, _, rfl, rfl, _, rfl, ifN (by omega) ?_⟩⟩
    exact ⟨_, _, rfl, rfl⟩
  · rintro σ' H' ⟨y3, y4, rfl, rfl⟩
    refine ⟨_, rfl, _, rfl, x, CW, dx, _, rfl, hx, T.cW, T.nW_places, by decide, ?_⟩
    have nl : l ≠ x := fun z => by rw [z, hx] at hl1; cases hl1
    refine ⟨_, rfl, l, _, rfl, .inl (sq_of (by rw [upd_ne nl]; exact hl1)), fun l' nl' => ?_⟩
    have nx : x ≠ l' := fun z => by rw [← z, upd_same] at nl'; cases nl'
    refine ⟨_, rfl, x, CW, dx, _, rfl, by rw [upd_ne nx]; exact upd_same, T.cW, T.nW_ties, pf1, ?_⟩
    have eb : ExB x H' (upd (upd (upd H' x (.ins CW dx (putF "places" (.int (n : Int)) []))) l' (.lst (ps.map V.ref))) x (.ins CW dx (putF "ties" (.ref l') (putF "places" (.int (n : Int)) [])))) := (ExB.upd.trans (exB (Ex.new nl'))).trans .upd
    refine q _ l' eb upd_same ⟨ps, by rw [upd_ne nx.symm, upd_same], hl2, fun i a e ha he => eb _ _ (fun z => ?_) (hl3 i a e ha he)⟩
    have := hl3 i a e ha he
    rw [z, hx] at this
    cases this
def spSwapped : Sp := fun vs H Q _ => ∃ (t : Addr) (E : Nat) (B : List Nat) (g e : Nat), vs = [.ref t, .int (g : Int), .int (e : Int)] ∧ H t = some (.tup (nI B)) ∧ B ∈ MT.subs (List.range E) ∧ E ≤ 30 ∧ e < E ∧ e ∉ B ∧
  ∀ H' r, Ex H H' → H' r = some (.tup (nI (MT.swp E B g e))) → Q (.ref r) H'
theorem d_swapped (T : Txt K mg CW CS) : Def P w K mg base "swapped" 1 ["tree", "out", "into"] spSwapped := by
  refine def_by T.a_swapped sc_swapped (fun vs H Q E h => ?_) (fun f cdv A outer s H vs Q E hr h => ?_)
  · obtain ⟨p, n, es, _, _, rfl, _⟩ := h; rfl
  obtain ⟨t, E', B, g, e, rfl, ht, hB, hE, he, heB, q⟩ := h
  have lB := sub_len hB
  refine ⟨_, (pss_one (ps_ret (pe_callTy call_tuple_of (by rfl) T.z_tuple boot_tuple (pa_cons (pe_callB cr_sorted (by rfl) T.z_sorted (by decide +kernel) (pa_cons (pe_op op_cat (pe_lc  (own := [("tie", 3)]) (g := (gName 3)) rfl sc_swapped.nd (pi_tup (pv 0)) (blkOk_by (own := [("tie", 3)]) (N := ["tree", "out", "into", "tie"]) (sc := defScope s_swapped) (by decide +kernel)) (fun _ _ _ _ _ => (pg_name (i := 3) sc_swapped.nd rfl (by first | exact Or.inl rfl | exact Or.inr rfl))) (fun _ _ _ _ _ => (pts_one (pt_cmpR op_ne (pv 3) (pv 1) (nomark _)))) (fun _ _ _ _ _ => (pv 3))) (pe_lst (pa_cons (pv 2) pa_nil))) pa_nil)) pa_nil)))), ?_⟩
  refine ⟨_, rfl, t, rfl, ⟨_, st_of ht⟩, fun D nD => lc_fin (D := D) (walk_tup (xs := nI B)) (by rw [nI_len]; omega) (gm_name 3) (fun k => decide (B.getD k 0 ≠ g)) (fun k y _ => y = .int ((B.getD k 0 : Nat) : Int)) (fun _ _ _ _ _ h => h) nD (fun H2 e2 => st_of (e2 _ _ ht)) ?_ ?_⟩
  · rintro j y Ha Hb hj ea _ ⟨rfl, hy⟩
    obtain ⟨v, hv, rfl⟩ := nI_got hy
    have ev : B.getD j 0 = v := by rw [List.getD_eq_getElem?_getD, hv]; rfl
    rw [ev]
    refine ⟨rfl, Ex.refl _, et_test (ev_is (ev_op (ev_var rfl) (ev_var rfl) (rv_ne rfl)) ?_), fun _ => Ev.p (ev_var rfl)⟩
    congr 1
    rw [Bool.eq_iff_iff]
    simp only [Bool.not_eq_true', decide_eq_false_iff_not, decide_eq_true_eq, ne_eq, int_eq]
  · intro ys H2 e2 hD hk
    have e' := kept_intsF (g := fun k => B.getD k 0) hk
    rw [nI_len, filter_range B 0 (fun x => decide (x ≠ g)) (fun x => x), List.map_id'] at e'
    have e'' : ys = nI (MT.rem B g) := e'
    rw [e''] at hD
    have lr : (MT.rem B g).length ≤ B.length := List.length_filter_le _ _
    refine ⟨_, rfl, sz (by simp), fun zl nzl => ⟨D, zl, _, _, rfl, rfl, (Ex.new nzl) _ _ hD, upd_same, sz (by rw [nI_len]; simp; omega), fun cl ncl => ?_⟩⟩
    have ens : nI (MT.rem B g) ++ [V.int (e : Int)] = ((MT.rem B g ++ [e]).map (fun (x : Nat) => (x : Int))).map V.int := by rw [← nI_int, nI_app]; rfl
    refine ⟨cl, (MT.rem B g ++ [e]).map (fun (x : Nat) => (x : Int)), rfl, by rw [← ens]; exact sq_of upd_same, by simp; omega, fun ns' p' hperm hs np => ?_⟩
    have er := sorted_nat hperm hs (List.nodup_append.mpr ⟨List.Nodup.sublist List.filter_sublist (MT.sub_nd hB), by simp, fun a ha b hb z => by
      rw [List.mem_singleton] at hb
      exact heB (hb ▸ z ▸ (MT.mem_rem.mp ha).1)⟩) (asc_of (MT.swp_subs (E := E') (B := B) (f := g) (e := e))) (fun n => by
      rw [MT.mem_swp hB he, List.mem_append, MT.mem_rem, List.mem_singleton])
    rw [er]
    refine ⟨p', _, rfl, .inl ⟨sq_of upd_same, fun r nr => ?_⟩⟩
    exact q _ r ((((e2.trans (Ex.new nzl)).trans (Ex.new ncl)).trans (Ex.new np)).trans (Ex.new nr)) upd_same
def spOpen (CW : Addr) : Sp := fun vs H Q _ => ∃ (p t : Addr) (n : Nat) (es : List (Nat × Nat)) (B : List Nat), vs = [.ref p, .ref t] ∧ WebAt CW H p n es ∧ H t = some (.tup (nI B)) ∧ (∃ t, t < es.length ∧ t ∉ B ∧ (ed es t).1 ≠ (ed es t).2) ∧
  ∀ H' t, Ex H H' → t < es.length → t ∉ B → (ed es t).1 ≠ (ed es t).2 → Q (.int (t : Int)) H'
theorem d_least_open (T : Txt K mg CW CS) : Def P w K mg base "least_open" 1 ["web", "base"] (spOpen CW) := by
  refine def_by T.a_least_open sc_least_open (fun vs H Q E h => ?_) (fun f cdv A outer s H vs Q E hr h => ?_)
  · obtain ⟨p, n, es, _, _, rfl, _⟩ := h; rfl
  obtain ⟨p, t, n, es, B, rfl, hw, ht, ⟨t0, a1, a2, a3⟩, q⟩ := h
  obtain ⟨dx, l, hp, hl, h1, h14, h30, hin⟩ := id hw
  obtain ⟨ps, hl1, hl2, hl3⟩ := id hl
  have ll : (ps.map V.ref).length = es.length := by rw [List.length_map, hl2]
  refine ⟨_, (pss_cons (ps_for PassesOwn.never rfl (pi_enum (by rfl) T.z_enumerate (pa_cons (pe_fldK (K' := K) rfl (pv 0) (by rfl)) pa_nil)) (pg_tup rfl (pgs_cons (pg_name (i := 2) sc_least_open.nd rfl (by first | exact Or.inl rfl | exact Or.inr rfl)) (pgs_cons (pg_name (i := 3) sc_least_open.nd rfl (by first | exact Or.inl rfl | exact Or.inr rfl)) pgs_nil)))
        (pss_one (ps_if (PW.pt (pw_and (pt_cmpR (r := rIn K true) op_notIn_seq (pv 2) (pv 1) (by with_unfolding_all rfl)) (pw_and1 (pt_cmpR op_ne (pe_ix (r := rIxT K) ix_tup (pv 3) pe_int (fun _ _ => rfl)) (pe_ix (r := rIxT K) ix_tup (pv 3) pe_int (fun _ _ => rfl)) (nomark _))))) (pss_one (ps_ret (pv 2))) pss_nil)))
      (pss_one (ps_ret pe_non))), ?_⟩
  refine ⟨.ref p, rfl, p, CW, dx, _, _, rfl, hp, T.cW, T.nW_ties, wfs_ties n l, l, _, rfl, sq_of hl1, for_it walk_enum (fun i σ' H' => ∃ (y2 y3 : Option V), σ' = [some (.ref p), some (.ref t), y2, y3] ∧ Ex H H' ∧ ∀ j, j < i → ¬ (j ∉ B ∧ (ed es j).1 ≠ (ed es j).2))
    ⟨none, none, rfl, Ex.refl _, fun j hj => by omega⟩ (fun i σ' H' _ ⟨_, _, _, e, _⟩ => sq_of (e _ _ hl1)) ?_ ?_⟩
  · rintro i x σ' Ha Hb hi ⟨y2, y3, rfl, e, hno⟩ ⟨Tu, vi, vp, rfl, nTu, rfl, hvi, hvp⟩
    cases hvi
    obtain ⟨pa, hpa, rfl⟩ := ref_get hvp
    have hi' : i < es.length := by omega
    have e6 := e.trans (Ex.new (o := .tup [.int (i : Int), .ref pa]) nTu)
    have eg : es[i]? = some (ed es i) := by
      unfold ed; rw [List.getD_eq_getElem?_getD, List.getElem?_eq_getElem hi']; rfl
    have hpe := e6 _ _ (hl3 i pa _ hpa eg)
    refine ⟨Tu, _, rfl, st_of upd_same, rfl, _, _, rfl, _, _, rfl, rfl, ?_⟩
    refine ⟨_, rfl, _, rfl, t, _, rfl, .inr (st_of (e6 _ _ ht)), rfl, nI_flat _, _, rfl, ?_⟩
    by_cases hB : i ∈ B
    · refine niF hB (iteF ⟨_, _, rfl, e6, fun j hj => ?_⟩)
      by_cases z : j < i
      · exact hno j z
      · rw [show j = i by omega]; exact fun y => y.1 hB
    refine niT hB ?_
    refine ⟨_, rfl, pa, _, 0, _, rfl, rfl, st_of hpe, rfl, _, rfl, pa, _, 1, _, rfl, rfl, st_of hpe, rfl, rfl, _, rfl, ?_⟩
    by_cases hq : (ed es i).1 = (ed es i).2
    · refine neqF (by rw [hq]) ⟨_, _, rfl, e6, fun j hj => ?_⟩
      by_cases z : j < i
      · exact hno j z
      · rw [show j = i by omega]; exact fun y => y.2 hq
    · refine neqT (int_ne hq) ⟨_, rfl, q _ i e6 hi' hB hq⟩
  · rintro σ' H' ⟨y2, y3, rfl, e, hno⟩
    rw [ll] at hno
    exact absurd ⟨a2, a3⟩ (hno t0 a1)
def spLoose (CW CS : Addr) : Sp := fun vs H Q _ => ∃ (p pw : Addr) (n : Nat) (es : List (Nat × Nat)) (S X B : List Nat) (e : Nat), vs = [.ref p] ∧ StrAt CW CS H p pw n es S X B e ∧
  ∀ H' r L, Ex H H' → H' r = some (.lst (nI L)) → L.length ≤ 30 → (∀ g, g ∈ L ↔ MT.Loose (ed es) S B e g) → Q (.ref r) H'
theorem d_loose (T : Txt K mg CW CS) : MDef P w K mg base CS "loose_on_ring" 5 ["self"] (spLoose CW CS) := by
  have D_ring_of : Def P w K mg base "ring_of" 4 ["web", "tree", "tie"] (spRing CW) := d_ring_of T
  refine mdef_by T.a_st_loose_on_ring sc_st_loose_on_ring (fun vs H Q E h => ?_) (fun f cdv A outer s H vs Q E hr h => ?_)
  · obtain ⟨p, n, es, _, _, _, _, _, rfl, _⟩ := h; rfl
  obtain ⟨p, pw, n, es, S, X, B, e, rfl, hst, q⟩ := h
  obtain ⟨dx, kt, xt, bt, hp, hw, hkt, hxt, hbt, hok, h28⟩ := id hst
  refine ⟨_, (pss_cons (ps_set (i := 1) sc_st_loose_on_ring.nd rfl (by first | exact Or.inl rfl | exact Or.inr rfl) (pe_def D_ring_of hr (by decide) (by rfl) (pa_cons (pe_fldK (K' := K) rfl (pv 0) (by rfl)) (pa_cons (pe_fldK (K' := K) rfl (pv 0) (by rfl)) (pa_cons (pe_fldK (K' := K) rfl (pv 0) (by rfl)) pa_nil)))))
      (pss_one (ps_ret (pe_lc  (own := [("tie", 2)]) (g := (gName 2)) rfl sc_st_loose_on_ring.nd (pi_tup (pv 1)) (blkOk_by (own := [("tie", 2)]) (N := ["self", "ring", "tie"]) (sc := defScope s_st_loose_on_ring) (by decide +kernel)) (fun _ _ _ _ _ => (pg_name (i := 2) sc_st_loose_on_ring.nd rfl (by first | exact Or.inl rfl | exact Or.inr rfl))) (fun _ _ _ _ _ => (pts_one (PW.pt (pw_and (pt_cmpR op_ne (pv 2) (pe_fldK (K' := K) rfl (pv 0) (by rfl)) (nomark _)) (pw_and1 (pt_cmpR (r := rIn K true) op_notIn_seq (pv 2) (pe_fldK (K' := K) rfl (pv 0) (by rfl)) (by with_unfolding_all rfl))))))) (fun _ _ _ _ _ => (pv 2)))))), ?_⟩
  refine ⟨.ref p, rfl, p, CS, dx, _, _, rfl, hp, T.cS, T.nS_web, sfs_web .., .ref p, rfl, p, CS, dx, _, _, rfl, hp, T.cS, T.nS_base, sfs_base .., .ref p, rfl, p, CS, dx, _, _, rfl, hp, T.cS, T.nS_lead, sfs_lead .., ?_⟩
  refine ⟨pw, bt, n, es, B, e, rfl, hw, hbt, hok.tree, hok.lt, hok.nb, fun H1 r R e1 h1 hR => ?_⟩
  obtain ⟨ascR, memR⟩ := hR
  have lR : R.length ≤ 30 := by
    have : R ∈ MT.subs (List.range es.length) := sub_pair ascR fun t ht => by
      rcases (memR t).mp ht with z | z
      · rw [z]; exact hok.lt
      · exact MT.sub_lt hok.tree.sub z.1
    have := sub_len this
    omega
  refine ⟨_, rfl, r, rfl, ⟨_, st_of h1⟩, fun D nD => lc_fin (D := D) (walk_tup (xs := nI R)) (by rw [nI_len]; omega) (gm_name 2) (fun k => decide (R.getD k 0 ≠ e) && decide (R.getD k 0 ∉ S)) (fun k y _ => y = .int ((R.getD k 0 : Nat) : Int)) (fun _ _ _ _ _ h => h) nD (fun H2 e2 => st_of (e2 _ _ h1)) ?_ ?_⟩
  · rintro j y Ha Hb hj ea _ ⟨rfl, hy⟩
    obtain ⟨v, hv, rfl⟩ := nI_got hy
    have ev : R.getD j 0 = v := by rw [List.getD_eq_getElem?_getD, hv]; rfl
    rw [ev]
    have hpb := ea _ _ (e1 _ _ hp)
    refine ⟨rfl, Ex.refl _, et_and (et_test (ev_is (ev_op (ev_var rfl) (ev_fld (ev_var rfl) hpb T.cS T.nS_lead (sfs_lead ..)) (rv_ne rfl)) ?_)) (fun _ => et_test (ev_is (ev_op (ev_var rfl) (ev_fld (ev_var rfl) hpb T.cS T.nS_kept (sfs_kept ..)) (rv_niT (st_of (ea _ _ (e1 _ _ hkt))) rfl (nI_flat _))) ?_)), fun _ => Ev.p (ev_var rfl)⟩
    · congr 1
      rw [Bool.eq_iff_iff]
      simp only [Bool.not_eq_true', decide_eq_false_iff_not, decide_eq_true_eq, ne_eq, int_eq]
    · rw [nI_in]
      congr 1
      rw [Bool.eq_iff_iff]
      simp
  · intro ys H2 e2 hD hk
    have e' := kept_intsF (g := fun k => R.getD k 0) hk
    rw [nI_len, filter_range R 0 (fun x => decide (x ≠ e) && decide (x ∉ S)) (fun x => x), List.map_id'] at e'
    rw [e'] at hD
    refine q H2 D _ (e1.trans e2) hD (by have := List.length_filter_le (fun x => decide (x ≠ e) && decide (x ∉ S)) R; omega) fun g => ?_
    rw [List.mem_filter, memR, Bool.and_eq_true, decide_eq_true_eq, decide_eq_true_eq]
    unfold MT.Loose
    constructor
    · rintro ⟨z | z, a, b⟩
      · exact absurd z a
      · exact ⟨z.1, b, z.2⟩
    · rintro ⟨a, b, c⟩
      exact ⟨.inr ⟨a, c⟩, fun z => hok.nb (z ▸ a), b⟩
end
end Sr
namespace Sr
open PySem PySem.Spec PyProof.Rows L2 Evl
section
variable {P : Program} {w : World} {K : PySem.W.Frag} {mg : Str → Option Value} {base : Heap} {CW CS : Addr}
/-- the pieces of a tie's ends, as they stand in a tuple -/
def lo (n : Nat) (es : List (Nat × Nat)) (S : List Nat) (t : Nat) : Nat := min (MT.idx n (MT.mk (S.map (ed es))) (ed es t).1) (MT.idx n (MT.mk (S.map (ed es))) (ed es t).2)
def hi (n : Nat) (es : List (Nat × Nat)) (S : List Nat) (t : Nat) : Nat := max (MT.idx n (MT.mk (S.map (ed es))) (ed es t).1) (MT.idx n (MT.mk (S.map (ed es))) (ed es t).2)
def EndsAt (H : Hp) (r : Addr) (n : Nat) (es : List (Nat × Nat)) (S L : List Nat) : Prop := ∃ kvs : List (Key × V), H r = some (.dK kvs) ∧ kvs.map (·.1) = (L.map fun (t : Nat) => (t : Int)).map Sum.inl ∧
  ∀ t ∈ L, ∃ a, valV kvs (.inl (t : Int)) = some (.ref a) ∧ H a = some (.tup [.int (lo n es S t : Int), .int (hi n es S t : Int)])
theorem EndsAt.mono {H H' : Hp} {r : Addr} {n : Nat} {es : List (Nat × Nat)} {S L : List Nat} (h : EndsAt H r n es S L) (e : Ex H H') : EndsAt H' r n es S L := by
  obtain ⟨kvs, a, b, c⟩ := h
  exact ⟨kvs, e _ _ a, b, fun t ht => by obtain ⟨x, y, z⟩ := c t ht; exact ⟨x, y, e _ _ z⟩⟩
def spEnds (CW CS : Addr) : Sp := fun vs H Q _ => ∃ (p pw : Addr) (n : Nat) (es : List (Nat × Nat)) (S X B : List Nat) (e : Nat), vs = [.ref p] ∧ StrAt CW CS H p pw n es S X B e ∧
  ∀ H' r, Ex H H' → EndsAt H' r n es S (MT.opens es.length (ed es) S X B) → Q (.ref r) H'
theorem d_ends (T : Txt K mg CW CS) : MDef P w K mg base CS "piece_ends" 5 ["self"] (spEnds CW CS) := by
  have D_pieces_of : Def P w K mg base "pieces_of" 2 ["web", "ties"] (spPieces CW) := d_pieces_of T
  refine mdef_by T.a_st_piece_ends sc_st_piece_ends (fun vs H Q E h => ?_) (fun f cdv A outer s H vs Q E hr h => ?_)
  · obtain ⟨p, n, es, _, _, _, _, _, rfl, _⟩ := h; rfl
  obtain ⟨p, pw, n, es, S, X, B, e0, rfl, hst, q⟩ := h
  obtain ⟨dx, kt, xt, bt, hp, hw, hkt, hxt, hbt, hok, h28⟩ := id hst
  obtain ⟨dw, l, hpw, hl, h1, h14, h30, hin⟩ := id hw
  have he := ed_in hin
  have hu : (A.deeper (envOfC "Stretch.piece_ends" (defScope s_st_piece_ends) s.heap.objs.size f cdv)).units + 1 < cLine := by have := hr.units; omega
  have inv := MT.mk_inv (S.map (ed es))
  have hfree := hok.free he
  refine ⟨_, (pss_cons (ps_set (i := 1) sc_st_piece_ends.nd rfl (by first | exact Or.inl rfl | exact Or.inr rfl) pe_dnewK)
      (pss_cons (ps_for PassesOwn.never rfl (pi_enum (by rfl) T.z_enumerate (pa_cons (pe_def D_pieces_of hr (by decide) (by rfl) (pa_cons (pe_fldK (K' := K) rfl (pv 0) (by rfl)) (pa_cons (pe_fldK (K' := K) rfl (pv 0) (by rfl)) pa_nil))) pa_nil)) (pg_tup rfl (pgs_cons (pg_name (i := 2) sc_st_piece_ends.nd rfl (by first | exact Or.inl rfl | exact Or.inr rfl)) (pgs_cons (pg_name (i := 3) sc_st_piece_ends.nd rfl (by first | exact Or.inl rfl | exact Or.inr rfl)) pgs_nil)))
        (pss_one (ps_for PassesOwn.never rfl (pi_list (pv 3)) (pg_name (i := 4) sc_st_piece_ends.nd rfl (by first | exact Or.inl rfl | exact Or.inr rfl))
          (pss_one (ps_dput hu (pv 1) (pv 4) (pv 2) rfl)))))
      (pss_cons (ps_set (i := 5) sc_st_piece_ends.nd rfl (by first | exact Or.inl rfl | exact Or.inr rfl) pe_dnewK)
      (pss_cons (ps_for PassesOwn.never rfl (pi_enum (by rfl) T.z_enumerate (pa_cons (pe_fldK (K' := K) rfl (pe_fldK (K' := K) rfl (pv 0) (by rfl)) (by rfl)) pa_nil)) (pg_tup rfl (pgs_cons (pg_name (i := 6) sc_st_piece_ends.nd rfl (by first | exact Or.inl rfl | exact Or.inr rfl)) (pgs_cons (pg_name (i := 7) sc_st_piece_ends.nd rfl (by first | exact Or.inl rfl | exact Or.inr rfl)) pgs_nil)))
        (pss_one (ps_if (PW.pt (pw_and (pt_cmpR (r := rIn K true) op_notIn_seq (pv 6) (pe_fldK (K' := K) rfl (pv 0) (by rfl)) (by with_unfolding_all rfl)) (pw_and (pt_cmpR (r := rIn K true) op_notIn_seq (pv 6) (pe_fldK (K' := K) rfl (pv 0) (by rfl)) (by with_unfolding_all rfl)) (pw_and1 (pt_cmpR (r := rIn K true) op_notIn_seq (pv 6) (pe_fldK (K' := K) rfl (pv 0) (by rfl)) (by with_unfolding_all rfl)))))) (pss_cons (ps_set (i := 8) sc_st_piece_ends.nd rfl (by first | exact Or.inl rfl | exact Or.inr rfl) (pe_dget hu (pv 1) (pe_ix (r := rIxT K) ix_tup (pv 7) pe_int (fun _ _ => rfl)) (fun _ _ => rfl)))
          (pss_cons (ps_set (i := 9) sc_st_piece_ends.nd rfl (by first | exact Or.inl rfl | exact Or.inr rfl) (pe_dget hu (pv 1) (pe_ix (r := rIxT K) ix_tup (pv 7) pe_int (fun _ _ => rfl)) (fun _ _ => rfl)))
          (pss_one (ps_if (pt_cmpR op_ne (pv 8) (pv 9) (nomark _)) (pss_one (ps_dput hu (pv 5) (pv 6) (pe_tup (pa_cons (pe_callB (call_min2 rfl) (by rfl) T.z_min (by decide +kernel) (pa_cons (pv 8) (pa_cons (pv 9) pa_nil))) (pa_cons (pe_callB (call_max2 rfl) (by rfl) T.z_max (by decide +kernel) (pa_cons (pv 8) (pa_cons (pv 9) pa_nil))) pa_nil))) rfl)) pss_nil)))) pss_nil)))
      (pss_one (ps_ret (pv 5))))))), ?_⟩
  intro pl npl
  have e1 := Ex.new (o := .dK []) npl
  refine ⟨.ref p, rfl, p, CS, dx, _, _, rfl, e1 _ _ hp, T.cS, T.nS_web, sfs_web .., .ref p, rfl, p, CS, dx, _, _, rfl, e1 _ _ hp, T.cS, T.nS_kept, sfs_kept .., ?_⟩
  refine ⟨pw, kt, n, es, S, rfl, hw.mono e1, .inl (e1 _ _ hkt), hok.k, fun H3 r3 e3 hr3 => ?_⟩
  have e13 := e1.trans e3
  obtain ⟨ps, p1, p2, p3⟩ := hr3.at
  have lp : ps.length = MT.pc n (MT.mk (S.map (ed es))) := by rw [p2]; unfold piecesL MT.pc; rw [List.length_map]
  have lp14 : ps.length ≤ n := by omega
  refine ⟨r3, _, rfl, sq_of p1, for_it walk_enum (fun i σ' H' => ∃ (y7 y8 y9 : Option V) (kvs : List (Key × V)), σ' = [some (.ref p), some (.ref pl), y7, y8, y9, none, none, none, none, none] ∧ Ex H H' ∧ H' r3 = some (.lst (ps.map V.ref)) ∧ r3 ≠ pl ∧ (∀ (u : Nat) (a : Addr), ps[u]? = some a → ∃ r, (piecesL n (MT.mk (S.map (ed es))))[u]? = some r ∧ a ≠ pl ∧ H' a = some (.lst (nI r))) ∧ H' pl = some (.dK kvs) ∧ kvs.length ≤ 14 * i ∧
      ∀ v, v < n → MT.idx n (MT.mk (S.map (ed es))) v < i → valV kvs (.inl (v : Int)) = some (.int (MT.idx n (MT.mk (S.map (ed es))) v : Int)))
    ⟨none, none, none, [], rfl, e13, p1, (fun z => by rw [z, e3 _ _ upd_same] at p1; cases p1), fun i a ha => ?_, e3 _ _ upd_same, by simp, fun v _ h => by omega⟩ (fun i σ' H' _ ⟨_, _, _, _, _, e, h, _⟩ => sq_of h) ?_ ?_⟩
  · obtain ⟨r, a1, a2⟩ := p3 i a ha
    exact ⟨r, a1, (fun z => by rw [z, e3 _ _ upd_same] at a2; cases a2), a2⟩
  · rintro i x σ' Ha Hb hi ⟨y7, y8, y9, kvs, rfl, e, hr3', nr3, hpcs, hkv, lkv, hval⟩ ⟨Tu, vi, vp, rfl, nTu, rfl, hvi, hvp⟩
    cases hvi
    obtain ⟨pa, hpa, rfl⟩ := ref_get hvp
    rw [List.length_map] at hi
    obtain ⟨row, hrow, npa, hpc⟩ := hpcs i pa hpa
    have eT := Ex.new (o := .tup [.int (i : Int), .ref pa]) nTu
    have e6 := e.trans eT
    refine ⟨Tu, _, rfl, st_of upd_same, rfl, _, _, rfl, _, _, rfl, rfl, ?_⟩
    obtain ⟨rr, hrr⟩ := some_of (l := MT.reps n (MT.mk (S.map (ed es)))) (i := i) (by unfold MT.pc at lp; omega)
    have erow : row = (List.range n).filter (fun v => MT.mk (S.map (ed es)) v == rr) := by
      unfold piecesL at hrow
      rw [List.getElem?_map, hrr] at hrow
      exact (Option.some.inj hrow).symm
    have lrow : row.length ≤ 14 := by
      have := List.length_filter_le (fun v => MT.mk (S.map (ed es)) v == rr) (List.range n)
      rw [← erow, List.length_range] at this; omega
    refine ⟨_, rfl, pa, rfl, ⟨_, sq_of (eT _ _ hpc)⟩, for_list (K := K) (a := pa) (xs := nI row) (fun j σ' H' => ∃ (y9 : Option V) (kvs : List (Key × V)), σ' = [some (.ref p), some (.ref pl), some (.int (i : Int)), some (.ref pa), y9, none, none, none, none, none] ∧ Ex H H' ∧ H' r3 = some (.lst (ps.map V.ref)) ∧ (∀ (u : Nat) (a : Addr), ps[u]? = some a → ∃ r, (piecesL n (MT.mk (S.map (ed es))))[u]? = some r ∧ a ≠ pl ∧ H' a = some (.lst (nI r))) ∧ H' pa = some (.lst (nI row)) ∧ H' pl = some (.dK kvs) ∧ kvs.length ≤ 14 * i + j ∧
        ∀ v, v < n → (MT.idx n (MT.mk (S.map (ed es))) v < i ∨ v ∈ row.take j) → valV kvs (.inl (v : Int)) = some (.int (MT.idx n (MT.mk (S.map (ed es))) v : Int)))
      ⟨y9, kvs, rfl, e6, eT _ _ hr3', fun i a ha => ?_, eT _ _ hpc, eT _ _ hkv, by omega, fun v hv h => hval v hv (h.elim id fun z => by simp at z)⟩ (fun j σ' H' _ ⟨_, _, _, _, _, _, h, _⟩ => sq_of h) ?_ ?_⟩
    · obtain ⟨r, a1, a2, a3⟩ := hpcs i a ha
      exact ⟨r, a1, a2, eT _ _ a3⟩
    · rintro j x σ' H' hx ⟨y9, kvs, rfl, e, hr3', hpcs, hpc, hkv, lkv, hval⟩
      obtain ⟨z, hz, rfl⟩ := nI_got hx
      have hj : j < row.length := (List.getElem?_eq_some_iff.mp hz).1
      have lps : i < 14 := by omega
      refine ⟨_, rfl, _, rfl, _, rfl, pl, _, rfl, DPut.k (k := .inl (z : Int)) hkv (sz_lt (by omega)), ?_⟩
      refine ⟨_, _, rfl, Ex.mut e npl, by rw [upd_ne nr3]; exact hr3', fun i a ha => ?_, by rw [upd_ne npa]; exact hpc, upd_same, by have := putK_len (kvs := kvs) (k := .inl (z : Int)) (v := .int (i : Int)); omega, fun v hv h => ?_⟩
      · obtain ⟨r, a1, a2, a3⟩ := hpcs i a ha
        exact ⟨r, a1, a2, by rw [upd_ne a2]; exact a3⟩
      have hzm : z ∈ row := List.mem_of_getElem? hz
      rw [erow, List.mem_filter, List.mem_range, beq_iff_eq] at hzm
      have hzi := (in_piece inv hrr hzm.1).mp hzm.2
      rw [valV_put]
      by_cases q : v = z
      · rw [if_pos (by rw [q]), q, hzi]
      · rw [if_neg (fun y => q (by have := Sum.inl.inj y; omega))]
        refine hval v hv (h.elim .inl fun y => ?_)
        rw [List.take_add_one, hz, List.mem_append] at y
        exact y.elim .inr fun y => absurd (by simpa using y) q
    · rintro σ' H' ⟨y9, kvs, rfl, e, hr3', hpcs, hpc, hkv, lkv, hval⟩
      rw [nI_len, List.take_length] at hval
      rw [nI_len] at lkv
      refine ⟨_, _, _, kvs, rfl, e, hr3', nr3, hpcs, hkv, by omega, fun v hv h => hval v hv ?_⟩
      by_cases q : MT.idx n (MT.mk (S.map (ed es))) v < i
      · exact .inl q
      · right
        rw [erow, List.mem_filter, List.mem_range, beq_iff_eq]
        exact ⟨hv, (in_piece inv hrr hv).mpr (by omega)⟩
  rintro σ' H5 ⟨y7, y8, y9, kvm, rfl, e5, _, _, _, hkvm, lkv, hval⟩
  rw [List.length_map, lp] at hval
  intro en nen
  have e6 := Ex.new (o := .dK []) nen
  obtain ⟨qs, l1, l2, l3⟩ := id hl
  have ll : (qs.map V.ref).length = es.length := by rw [List.length_map, l2]
  have e56 := e5.trans e6
  have nen0 : H en = none := fresh_back e5 nen
  have nm : pl ≠ en := ne_of_none hkvm nen
  have h5d := e6 _ _ hkvm
  refine ⟨.ref p, rfl, p, CS, dx, _, _, rfl, e56 _ _ hp, T.cS, T.nS_web, sfs_web .., pw, CW, dw, _, _, rfl, e56 _ _ hpw, T.cW, T.nW_ties, wfs_ties n l, l, _, rfl, sq_of (e56 _ _ l1), for_it walk_enum (fun i σ' H' => ∃ (y6 y7' y8' y9' : Option V) (kvs : List (Key × V)), σ' = [some (.ref p), some (.ref pl), y7, y8, y9, some (.ref en), y6, y7', y8', y9'] ∧ Ex H H' ∧ H' pl = some (.dK kvm) ∧ H' en = some (.dK kvs) ∧
      kvs.map (·.1) = (((List.range i).filter (fun t => decide (t ∉ S ∧ t ∉ X ∧ t ∉ B ∧ MT.sep (ed es) S t))).map fun (t : Nat) => (t : Int)).map Sum.inl ∧
      ∀ t ∈ (List.range i).filter (fun t => decide (t ∉ S ∧ t ∉ X ∧ t ∉ B ∧ MT.sep (ed es) S t)), ∃ a, valV kvs (.inl (t : Int)) = some (.ref a) ∧ a ≠ en ∧ H' a = some (.tup [.int (lo n es S t : Int), .int (hi n es S t : Int)]))
    ⟨none, none, none, none, [], rfl, e56, h5d, upd_same, rfl, fun t ht => by simp at ht⟩ (fun i σ' H' _ ⟨_, _, _, _, _, _, e, _⟩ => sq_of (e _ _ l1)) ?_ ?_⟩
  · rintro i x σ' Ha Hb hi' ⟨y6, y7', y8', y9', kvs, rfl, e, hpl, hen, hkeys, hvals⟩ ⟨Tu, vi, vp, rfl, nTu, rfl, hvi, hvp⟩
    cases hvi
    obtain ⟨pa, hpa, rfl⟩ := ref_get hvp
    have hie : i < es.length := by omega
    have eT := Ex.new (o := .tup [.int (i : Int), .ref pa]) nTu
    have e7 := e.trans eT
    have eg : es[i]? = some (ed es i) := by
      unfold ed; rw [List.getD_eq_getElem?_getD, List.getElem?_eq_getElem hie]; rfl
    have hpe := e7 _ _ (l3 i pa _ hpa eg)
    obtain ⟨i1, i2⟩ := he i hie
    have rs : ∀ (c : Prop) [Decidable c], (List.range (i + 1)).filter (fun t => decide (t ∉ S ∧ t ∉ X ∧ t ∉ B ∧ MT.sep (ed es) S t)) = (List.range i).filter (fun t => decide (t ∉ S ∧ t ∉ X ∧ t ∉ B ∧ MT.sep (ed es) S t)) ++ (if i ∉ S ∧ i ∉ X ∧ i ∉ B ∧ MT.sep (ed es) S i then [i] else []) := fun c _ => by
      rw [List.range_succ, List.filter_append]
      by_cases z : i ∉ S ∧ i ∉ X ∧ i ∉ B ∧ MT.sep (ed es) S i
      · rw [if_pos z, List.filter_cons_of_pos (by simpa using z)]; simp
      · rw [if_neg z, List.filter_cons_of_neg (by simpa using z)]; simp
    have skip : ¬ (i ∉ S ∧ i ∉ X ∧ i ∉ B ∧ MT.sep (ed es) S i) → (upd Ha Tu (.tup [.int (i : Int), .ref pa])) pl = some (.dK kvm) ∧ (upd Ha Tu (.tup [.int (i : Int), .ref pa])) en = some (.dK kvs) ∧ kvs.map (·.1) = (((List.range (i + 1)).filter (fun t => decide (t ∉ S ∧ t ∉ X ∧ t ∉ B ∧ MT.sep (ed es) S t))).map fun (t : Nat) => (t : Int)).map Sum.inl ∧
      ∀ t ∈ (List.range (i + 1)).filter (fun t => decide (t ∉ S ∧ t ∉ X ∧ t ∉ B ∧ MT.sep (ed es) S t)), ∃ a, valV kvs (.inl (t : Int)) = some (.ref a) ∧ a ≠ en ∧ (upd Ha Tu (.tup [.int (i : Int), .ref pa])) a = some (.tup [.int (lo n es S t : Int), .int (hi n es S t : Int)]) := fun z => by
      rw [rs True, if_neg z, List.append_nil]
      exact ⟨eT _ _ hpl, eT _ _ hen, hkeys, fun t ht => by obtain ⟨a, a1, a2, a3⟩ := hvals t ht; exact ⟨a, a1, a2, eT _ _ a3⟩⟩
    have hp7 := e7 _ _ hp
    refine ⟨Tu, _, rfl, st_of upd_same, rfl, _, _, rfl, _, _, rfl, rfl, ?_⟩
    have step : ∀ (R : Prop), (¬ (i ∉ S ∧ i ∉ X ∧ i ∉ B ∧ MT.sep (ed es) S i) → R) → R → R := fun R _ r => r
    by_cases z1 : i ∈ S
    · obtain ⟨k1, k2, k3, k4⟩ := skip (fun z => z.1 z1)
      exact ⟨_, rfl, .ref p, rfl, p, CS, dx, _, _, rfl, hp7, T.cS, T.nS_kept, sfs_kept .., kt, _, rfl, .inr (st_of (e7 _ _ hkt)), rfl, nI_flat _, _, rfl, niF z1 (iteF ⟨_, _, _, _, kvs, rfl, e7, k1, k2, k3, k4⟩)⟩
    refine ⟨_, rfl, .ref p, rfl, p, CS, dx, _, _, rfl, hp7, T.cS, T.nS_kept, sfs_kept .., kt, _, rfl, .inr (st_of (e7 _ _ hkt)), rfl, nI_flat _, _, rfl, niT z1 ?_⟩
    by_cases z2 : i ∈ X
    · obtain ⟨k1, k2, k3, k4⟩ := skip (fun z => z.2.1 z2)
      exact ⟨_, rfl, .ref p, rfl, p, CS, dx, _, _, rfl, hp7, T.cS, T.nS_shut, sfs_shut .., xt, _, rfl, .inr (st_of (e7 _ _ hxt)), rfl, nI_flat _, _, rfl, niF z2 (iteF ⟨_, _, _, _, kvs, rfl, e7, k1, k2, k3, k4⟩)⟩
    refine ⟨_, rfl, .ref p, rfl, p, CS, dx, _, _, rfl, hp7, T.cS, T.nS_shut, sfs_shut .., xt, _, rfl, .inr (st_of (e7 _ _ hxt)), rfl, nI_flat _, _, rfl, niT z2 ?_⟩
    by_cases z3 : i ∈ B
    · obtain ⟨k1, k2, k3, k4⟩ := skip (fun z => z.2.2.1 z3)
      exact ⟨_, rfl, .ref p, rfl, p, CS, dx, _, _, rfl, hp7, T.cS, T.nS_base, sfs_base .., bt, _, rfl, .inr (st_of (e7 _ _ hbt)), rfl, nI_flat _, _, rfl, niF z3 ⟨_, _, _, _, kvs, rfl, e7, k1, k2, k3, k4⟩⟩
    refine ⟨_, rfl, .ref p, rfl, p, CS, dx, _, _, rfl, hp7, T.cS, T.nS_base, sfs_base .., bt, _, rfl, .inr (st_of (e7 _ _ hbt)), rfl, nI_flat _, _, rfl, niT z3 ?_⟩
    have hkm7 := eT _ _ hpl
    refine ⟨_, rfl, _, rfl, pa, _, 0, _, rfl, rfl, st_of hpe, rfl, pl, _, rfl, dget_at hkm7 (hval _ i1 (MT.idx_lt inv i1)), ?_⟩
    refine ⟨_, rfl, _, rfl, pa, _, 1, _, rfl, rfl, st_of hpe, rfl, pl, _, rfl, dget_at hkm7 (hval _ i2 (MT.idx_lt inv i2)), ?_⟩
    refine ⟨_, rfl, _, rfl, rfl, _, rfl, ?_⟩
    by_cases z4 : MT.sep (ed es) S i
    · refine neqT (int_ne ((MT.sep_idx he hie).mp z4)) ?_
      refine ⟨_, rfl, _, rfl, _, _, rfl, ?_⟩
      refine ⟨_, rfl, _, rfl, _, _, rfl, ?_⟩
      rw [min_int, max_int]
      refine ⟨sz (by simp), fun na nna => ?_⟩
      have eN := Ex.new (o := .tup [.int ((lo n es S i : Nat) : Int), .int ((hi n es S i : Nat) : Int)]) nna
      have hen8 := eN _ _ (eT _ _ hen)
      have nai : na ≠ en := (ne_of_none (eT _ _ hen) nna).symm
      have hnew : valV kvs (.inl (i : Int)) = none := valV_no fun z => by
        rw [hkeys, List.map_map] at z
        obtain ⟨t, ht, e⟩ := List.mem_map.mp z
        have := List.mem_range.mp (List.mem_filter.mp ht).1
        have : ((t : Nat) : Int) = ((i : Nat) : Int) := Sum.inl.inj e
        omega
      have hcond : i ∉ S ∧ i ∉ X ∧ i ∉ B ∧ MT.sep (ed es) S i := ⟨z1, z2, z3, z4⟩
      refine ⟨_, rfl, _, rfl, en, _, rfl, DPut.k (k := .inl (i : Int)) hen8 (sz_lt ?_), ?_⟩
      · have := congrArg List.length hkeys
        rw [List.length_map, List.length_map, List.length_map] at this
        have q := List.length_filter_le (fun t => decide (t ∉ S ∧ t ∉ X ∧ t ∉ B ∧ MT.sep (ed es) S t)) (List.range i)
        rw [List.length_range] at q
        omega
      refine ⟨_, _, _, _, _, rfl, Ex.mut (e7.trans eN) nen0, ?_, upd_same, ?_, fun t ht => ?_⟩
      · rw [upd_ne nm]; exact eN _ _ (eT _ _ hpl)
      · rw [putK_new hnew, List.map_append, hkeys, rs True, if_pos hcond, List.map_append, List.map_append]; rfl
      · rw [rs True, if_pos hcond, List.mem_append, List.mem_singleton] at ht
        by_cases zt : t = i
        · subst zt
          refine ⟨na, by rw [valV_put, if_pos rfl], nai, ?_⟩
          rw [upd_ne nai, upd_same]
          rfl
        · obtain ⟨a, a1, a2, a3⟩ := hvals t (ht.elim id fun y => absurd y zt)
          refine ⟨a, by rw [valV_put, if_neg (fun y => zt (by have := Sum.inl.inj y; omega))]; exact a1, a2, ?_⟩
          rw [upd_ne a2]; exact eN _ _ (eT _ _ a3)
    · obtain ⟨k1, k2, k3, k4⟩ := skip (fun z => z4 z.2.2.2)
      have z4' := z4
      rw [MT.sep_idx he hie] at z4'
      exact neqF (by rw [Decidable.not_not.mp z4']) ⟨_, _, _, _, kvs, rfl, e7, k1, k2, k3, k4⟩
  · rintro σ' H' ⟨y6, y7', y8', y9', kvs, rfl, e, hpl, hen, hkeys, hvals⟩
    rw [ll] at hkeys hvals
    refine ⟨_, rfl, q H' en e ⟨kvs, hen, hkeys, fun t ht => ?_⟩⟩
    obtain ⟨a, a1, a2, a3⟩ := hvals t ht
    exact ⟨a, a1, a3⟩
end
end Sr
namespace Sr
open PySem PySem.Spec PyProof.Rows L2 Evl
theorem lohi {n : Nat} {es : List (Nat × Nat)} (he : MT.Edge n es.length (ed es)) {S : List Nat} {t e : Nat} (ht : t < es.length) (hE : e < es.length) : MT.Twin (ed es) S t e ↔ (lo n es S t = lo n es S e ∧ hi n es S t = hi n es S e) := MT.twin_idx he ht hE
theorem opens_asc {E : Nat} {ed : Nat → Nat × Nat} {S X B : List Nat} : (MT.opens E ed S X B).Pairwise (· < ·) := List.Pairwise.sublist List.filter_sublist List.pairwise_lt_range
theorem opens_len {E : Nat} {ed : Nat → Nat × Nat} {S X B : List Nat} : (MT.opens E ed S X B).length ≤ E := by
  unfold MT.opens
  have := List.length_filter_le (fun t => decide (t ∉ S ∧ t ∉ X ∧ t ∉ B ∧ MT.sep ed S t)) (List.range E)
  rwa [List.length_range] at this
section
variable {P : Program} {w : World} {K : PySem.W.Frag} {mg : Str → Option Value} {base : Heap} {CW CS : Addr}
def spNext (CW CS : Addr) : Sp := fun vs H Q _ => ∃ (p pw : Addr) (n : Nat) (es : List (Nat × Nat)) (S X B : List Nat) (e : Nat), vs = [.ref p] ∧ StrAt CW CS H p pw n es S X B e ∧
  (∀ H' t, Ex H H' → MT.Open (ed es) es.length S X B t → ¬ MT.Twin (ed es) S t e → Q (.int (t : Int)) H') ∧ (∀ H', Ex H H' → (∀ t, MT.Open (ed es) es.length S X B t → MT.Twin (ed es) S t e) → Q .non H')
theorem d_next (T : Txt K mg CW CS) : MDef P w K mg base CS "next_lead" 6 ["self"] (spNext CW CS) := by
  have M_piece_ends : MDef P w K mg base CS "piece_ends" 5 ["self"] (spEnds CW CS) := d_ends T
  refine mdef_by T.a_st_next_lead sc_st_next_lead (fun vs H Q E h => ?_) (fun f cdv A outer s H vs Q E hr h => ?_)
  · obtain ⟨p, n, es, _, _, _, _, _, rfl, _⟩ := h; rfl
  obtain ⟨p, pw, n, es, S, X, B, e, rfl, hst, q1, q2⟩ := h
  obtain ⟨dx, kt, xt, bt, hp, hw, hkt, hxt, hbt, hok, h28⟩ := id hst
  obtain ⟨dw, l, hpw, hl, h1, h14, h30, hin⟩ := id hw
  have he := ed_in hin
  have hu : (A.deeper (envOfC "Stretch.next_lead" (defScope s_st_next_lead) s.heap.objs.size f cdv)).units + 1 < cLine := by have := hr.units; omega
  refine ⟨_, (pss_cons (ps_set (i := 1) sc_st_next_lead.nd rfl (by first | exact Or.inl rfl | exact Or.inr rfl) (pe_md0 (pv 0) T.cS M_piece_ends hr (by decide)))
      (pss_cons (ps_for PassesOwn.never rfl (pi_list (pe_callB (cr_sortK rfl) (by rfl) T.z_sorted (by decide +kernel) (pa_cons (pe_bm0 PySem.F.plainAttrs_dict PySem.F.slot_dict_keys PySem.F.type_dict_keys mt_keys (pv 1)) pa_nil))) (pg_name (i := 2) sc_st_next_lead.nd rfl (by first | exact Or.inl rfl | exact Or.inr rfl))
        (pss_one (ps_if (pt_cmpR (op_neD hr.units) (pe_dget hu (pv 1) (pv 2) (fun _ _ => rfl)) (pe_dget hu (pv 1) (pe_fldK (K' := K) rfl (pv 0) (by rfl)) (fun _ _ => rfl)) (nomark _)) (pss_one (ps_ret (pv 2))) pss_nil)))
      (pss_one (ps_ret pe_non)))), ?_⟩
  refine ⟨_, rfl, p, dx, _, rfl, hp, sfs_n1 .., p, pw, n, es, S, X, B, e, rfl, hst, fun H1 en e1 hen => ?_⟩
  obtain ⟨kvs, k1, k2, k3⟩ := id hen
  have lo28 := opens_len (E := es.length) (ed := ed es) (S := S) (X := X) (B := B)
  refine ⟨_, rfl, .inr (.inr (.inl ⟨rfl, .inl ⟨_, k1⟩⟩)), en, kvs, rfl, rfl, k1, fun pv npv => ?_⟩
  have ev := Ex.new (o := viewO pv en) npv
  refine ⟨pv, en, kvs, _, rfl, upd_same, ev _ _ k1, k2, by rw [List.length_map]; omega, fun ns pl hperm hs npl => ?_⟩
  have ens := sorted_nat hperm hs (asc_nodup opens_asc) opens_asc (fun _ => Iff.rfl)
  rw [ens]
  have e2 := ev.trans (Ex.new (o := .lst (nI (MT.opens es.length (ed es) S X B))) npl)
  have he2 := hen.mono e2
  obtain ⟨kvs', k1', k2', k3'⟩ := id he2
  have hlead := MT.mem_opens.mpr hok.opn
  obtain ⟨ae, ae1, ae2⟩ := k3' e hlead
  refine ⟨pl, rfl, ⟨_, sq_of upd_same⟩, for_list (K := K) (a := pl) (xs := nI (MT.opens es.length (ed es) S X B)) (fun i σ' H' => ∃ (y2 : Option V), σ' = [some (.ref p), some (.ref en), y2] ∧ H' = upd (upd H1 pv (viewO pv en)) pl (.lst (nI (MT.opens es.length (ed es) S X B))) ∧ ∀ j t, j < i → (MT.opens es.length (ed es) S X B)[j]? = some t → MT.Twin (ed es) S t e)
    ⟨none, rfl, rfl, fun j t h => by omega⟩ (fun i σ' H' _ ⟨_, _, h, _⟩ => h ▸ sq_of upd_same) ?_ ?_⟩
  · rintro i x σ' H' hx ⟨y2, rfl, rfl, hno⟩
    obtain ⟨t, ht, rfl⟩ := nI_got hx
    have htm : t ∈ MT.opens es.length (ed es) S X B := List.mem_of_getElem? ht
    have hto := MT.mem_opens.mp htm
    obtain ⟨at', at1, at2⟩ := k3' t htm
    refine ⟨_, rfl, _, rfl, en, _, rfl, dget_at k1' at1, _, rfl, .ref p, rfl, p, CS, dx, _, _, rfl, (e1.trans e2) _ _ hp, T.cS, T.nS_lead, sfs_lead .., en, _, rfl, dget_at k1' ae1, ?_⟩
    refine ⟨_, _, pair_data at2, pair_data ae2, pair_shaped _ _, pair_shaped _ _, _, rfl, ?_⟩
    rw [pair_eqv]
    by_cases hq : MT.Twin (ed es) S t e
    · obtain ⟨z1, z2⟩ := (lohi he hto.1 hok.lt).mp hq
      refine ifN ⟨by rw [z1], by rw [z2]⟩ ⟨_, rfl, rfl, fun j t' hj hj' => ?_⟩
      by_cases z : j < i
      · exact hno j t' z hj'
      · rw [show j = i by omega, ht] at hj'
        rw [← Option.some.inj hj']; exact hq
    · refine ifNT (fun z => hq ((lohi he hto.1 hok.lt).mpr ⟨by omega, by omega⟩)) ⟨_, rfl, q1 _ t (e1.trans e2) hto hq⟩
  · rintro σ' H' ⟨y2, rfl, rfl, hno⟩
    refine q2 _ (e1.trans e2) fun t ht => ?_
    obtain ⟨j, hj⟩ := List.getElem?_of_mem (MT.mem_opens.mpr ht)
    exact hno j t (by rw [nI_len]; exact (List.getElem?_eq_some_iff.mp hj).1) hj
def spFirstH (CW CS : Addr) : Sp := fun vs H Q _ => ∃ (p pw : Addr) (n : Nat) (es : List (Nat × Nat)) (S X B : List Nat) (e t : Nat), vs = [.ref p, .int (t : Int)] ∧ StrAt CW CS H p pw n es S X B e ∧ MT.Open (ed es) es.length S X B t ∧ t ≠ e ∧
  ∀ H' r, Ex H H' → StrAt CW CS H' r pw n es S (MT.ins es.length X e) B t → Q (.ref r) H'
theorem ins_sort {E : Nat} {X : List Nat} {e : Nat} {ns : List Int} (hX : X ∈ MT.subs (List.range E)) (he : e < E) (hn : e ∉ X) (hp : ns.Perm ((X ++ [e]).map (fun (n : Nat) => (n : Int)))) (hs : ns.Pairwise (· ≤ ·)) : ns.map V.int = nI (MT.ins E X e) :=
  sorted_nat hp hs (List.nodup_append.mpr ⟨MT.sub_nd hX, by simp, fun a ha b hb z => by
    rw [List.mem_singleton] at hb
    exact hn (hb ▸ z ▸ ha)⟩) (asc_of (MT.ins_subs (E := E) (S := X) (e := e))) (fun n => by rw [MT.mem_ins hX he, List.mem_append, List.mem_singleton])
/-- self.shut + (self.lead,), sorted, as a tuple -/
theorem catA_run {K : PySem.W.Frag} {a b : Addr} {X : List Nat} {e : Nat} {H : Hp} {Q : VK} (ha : H a = some (.tup (nI X))) (hb : H b = some (.tup [V.int (e : Int)])) (hl : X.length ≤ 30)
    (q : ∀ p H', Ex H H' → H' p = some (.tup (nI (X ++ [e]))) → Q (.ref p) H') : rCatA K (.ref a) (.ref b) H Q := by
  refine ⟨a, b, _, _, rfl, rfl, st_of ha, st_of hb, sz (by rw [nI_len]; simp; omega), fun h0 => ?_, (fun _ h => by cases h), fun _ _ p np => ?_⟩
  · refine q b H (Ex.refl _) ?_
    rw [hb, nI_app, h0]; rfl
  · refine q p _ (Ex.new np) ?_
    rw [upd_same, nI_app]; rfl
theorem d_first (T : Txt K mg CW CS) : MDef P w K mg base CS "first_half" 5 ["self", "lead"] (spFirstH CW CS) := by
  have D_count_with : Def P w K mg base "count_with" 3 ["web", "inside", "outside"] (spCountW CW) := d_count_with T
  have M_Stretch : IDef P w K mg base CS 1 ["self", "web", "kept", "shut", "base", "lead", "count"] (spStrInit CS) := d_strinit T
  refine mdef_by T.a_st_first_half sc_st_first_half (fun vs H Q E h => ?_) (fun f cdv A outer s H vs Q E hr h => ?_)
  · obtain ⟨p, n, es, _, _, _, _, _, _, rfl, _⟩ := h; rfl
  obtain ⟨p, pw, n, es, S, X, B, e, t, rfl, hst, hto, hte, q⟩ := h
  obtain ⟨dx, kt, xt, bt, hp, hw, hkt, hxt, hbt, hok, h28⟩ := id hst
  obtain ⟨dw, l, hpw, hl, h1, h14, h30, hin⟩ := id hw
  have he := ed_in hin
  have lX := sub_len hok.x
  have hok' := hok.first hto hte
  have mi : ∀ u, u ∈ MT.ins es.length X e ↔ u ∈ X ∨ u = e := fun u => MT.mem_ins hok.x hok.lt
  refine ⟨_, (pss_cons (ps_set (i := 2) sc_st_first_half.nd rfl (by first | exact Or.inl rfl | exact Or.inr rfl) (pe_callTy call_tuple_of (by rfl) T.z_tuple boot_tuple (pa_cons (pe_callB cr_sortT (by rfl) T.z_sorted (by decide +kernel) (pa_cons (pe_op op_catA (pe_fldK (K' := K) rfl (pv 0) (by rfl)) (pe_tup (pa_cons (pe_fldK (K' := K) rfl (pv 0) (by rfl)) pa_nil))) pa_nil)) pa_nil)))
      (pss_cons (ps_set (i := 3) sc_st_first_half.nd rfl (by first | exact Or.inl rfl | exact Or.inr rfl) (pe_def D_count_with hr (by decide) (by rfl) (pa_cons (pe_fldK (K' := K) rfl (pv 0) (by rfl)) (pa_cons (pe_fldK (K' := K) rfl (pv 0) (by rfl)) (pa_cons (pv 2) pa_nil)))))
      (pss_one (ps_ret (pe_mk M_Stretch hr (by decide) (by rfl) T.mS (pa_cons (pe_fldK (K' := K) rfl (pv 0) (by rfl)) (pa_cons (pe_fldK (K' := K) rfl (pv 0) (by rfl)) (pa_cons (pv 2) (pa_cons (pe_fldK (K' := K) rfl (pv 0) (by rfl)) (pa_cons (pv 1) (pa_cons (pv 3) pa_nil))))))))))), ?_⟩
  refine ⟨.ref p, rfl, p, CS, dx, _, _, rfl, hp, T.cS, T.nS_shut, sfs_shut .., .ref p, rfl, p, CS, dx, _, _, rfl, hp, T.cS, T.nS_lead, sfs_lead .., sz (by simp), fun t1 nt1 => ?_⟩
  have e1 := Ex.new (o := .tup [V.int (e : Int)]) nt1
  refine catA_run (X := X) (e := e) (e1 _ _ hxt) upd_same (by omega) fun t2 H2 e2 ht2 => ?_
  refine ⟨t2, (X ++ [e]).map (fun (n : Nat) => (n : Int)), rfl, by rw [← nI_int]; exact ht2, by simp; omega, fun ns pl hperm hs npl => ?_⟩
  rw [ins_sort hok.x hok.lt hok.nx hperm hs]
  refine ⟨pl, _, rfl, .inl ⟨sq_of upd_same, fun st nst => ?_⟩⟩
  have e3 := ((e1.trans e2).trans (Ex.new (o := .lst (nI (MT.ins es.length X e))) npl)).trans (Ex.new (o := .tup (nI (MT.ins es.length X e))) nst)
  refine ⟨.ref p, rfl, p, CS, dx, _, _, rfl, e3 _ _ hp, T.cS, T.nS_web, sfs_web .., .ref p, rfl, p, CS, dx, _, _, rfl, e3 _ _ hp, T.cS, T.nS_kept, sfs_kept .., _, rfl, ?_⟩
  refine ⟨pw, kt, st, n, es, S, MT.ins es.length X e, rfl, hw.mono e3, .inl (e3 _ _ hkt), .inl upd_same, hok.k, MT.ins_subs, hok.free he, fun u hu z => ?_, h28, MT.NT_pos hok.tree hok.kb hok'.bx, fun H4 e4 => ?_⟩
  · exact hok'.kx u hu z
  have e14 := e3.trans e4
  refine ⟨.ref p, rfl, p, CS, dx, _, _, rfl, e14 _ _ hp, T.cS, T.nS_web, sfs_web .., .ref p, rfl, p, CS, dx, _, _, rfl, e14 _ _ hp, T.cS, T.nS_kept, sfs_kept .., _, rfl, .ref p, rfl, p, CS, dx, _, _, rfl, e14 _ _ hp, T.cS, T.nS_base, sfs_base .., _, rfl, _, rfl, ?_⟩
  intro x dx' nx ndx _
  refine ⟨x, dx', pw, kt, st, bt, t, _, rfl, upd_same, fun H5 eb h5 => ⟨rfl, ?_⟩⟩
  have e5 := ex_made nx ndx eb
  have e15 := e14.trans e5
  exact q H5 x e15 ⟨dx', kt, st, bt, h5, hw.mono e15, e15 _ _ hkt, e5 _ _ (e4 _ _ upd_same), e15 _ _ hbt, hok', h28⟩
def spSecondH (CW CS : Addr) : Sp := fun vs H Q _ => ∃ (p pw r1 : Addr) (n : Nat) (es : List (Nat × Nat)) (S X B : List Nat) (e t : Nat), vs = [.ref p, .int (t : Int), .ref r1] ∧ StrAt CW CS H p pw n es S X B e ∧ StrAt CW CS H r1 pw n es S (MT.ins es.length X e) B t ∧ MT.Open (ed es) es.length S X B t ∧ ¬ MT.Twin (ed es) S t e ∧
  ∀ H' r B', Ex H H' → StrAt CW CS H' r pw n es (MT.ins es.length S e) X B' t → Q (.ref r) H'
theorem d_second (T : Txt K mg CW CS) : MDef P w K mg base CS "second_half" 6 ["self", "lead", "first"] (spSecondH CW CS) := by
  have D_swapped : Def P w K mg base "swapped" 1 ["tree", "out", "into"] spSwapped := d_swapped T
  have M_loose_on_ring : MDef P w K mg base CS "loose_on_ring" 5 ["self"] (spLoose CW CS) := d_loose T
  have M_Stretch : IDef P w K mg base CS 1 ["self", "web", "kept", "shut", "base", "lead", "count"] (spStrInit CS) := d_strinit T
  refine mdef_by T.a_st_second_half sc_st_second_half (fun vs H Q E h => ?_) (fun f cdv A outer s H vs Q E hr h => ?_)
  · obtain ⟨p, n, es, _, _, _, _, _, _, _, rfl, _⟩ := h; rfl
  obtain ⟨p, pw, r1, n, es, S, X, B, e, t, rfl, hst, hst1, hto, htw, q⟩ := h
  obtain ⟨dx, kt, xt, bt, hp, hw, hkt, hxt, hbt, hok, h28⟩ := id hst
  obtain ⟨dx1, kt1, xt1, bt1, hp1, _⟩ := id hst1
  obtain ⟨dw, l, hpw, hl, h1, h14, h30, hin⟩ := id hw
  have he := ed_in hin
  have lS := sub_len hok.k
  have hte : t ≠ e := fun z => htw (by rw [z]; exact .inl ⟨rfl, rfl⟩)
  have heS : e ∉ S := fun z => hok.nb (hok.kb e z)
  refine ⟨_, (pss_cons (ps_set (i := 3) sc_st_second_half.nd rfl (by first | exact Or.inl rfl | exact Or.inr rfl) (pe_callTy call_tuple_of (by rfl) T.z_tuple boot_tuple (pa_cons (pe_callB cr_sortT (by rfl) T.z_sorted (by decide +kernel) (pa_cons (pe_op op_catA (pe_fldK (K' := K) rfl (pv 0) (by rfl)) (pe_tup (pa_cons (pe_fldK (K' := K) rfl (pv 0) (by rfl)) pa_nil))) pa_nil)) pa_nil)))
      (pss_cons (ps_set (i := 4) sc_st_second_half.nd rfl (by first | exact Or.inl rfl | exact Or.inr rfl) (pe_def D_swapped hr (by decide) (by rfl) (pa_cons (pe_fldK (K' := K) rfl (pv 0) (by rfl)) (pa_cons (pe_callB (cr_max rfl) (by rfl) T.z_max (by decide +kernel) (pa_cons (pe_md0 (pv 0) T.cS M_loose_on_ring hr (by decide)) pa_nil)) (pa_cons (pe_fldK (K' := K) rfl (pv 0) (by rfl)) pa_nil)))))
      (pss_one (ps_ret (pe_mk M_Stretch hr (by decide) (by rfl) T.mS (pa_cons (pe_fldK (K' := K) rfl (pv 0) (by rfl)) (pa_cons (pv 3) (pa_cons (pe_fldK (K' := K) rfl (pv 0) (by rfl)) (pa_cons (pv 4) (pa_cons (pv 1) (pa_cons (pe_op op_sub (pe_fldK (K' := K) rfl (pv 0) (by rfl)) (pe_fldK (K' := K) rfl (pv 2) (by rfl))) pa_nil))))))))))), ?_⟩
  refine ⟨.ref p, rfl, p, CS, dx, _, _, rfl, hp, T.cS, T.nS_kept, sfs_kept .., .ref p, rfl, p, CS, dx, _, _, rfl, hp, T.cS, T.nS_lead, sfs_lead .., sz (by simp), fun t1 nt1 => ?_⟩
  have e1 := Ex.new (o := .tup [V.int (e : Int)]) nt1
  refine catA_run (X := S) (e := e) (e1 _ _ hkt) upd_same (by omega) fun t2 H2 e2 ht2 => ?_
  refine ⟨t2, (S ++ [e]).map (fun (n : Nat) => (n : Int)), rfl, by rw [← nI_int]; exact ht2, by simp; omega, fun ns pl hperm hs npl => ?_⟩
  rw [ins_sort hok.k hok.lt heS hperm hs]
  refine ⟨pl, _, rfl, .inl ⟨sq_of upd_same, fun st nst => ?_⟩⟩
  have e3 := ((e1.trans e2).trans (Ex.new (o := .lst (nI (MT.ins es.length S e))) npl)).trans (Ex.new (o := .tup (nI (MT.ins es.length S e))) nst)
  refine ⟨.ref p, rfl, p, CS, dx, _, _, rfl, e3 _ _ hp, T.cS, T.nS_base, sfs_base .., _, rfl, p, dx, _, rfl, e3 _ _ hp, sfs_n2 .., ?_⟩
  refine ⟨p, pw, n, es, S, X, B, e, rfl, hst.mono e3, fun H4 lr L e4 hL lL memL => ?_⟩
  refine ⟨lr, L.map (fun (n : Nat) => (n : Int)), rfl, by rw [← nI_int]; exact sq_of hL, ?_, fun m hm _ => ?_⟩
  · rw [List.length_map]
    obtain ⟨g, hg⟩ := hok.loose he h1
    exact List.length_pos_of_mem ((memL g).mpr hg)
  obtain ⟨g, hg, rfl⟩ := List.mem_map.mp hm
  have hg' := (memL g).mp hg
  have e14 := e3.trans e4
  have hok' := hok.second he hto hte htw hg'
  refine ⟨.ref p, rfl, p, CS, dx, _, _, rfl, e14 _ _ hp, T.cS, T.nS_lead, sfs_lead .., bt, es.length, B, g, e, rfl, e14 _ _ hbt, hok.tree.sub, h30, hok.lt, hok.nb, fun H5 bt' e5 hbt' => ?_⟩
  have e15 := e14.trans e5
  refine ⟨.ref p, rfl, p, CS, dx, _, _, rfl, e15 _ _ hp, T.cS, T.nS_web, sfs_web .., _, rfl, .ref p, rfl, p, CS, dx, _, _, rfl, e15 _ _ hp, T.cS, T.nS_shut, sfs_shut .., _, rfl, _, rfl, .ref p, rfl, p, CS, dx, _, _, rfl, e15 _ _ hp, T.cS, T.nS_size, sfs_size .., .ref r1, rfl, r1, CS, dx1, _, _, rfl, e15 _ _ hp1, T.cS, T.nS_size, sfs_size .., _, _, rfl, rfl, ?_⟩
  intro x dx' nx ndx _
  have hsp := MT.NT_split hok
  refine ⟨x, dx', pw, st, xt, bt', t, MT.NT n (ed es) es.length (MT.ins es.length S e) X, ?_, upd_same, fun H6 eb h6 => ⟨rfl, ?_⟩⟩
  · show [V.ref x, V.ref pw, V.ref st, V.ref xt, V.ref bt', V.int (t : Int), V.int (((MT.NT n (ed es) es.length S X : Nat) : Int) - ((MT.NT n (ed es) es.length S (MT.ins es.length X e) : Nat) : Int))] = _
    rw [show ((MT.NT n (ed es) es.length S X : Nat) : Int) - ((MT.NT n (ed es) es.length S (MT.ins es.length X e) : Nat) : Int) = ((MT.NT n (ed es) es.length (MT.ins es.length S e) X : Nat) : Int) by omega]
  have e6 := ex_made nx ndx eb
  have e16 := e15.trans e6
  exact q H6 x _ e16 ⟨dx', st, xt, bt', h6, hw.mono e16, e6 _ _ (e5 _ _ (e4 _ _ upd_same)), e16 _ _ hxt, e6 _ _ hbt', hok', h28⟩
end
end Sr
namespace Sr
open PySem PySem.Spec PyProof.Rows L2 Evl
section
variable {P : Program} {w : World} {K : PySem.W.Frag} {mg : Str → Option Value} {base : Heap} {CW CS : Addr}
def spLaid (CW CS : Addr) : Sp := fun vs H Q _ => ∃ (p pw : Addr) (n : Nat) (es : List (Nat × Nat)) (S X B : List Nat) (e : Nat), vs = [.ref p] ∧ StrAt CW CS H p pw n es S X B e ∧ (∀ t, MT.Open (ed es) es.length S X B t → MT.Twin (ed es) S t e) ∧
  ∀ H' r rows, Ex H H' → TL H' r rows → (∀ T ∈ rows, MT.Tree n (ed es) es.length T) → MT.NT n (ed es) es.length S X ≤ rows.length → Q (.ref r) H'
theorem d_laid (T : Txt K mg CW CS) : MDef P w K mg base CS "laid_out" 6 ["self"] (spLaid CW CS) := by
  have D_swapped : Def P w K mg base "swapped" 1 ["tree", "out", "into"] spSwapped := d_swapped T
  have M_loose_on_ring : MDef P w K mg base CS "loose_on_ring" 5 ["self"] (spLoose CW CS) := d_loose T
  have M_piece_ends : MDef P w K mg base CS "piece_ends" 5 ["self"] (spEnds CW CS) := d_ends T
  refine mdef_by T.a_st_laid_out sc_st_laid_out (fun vs H Q E h => ?_) (fun f cdv A outer s H vs Q E hr h => ?_)
  · obtain ⟨p, n, es, _, _, _, _, _, rfl, _⟩ := h; rfl
  obtain ⟨p, pw, n, es, S, X, B, e0, rfl, hst, hall, q⟩ := h
  obtain ⟨dx, kt, xt, bt, hp, hw, hkt, hxt, hbt, hok, h28⟩ := id hst
  obtain ⟨dw, l, hpw, hl, h1, h14, h30, hin⟩ := id hw
  have he := ed_in hin
  have hu : (A.deeper (envOfC "Stretch.laid_out" (defScope s_st_laid_out) s.heap.objs.size f cdv)).units + 1 < cLine := by have := hr.units; omega
  refine ⟨_, (pss_cons (ps_set (i := 1) sc_st_laid_out.nd rfl (by first | exact Or.inl rfl | exact Or.inr rfl) (pe_md0 (pv 0) T.cS M_loose_on_ring hr (by decide)))
      (pss_cons (ps_set (i := 3) sc_st_laid_out.nd rfl (by first | exact Or.inl rfl | exact Or.inr rfl) (pe_op op_cat (pe_lc  (own := [("tie", 2)]) (g := (gName 2)) rfl sc_st_laid_out.nd (pi_list (pe_callB (cr_sortK rfl) (by rfl) T.z_sorted (by decide +kernel) (pa_cons (pe_bm0 PySem.F.plainAttrs_dict PySem.F.slot_dict_keys PySem.F.type_dict_keys mt_keys (pe_md0 (pv 0) T.cS M_piece_ends hr (by decide))) pa_nil))) (blkOk_by (own := [("tie", 2)]) (N := ["self", "loose", "tie", "twins", "told", "k", "out_row", "out"]) (sc := defScope s_st_laid_out) (by decide +kernel)) (fun _ _ _ _ _ => (pg_name (i := 2) sc_st_laid_out.nd rfl (by first | exact Or.inl rfl | exact Or.inr rfl))) (fun _ _ _ _ _ => (pts_one (pt_cmpR op_ne (pv 2) (pe_fldK (K' := K) rfl (pv 0) (by rfl)) (nomark _)))) (fun _ _ _ _ _ => (pv 2))) (pe_lst (pa_cons (pe_fldK (K' := K) rfl (pv 0) (by rfl)) pa_nil))))
      (pss_cons (ps_set (i := 4) sc_st_laid_out.nd rfl (by first | exact Or.inl rfl | exact Or.inr rfl) (pe_lst (pa_cons (pe_fldK (K' := K) rfl (pv 0) (by rfl)) pa_nil)))
      (pss_cons (ps_for PassesOwn.never rfl (pi_enum (by rfl) T.z_enumerate (pa_cons (pv 3) pa_nil)) (pg_tup rfl (pgs_cons (pg_name (i := 5) sc_st_laid_out.nd rfl (by first | exact Or.inl rfl | exact Or.inr rfl)) (pgs_cons (pg_name (i := 2) sc_st_laid_out.nd rfl (by first | exact Or.inl rfl | exact Or.inr rfl)) pgs_nil)))
        (pss_cons (ps_set (i := 6) sc_st_laid_out.nd rfl (by first | exact Or.inl rfl | exact Or.inr rfl) (pv 1))
        (pss_cons (ps_if (pt_cmpR op_eq (pe_op op_modN (pe_op op_sub (pe_op op_sub (pe_callB (X := _) (r := rLenS K) len_seqK (by rfl) T.z_len PySem.boot_len (pa_cons (pv 3) pa_nil)) pe_int) (pv 5)) pe_int) pe_int (nomark _)) (pss_one (ps_set (i := 6) sc_st_laid_out.nd rfl (by first | exact Or.inl rfl | exact Or.inr rfl) (pe_listRev rfl (by rfl) T.z_list (by rfl) T.z_reversed (pv 1)))) pss_nil)
        (pss_one (ps_expr (pe_bm PySem.F.plainAttrs_list PySem.F.slot_list_extend PySem.F.type_list_extend mt_extend (pv 4) (pa_cons (pe_lc  (own := [("out", 7)]) (g := (gName 7)) rfl sc_st_laid_out.nd (pi_list (pv 6)) (blkOk_by (own := [("out", 7)]) (N := ["self", "loose", "tie", "twins", "told", "k", "out_row", "out"]) (sc := defScope s_st_laid_out) (by decide +kernel)) (fun _ _ _ _ _ => (pg_name (i := 7) sc_st_laid_out.nd rfl (by first | exact Or.inl rfl | exact Or.inr rfl))) (fun _ _ _ _ _ => pts_nil) (fun _ _ _ _ _ => (pe_def D_swapped hr (by decide) (by rfl) (pa_cons (pe_fldK (K' := K) rfl (pv 0) (by rfl)) (pa_cons (pv 7) (pa_cons (pv 2) pa_nil)))))) pa_nil)))))))
      (pss_one (ps_ret (pv 4))))))), ?_⟩
  refine ⟨_, rfl, p, dx, _, rfl, hp, sfs_n2 .., p, pw, n, es, S, X, B, e0, rfl, hst, fun H1 lr L e1 hlr lL memL => ?_⟩
  -- twins
  refine ⟨_, rfl, p, dx, _, rfl, e1 _ _ hp, sfs_n1 .., p, pw, n, es, S, X, B, e0, rfl, hst.mono e1, fun H2 en e2 hen => ?_⟩
  obtain ⟨kvs, k1, k2, k3⟩ := id hen
  have lo28 := opens_len (E := es.length) (ed := ed es) (S := S) (X := X) (B := B)
  refine ⟨.inr (.inr (.inl ⟨rfl, .inl ⟨_, k1⟩⟩)), en, kvs, rfl, rfl, k1, fun pv npv => ?_⟩
  have ev := Ex.new (o := viewO pv en) npv
  refine ⟨pv, en, kvs, _, rfl, upd_same, ev _ _ k1, k2, by rw [List.length_map]; omega, fun ns pl hperm hs npl => ?_⟩
  have ens := sorted_nat hperm hs (asc_nodup opens_asc) opens_asc (fun _ => Iff.rfl)
  rw [ens]
  have e3 := e2.trans (ev.trans (Ex.new (o := .lst (nI (MT.opens es.length (ed es) S X B))) npl))
  have e13 := e1.trans e3
  have hpl : (upd (upd H2 pv (viewO pv en)) pl (.lst (nI (MT.opens es.length (ed es) S X B)))) pl = some (.lst (nI (MT.opens es.length (ed es) S X B))) := upd_same
  refine ⟨pl, rfl, ⟨_, sq_of hpl⟩, fun D nD => lc_fin (D := D) (walk_list (xs := nI (MT.opens es.length (ed es) S X B))) (by rw [nI_len]; omega) (gm_name 2) (fun k => decide ((MT.opens es.length (ed es) S X B).getD k 0 ≠ e0)) (fun k y _ => y = .int (((MT.opens es.length (ed es) S X B).getD k 0 : Nat) : Int)) (fun _ _ _ _ _ h => h) nD (fun H2 e2 => sq_of (e2 _ _ hpl)) ?_ ?_⟩
  · rintro j y Ha Hb hj ea _ ⟨rfl, hy⟩
    obtain ⟨v, hv, rfl⟩ := nI_got hy
    have ev : (MT.opens es.length (ed es) S X B).getD j 0 = v := by rw [List.getD_eq_getElem?_getD, hv]; rfl
    rw [ev]
    have hpb := ea _ _ (e13 _ _ hp)
    refine ⟨rfl, Ex.refl _, et_test (ev_is (ev_op (ev_var rfl) (ev_fld (ev_var rfl) hpb T.cS T.nS_lead (sfs_lead ..)) (rv_ne rfl)) ?_), fun _ => Ev.p (ev_var rfl)⟩
    congr 1
    rw [Bool.eq_iff_iff]
    simp only [Bool.not_eq_true', decide_eq_false_iff_not, decide_eq_true_eq, ne_eq, int_eq]
  intro ys H4 e4 hD hk
  have ey := kept_intsF (g := fun k => (MT.opens es.length (ed es) S X B).getD k 0) hk
  rw [nI_len, filter_range (MT.opens es.length (ed es) S X B) 0 (fun x => decide (x ≠ e0)) (fun x => x), List.map_id'] at ey
  rw [ey] at hD
  have e14 := e13.trans e4
  have lf : ((MT.opens es.length (ed es) S X B).filter fun x => decide (x ≠ e0)).length ≤ 28 := Nat.le_trans (List.length_filter_le _ _) (by omega)
  refine ⟨.ref p, rfl, p, CS, dx, _, _, rfl, e14 _ _ hp, T.cS, T.nS_lead, sfs_lead .., sz (by simp), fun zl nzl => ⟨D, zl, _, _, rfl, rfl, (Ex.new nzl) _ _ hD, upd_same, sz (by rw [nI_len]; simp only [List.length_cons, List.length_nil]; omega), fun tw ntw => ?_⟩⟩
  have etw : nI ((MT.opens es.length (ed es) S X B).filter fun x => decide (x ≠ e0)) ++ [V.int (e0 : Int)] = nI (((MT.opens es.length (ed es) S X B).filter fun x => decide (x ≠ e0)) ++ [e0]) := by rw [nI_app, nI_one]
  rw [etw]
  generalize hTW : ((MT.opens es.length (ed es) S X B).filter fun x => decide (x ≠ e0)) ++ [e0] = TW
  have lTW : TW.length ≤ 29 := by rw [← hTW]; simp only [List.length_append, List.length_cons, List.length_nil]; omega
  have memTW : ∀ t, t ∈ TW ↔ MT.Open (ed es) es.length S X B t := fun t => by
    rw [← hTW, List.mem_append, List.mem_filter, List.mem_singleton, MT.mem_opens, decide_eq_true_eq]
    exact ⟨fun z => z.elim (·.1) (fun y => y ▸ hok.opn), fun z => by
      by_cases y : t = e0
      · exact .inr y
      · exact .inl ⟨z, y⟩⟩
  have e5 := (Ex.new (o := .lst [V.int (e0 : Int)]) nzl).trans (Ex.new (o := .lst (nI TW)) ntw)
  have e15 := e14.trans e5
  refine ⟨.ref p, rfl, p, CS, dx, _, _, rfl, e15 _ _ hp, T.cS, T.nS_base, sfs_base .., sz (by simp), fun td ntd => ?_⟩
  have e6 := Ex.new (o := .lst [V.ref bt]) ntd
  have e16 := e15.trans e6
  have ntd0 : H td = none := fresh_back e15 ntd
  have htw6 := e6 _ _ (show upd (upd H4 zl (.lst [V.int (e0 : Int)])) tw (.lst (nI TW)) tw = some (.lst (nI TW)) from upd_same)
  have ntw : tw ≠ td := ne_of_none (show upd (upd H4 zl (.lst [V.int (e0 : Int)])) tw (.lst (nI TW)) tw = some (.lst (nI TW)) from upd_same) ntd
  have hlr6 := e6 _ _ (e5 _ _ (e4 _ _ (e3 _ _ hlr)))
  have nlr : lr ≠ td := ne_of_none (e5 _ _ (e4 _ _ (e3 _ _ hlr))) ntd
  have nbt : bt ≠ td := ne_of_none hbt ntd0
  refine ⟨_, rfl, tw, _, rfl, sq_of htw6, for_it walk_enum (fun i σ' H' => ∃ (y2 y5 y6 : Option V) (ps : List Addr) (rows : List (List Nat)), σ' = [some (.ref p), some (.ref lr), y2, some (.ref tw), some (.ref td), y5, y6, none] ∧ Ex H H' ∧ H' td = some (.lst (ps.map V.ref)) ∧ ps.length = rows.length ∧ (∀ (u : Nat) (a : Addr) (r : List Nat), ps[u]? = some a → rows[u]? = some r → a ≠ td ∧ H' a = some (.tup (nI r))) ∧
      (∀ T ∈ rows, MT.Tree n (ed es) es.length T) ∧ B ∈ rows ∧ (∀ (j t : Nat), j < i → TW[j]? = some t → ∀ g ∈ L, MT.swp es.length B g t ∈ rows) ∧ rows.length ≤ 1 + 30 * i ∧ H' tw = some (.lst (nI TW)) ∧ H' lr = some (.lst (nI L)))
    ⟨none, none, none, [bt], [B], rfl, e16, upd_same, rfl, fun u a r ha hr' => ?_, fun T hT => by rw [List.mem_singleton.mp hT]; exact hok.tree, by simp, fun j t h => by omega, by simp, htw6, hlr6⟩ (fun i σ' H' _ ⟨_, _, _, _, _, _, _, _, _, _, _, _, _, _, h, _⟩ => sq_of h) ?_ ?_⟩
  · cases u with
    | zero =>
      have x1 : bt = a := by simpa using ha
      have x2 : B = r := by simpa using hr'
      rw [← x1, ← x2]
      exact ⟨nbt, e16 _ _ hbt⟩
    | succ u => simp at ha
  · rintro i x σ' Ha Hb hi ⟨y2, y5, y6, ps, rows, rfl, e, htd, lps, hps, htr, hB, hmem, lrows, htw', hlr'⟩ ⟨Tu, vi, vp, rfl, nTu, rfl, hvi, hvp⟩
    cases hvi
    obtain ⟨t, ht, rfl⟩ := nI_got hvp
    rw [nI_len] at hi
    have hto := (memTW t).mp (List.mem_of_getElem? ht)
    have eT := Ex.new (o := .tup [.int (i : Int), .int (t : Int)]) nTu
    have e7 := e.trans eT
    refine ⟨Tu, _, rfl, st_of upd_same, rfl, _, _, rfl, _, _, rfl, rfl, ?_⟩
    refine ⟨_, rfl, ?_⟩
    refine ⟨_, rfl, tw, _, rfl, .inl (sq_of (eT _ _ htw')), _, _, rfl, rfl, _, rfl, _, _, rfl, rfl, _, _, rfl, rfl, (show (2 : Int) ≠ 0 by decide), rfl, _, rfl, ?_⟩
    by_cases hq : V.int (Int.fmod ((((nI TW).length : Nat) : Int) - 1 - (i : Int)) 2) = V.int 1
    · refine ifT hq ?_
      refine ⟨_, rfl, lr, _, rfl, eT _ _ hlr', fun rv nrv => ?_⟩
      have e9 := Ex.new (o := .lst (nI L).reverse) nrv
      have hrv : upd (upd Ha Tu (.tup [.int (i : Int), .int (t : Int)])) rv (.lst (nI L).reverse) rv = some (.lst (nI L.reverse)) := by
        rw [upd_same]; unfold nI; rw [List.map_reverse]
      refine ⟨_, rfl, .inl ⟨rfl, _, sq_of (e9 _ _ (eT _ _ htd))⟩, ?_⟩
      refine ⟨_, rfl, rv, rfl, ⟨_, sq_of hrv⟩, fun D2 nD2 => lc_fin (D := D2) (walk_list (xs := nI L.reverse)) (by rw [nI_len]; have := (show L.reverse.length ≤ 30 by rw [List.length_reverse]; exact lL); omega) (gm_name 7) (fun _ => true) (fun k y H => IsT D2 (nI (MT.swp es.length B (L.reverse.getD k 0) t)) y H) (fun _ _ _ _ e h => h.m e) nD2 (fun H2 e2 => sq_of (e2 _ _ hrv)) ?_ ?_⟩
      · rintro j y Hj Hk hj ea ⟨zs, hz⟩ ⟨rfl, hy⟩
        obtain ⟨g, hg, rfl⟩ := nI_got hy
        have ev : L.reverse.getD j 0 = g := by rw [List.getD_eq_getElem?_getD, hg]; rfl
        rw [ev]
        refine ⟨rfl, Ex.refl _, et_yes, fun _ Hc ec Q' q' => ?_⟩
        have ecc : Ex H Hc := ((e7.trans e9).trans ea).trans ec
        refine ⟨.ref p, rfl, p, CS, dx, _, _, rfl, ecc _ _ hp, T.cS, T.nS_base, sfs_base .., _, rfl, _, rfl, bt, es.length, B, g, t, rfl, ecc _ _ hbt, hok.tree.sub, h30, hto.1, hto.2.2.2.1, fun Hr r er hr' => ?_⟩
        refine q' _ _ er ⟨r, rfl, fun z => ?_, hr'⟩
        rw [z, er _ _ (ec _ _ hz)] at hr'
        cases hr'
      intro ys H8 e8 hD2 hk2
      have hTL := kept_TL (g := fun k => MT.swp es.length B (L.reverse.getD k 0) t) hD2 hk2
      rw [nI_len, map_range L.reverse 0 (fun g => MT.swp es.length B g t)] at hTL
      obtain ⟨qs, s1, s2, s3⟩ := hTL
      have e78 := (eT.trans e9).trans e8
      have htd8 := e78 _ _ htd
      have lqs : qs.length ≤ 30 := by rw [s2, List.length_map]; exact (show L.reverse.length ≤ 30 by rw [List.length_reverse]; exact lL)
      refine ⟨td, D2, _, _, rfl, rfl, htd8, s1, sz (by rw [List.length_map, List.length_map, lps]; omega), ?_⟩
      refine ⟨_, _, _, ps ++ qs, rows ++ L.reverse.map (fun g => MT.swp es.length B g t), rfl, Ex.mut (e.trans e78) ntd0, by rw [upd_same, List.map_append], by rw [List.length_append, List.length_append, lps, s2], fun u a r ha hr' => ?_, fun T hT => ?_, List.mem_append_left _ hB, fun j t' hj ht' g hg => ?_, (by rw [List.length_append, List.length_map]; have := (show L.reverse.length ≤ 30 by rw [List.length_reverse]; exact lL); omega), (by rw [upd_ne ntw]; exact e78 _ _ htw'), (by rw [upd_ne nlr]; exact e78 _ _ hlr')⟩
      · by_cases hu' : u < ps.length
        · rw [List.getElem?_append_left hu'] at ha
          rw [List.getElem?_append_left (by omega)] at hr'
          obtain ⟨x1, x2⟩ := hps u a r ha hr'
          exact ⟨x1, by rw [upd_ne x1]; exact e78 _ _ x2⟩
        · rw [List.getElem?_append_right (by omega)] at ha
          rw [List.getElem?_append_right (by omega), ← lps] at hr'
          have x2 := s3 _ a r ha hr'
          have x1 : a ≠ td := fun z => by rw [z, htd8] at x2; cases x2
          exact ⟨x1, by rw [upd_ne x1]; exact x2⟩
      · rcases List.mem_append.mp hT with z | z
        · exact htr T z
        · obtain ⟨g, hg, rfl⟩ := List.mem_map.mp z
          exact hok.twin_tree he hto (hall t hto) ((memL g).mp (List.mem_reverse.mp hg))
      · by_cases z : j < i
        · exact List.mem_append_left _ (hmem j t' z ht' g hg)
        · rw [show j = i by omega, ht] at ht'
          rw [← Option.some.inj ht']
          exact List.mem_append_right _ (List.mem_map_of_mem (List.mem_reverse.mpr hg))
    · refine ifF hq ?_
      refine ⟨_, rfl, .inl ⟨rfl, _, sq_of ((Ex.refl _) _ _ (eT _ _ htd))⟩, ?_⟩
      refine ⟨_, rfl, lr, rfl, ⟨_, sq_of (eT _ _ hlr')⟩, fun D2 nD2 => lc_fin (D := D2) (walk_list (xs := nI L)) (by rw [nI_len]; have := lL; omega) (gm_name 7) (fun _ => true) (fun k y H => IsT D2 (nI (MT.swp es.length B (L.getD k 0) t)) y H) (fun _ _ _ _ e h => h.m e) nD2 (fun H2 e2 => sq_of (e2 _ _ (eT _ _ hlr'))) ?_ ?_⟩
      · rintro j y Hj Hk hj ea ⟨zs, hz⟩ ⟨rfl, hy⟩
        obtain ⟨g, hg, rfl⟩ := nI_got hy
        have ev : L.getD j 0 = g := by rw [List.getD_eq_getElem?_getD, hg]; rfl
        rw [ev]
        refine ⟨rfl, Ex.refl _, et_yes, fun _ Hc ec Q' q' => ?_⟩
        have ecc : Ex H Hc := ((e7.trans (Ex.refl _)).trans ea).trans ec
        refine ⟨.ref p, rfl, p, CS, dx, _, _, rfl, ecc _ _ hp, T.cS, T.nS_base, sfs_base .., _, rfl, _, rfl, bt, es.length, B, g, t, rfl, ecc _ _ hbt, hok.tree.sub, h30, hto.1, hto.2.2.2.1, fun Hr r er hr' => ?_⟩
        refine q' _ _ er ⟨r, rfl, fun z => ?_, hr'⟩
        rw [z, er _ _ (ec _ _ hz)] at hr'
        cases hr'
      intro ys H8 e8 hD2 hk2
      have hTL := kept_TL (g := fun k => MT.swp es.length B (L.getD k 0) t) hD2 hk2
      rw [nI_len, map_range L 0 (fun g => MT.swp es.length B g t)] at hTL
      obtain ⟨qs, s1, s2, s3⟩ := hTL
      have e78 := (eT.trans (Ex.refl _)).trans e8
      have htd8 := e78 _ _ htd
      have lqs : qs.length ≤ 30 := by rw [s2, List.length_map]; exact lL
      refine ⟨td, D2, _, _, rfl, rfl, htd8, s1, sz (by rw [List.length_map, List.length_map, lps]; omega), ?_⟩
      refine ⟨_, _, _, ps ++ qs, rows ++ L.map (fun g => MT.swp es.length B g t), rfl, Ex.mut (e.trans e78) ntd0, by rw [upd_same, List.map_append], by rw [List.length_append, List.length_append, lps, s2], fun u a r ha hr' => ?_, fun T hT => ?_, List.mem_append_left _ hB, fun j t' hj ht' g hg => ?_, (by rw [List.length_append, List.length_map]; have := lL; omega), (by rw [upd_ne ntw]; exact e78 _ _ htw'), (by rw [upd_ne nlr]; exact e78 _ _ hlr')⟩
      · by_cases hu' : u < ps.length
        · rw [List.getElem?_append_left hu'] at ha
          rw [List.getElem?_append_left (by omega)] at hr'
          obtain ⟨x1, x2⟩ := hps u a r ha hr'
          exact ⟨x1, by rw [upd_ne x1]; exact e78 _ _ x2⟩
        · rw [List.getElem?_append_right (by omega)] at ha
          rw [List.getElem?_append_right (by omega), ← lps] at hr'
          have x2 := s3 _ a r ha hr'
          have x1 : a ≠ td := fun z => by rw [z, htd8] at x2; cases x2
          exact ⟨x1, by rw [upd_ne x1]; exact x2⟩
      · rcases List.mem_append.mp hT with z | z
        · exact htr T z
        · obtain ⟨g, hg, rfl⟩ := List.mem_map.mp z
          exact hok.twin_tree he hto (hall t hto) ((memL g).mp (id hg))
      · by_cases z : j < i
        · exact List.mem_append_left _ (hmem j t' z ht' g hg)
        · rw [show j = i by omega, ht] at ht'
          rw [← Option.some.inj ht']
          exact List.mem_append_right _ (List.mem_map_of_mem (id hg))
  · rintro σ' H' ⟨y2, y5, y6, ps, rows, rfl, e, htd, lps, hps, htr, hB, hmem, lrows, htw', hlr'⟩
    rw [nI_len] at hmem
    refine ⟨_, rfl, q H' td rows e ⟨ps, htd, lps, fun u a r ha hr' => (hps u a r ha hr').2⟩ htr ?_⟩
    refine hok.few he hall rows hB fun t g ht hg => ?_
    obtain ⟨j, hj⟩ := List.getElem?_of_mem ((memTW t).mpr ht)
    exact hmem j t (List.getElem?_eq_some_iff.mp hj).1 hj g ((memL g).mpr hg)
end
end Sr
namespace Sr
open PySem PySem.Spec PyProof.Rows L2 Evl
theorem part_room {n E : Nat} {ed : Nat → Nat × Nat} {S X B : List Nat} {e : Nat} (h : MT.PartOk n ed E S X B e) : S.length + X.length + 1 ≤ E := by
  have nd : (S ++ (X ++ [e])).Nodup := by
    refine List.nodup_append.mpr ⟨MT.sub_nd h.k, List.nodup_append.mpr ⟨MT.sub_nd h.x, by simp, fun a ha b hb z => ?_⟩, fun a ha b hb z => ?_⟩
    · rw [List.mem_singleton] at hb
      exact h.nx (hb ▸ z ▸ ha)
    · rcases List.mem_append.mp hb with q | q
      · exact h.kx a ha (z ▸ q)
      · rw [List.mem_singleton] at q
        exact h.nb (h.kb e (q ▸ z ▸ ha))
  have := List.Nodup.length_le_of_subset nd (l₂ := List.range E) fun t ht => by
    rw [List.mem_range]
    rcases List.mem_append.mp ht with q | q
    · exact MT.sub_lt h.k q
    · rcases List.mem_append.mp q with q | q
      · exact MT.sub_lt h.x q
      · rw [List.mem_singleton] at q; exact q ▸ h.lt
  rw [List.length_append, List.length_append, List.length_range] at this
  simp at this; omega
theorem cut_one {xs : List V} {a : Nat} {v : V} (h : xs[a]? = some v) : cutV xs (some (a : Int)) (some ((a : Int) + 1)) = [v] := by
  obtain ⟨hl, e⟩ := List.getElem?_eq_some_iff.mp h
  unfold cutV
  have h1 : HT.sIx xs.length 0 (some (a : Int)) = a := by
    show (if ((a : Nat) : Int) < 0 then (((a : Nat) : Int) + (xs.length : Int)).toNat else min ((a : Nat) : Int).toNat xs.length) = a
    rw [if_neg (by omega)]; omega
  have h2 : HT.sIx xs.length xs.length (some ((a : Int) + 1)) = a + 1 := by
    show (if ((a : Nat) : Int) + 1 < 0 then (((a : Nat) : Int) + 1 + (xs.length : Int)).toNat else min (((a : Nat) : Int) + 1).toNat xs.length) = a + 1
    rw [if_neg (by omega)]; omega
  rw [h1, h2, show a + 1 - a = 1 by omega, List.drop_eq_getElem_cons hl, e]; rfl
section
variable {P : Program} {w : World} {K : PySem.W.Frag} {mg : Str → Option Value} {base : Heap} {CW CS : Addr}
/-- one tree in a list -/
def OneT (H : Hp) (r : Addr) (n : Nat) (es : List (Nat × Nat)) : Prop := ∃ a T, H r = some (.lst [.ref a]) ∧ H a = some (.tup (nI T)) ∧ MT.Tree n (ed es) es.length T
def spBetween (CW CS : Addr) (d : Nat) : Sp := fun vs H Q _ => ∃ (p pw : Addr) (n : Nat) (es : List (Nat × Nat)) (S X B : List Nat) (e lw : Nat), vs = [.ref p, .int (lw : Int), .int (lw : Int)] ∧ StrAt CW CS H p pw n es S X B e ∧ es.length ≤ S.length + X.length + d ∧ lw < MT.NT n (ed es) es.length S X ∧
  ∀ H' r, Ex H H' → OneT H' r n es → Q (.ref r) H'
theorem d_between (T : Txt K mg CW CS) : ∀ d : Nat, MDef P w K mg base CS "between" (8 + d) ["self", "low", "high"] (spBetween CW CS d)
  | 0 => by
    refine mdef_by (k := 7) T.a_st_between sc_st_between (fun vs H Q E h => ?_) (fun f cdv A outer s H vs Q E hr h => ?_)
    · obtain ⟨p, n, es, _, _, _, _, _, _, rfl, _⟩ := h; rfl
    obtain ⟨p, pw, n, es, S, X, B, e, lw, rfl, hst, hd, hlw, q⟩ := h
    obtain ⟨dx, kt, xt, bt, hp, hw, hkt, hxt, hbt, hok, h28⟩ := id hst
    have := part_room hok
    omega
  | d + 1 => by
    have M_between : MDef P w K mg base CS "between" (8 + d) ["self", "low", "high"] (spBetween CW CS d) := d_between T d
    have M_next_lead : MDef P w K mg base CS "next_lead" 6 ["self"] (spNext CW CS) := d_next T
    have M_first_half : MDef P w K mg base CS "first_half" 5 ["self", "lead"] (spFirstH CW CS) := d_first T
    have M_second_half : MDef P w K mg base CS "second_half" 6 ["self", "lead", "first"] (spSecondH CW CS) := d_second T
    have M_laid_out : MDef P w K mg base CS "laid_out" 6 ["self"] (spLaid CW CS) := d_laid T
    refine mdef_by (k := 8 + d) T.a_st_between sc_st_between (fun vs H Q E h => ?_) (fun f cdv A outer s H vs Q E hr h => ?_)
    · obtain ⟨p, n, es, _, _, _, _, _, _, rfl, _⟩ := h; rfl
    obtain ⟨p, pw, n, es, S, X, B, e, lw, rfl, hst, hd, hlw, q⟩ := h
    obtain ⟨dx, kt, xt, bt, hp, hw, hkt, hxt, hbt, hok, h28⟩ := id hst
    refine ⟨_, (pss_cons (ps_set (i := 3) sc_st_between.nd rfl (by first | exact Or.inl rfl | exact Or.inr rfl) (pe_md0 (pv 0) T.cS M_next_lead hr (by omega)))
      (pss_cons (ps_if (pt_cmpR op_isN (pv 3) pe_non (nomark _)) (pss_one (ps_ret (pe_slice (r := rSlL K) sl_list (pe_md0 (pv 0) T.cS M_laid_out hr (by omega)) (po_some (pv 1)) (po_some (pe_op op_add (pv 2) pe_int))))) pss_nil)
      (pss_cons (ps_set (i := 4) sc_st_between.nd rfl (by first | exact Or.inl rfl | exact Or.inr rfl) (pe_lst pa_nil))
      (pss_cons (ps_set (i := 5) sc_st_between.nd rfl (by first | exact Or.inl rfl | exact Or.inr rfl) (pe_md (pv 0) T.cS M_first_half hr (by omega) (pa_cons (pv 3) pa_nil)))
      (pss_cons (ps_if (pt_cmpR op_lt (pv 1) (pe_fldK (K' := K) rfl (pv 5) (by rfl)) (nomark _)) (pss_one (ps_set (i := 4) sc_st_between.nd rfl (by first | exact Or.inl rfl | exact Or.inr rfl) (pe_md (pv 5) T.cS M_between hr (by omega) (pa_cons (pv 1) (pa_cons (pe_callB (call_min2 rfl) (by rfl) T.z_min (by decide +kernel) (pa_cons (pv 2) (pa_cons (pe_op op_sub (pe_fldK (K' := K) rfl (pv 5) (by rfl)) pe_int) pa_nil))) pa_nil))))) pss_nil)
      (pss_cons (ps_if (pt_cmpR op_ge (pv 2) (pe_fldK (K' := K) rfl (pv 5) (by rfl)) (nomark _)) (pss_cons (ps_set (i := 6) sc_st_between.nd rfl (by first | exact Or.inl rfl | exact Or.inr rfl) (pe_md (pv 0) T.cS M_second_half hr (by omega) (pa_cons (pv 3) (pa_cons (pv 5) pa_nil))))
        (pss_cons (ps_set (i := 7) sc_st_between.nd rfl (by first | exact Or.inl rfl | exact Or.inr rfl) (pe_md (pv 6) T.cS M_between hr (by omega) (pa_cons (pe_op op_sub (pe_op op_sub (pe_fldK (K' := K) rfl (pv 0) (by rfl)) pe_int) (pv 2)) (pa_cons (pe_op op_sub (pe_op op_sub (pe_fldK (K' := K) rfl (pv 0) (by rfl)) pe_int) (pe_callB (call_max2 rfl) (by rfl) T.z_max (by decide +kernel) (pa_cons (pv 1) (pa_cons (pe_fldK (K' := K) rfl (pv 5) (by rfl)) pa_nil)))) pa_nil))))
        (pss_one (ps_set (i := 4) sc_st_between.nd rfl (by first | exact Or.inl rfl | exact Or.inr rfl) (pe_op op_cat (pv 4) (pe_listRev rfl (by rfl) T.z_list (by rfl) T.z_reversed (pv 7))))))) pss_nil)
      (pss_one (ps_ret (pv 4))))))))), ?_⟩
    refine ⟨_, rfl, p, dx, _, rfl, hp, sfs_n3 .., p, pw, n, es, S, X, B, e, rfl, hst, fun H1 t e1 hto htw => ?_, fun H1 e1 hall => ?_⟩
    · refine ⟨_, rfl, rfl, _, rfl, ifF (by simp) ?_⟩
      have hte : t ≠ e := fun z => htw (by rw [z]; exact .inl ⟨rfl, rfl⟩)
      refine ⟨sz (by simp), fun td ntd => ?_⟩
      have e2 := e1.trans (Ex.new (o := .lst []) ntd)
      have htd : upd H1 td (.lst []) td = some (.lst []) := upd_same
      refine ⟨_, rfl, p, dx, _, rfl, e2 _ _ hp, sfs_n4 .., _, rfl, p, pw, n, es, S, X, B, e, t, rfl, hst.mono e2, hto, hte, fun H3 f1 e3 hf1 => ?_⟩
      have e13 := e2.trans e3
      obtain ⟨dx1, kt1, xt1, bt1, hp1, hw1, hkt1, hxt1, hbt1, hok1, _⟩ := id hf1
      have hsp := MT.NT_split hok
      have linX : (MT.ins es.length X e).length = X.length + 1 := MT.ins_len hok.x hok.lt hok.nx
      have linS : (MT.ins es.length S e).length = S.length + 1 := MT.ins_len hok.k hok.lt (fun z => hok.nb (hok.kb e z))
      refine ⟨_, rfl, .ref f1, rfl, f1, CS, dx1, _, _, rfl, hp1, T.cS, T.nS_size, sfs_size .., _, _, rfl, rfl, _, rfl, ?_⟩
      by_cases hlt : ((lw : Nat) : Int) < ((MT.NT n (ed es) es.length S (MT.ins es.length X e) : Nat) : Int)
      · refine ifT hlt ?_
        refine ⟨_, rfl, f1, dx1, _, rfl, hp1, sfs_n7 .., _, rfl, _, rfl, .ref f1, rfl, f1, CS, dx1, _, _, rfl, hp1, T.cS, T.nS_size, sfs_size .., _, _, rfl, rfl, _, _, rfl, ?_⟩
        refine ⟨f1, pw, n, es, S, MT.ins es.length X e, B, t, lw, ?_, hf1, by omega, by omega, fun H4 r e4 h4 => ?_⟩
        · show [V.ref f1, V.int (lw : Int), V.int (if ((MT.NT n (ed es) es.length S (MT.ins es.length X e) : Nat) : Int) - 1 < (lw : Int) then ((MT.NT n (ed es) es.length S (MT.ins es.length X e) : Nat) : Int) - 1 else (lw : Int))] = _
          rw [if_neg (by omega)]
        refine ⟨_, rfl, .ref f1, rfl, f1, CS, dx1, _, _, rfl, e4 _ _ hp1, T.cS, T.nS_size, sfs_size .., _, _, rfl, rfl, _, rfl, ifF (by omega) ?_⟩
        exact ⟨_, rfl, q H4 r (e13.trans e4) h4⟩
      · refine ifF hlt ?_
        refine ⟨_, rfl, .ref f1, rfl, f1, CS, dx1, _, _, rfl, hp1, T.cS, T.nS_size, sfs_size .., _, _, rfl, rfl, _, rfl, ifT (by omega) ?_⟩
        refine ⟨_, rfl, p, dx, _, rfl, e13 _ _ hp, sfs_n5 .., _, rfl, _, rfl, p, pw, f1, n, es, S, X, B, e, t, rfl, hst.mono e13, hf1, hto, htw, fun H4 f2 B' e4 hf2 => ?_⟩
        obtain ⟨dx2, kt2, xt2, bt2, hp2, hw2, hkt2, hxt2, hbt2, hok2, _⟩ := id hf2
        have e14 := e13.trans e4
        refine ⟨_, rfl, f2, dx2, _, rfl, hp2, sfs_n7 .., .ref p, rfl, p, CS, dx, _, _, rfl, e14 _ _ hp, T.cS, T.nS_size, sfs_size .., _, _, rfl, rfl, _, rfl, _, _, rfl, rfl, .ref p, rfl, p, CS, dx, _, _, rfl, e14 _ _ hp, T.cS, T.nS_size, sfs_size .., _, _, rfl, rfl, _, rfl, .ref f1, rfl, f1, CS, dx1, _, _, rfl, e4 _ _ hp1, T.cS, T.nS_size, sfs_size .., _, _, rfl, _, _, rfl, rfl, ?_⟩
        refine ⟨f2, pw, n, es, MT.ins es.length S e, X, B', t, MT.NT n (ed es) es.length S X - 1 - lw, ?_, hf2, by omega, by omega, fun H5 r e5 h5 => ?_⟩
        · show [V.ref f2, V.int (((MT.NT n (ed es) es.length S X : Nat) : Int) - 1 - (lw : Int)), V.int (((MT.NT n (ed es) es.length S X : Nat) : Int) - 1 - (if ((MT.NT n (ed es) es.length S (MT.ins es.length X e) : Nat) : Int) > (lw : Int) then ((MT.NT n (ed es) es.length S (MT.ins es.length X e) : Nat) : Int) else (lw : Int)))] = _
          rw [if_neg (by omega), show ((MT.NT n (ed es) es.length S X : Nat) : Int) - 1 - (lw : Int) = ((MT.NT n (ed es) es.length S X - 1 - lw : Nat) : Int) by omega]
        obtain ⟨a, T', h5a, h5b, h5c⟩ := h5
        have e35 := (e3.trans e4).trans e5
        refine ⟨_, rfl, _, rfl, r, _, rfl, h5a, fun rv nrv => ?_⟩
        refine ⟨td, rv, _, _, rfl, rfl, (Ex.new nrv) _ _ (e35 _ _ htd), upd_same, sz (by simp), fun z nz => ?_⟩
        have e6 := (Ex.new (o := .lst [V.ref a].reverse) nrv).trans (Ex.new (o := .lst ([] ++ [V.ref a].reverse)) nz)
        exact ⟨_, rfl, q _ z (e2.trans (e35.trans e6)) ⟨a, T', upd_same, e6 _ _ h5b, h5c⟩⟩
    · refine ⟨_, rfl, rfl, _, rfl, ifT rfl ?_⟩
      refine ⟨_, rfl, p, dx, _, rfl, e1 _ _ hp, sfs_n6 .., p, pw, n, es, S, X, B, e, rfl, hst.mono e1, hall, fun H2 r rows e2 h2 htr hle => ?_⟩
      obtain ⟨ps, r1, r2, r3⟩ := h2
      refine ⟨_, rfl, _, rfl, _, rfl, _, _, rfl, rfl, _, rfl, r, _, rfl, sq_of r1, fun c nc => ?_⟩
      obtain ⟨a, ha⟩ := some_of (l := ps) (i := lw) (by omega)
      obtain ⟨T', hT'⟩ := some_of (l := rows) (i := lw) (by omega)
      rw [cut_one (v := .ref a) (by rw [List.getElem?_map, ha]; rfl)]
      exact q _ c ((e1.trans e2).trans (Ex.new nc)) ⟨a, T', upd_same, (Ex.new nc) _ _ (r3 lw a T' ha hT'), htr T' (List.mem_of_getElem? hT')⟩
def spWhole (CW CS : Addr) : Sp := fun vs H Q _ => ∃ (p : Addr) (n : Nat) (es : List (Nat × Nat)), vs = [.ref p] ∧ WebAt CW H p n es ∧ es.length ≤ 28 ∧ MT.pc n (MT.mk ((List.range es.length).map (ed es))) = 1 ∧ 2 ≤ MT.NT n (ed es) es.length [] [] ∧
  ∀ H' r B e, Ex H H' → StrAt CW CS H' r p n es [] [] B e → Q (.ref r) H'
theorem tau_es {n : Nat} {es : List (Nat × Nat)} (h : MT.InN n es) : MT.tau n id es = MT.NT n (ed es) es.length [] [] := by
  have := MT.tau_all (ed_in h)
  rw [← this]
  congr 1
  exact MT.map_ed.symm
theorem d_whole (T : Txt K mg CW CS) : Def P w K mg base "whole_row" 4 ["web"] (spWhole CW CS) := by
  have D_tree_count : Def P w K mg base "tree_count" 3 ["web"] (spCount CW) := d_tree_count T
  have D_least_tree : Def P w K mg base "least_tree" 3 ["web"] (spLeast CW) := d_least_tree T
  have D_least_open : Def P w K mg base "least_open" 1 ["web", "base"] (spOpen CW) := d_least_open T
  have M_Stretch : IDef P w K mg base CS 1 ["self", "web", "kept", "shut", "base", "lead", "count"] (spStrInit CS) := d_strinit T
  refine def_by T.a_whole_row sc_whole_row (fun vs H Q E h => ?_) (fun f cdv A outer s H vs Q E hr h => ?_)
  · obtain ⟨p, n, es, rfl, _⟩ := h; rfl
  obtain ⟨p, n, es, rfl, hw, h28, hj, h2, q⟩ := h
  obtain ⟨dx, l, hp, hl, h1, h14, h30, hin⟩ := id hw
  have he := ed_in hin
  refine ⟨_, (pss_cons (ps_set (i := 1) sc_whole_row.nd rfl (by first | exact Or.inl rfl | exact Or.inr rfl) (pe_def D_tree_count hr (by omega) (by rfl) (pa_cons (pv 0) pa_nil)))
      (pss_cons (ps_if (pt_cmpR op_lt (pv 1) pe_int (nomark _)) (pss_one (ps_ret pe_non)) pss_nil)
      (pss_cons (ps_set (i := 2) sc_whole_row.nd rfl (by first | exact Or.inl rfl | exact Or.inr rfl) (pe_def D_least_tree hr (by omega) (by rfl) (pa_cons (pv 0) pa_nil)))
      (pss_one (ps_ret (pe_mk M_Stretch hr (by omega) (by rfl) T.mS (pa_cons (pv 0) (pa_cons (pe_tup pa_nil) (pa_cons (pe_tup pa_nil) (pa_cons (pv 2) (pa_cons (pe_def D_least_open hr (by omega) (by rfl) (pa_cons (pv 0) (pa_cons (pv 2) pa_nil))) (pa_cons (pv 1) pa_nil)))))))))))), ?_⟩
  refine ⟨_, rfl, p, n, es, rfl, hw, h28, by rw [tau_es hin]; omega, fun H1 e1 => ?_⟩
  rw [tau_es hin]
  refine ⟨_, rfl, _, _, rfl, rfl, _, rfl, ifF (by omega) ?_⟩
  refine ⟨_, rfl, p, n, es, rfl, hw.mono e1, hj, fun H2 bt B e2 hB hT => ?_⟩
  have e12 := e1.trans e2
  refine ⟨_, rfl, sz (by simp), fun kt nkt => ⟨sz (by simp), fun xt nxt => ⟨_, rfl, ?_⟩⟩⟩
  have e3 := (Ex.new (o := .tup []) nkt).trans (Ex.new (o := .tup []) nxt)
  have hkt : upd (upd H2 kt (.tup [])) xt (.tup []) kt = some (.tup (nI [])) := (Ex.new nxt) _ _ upd_same
  refine ⟨_, rfl, _, rfl, p, bt, n, es, B, rfl, hw.mono (e12.trans e3), e3 _ _ hB, MT.two_open he hT h2, fun H4 t e4 t1 t2 t3 => ?_⟩
  refine ⟨_, rfl, ?_⟩
  intro x dx' nx ndx _
  refine ⟨x, dx', p, kt, xt, bt, t, _, rfl, upd_same, fun H5 eb h5 => ⟨rfl, ?_⟩⟩
  have e5 := ex_made nx ndx eb
  have e35 := (e3.trans e4).trans e5
  refine q H5 x B t (e12.trans e35) ⟨dx', kt, xt, bt, h5, hw.mono (e12.trans e35), e5 _ _ (e4 _ _ hkt), e5 _ _ (e4 _ _ upd_same), e35 _ _ hB, MT.part_first hT t1 t2 t3, h28⟩
def spFrom (CW : Addr) : Sp := fun vs H Q _ => ∃ (p : Addr) (n : Nat) (es : List (Nat × Nat)) (lw : Nat), vs = [.ref p, .int (lw : Int), .int 1] ∧ WebAt CW H p n es ∧ es.length ≤ 28 ∧ MT.pc n (MT.mk ((List.range es.length).map (ed es))) = 1 ∧ 2 ≤ MT.NT n (ed es) es.length [] [] ∧ lw < MT.NT n (ed es) es.length [] [] ∧
  ∀ H' r, Ex H H' → OneT H' r n es → Q (.ref r) H'
theorem d_row_from (T : Txt K mg CW CS) : Def P w K mg base "row_from" 37 ["web", "number", "most"] (spFrom CW) := by
  have D_tree_count : Def P w K mg base "tree_count" 3 ["web"] (spCount CW) := d_tree_count T
  have D_least_tree : Def P w K mg base "least_tree" 3 ["web"] (spLeast CW) := d_least_tree T
  have D_whole_row : Def P w K mg base "whole_row" 4 ["web"] (spWhole CW CS) := d_whole T
  have M_between : MDef P w K mg base CS "between" 36 ["self", "low", "high"] (spBetween CW CS 28) := d_between T 28
  refine def_by T.a_row_from sc_row_from (fun vs H Q E h => ?_) (fun f cdv A outer s H vs Q E hr h => ?_)
  · obtain ⟨p, n, es, _, rfl, _⟩ := h; rfl
  obtain ⟨p, n, es, lw, rfl, hw, h28, hj, h2, hlw, q⟩ := h
  obtain ⟨dx, l, hp, hl, h1, h14, h30, hin⟩ := id hw
  refine ⟨_, (pss_cons (ps_if (pt_cmpR op_lt (pv 1) pe_int (nomark _)) (pss_one ps_never) pss_nil)
      (pss_cons (ps_set (i := 3) sc_row_from.nd rfl (by first | exact Or.inl rfl | exact Or.inr rfl) (pe_def D_tree_count hr (by omega) (by rfl) (pa_cons (pv 0) pa_nil)))
      (pss_cons (ps_set (i := 4) sc_row_from.nd rfl (by first | exact Or.inl rfl | exact Or.inr rfl) (pe_op op_sub (pe_callB (call_min2 rfl) (by rfl) T.z_min (by decide +kernel) (pa_cons (pv 3) (pa_cons (pe_op op_add (pv 1) (pv 2)) pa_nil))) pe_int))
      (pss_cons (ps_if (pt_cmpR op_gt (pv 1) (pv 4) (nomark _)) (pss_one (ps_ret (pe_lst pa_nil))) pss_nil)
      (pss_cons (ps_set (i := 5) sc_row_from.nd rfl (by first | exact Or.inl rfl | exact Or.inr rfl) (pe_def D_whole_row hr (by omega) (by rfl) (pa_cons (pv 0) pa_nil)))
      (pss_cons (ps_if (pt_cmpR op_isN (pv 5) pe_non (nomark _)) (pss_one (ps_ret (pe_lst (pa_cons (pe_def D_least_tree hr (by omega) (by rfl) (pa_cons (pv 0) pa_nil)) pa_nil)))) pss_nil)
      (pss_one (ps_ret (pe_md (pv 5) T.cS M_between hr (by omega) (pa_cons (pv 1) (pa_cons (pv 4) pa_nil))))))))))), ?_⟩
  refine ⟨_, rfl, _, _, rfl, rfl, _, rfl, ifF (by omega) ?_⟩
  refine ⟨_, rfl, p, n, es, rfl, hw, h28, by rw [tau_es hin]; omega, fun H1 e1 => ?_⟩
  rw [tau_es hin]
  refine ⟨_, rfl, _, rfl, _, rfl, _, _, rfl, rfl, _, _, rfl, _, _, rfl, rfl, ?_⟩
  have em : (if (lw : Int) + 1 < ((MT.NT n (ed es) es.length [] [] : Nat) : Int) then (lw : Int) + 1 else ((MT.NT n (ed es) es.length [] [] : Nat) : Int)) = (lw : Int) + 1 := by
    split <;> omega
  rw [em]
  refine ⟨_, rfl, _, rfl, _, _, rfl, rfl, _, rfl, ifF (by omega) ?_⟩
  refine ⟨_, rfl, p, n, es, rfl, hw.mono e1, h28, hj, h2, fun H2 r B e e2 hst => ?_⟩
  refine ⟨_, rfl, rfl, _, rfl, ifF (by simp) ?_⟩
  obtain ⟨dxs, kt, xt, bt, hps, _⟩ := id hst
  refine ⟨_, rfl, r, dxs, _, rfl, hps, sfs_n7 .., _, rfl, _, rfl, r, p, n, es, [], [], B, e, lw, ?_, hst, by simp; omega, hlw, fun H3 r3 e3 h3 => q H3 r3 ((e1.trans e2).trans e3) h3⟩
  show [V.ref r, V.int (lw : Int), V.int ((lw : Int) + 1 - 1)] = _
  rw [show (lw : Int) + 1 - 1 = (lw : Int) by omega]
def spRowAt (CW : Addr) : Sp := fun vs H Q _ => ∃ (p : Addr) (n : Nat) (es : List (Nat × Nat)) (lw : Nat), vs = [.ref p, .int (lw : Int)] ∧ WebAt CW H p n es ∧ es.length ≤ 28 ∧ MT.pc n (MT.mk ((List.range es.length).map (ed es))) = 1 ∧ 2 ≤ MT.NT n (ed es) es.length [] [] ∧ lw < MT.NT n (ed es) es.length [] [] ∧
  ∀ H' r T, Ex H H' → H' r = some (.tup (nI T)) → MT.Tree n (ed es) es.length T → Q (.ref r) H'
theorem d_row_at (T : Txt K mg CW CS) : Def P w K mg base "row_at" 38 ["web", "number"] (spRowAt CW) := by
  have D_tree_count : Def P w K mg base "tree_count" 3 ["web"] (spCount CW) := d_tree_count T
  have D_row_from : Def P w K mg base "row_from" 37 ["web", "number", "most"] (spFrom CW) := d_row_from T
  refine def_by T.a_row_at sc_row_at (fun vs H Q E h => ?_) (fun f cdv A outer s H vs Q E hr h => ?_)
  · obtain ⟨p, n, es, _, rfl, _⟩ := h; rfl
  obtain ⟨p, n, es, lw, rfl, hw, h28, hj, h2, hlw, q⟩ := h
  obtain ⟨dx, l, hp, hl, h1, h14, h30, hin⟩ := id hw
  refine ⟨_, (pss_cons (ps_if (PW.pt (pw_or (pt_cmpR op_lt (pv 1) pe_int (nomark _)) (pw_or1 (pt_cmpR op_ge (pv 1) (pe_def D_tree_count hr (by omega) (by rfl) (pa_cons (pv 0) pa_nil)) (nomark _))))) (pss_one ps_never) pss_nil)
      (pss_one (ps_ret (pe_ix (r := rIxL K) ix_list (pe_def D_row_from hr (by omega) (by rfl) (pa_cons (pv 0) (pa_cons (pv 1) (pa_cons pe_int pa_nil)))) pe_int (fun _ _ => rfl))))), ?_⟩
  refine ⟨_, rfl, _, _, rfl, rfl, _, rfl, ifF (by omega) ?_⟩
  refine ⟨_, rfl, _, rfl, p, n, es, rfl, hw, h28, by rw [tau_es hin]; omega, fun H1 e1 => ?_⟩
  rw [tau_es hin]
  refine ⟨_, _, rfl, rfl, _, rfl, ifF (by omega) ?_⟩
  refine ⟨_, rfl, _, rfl, p, n, es, lw, rfl, hw.mono e1, h28, hj, h2, hlw, fun H2 r e2 ⟨a, T', ha, hb, hc⟩ => ?_⟩
  exact ⟨r, _, 0, _, rfl, rfl, sq_of ha, rfl, q H2 a T' (e1.trans e2) hb hc⟩
end
end Sr
namespace Sr
open PySem PySem.Spec PyProof.Rows L2 Evl
def stands (es : List (Nat × Nat)) (d : Nat) : Nat := if d % 2 = 0 then (ed es (d / 2)).1 else (ed es (d / 2)).2
/-- turns in which a web lies flat -/
structure Fl (n : Nat) (es : List (Nat × Nat)) (rows : List (List Nat)) (f lab : Nat → Nat) : Prop where
  len : rows.length = n
  nd : rows.flatten.Nodup
  lt : ∀ r ∈ rows, ∀ d ∈ r, d < 2 * es.length
  all : rows.flatten.length = 2 * es.length
  at' : ∀ (k : Nat) (r : List Nat) (d : Nat), rows[k]? = some r → d ∈ r → stands es d = k
  nxt : ∀ r ∈ rows, ∀ (i d : Nat), r[i]? = some d → r[(i + 1) % r.length]? = some (f (d ^^^ 1))
  orb : ∀ d, d < 2 * es.length → f d < 2 * es.length ∧ lab (f d) = lab d
  reach : ∀ d d', d < 2 * es.length → d' < 2 * es.length → lab d = lab d' → ∃ m, MT.itr f m d = d'
  num : ∀ rs, MT.Rnds (2 * es.length) lab rs → rs.length + n = es.length + 2
  pos : 0 < es.length
  e28 : es.length ≤ 28
  one : MT.pc n (MT.mk ((List.range es.length).map (ed es))) = 1
section
variable {n : Nat} {es : List (Nat × Nat)} {rows : List (List Nat)} {f lab : Nat → Nat}
theorem Fl.row_len (F : Fl n es rows f lab) {r : List Nat} (h : r ∈ rows) : r.length ≤ 56 := by
  have := (List.sublist_flatten_of_mem h).length_le
  have := F.all
  have := F.e28
  omega
theorem Fl.dart (F : Fl n es rows f lab) {d : Nat} (h : d < 2 * es.length) : d ∈ rows.flatten := by
  refine MT.back_sub F.nd (l2 := List.range (2 * es.length)) (fun t ht => ?_) (by rw [List.length_range, F.all]; exact Nat.le_refl _) d (List.mem_range.mpr h)
  obtain ⟨r, hr, h⟩ := List.mem_flatten.mp ht
  exact List.mem_range.mpr (F.lt r hr t h)
theorem xor_lt {d E : Nat} (h : d < 2 * E) : d ^^^ 1 < 2 * E := by rw [MT.xor_one]; split <;> omega
theorem xor_xor (d : Nat) : (d ^^^ 1) ^^^ 1 = d := by
  rw [MT.xor_one, MT.xor_one]
  split
  · rw [if_neg (by omega)]; omega
  · rw [if_pos (by omega)]; omega
theorem take_flat {rows : List (List Nat)} {i : Nat} {r : List Nat} (h : rows[i]? = some r) : (rows.take (i + 1)).flatten = (rows.take i).flatten ++ r := by
  rw [List.take_add_one, h, List.flatten_append]; simp
theorem flat_new {rows : List (List Nat)} (nd : rows.flatten.Nodup) {i j z : Nat} {r : List Nat} (h : rows[i]? = some r) (hz : r[j]? = some z) : z ∉ (rows.take i).flatten ++ r.take j := by
  have e : rows = rows.take i ++ r :: rows.drop (i + 1) := by
    obtain ⟨hl, e⟩ := List.getElem?_eq_some_iff.mp h
    rw [← e, List.getElem_cons_drop, List.take_append_drop]
  rw [e, List.flatten_append, List.flatten_cons] at nd
  obtain ⟨n1, n2, n3⟩ := List.nodup_append.mp nd
  obtain ⟨n4, _, _⟩ := List.nodup_append.mp n2
  have hzr : z ∈ r := List.mem_of_getElem? hz
  intro q
  rcases List.mem_append.mp q with q | q
  · exact n3 z q z (List.mem_append_left _ hzr) rfl
  · obtain ⟨hl, ez⟩ := List.getElem?_eq_some_iff.mp hz
    have e2 : r = r.take j ++ z :: r.drop (j + 1) := by rw [← ez, List.getElem_cons_drop, List.take_append_drop]
    rw [e2] at n4
    exact (List.nodup_append.mp n4).2.2 z q z (by simp) rfl
end
theorem fdiv2 (d : Nat) : Int.fdiv (d : Int) 2 = ((d / 2 : Nat) : Int) := by
  rw [Int.fdiv_eq_ediv_of_nonneg _ (by omega)]; rfl
theorem fmod_nat (a b : Nat) : Int.fmod (a : Int) (b : Int) = ((a % b : Nat) : Int) := by
  rw [Int.fmod_eq_emod_of_nonneg _ (by omega)]; rfl
theorem fdiv_nat (a b : Nat) : Int.fdiv (a : Int) (b : Int) = ((a / b : Nat) : Int) := by
  rw [Int.fdiv_eq_ediv_of_nonneg _ (by omega)]; rfl
theorem xor_nat (d : Nat) : Builtin.bitXor (d : Int) 1 = ((d ^^^ 1 : Nat) : Int) := Bits.bitXor_pp (by omega) (by omega)
theorem Bld.congr {H H' : Hp} {td : Addr} {g g' : Nat → HO} {i : Nat} (b : Bld H td g i H') (h : ∀ u, u < i → g u = g' u) : Bld H td g' i H' := by
  obtain ⟨e, n, ps, h1, h2, h3⟩ := b
  exact ⟨e, n, ps, h1, h2, fun u a ha => ⟨(h3 u a ha).1, by rw [← h u (by rw [← h2]; exact (List.getElem?_eq_some_iff.mp ha).1)]; exact (h3 u a ha).2⟩⟩
/-- a dict beside the list changes -/
theorem Bld.beside {H H' : Hp} {td m : Addr} {g : Nat → HO} {i : Nat} {o o' : HO} (b : Bld H td g i H') (nm : H m = none) (hm : H' m = some o) (hg : ∀ u, u < i → g u ≠ o) (ht : td ≠ m) : Bld H td g i (upd H' m o') := by
  obtain ⟨e, n, ps, h1, h2, h3⟩ := b
  refine ⟨Ex.mut e nm, n, ps, by rw [upd_ne ht]; exact h1, h2, fun u a ha => ⟨(h3 u a ha).1, ?_⟩⟩
  have hu : u < i := by rw [← h2]; exact (List.getElem?_eq_some_iff.mp ha).1
  have := (h3 u a ha).2
  rw [upd_ne (fun z => hg u hu (by rw [z, hm] at this; exact (Option.some.inj this).symm))]
  exact this
theorem getD_snoc {rs : List (List Nat)} {r : List Nat} {u : Nat} (h : u < rs.length) : (rs ++ [r]).getD u [] = rs.getD u [] := by
  rw [List.getD_eq_getElem?_getD, List.getD_eq_getElem?_getD, List.getElem?_append_left h]
theorem getD_last {rs : List (List Nat)} {r : List Nat} : (rs ++ [r]).getD rs.length [] = r := by
  rw [List.getD_eq_getElem?_getD, List.getElem?_append_right (Nat.le_refl _)]; simp
theorem Bld.rows {H H' : Hp} {td : Addr} {rs : List (List Nat)} (b : Bld H td (fun u => .lst (nI (rs.getD u []))) rs.length H') : NL H' td rs := by
  have := b.nl
  rwa [show (List.range rs.length).map (fun u => rs.getD u []) = rs from by simpa using map_range rs [] (fun x => x)] at this
theorem ex_of_b {H H1 H2 : Hp} {m : Addr} (e : Ex H H1) (n : H m = none) (b : ExB m H1 H2) : Ex H H2 := fun a o h => b a o (ne_of_none h n) (e a o h)
theorem Bld.exb {H H1 H2 : Hp} {td m : Addr} {g : Nat → HO} {i : Nat} {o : HO} (b : Bld H td g i H1) (nm : H m = none) (eb : ExB m H1 H2) (hm : H1 m = some o) (hg : ∀ u, u < i → g u ≠ o) (ht : td ≠ m) : Bld H td g i H2 := by
  obtain ⟨e, n, ps, h1, h2, h3⟩ := b
  refine ⟨ex_of_b e nm eb, n, ps, eb _ _ ht h1, h2, fun u a ha => ⟨(h3 u a ha).1, ?_⟩⟩
  have hu : u < i := by rw [← h2]; exact (List.getElem?_eq_some_iff.mp ha).1
  have := (h3 u a ha).2
  exact eb _ _ (fun z => hg u hu (by rw [z, hm] at this; exact (Option.some.inj this).symm)) this
end Sr
namespace Sr
open PySem PySem.Spec PyProof.Rows L2 Evl
section
variable {P : Program} {w : World} {K : PySem.W.Frag} {mg : Str → Option Value} {base : Heap} {CW CS : Addr}
def spPlace (CW : Addr) : Sp := fun vs H Q _ => ∃ (p : Addr) (n : Nat) (es : List (Nat × Nat)) (d : Nat), vs = [.ref p, .int (d : Int)] ∧ WebAt CW H p n es ∧ d < 2 * es.length ∧ Q (.int (stands es d : Int)) H
theorem d_place_from (T : Txt K mg CW CS) : Def P w K mg base "place_from" 1 ["web", "dart"] (spPlace CW) := by
  refine def_by T.a_place_from sc_place_from (fun vs H Q E h => ?_) (fun f cdv A outer s H vs Q E hr h => ?_)
  · obtain ⟨p, n, es, d, rfl, _⟩ := h; rfl
  obtain ⟨p, n, es, d, rfl, ⟨dx, l, hp, hl, h1, h14, h30, hin⟩, hd, q⟩ := h
  obtain ⟨xs, a, hl1, hl2, hl3, hl4⟩ := hl.at (t := d / 2) (by omega)
  refine ⟨_, (pss_one (ps_ret (pe_ix (r := rIxT K) ix_tup (pe_ix (r := rIxL K) ix_list (pe_fldK (K' := K) rfl (pv 0) (by rfl)) (pe_op op_fdivN (pv 1) pe_int) (fun _ _ => rfl)) (pe_op op_modN (pv 1) pe_int) (fun _ _ => rfl)))), ?_⟩
  have hq : (if d % 2 = 0 then (ed es (d / 2)).1 else (ed es (d / 2)).2) = stands es d := rfl
  refine ⟨.ref p, rfl, p, CW, dx, _, _, rfl, hp, T.cW, T.nW_ties, wfs_ties n l, _, rfl, _, _, rfl, rfl, ⟨by decide, by decide⟩, l, xs, _, .ref a, rfl, rfl, sq_of hl1, ?_, ?_⟩
  · rw [fdiv2]; exact atI_nat hl3
  refine ⟨_, rfl, _, _, rfl, rfl, (show (2 : Int) ≠ 0 by decide), a, _, _, .int (stands es d : Int), rfl, rfl, st_of hl4, ?_, q⟩
  rw [show Int.fmod (d : Int) 2 = ((d % 2 : Nat) : Int) from fmod_nat d 2]
  refine atI_nat ?_
  unfold stands
  rcases Nat.mod_two_eq_zero_or_one d with h | h
  · rw [h]; rfl
  · rw [h]; rfl
def spLookTurns (CW : Addr) : Sp := fun vs H Q _ => ∃ (p t : Addr) (n : Nat) (es : List (Nat × Nat)) (rows : List (List Nat)) (f lab : Nat → Nat), vs = [.ref p, .ref t] ∧ WebAt CW H p n es ∧ NL H t rows ∧ Fl n es rows f lab ∧ ∀ H', Ex H H' → Q .non H'
theorem d_look_at_turns (T : Txt K mg CW CS) : Def P w K mg base "look_at_turns" 2 ["web", "turns"] (spLookTurns CW) := by
  have D_place_from : Def P w K mg base "place_from" 1 ["web", "dart"] (spPlace CW) := d_place_from T
  refine def_by T.a_look_at_turns sc_look_at_turns (fun vs H Q E h => ?_) (fun f cdv A outer s H vs Q E hr h => ?_)
  · obtain ⟨p, n, es, d, _, _, _, rfl, _⟩ := h; rfl
  obtain ⟨p, t, n, es, rows, nf, lab, rfl, hw, ht, F, q⟩ := h
  obtain ⟨dx, l, hp, hl, h1, h14, h30, hin⟩ := id hw
  obtain ⟨ls, hl1, hl2, hl3⟩ := id hl
  obtain ⟨ps, t1, t2, t3⟩ := ht.at
  have hu : (A.deeper (envOfC "look_at_turns" (defScope s_look_at_turns) s.heap.objs.size f cdv)).units + 1 < cLine := by have := hr.units; omega
  have ll : (ls.map V.ref).length = es.length := by rw [List.length_map, hl2]
  have lp : (ps.map V.ref).length = n := by rw [List.length_map, t2, F.len]
  have h28 := F.e28
  refine ⟨_, (pss_cons (ps_if (pt_cmpR op_ne (pe_callB (X := _) (r := rLenS K) len_seqK (by rfl) T.z_len PySem.boot_len (pa_cons (pv 1) pa_nil)) (pe_fldK (K' := K) rfl (pv 0) (by rfl)) (nomark _)) (pss_one ps_never) pss_nil)
      (pss_cons (ps_set (i := 2) sc_look_at_turns.nd rfl (by first | exact Or.inl rfl | exact Or.inr rfl) pe_dnewK)
      (pss_cons (ps_for PassesOwn.never rfl (pi_enum (by rfl) T.z_enumerate (pa_cons (pv 1) pa_nil)) (pg_tup rfl (pgs_cons (pg_name (i := 3) sc_look_at_turns.nd rfl (by first | exact Or.inl rfl | exact Or.inr rfl)) (pgs_cons (pg_name (i := 4) sc_look_at_turns.nd rfl (by first | exact Or.inl rfl | exact Or.inr rfl)) pgs_nil)))
        (pss_one (ps_for PassesOwn.never rfl (pi_list (pv 4)) (pg_name (i := 5) sc_look_at_turns.nd rfl (by first | exact Or.inl rfl | exact Or.inr rfl))
          (pss_cons (ps_if (PW.pt (pw_or (pt_cmpR op_lt (pv 5) pe_int (nomark _)) (pw_or (pt_cmpR op_ge (pv 5) (pe_op op_mul pe_int (pe_callB (X := _) (r := rLenS K) len_seqK (by rfl) T.z_len PySem.boot_len (pa_cons (pe_fldK (K' := K) rfl (pv 0) (by rfl)) pa_nil))) (nomark _)) (pw_or (pt_cmp (pc_din hu (pv 5) (pv 2))) (pw_or1 (pt_cmpR op_ne (pe_def D_place_from hr (by omega) (by rfl) (pa_cons (pv 0) (pa_cons (pv 5) pa_nil))) (pv 3) (nomark _))))))) (pss_one ps_never) pss_nil)
          (pss_one (ps_dput hu (pv 2) (pv 5) (pv 3) rfl))))))
      (pss_one (ps_if (pt_cmpR op_ne (pe_callB call_lenD (by rfl) T.z_len PySem.boot_len (pa_cons (pv 2) pa_nil)) (pe_op op_mul pe_int (pe_callB (X := _) (r := rLenS K) len_seqK (by rfl) T.z_len PySem.boot_len (pa_cons (pe_fldK (K' := K) rfl (pv 0) (by rfl)) pa_nil))) (nomark _)) (pss_one ps_never) pss_nil))))), ?_⟩
  refine ⟨_, rfl, t, _, rfl, .inl (sq_of t1), .ref p, rfl, p, CW, dx, _, _, rfl, hp, T.cW, T.nW_places, wfs_places n l, rfl, _, rfl, neqF (by rw [lp]) ?_⟩
  intro mt nmt
  have e1 := Ex.new (o := .dK []) nmt
  have lens : ∀ i j r, rows[i]? = some r → ((rows.take i).flatten ++ r.take j).length ≤ 56 := fun i j r hr => by
    have a : (rows.take (i + 1)).flatten.length ≤ rows.flatten.length := by
      have : rows.flatten = (rows.take (i + 1)).flatten ++ (rows.drop (i + 1)).flatten := by rw [← List.flatten_append, List.take_append_drop]
      rw [this, List.length_append]; omega
    rw [take_flat hr, List.length_append] at a
    have b := (List.take_sublist j r).length_le
    have := F.all
    rw [List.length_append]; omega
  refine ⟨_, rfl, t, _, rfl, sq_of (e1 _ _ t1), for_it walk_enum (fun i σ' H' => ∃ (y3 y4 y5 : Option V) (kvs : List (Key × V)), σ' = [some (.ref p), some (.ref t), some (.ref mt), y3, y4, y5] ∧ Ex H H' ∧ H' mt = some (.dK kvs) ∧ kvs.map (·.1) = ((rows.take i).flatten.map fun (d : Nat) => (d : Int)).map Sum.inl)
    ⟨none, none, none, [], rfl, e1, upd_same, rfl⟩ (fun i σ' H' _ ⟨_, _, _, _, _, e, _⟩ => sq_of (e _ _ t1)) ?_ ?_⟩
  · rintro i x σ' Ha Hb hi ⟨y3, y4, y5, kvs, rfl, e, hmt, hkeys⟩ ⟨Tu, vi, vp, rfl, nTu, rfl, hvi, hvp⟩
    cases hvi
    obtain ⟨ra, hra, rfl⟩ := ref_get hvp
    obtain ⟨row, hrow, hrc⟩ := t3 i ra hra
    have eT := Ex.new (o := .tup [.int (i : Int), .ref ra]) nTu
    have e7 := e.trans eT
    refine ⟨Tu, _, rfl, st_of upd_same, rfl, _, _, rfl, _, _, rfl, rfl, ?_⟩
    refine ⟨_, rfl, ra, rfl, ⟨_, sq_of (e7 _ _ hrc)⟩, for_list (K := K) (a := ra) (xs := nI row) (fun j σ' H' => ∃ (y5 : Option V) (kvs : List (Key × V)), σ' = [some (.ref p), some (.ref t), some (.ref mt), some (.int (i : Int)), some (.ref ra), y5] ∧ Ex H H' ∧ H' mt = some (.dK kvs) ∧ kvs.map (·.1) = (((rows.take i).flatten ++ row.take j).map fun (d : Nat) => (d : Int)).map Sum.inl)
      ⟨_, kvs, rfl, e7, eT _ _ hmt, by rw [List.take_zero, List.append_nil]; exact hkeys⟩ (fun j σ' H' _ ⟨_, _, _, e, _⟩ => sq_of (e _ _ hrc)) ?_ ?_⟩
    · rintro j x σ' H' hx ⟨y5, kvs, rfl, e, hmt, hkeys⟩
      obtain ⟨z, hz, rfl⟩ := nI_got hx
      have hzr := List.mem_of_getElem? hz
      have hzl := F.lt row (List.mem_of_getElem? hrow) z hzr
      have hnew : valV kvs (.inl (z : Int)) = none := valV_no fun y => by
        rw [hkeys, List.map_map] at y
        obtain ⟨d, hd, e⟩ := List.mem_map.mp y
        have : ((d : Nat) : Int) = ((z : Nat) : Int) := Sum.inl.inj e
        exact flat_new F.nd hrow hz (by rw [show z = d by omega]; exact hd)
      have hp' := e _ _ hp
      refine ⟨_, rfl, _, _, rfl, rfl, _, rfl, ifF (by omega) ?_⟩
      refine ⟨_, rfl, .ref p, rfl, p, CW, dx, _, _, rfl, hp', T.cW, T.nW_ties, wfs_ties n l, l, _, rfl, .inl (sq_of (e _ _ hl1)), _, _, rfl, rfl, .inl ⟨by decide, by decide⟩, _, _, rfl, rfl, _, rfl, ifF (by omega) ?_⟩
      refine ⟨_, rfl, _, rfl, mt, none, rfl, dget_no hmt hnew, _, rfl, iteF ?_⟩
      refine ⟨_, rfl, _, rfl, p, n, es, z, rfl, hw.mono e, hzl, _, rfl, rfl, _, rfl, neqF (by rw [F.at' i row z hrow hzr]) ?_⟩
      have hlen : kvs.length ≤ 56 := by
        have := congrArg List.length hkeys
        rw [List.length_map, List.length_map, List.length_map] at this
        rw [this]; exact lens i j row hrow
      refine ⟨_, rfl, _, rfl, _, rfl, mt, _, rfl, DPut.k (k := .inl (z : Int)) hmt (sz_lt (by omega)), ?_⟩
      refine ⟨_, _, rfl, Ex.mut e nmt, upd_same, ?_⟩
      have ek : row.take (j + 1) = row.take j ++ [z] := by rw [List.take_add_one, hz]; rfl
      rw [putK_new hnew, List.map_append, hkeys, ek, ← List.append_assoc, List.map_append (l₂ := [z]), List.map_append (l₂ := List.map _ [z])]; rfl
    · rintro σ' H' ⟨y5, kvs, rfl, e, hmt, hkeys⟩
      rw [nI_len, List.take_length, ← take_flat hrow] at hkeys
      exact ⟨_, _, _, kvs, rfl, e, hmt, hkeys⟩
  · rintro σ' H' ⟨y3, y4, y5, kvs, rfl, e, hmt, hkeys⟩
    rw [lp, ← F.len, List.take_length] at hkeys
    have hlen : kvs.length = 2 * es.length := by
      have := congrArg List.length hkeys
      rw [List.length_map, List.length_map, List.length_map] at this
      rw [this, F.all]
    refine ⟨_, rfl, mt, kvs, rfl, hmt, .ref p, rfl, p, CW, dx, _, _, rfl, e _ _ hp, T.cW, T.nW_ties, wfs_ties n l, l, _, rfl, .inl (sq_of (e _ _ hl1)), _, _, rfl, rfl, .inl ⟨by decide, by decide⟩, rfl, _, rfl, neqF ?_ (q H' e)⟩
    congr 1
    omega
def spBehind : Sp := fun vs H Q _ => ∃ (t : Addr) (n : Nat) (es : List (Nat × Nat)) (rows : List (List Nat)) (f lab : Nat → Nat), vs = [.ref t] ∧ NL H t rows ∧ Fl n es rows f lab ∧ n ≤ 14 ∧
  ∀ H' r kvs, Ex H H' → H' r = some (.dK kvs) → (∀ d, d < 2 * es.length → valV kvs (.inl (d : Int)) = some (.int (f d : Int))) → Q (.ref r) H'
theorem d_darts_behind (T : Txt K mg CW CS) : Def P w K mg base "darts_behind" 1 ["turns"] spBehind := by
  refine def_by T.a_darts_behind sc_darts_behind (fun vs H Q E h => ?_) (fun f cdv A outer s H vs Q E hr h => ?_)
  · obtain ⟨p, n, es, d, _, _, rfl, _⟩ := h; rfl
  obtain ⟨t, n, es, rows, nf, lab, rfl, ht, F, h14, q⟩ := h
  obtain ⟨ps, t1, t2, t3⟩ := ht.at
  have hu : (A.deeper (envOfC "darts_behind" (defScope s_darts_behind) s.heap.objs.size f cdv)).units + 1 < cLine := by have := hr.units; omega
  have lp : (ps.map V.ref).length = n := by rw [List.length_map, t2, F.len]
  refine ⟨_, (pss_cons (ps_set (i := 1) sc_darts_behind.nd rfl (by first | exact Or.inl rfl | exact Or.inr rfl) pe_dnewK)
      (pss_cons (ps_for PassesOwn.never rfl (pi_list (pv 0)) (pg_name (i := 2) sc_darts_behind.nd rfl (by first | exact Or.inl rfl | exact Or.inr rfl))
        (pss_one (ps_for PassesOwn.never rfl (pi_enum (by rfl) T.z_enumerate (pa_cons (pv 2) pa_nil)) (pg_tup rfl (pgs_cons (pg_name (i := 3) sc_darts_behind.nd rfl (by first | exact Or.inl rfl | exact Or.inr rfl)) (pgs_cons (pg_name (i := 4) sc_darts_behind.nd rfl (by first | exact Or.inl rfl | exact Or.inr rfl)) pgs_nil)))
          (pss_one (ps_dput hu (pv 1) (pe_op op_xor (pv 4) pe_int) (pe_ix (r := rIxL K) ix_list (pv 2) (pe_op op_modN (pe_op op_add (pv 3) pe_int) (pe_callB (X := _) (r := rLenS K) len_seqK (by rfl) T.z_len PySem.boot_len (pa_cons (pv 2) pa_nil))) (fun _ _ => rfl)) rfl)))))
      (pss_one (ps_ret (pv 1))))), ?_⟩
  intro mt nmt
  have e1 := Ex.new (o := .dK []) nmt
  refine ⟨_, rfl, t, rfl, ⟨_, sq_of (e1 _ _ t1)⟩, for_list (K := K) (a := t) (xs := ps.map V.ref) (fun i σ' H' => ∃ (y2 y3 y4 : Option V) (kvs : List (Key × V)), σ' = [some (.ref t), some (.ref mt), y2, y3, y4] ∧ Ex H H' ∧ H' mt = some (.dK kvs) ∧ kvs.length ≤ 56 * i ∧ ∀ d ∈ (rows.take i).flatten, valV kvs (.inl ((d ^^^ 1 : Nat) : Int)) = some (.int (nf (d ^^^ 1) : Int)))
    ⟨none, none, none, [], rfl, e1, upd_same, by simp, fun d hd => by simp at hd⟩ (fun i σ' H' _ ⟨_, _, _, _, _, e, _⟩ => sq_of (e _ _ t1)) ?_ ?_⟩
  · rintro i x σ' Ha hx ⟨y2, y3, y4, kvs, rfl, e, hmt, hlen, hval⟩
    obtain ⟨ra, hra, rfl⟩ := ref_get hx
    obtain ⟨row, hrow, hrc⟩ := t3 i ra hra
    have hi : i < n := by
      have := (List.getElem?_eq_some_iff.mp hx).1
      omega
    have hrm := List.mem_of_getElem? hrow
    have lr := F.row_len hrm
    refine ⟨_, rfl, ra, _, rfl, sq_of (e _ _ hrc), for_it walk_enum (fun j σ' H' => ∃ (y3 y4 : Option V) (kvs : List (Key × V)), σ' = [some (.ref t), some (.ref mt), some (.ref ra), y3, y4] ∧ Ex H H' ∧ H' mt = some (.dK kvs) ∧ kvs.length ≤ 56 * i + j ∧ ∀ d ∈ (rows.take i).flatten ++ row.take j, valV kvs (.inl ((d ^^^ 1 : Nat) : Int)) = some (.int (nf (d ^^^ 1) : Int)))
      ⟨_, _, kvs, rfl, e, hmt, by omega, by rw [List.take_zero, List.append_nil]; exact hval⟩ (fun j σ' H' _ ⟨_, _, _, _, e, _⟩ => sq_of (e _ _ hrc)) ?_ ?_⟩
    · rintro j x σ' Hc Hd hj ⟨y3, y4, kvs, rfl, e, hmt, hlen, hval⟩ ⟨Tu, vi, vp, rfl, nTu, rfl, hvi, hvp⟩
      cases hvi
      obtain ⟨z, hz, rfl⟩ := nI_got hvp
      rw [nI_len] at hj
      have eT := Ex.new (o := .tup [.int (j : Int), .int (z : Int)]) nTu
      have e7 := e.trans eT
      refine ⟨Tu, _, rfl, st_of upd_same, rfl, _, _, rfl, _, _, rfl, rfl, ?_⟩
      have hrc7 := e7 _ _ hrc
      have hnx := nI_get (F.nxt row hrm j z hz)
      refine ⟨_, rfl, _, rfl, _, _, rfl, rfl, _, rfl, ra, _, rfl, .inl (sq_of hrc7), _, _, rfl, rfl, ?_, ra, _, _, .int (nf (z ^^^ 1) : Int), rfl, rfl, sq_of hrc7, ?_, ?_⟩
      · show (((nI row).length : Nat) : Int) ≠ 0
        rw [nI_len]; omega
      · have : Int.fmod ((j : Int) + 1) (((nI row).length : Nat) : Int) = (((j + 1) % row.length : Nat) : Int) := by
          rw [nI_len]; exact fmod_nat (j + 1) row.length
        rw [this]
        exact atI_nat hnx
      refine ⟨_, rfl, _, rfl, _, _, rfl, rfl, mt, _, rfl, DPut.k (k := .inl (Builtin.bitXor (z : Int) 1)) (eT _ _ hmt) (sz_lt (by omega)), ?_⟩
      rw [xor_nat]
      refine ⟨_, _, _, rfl, Ex.mut e7 nmt, upd_same, by have := putK_len (kvs := kvs) (k := .inl ((z ^^^ 1 : Nat) : Int)) (v := .int (nf (z ^^^ 1) : Int)); omega, fun d hd => ?_⟩
      rw [valV_put]
      by_cases y : d ^^^ 1 = z ^^^ 1
      · rw [if_pos (by rw [y]), y]
      · rw [if_neg (fun u => y (by have := Sum.inl.inj u; omega))]
        refine hval d ?_
        rw [List.take_add_one, hz, ← List.append_assoc, List.mem_append] at hd
        exact hd.elim id fun u => absurd (by rw [show d = z by simpa using u]) y
    · rintro σ' H' ⟨y3, y4, kvs, rfl, e, hmt, hlen, hval⟩
      rw [nI_len, List.take_length, ← take_flat hrow] at hval
      rw [nI_len] at hlen
      exact ⟨_, _, _, kvs, rfl, e, hmt, by omega, hval⟩
  · rintro σ' H' ⟨y2, y3, y4, kvs, rfl, e, hmt, hlen, hval⟩
    rw [lp, ← F.len, List.take_length] at hval
    refine ⟨_, rfl, q H' mt kvs e hmt fun d hd => ?_⟩
    have := hval (d ^^^ 1) (F.dart (xor_lt hd))
    rwa [xor_xor] at this
end
end Sr
namespace Sr
open PySem PySem.Spec PyProof.Rows L2 Evl
theorem notF {o : Option V} {A B : Prop} (h : o.isSome = true) (b : B) : if (!o.isSome) = true then A else B := by
  rw [if_neg (by rw [h]; simp)]; exact b
theorem notT {o : Option V} {A B : Prop} (h : o.isSome = false) (a : A) : if (!o.isSome) = true then A else B := by
  rw [if_pos (by rw [h]; rfl)]; exact a
section
variable {P : Program} {w : World} {K : PySem.W.Frag} {mg : Str → Option Value} {base : Heap} {CW CS : Addr}
def spRounds (CW : Addr) : Sp := fun vs H Q _ => ∃ (p t : Addr) (n : Nat) (es : List (Nat × Nat)) (rows : List (List Nat)) (f lab : Nat → Nat), vs = [.ref p, .ref t] ∧ WebAt CW H p n es ∧ NL H t rows ∧ Fl n es rows f lab ∧
  ∀ H' r rs, Ex H H' → NL H' r rs → MT.Rnds (2 * es.length) lab rs → (∀ r ∈ rs, r.length ≤ 56) → Q (.ref r) H'
theorem d_rounds_of (T : Txt K mg CW CS) : Def P w K mg base "rounds_of" 3 ["web", "turns"] (spRounds CW) := by
  have D_look_at_turns : Def P w K mg base "look_at_turns" 2 ["web", "turns"] (spLookTurns CW) := d_look_at_turns T
  have D_darts_behind : Def P w K mg base "darts_behind" 1 ["turns"] spBehind := d_darts_behind T
  refine def_by T.a_rounds_of sc_rounds_of (fun vs H Q E h => ?_) (fun f cdv A outer s H vs Q E hr h => ?_)
  · obtain ⟨p, n, es, d, _, _, _, rfl, _⟩ := h; rfl
  obtain ⟨p, t, n, es, rows, nf, lab, rfl, hw, ht, F, q⟩ := h
  obtain ⟨dx, l, hp, hl, h1, h14, h30, hin⟩ := id hw
  obtain ⟨ls, hl1, hl2, hl3⟩ := id hl
  have hu : (A.deeper (envOfC "rounds_of" (defScope s_rounds_of) s.heap.objs.size f cdv)).units + 1 < cLine := by have := hr.units; omega
  have ll : (ls.map V.ref).length = es.length := by rw [List.length_map, hl2]
  have h28 := F.e28
  refine ⟨_, (pss_cons (ps_expr (pe_def D_look_at_turns hr (by omega) (by rfl) (pa_cons (pv 0) (pa_cons (pv 1) pa_nil))))
      (pss_cons (ps_set (i := 2) sc_rounds_of.nd rfl (by first | exact Or.inl rfl | exact Or.inr rfl) (pe_def D_darts_behind hr (by omega) (by rfl) (pa_cons (pv 1) pa_nil)))
      (pss_cons (ps_set (i := 3) sc_rounds_of.nd rfl (by first | exact Or.inl rfl | exact Or.inr rfl) pe_dnewK)
      (pss_cons (ps_set (i := 4) sc_rounds_of.nd rfl (by first | exact Or.inl rfl | exact Or.inr rfl) (pe_lst pa_nil))
      (pss_cons (ps_for PassesOwn.never rfl (pi_range1 (by rfl) T.z_range (pa_cons (pe_op op_mul pe_int (pe_callB (X := _) (r := rLenS K) len_seqK (by rfl) T.z_len PySem.boot_len (pa_cons (pe_fldK (K' := K) rfl (pv 0) (by rfl)) pa_nil))) pa_nil)) (pg_name (i := 5) sc_rounds_of.nd rfl (by first | exact Or.inl rfl | exact Or.inr rfl))
        (pss_one (ps_if (pt_cmp (pc_dnotin hu (pv 5) (pv 3))) (pss_cons (ps_set (i := 6) sc_rounds_of.nd rfl (by first | exact Or.inl rfl | exact Or.inr rfl) (pe_lst pa_nil))
          (pss_cons (ps_set (i := 7) sc_rounds_of.nd rfl (by first | exact Or.inl rfl | exact Or.inr rfl) (pv 5))
          (pss_cons (ps_while PassesOwn.never (pt_cmp (pc_dnotin hu (pv 7) (pv 3)))
            (pss_cons (ps_dput hu (pv 3) (pv 7) pe_bl rfl)
            (pss_cons (ps_expr (pe_bm PySem.F.plainAttrs_list PySem.F.slot_list_append PySem.F.type_list_append mt_append (pv 6) (pa_cons (pv 7) pa_nil)))
            (pss_one (ps_set (i := 7) sc_rounds_of.nd rfl (by first | exact Or.inl rfl | exact Or.inr rfl) (pe_dget hu (pv 2) (pv 7) (fun _ _ => rfl)))))))
          (pss_one (ps_expr (pe_bm PySem.F.plainAttrs_list PySem.F.slot_list_append PySem.F.type_list_append mt_append (pv 4) (pa_cons (pv 6) pa_nil))))))) pss_nil)))
      (pss_cons (ps_if (pt_cmpR op_eq (pe_callB (X := _) (r := rLenS K) len_seqK (by rfl) T.z_len PySem.boot_len (pa_cons (pv 4) pa_nil)) pe_int (nomark _)) (pss_one (ps_ret (pe_lst (pa_cons (pe_lst pa_nil) pa_nil)))) pss_nil)
      (pss_one (ps_ret (pv 4))))))))), ?_⟩
  refine ⟨_, rfl, _, rfl, p, t, n, es, rows, nf, lab, rfl, hw, ht, F, fun H1 e1 => ?_⟩
  refine ⟨_, rfl, t, n, es, rows, nf, lab, rfl, ht.mono e1, F, h14, fun H2 bd kvb e2 hbd hval => ?_⟩
  intro mt nmt
  have e3 := (e1.trans e2).trans (Ex.new (o := .dK []) nmt)
  refine ⟨sz (by simp), fun td ntd => ?_⟩
  have e4 := e3.trans (Ex.new (o := .lst []) ntd)
  have nmt0 : H mt = none := fresh_back (e1.trans e2) nmt
  have ntd0 : H td = none := fresh_back e3 ntd
  have ntm : td ≠ mt := (ne_of_none (show upd H2 mt (.dK []) mt = some (.dK []) from upd_same) ntd).symm
  have nbm : bd ≠ mt := ne_of_none hbd nmt
  have nbt : bd ≠ td := ne_of_none ((Ex.new nmt) _ _ hbd) ntd
  refine ⟨.ref p, rfl, p, CW, dx, _, _, rfl, e4 _ _ hp, T.cW, T.nW_ties, wfs_ties n l, l, _, rfl, .inl (sq_of (e4 _ _ hl1)), _, _, rfl, rfl, .inl ⟨by decide, by decide⟩, _, rfl, by omega, by omega, ?_⟩
  have eD : (2 * (((ls.map V.ref).length : Nat) : Int)).toNat = 2 * es.length := by omega
  rw [eD]
  generalize hDD : 2 * es.length = D at *
  have D56 : D ≤ 56 := by omega
  refine for_it walk_rangeN (fun i σ' H' => ∃ (y5 y6 y7 : Option V) (kvs : List (Key × V)) (rs : List (List Nat)), σ' = [some (.ref p), some (.ref t), some (.ref bd), some (.ref mt), some (.ref td), y5, y6, y7] ∧ Bld H td (fun u => .lst (nI (rs.getD u []))) rs.length H' ∧ H' bd = some (.dK kvb) ∧ H' mt = some (.dK kvs) ∧ kvs.length ≤ 57 * i ∧ MT.Rin D lab i rs ∧ (∀ d, d < D → ((valV kvs (.inl (d : Int))).isSome = true ↔ ∃ r ∈ rs, d ∈ r)) ∧ (∀ r ∈ rs, r.length ≤ 56))
    ⟨none, none, none, [], [], rfl, .zero e4 ntd0 upd_same, by rw [upd_ne nbt, upd_ne nbm]; exact hbd, by rw [upd_ne ntm.symm]; exact upd_same, by simp, MT.Rin.zero _ _, fun d _ => by simp [valV], by simp⟩ (fun _ _ _ _ _ => trivial) ?_ ?_
  · rintro i x σ' Ha Hb hi ⟨y5, y6, y7, kvs, rs, rfl, hb, hbd', hmt, hlen, hR, hmet, h56⟩ ⟨rfl, rfl⟩
    refine ⟨_, rfl, _, rfl, mt, _, rfl, DGet.k (k := .inl (i : Int)) hmt, _, rfl, ?_⟩
    by_cases hin : ∃ r ∈ rs, i ∈ r
    · exact notF ((hmet i hi).mpr hin) ⟨_, _, _, kvs, rs, rfl, hb, hbd', hmt, by omega, hR.skip hin, hmet, h56⟩
    have hno : (valV kvs (.inl (i : Int))).isSome = false := by
      cases e : (valV kvs (.inl (i : Int))).isSome with
      | false => rfl
      | true => exact absurd ((hmet i hi).mp e) hin
    refine notT hno ?_
    refine ⟨sz (by simp), fun ra nra => ⟨_, rfl, ?_⟩⟩
    have nra0 : H ra = none := fresh_back hb.ex nra
    have ratd : ra ≠ td := hb.ne nra
    have ramt : ra ≠ mt := (ne_of_none hmt nra).symm
    have rabd : ra ≠ bd := (ne_of_none hbd' nra).symm
    have lrs := hR.len
    refine ⟨fun m σ' H' => ∃ (j : Nat) (kvs' : List (Key × V)), m = 57 - j ∧ j ≤ 56 ∧ σ' = [some (.ref p), some (.ref t), some (.ref bd), some (.ref mt), some (.ref td), some (.int (i : Int)), some (.ref ra), some (.int (MT.itr nf j i : Int))] ∧ ExB mt Hb H' ∧ H' mt = some (.dK kvs') ∧ H' ra = some (.lst (nI (MT.orb nf i j))) ∧ (MT.orb nf i j).Nodup ∧ kvs'.length ≤ 57 * i + j ∧ (∀ d, d < D → ((valV kvs' (.inl (d : Int))).isSome = true ↔ ((∃ r ∈ rs, d ∈ r) ∨ d ∈ MT.orb nf i j))),
      ⟨57, 0, kvs, rfl, by omega, rfl, exB (Ex.new nra), by rw [upd_ne ramt.symm]; exact hmt, upd_same, List.nodup_nil, by omega, fun d hd => by rw [hmet d hd]; simp [MT.orb]⟩, ?_⟩
    rintro m σ' H' ⟨j, kvs', rfl, hj, rfl, eb, hmt', hra, nd, hlen', hmet'⟩
    obtain ⟨it1, it2⟩ := MT.itr_ok F.orb (by omega : i < 2 * es.length) j
    refine ⟨_, rfl, _, rfl, mt, _, rfl, DGet.k (k := .inl (MT.itr nf j i : Int)) hmt', _, rfl, ?_⟩
    by_cases hc : MT.itr nf j i ∈ MT.orb nf i j
    · refine notF ((hmet' _ (by omega)).mpr (.inr hc)) ?_
      have hb' : Bld H td (fun u => .lst (nI (rs.getD u []))) rs.length H' := hb.exb nmt0 eb hmt (fun u _ z => by cases z) ntm
      have hb2 : Bld H td (fun u => .lst (nI ((rs ++ [MT.orb nf i j]).getD u []))) rs.length H' := hb'.congr fun u hu => by rw [getD_snoc hu]
      obtain ⟨xs, x1, x2, hb3⟩ := hb2.push (a := ra) (by rw [hra]; show _ = some (HO.lst (nI ((rs ++ [MT.orb nf i j]).getD rs.length []))); rw [getD_last]) ratd (by omega)
      refine ⟨_, rfl, .inl ⟨rfl, _, sq_of x1⟩, _, rfl, td, xs, _, rfl, rfl, x1, x2, ?_⟩
      have oall : ∀ d ∈ MT.orb nf i j, d < D ∧ lab d = lab i := fun d hd => by
        obtain ⟨i', _, rfl⟩ := List.mem_map.mp hd
        obtain ⟨z1, z2⟩ := MT.itr_ok F.orb (by omega : i < 2 * es.length) i'
        exact ⟨by omega, z2⟩
      have ofull : ∀ d, d < D → lab d = lab i → d ∈ MT.orb nf i j := fun d hd hl => MT.orb_full F.reach (by omega) hc (by omega) hl
      refine ⟨_, _, _, kvs', rs ++ [MT.orb nf i j], rfl, by rw [List.length_append]; exact hb3, by rw [upd_ne nbt]; exact eb _ _ nbm hbd', by rw [upd_ne ntm.symm]; exact hmt', by omega, hR.add hi hin (ofull i hi rfl) oall ofull, fun d hd => ?_, fun r hr => ?_⟩
      · rw [hmet' d hd]
        constructor
        · rintro (⟨r, a, b⟩ | b)
          · exact ⟨r, List.mem_append_left _ a, b⟩
          · exact ⟨_, List.mem_append_right _ (List.mem_singleton.mpr rfl), b⟩
        · rintro ⟨r, a, b⟩
          rcases List.mem_append.mp a with a | a
          · exact .inl ⟨r, a, b⟩
          · rw [List.mem_singleton.mp a] at b; exact .inr b
      · rcases List.mem_append.mp hr with a | a
        · exact h56 r a
        · rw [List.mem_singleton.mp a, MT.orb_len]; exact hj
    · have hno' : (valV kvs' (.inl (MT.itr nf j i : Int))).isSome = false := by
        cases e : (valV kvs' (.inl (MT.itr nf j i : Int))).isSome with
        | false => rfl
        | true =>
          rcases (hmet' _ (by omega)).mp e with ⟨r, a, b⟩ | b
          · exact absurd ⟨r, a, hR.full r a _ b i hi it2.symm⟩ hin
          · exact absurd b hc
      have nd' : (MT.orb nf i (j + 1)).Nodup := by
        rw [MT.orb_snoc]
        exact List.nodup_append.mpr ⟨nd, by simp, fun a ha b hb z => hc (by rw [List.mem_singleton] at hb; rw [← hb, ← z]; exact ha)⟩
      have hj' := MT.orb_short F.orb (by omega : i < 2 * es.length) nd'
      refine notT hno' ⟨fun σ' H' => ∃ (j' : Nat) (kvs' : List (Key × V)), 57 - (j + 1) = 57 - j' ∧ j' ≤ 56 ∧ σ' = [some (.ref p), some (.ref t), some (.ref bd), some (.ref mt), some (.ref td), some (.int (i : Int)), some (.ref ra), some (.int (MT.itr nf j' i : Int))] ∧ ExB mt Hb H' ∧ H' mt = some (.dK kvs') ∧ H' ra = some (.lst (nI (MT.orb nf i j'))) ∧ (MT.orb nf i j').Nodup ∧ kvs'.length ≤ 57 * i + j' ∧ (∀ d, d < D → ((valV kvs' (.inl (d : Int))).isSome = true ↔ ((∃ r ∈ rs, d ∈ r) ∨ d ∈ MT.orb nf i j'))),
        fun σ' H' h => ⟨57 - (j + 1), by omega, h⟩, ?_⟩
      refine ⟨_, rfl, _, rfl, mt, _, rfl, DPut.k (k := .inl (MT.itr nf j i : Int)) hmt' (sz_lt (by omega)), ?_⟩
      have hra1 : upd H' mt (.dK (putK kvs' (.inl (MT.itr nf j i : Int)) (.bl true))) ra = some (.lst (nI (MT.orb nf i j))) := by rw [upd_ne ramt]; exact hra
      refine ⟨_, rfl, .inl ⟨rfl, _, sq_of hra1⟩, _, rfl, ra, _, _, rfl, rfl, hra1, sz_lt (by rw [nI_len, MT.orb_len]; omega), ?_⟩
      refine ⟨_, rfl, _, rfl, bd, _, rfl, dget_at (kvs := kvb) (by rw [upd_ne rabd.symm, upd_ne nbm]; exact eb _ _ nbm hbd') (hval _ (by omega)), ?_⟩
      refine ⟨j + 1, _, rfl, by omega, rfl, ?_, by rw [upd_ne ramt.symm]; exact upd_same, ?_, nd', by have := putK_len (kvs := kvs') (k := .inl (MT.itr nf j i : Int)) (v := .bl true); omega, fun d hd => ?_⟩
      · exact fun b o nb h => by rw [upd_ne (ne_of_none h nra), upd_ne nb]; exact eb b o nb h
      · rw [grow_at, MT.orb_snoc]
      · rw [valV_put, MT.orb_snoc, List.mem_append, List.mem_singleton]
        by_cases z : d = MT.itr nf j i
        · rw [if_pos (by rw [z])]
          exact ⟨fun _ => .inr (.inr z), fun _ => rfl⟩
        · rw [if_neg (fun y => z (by have := Sum.inl.inj y; omega)), hmet' d hd]
          exact ⟨fun y => y.elim .inl fun u => .inr (.inl u), fun y => y.elim .inl fun u => u.elim .inr fun v => absurd v z⟩
  · rintro σ' H' ⟨y5, y6, y7, kvs, rs, rfl, hb, hbd', hmt, hlen, hR, hmet, h56⟩
    obtain ⟨xs, x1, x2⟩ := hb.seq
    have hS := hR.rnds
    have hpos : 0 < rs.length := by
      obtain ⟨r, hr, _⟩ := hR.met 0 (by have := F.pos; omega)
      exact List.length_pos_of_mem hr
    refine ⟨_, rfl, td, xs, rfl, .inl (sq_of x1), rfl, _, rfl, ifF (fun z => ?_) ?_⟩
    · have := V.int.inj z; omega
    · exact ⟨_, rfl, q H' td rs hb.ex hb.rows hS h56⟩
end
end Sr
namespace Sr
open PySem PySem.Spec PyProof.Rows L2 Evl
theorem bl_true {c : Prop} [Decidable c] (h : c) : V.bl (decide c) = V.bl true := by rw [decide_eq_true h]
section
variable {P : Program} {w : World} {K : PySem.W.Frag} {mg : Str → Option Value} {base : Heap} {CW CS : Addr}
def spFlat (CW : Addr) : Sp := fun vs H Q _ => ∃ (p t : Addr) (n : Nat) (es : List (Nat × Nat)) (rows : List (List Nat)) (f lab : Nat → Nat), vs = [.ref p, .ref t] ∧ WebAt CW H p n es ∧ NL H t rows ∧ Fl n es rows f lab ∧ ∀ H', Ex H H' → Q (.bl true) H'
theorem d_lies_flat (T : Txt K mg CW CS) : Def P w K mg base "lies_flat" 4 ["web", "turns"] (spFlat CW) := by
  have D_rounds_of : Def P w K mg base "rounds_of" 3 ["web", "turns"] (spRounds CW) := d_rounds_of T
  have D_is_joined : Def P w K mg base "is_joined" 2 ["web", "ties"] (spJoined CW) := d_is_joined T
  refine def_by T.a_lies_flat sc_lies_flat (fun vs H Q E h => ?_) (fun f cdv A outer s H vs Q E hr h => ?_)
  · obtain ⟨p, n, es, d, _, _, _, rfl, _⟩ := h; rfl
  obtain ⟨p, t, n, es, rows, nf, lab, rfl, hw, ht, F, q⟩ := h
  obtain ⟨dx, l, hp, hl, h1, h14, h30, hin⟩ := id hw
  obtain ⟨ls, hl1, hl2, hl3⟩ := id hl
  have ll : (ls.map V.ref).length = es.length := by rw [List.length_map, hl2]
  refine ⟨_, (pss_cons (ps_set (i := 2) sc_lies_flat.nd rfl (by first | exact Or.inl rfl | exact Or.inr rfl) (pe_def D_rounds_of hr (by omega) (by rfl) (pa_cons (pv 0) (pa_cons (pv 1) pa_nil))))
      (pss_cons (ps_set (i := 3) sc_lies_flat.nd rfl (by first | exact Or.inl rfl | exact Or.inr rfl) (pe_tupRg rfl (by rfl) T.z_tuple (prg_1 (by rfl) T.z_range (pe_callB (X := _) (r := rLenS K) len_seqK (by rfl) T.z_len PySem.boot_len (pa_cons (pe_fldK (K' := K) rfl (pv 0) (by rfl)) pa_nil)))))
      (pss_one (ps_ret (pe_and (pe_def D_is_joined hr (by omega) (by rfl) (pa_cons (pv 0) (pa_cons (pv 3) pa_nil))) (pe_one (pe_cmpR op_eq (pe_op op_add (pe_op op_sub (pe_fldK (K' := K) rfl (pv 0) (by rfl)) (pe_callB (X := _) (r := rLenS K) len_seqK (by rfl) T.z_len PySem.boot_len (pa_cons (pe_fldK (K' := K) rfl (pv 0) (by rfl)) pa_nil))) (pe_callB (X := _) (r := rLenS K) len_seqK (by rfl) T.z_len PySem.boot_len (pa_cons (pv 2) pa_nil))) pe_int (nomark _)))))))), ?_⟩
  refine ⟨_, rfl, _, rfl, p, t, n, es, rows, nf, lab, rfl, hw, ht, F, fun H1 r rs e1 hrs hS h56 => ?_⟩
  refine ⟨.ref p, rfl, p, CW, dx, _, _, rfl, e1 _ _ hp, T.cW, T.nW_ties, wfs_ties n l, l, _, rfl, .inl (sq_of (e1 _ _ hl1)), _, rfl, RgOk.of_le (by omega) (by omega) (by omega) (by omega), fun o no => ?_⟩
  have e2 := e1.trans (Ex.new (o := .tup (rgV 0 ((ls.map V.ref).length : Int))) no)
  refine ⟨_, rfl, _, rfl, p, o, n, es, List.range es.length, rfl, hw.mono e2, .inl (by rw [upd_same, rgV_nI, ll]), MT.mem_subs.mpr (List.Sublist.refl _), F.one, fun H3 e3 => ⟨true, rfl, ?_⟩⟩
  have e13 := e2.trans e3
  obtain ⟨ps, r1, r2, r3⟩ := hrs
  have r1' := e3 _ _ ((Ex.new (o := .tup (rgV 0 ((ls.map V.ref).length : Int))) no) _ _ r1)
  refine iteT ⟨.ref p, rfl, p, CW, dx, _, _, rfl, e13 _ _ hp, T.cW, T.nW_places, wfs_places n l, .ref p, rfl, p, CW, dx, _, _, rfl, e13 _ _ hp, T.cW, T.nW_ties, wfs_ties n l, l, _, rfl, .inl (sq_of (e13 _ _ hl1)), _, _, rfl, rfl, _, rfl, r, _, rfl, .inl (sq_of r1'), _, _, rfl, rfl, rfl, ?_⟩
  have hnum := F.num rs hS
  show Q (V.bl (decide _)) H3
  rw [bl_true]
  · exact q H3 e13
  · show V.int (((n : Int) - (((ls.map V.ref).length : Nat) : Int)) + (((ps.map V.ref).length : Nat) : Int)) = V.int 2
    rw [ll, List.length_map, r2]
    congr 1
    omega
def webE (rs : List (List Nat)) (E : Nat) : List (Nat × Nat) := (List.range E).map fun t => (MT.rn rs (2 * t), MT.rn rs (2 * t + 1))
theorem webE_ed {rs : List (List Nat)} {E t : Nat} (h : t < E) : ed (webE rs E) t = (MT.rn rs (2 * t), MT.rn rs (2 * t + 1)) := by
  unfold ed webE
  rw [List.getD_eq_getElem?_getD, List.getElem?_map, List.getElem?_range h]; rfl
theorem webE_len (rs : List (List Nat)) (E : Nat) : (webE rs E).length = E := by unfold webE; simp
def spOther (CW : Addr) : Sp := fun vs H Q _ => ∃ (p t : Addr) (n : Nat) (es : List (Nat × Nat)) (rows : List (List Nat)) (f lab : Nat → Nat), vs = [.ref p, .ref t] ∧ WebAt CW H p n es ∧ NL H t rows ∧ Fl n es rows f lab ∧ es.length + 2 ≤ n + 14 ∧
  ∀ H' r rs, Ex H H' → MT.Rnds (2 * es.length) lab rs → WebAt CW H' r rs.length (webE rs es.length) → Q (.ref r) H'
theorem d_other_web (T : Txt K mg CW CS) : Def P w K mg base "other_web" 5 ["web", "turns"] (spOther CW) := by
  have D_rounds_of : Def P w K mg base "rounds_of" 3 ["web", "turns"] (spRounds CW) := d_rounds_of T
  have D_lies_flat : Def P w K mg base "lies_flat" 4 ["web", "turns"] (spFlat CW) := d_lies_flat T
  have M_Web : IDef P w K mg base CW 1 ["self", "places", "ties"] (spWebInit CW) := d_webinit T
  refine def_by T.a_other_web sc_other_web (fun vs H Q E h => ?_) (fun f cdv A outer s H vs Q E hr h => ?_)
  · obtain ⟨p, n, es, d, _, _, _, rfl, _⟩ := h; rfl
  obtain ⟨p, t, n, es, rows, nf, lab, rfl, hw, ht, F, hfew, q⟩ := h
  obtain ⟨dx, l, hp, hl, h1, h14, h30, hin⟩ := id hw
  obtain ⟨ls, hl1, hl2, hl3⟩ := id hl
  have hu : (A.deeper (envOfC "other_web" (defScope s_other_web) s.heap.objs.size f cdv)).units + 1 < cLine := by have := hr.units; omega
  have ll : (ls.map V.ref).length = es.length := by rw [List.length_map, hl2]
  have h28 := F.e28
  refine ⟨_, (pss_cons (ps_if (pt_not (pt_val (pe_def D_lies_flat hr (by omega) (by rfl) (pa_cons (pv 0) (pa_cons (pv 1) pa_nil))))) (pss_one ps_never) pss_nil)
      (pss_cons (ps_set (i := 2) sc_other_web.nd rfl (by first | exact Or.inl rfl | exact Or.inr rfl) (pe_def D_rounds_of hr (by omega) (by rfl) (pa_cons (pv 0) (pa_cons (pv 1) pa_nil))))
      (pss_cons (ps_set (i := 3) sc_other_web.nd rfl (by first | exact Or.inl rfl | exact Or.inr rfl) pe_dnewK)
      (pss_cons (ps_for PassesOwn.never rfl (pi_enum (by rfl) T.z_enumerate (pa_cons (pv 2) pa_nil)) (pg_tup rfl (pgs_cons (pg_name (i := 4) sc_other_web.nd rfl (by first | exact Or.inl rfl | exact Or.inr rfl)) (pgs_cons (pg_name (i := 5) sc_other_web.nd rfl (by first | exact Or.inl rfl | exact Or.inr rfl)) pgs_nil)))
        (pss_one (ps_for PassesOwn.never rfl (pi_list (pv 5)) (pg_name (i := 6) sc_other_web.nd rfl (by first | exact Or.inl rfl | exact Or.inr rfl))
          (pss_one (ps_dput hu (pv 3) (pv 6) (pv 4) rfl)))))
      (pss_one (ps_ret (pe_mk M_Web hr (by omega) (by rfl) T.mW (pa_cons (pe_callB (X := _) (r := rLenS K) len_seqK (by rfl) T.z_len PySem.boot_len (pa_cons (pv 2) pa_nil)) (pa_cons (pe_lc  (own := [("tie", 7)]) (g := (gName 7)) rfl sc_other_web.nd (pi_range1 (by rfl) T.z_range (pa_cons (pe_callB (X := _) (r := rLenS K) len_seqK (by rfl) T.z_len PySem.boot_len (pa_cons (pe_fldK (K' := K) rfl (pv 0) (by rfl)) pa_nil)) pa_nil)) (blkOk_by (own := [("tie", 7)]) (N := ["web", "turns", "rounds", "place", "k", "row", "dart", "tie"]) (sc := defScope s_other_web) (by decide +kernel)) (fun _ _ _ _ _ => (pg_name (i := 7) sc_other_web.nd rfl (by first | exact Or.inl rfl | exact Or.inr rfl))) (fun _ _ _ _ _ => pts_nil) (fun _ _ _ _ _ => (pe_tup (pa_cons (pe_dget hu (pv 3) (pe_op op_mul pe_int (pv 7)) (fun _ _ => rfl)) (pa_cons (pe_dget hu (pv 3) (pe_op op_add (pe_op op_mul pe_int (pv 7)) pe_int) (fun _ _ => rfl)) pa_nil))))) pa_nil))))))))), ?_⟩
  refine ⟨_, rfl, _, rfl, p, t, n, es, rows, nf, lab, rfl, hw, ht, F, fun H1 e1 => ⟨true, rfl, iteF ?_⟩⟩
  refine ⟨_, rfl, _, rfl, p, t, n, es, rows, nf, lab, rfl, hw.mono e1, ht.mono e1, F, fun H2 rr rs e2 hrs hS h56 => ?_⟩
  have e12 := e1.trans e2
  have hnum := F.num rs hS
  obtain ⟨ps, r1, r2, r3⟩ := hrs.at
  have lr : (ps.map V.ref).length = rs.length := by rw [List.length_map, r2]
  have hpos : 0 < rs.length := by
    obtain ⟨r, hr, _⟩ := hS.cover 0 (by have := F.pos; omega)
    exact List.length_pos_of_mem hr
  intro pl npl
  have e3 := Ex.new (o := .dK []) npl
  have npl0 : H pl = none := fresh_back e12 npl
  refine ⟨_, rfl, rr, _, rfl, sq_of (e3 _ _ r1), for_it walk_enum (fun i σ' H' => ∃ (y4 y5 y6 : Option V) (kvs : List (Key × V)), σ' = [some (.ref p), some (.ref t), some (.ref rr), some (.ref pl), y4, y5, y6, none] ∧ Ex H2 H' ∧ H' pl = some (.dK kvs) ∧ kvs.length ≤ 56 * i ∧ ∀ d ∈ (rs.take i).flatten, valV kvs (.inl (d : Int)) = some (.int (MT.rn rs d : Int)))
    ⟨none, none, none, [], rfl, e3, upd_same, by simp, fun d hd => by simp at hd⟩ (fun i σ' H' _ ⟨_, _, _, _, _, e, _⟩ => sq_of (e _ _ r1)) ?_ ?_⟩
  · rintro i x σ' Ha Hb hi ⟨y4, y5, y6, kvs, rfl, e, hkv, lkv, hval⟩ ⟨Tu, vi, vp, rfl, nTu, rfl, hvi, hvp⟩
    cases hvi
    obtain ⟨ra, hra, rfl⟩ := ref_get hvp
    obtain ⟨row, hrow, hrc⟩ := r3 i ra hra
    have eT := Ex.new (o := .tup [.int (i : Int), .ref ra]) nTu
    have e7 := e.trans eT
    have hi' : i < rs.length := by omega
    have lrow := h56 row (List.mem_of_getElem? hrow)
    refine ⟨Tu, _, rfl, st_of upd_same, rfl, _, _, rfl, _, _, rfl, rfl, ?_⟩
    refine ⟨_, rfl, ra, rfl, ⟨_, sq_of (e7 _ _ hrc)⟩, for_list (K := K) (a := ra) (xs := nI row) (fun j σ' H' => ∃ (y6 : Option V) (kvs : List (Key × V)), σ' = [some (.ref p), some (.ref t), some (.ref rr), some (.ref pl), some (.int (i : Int)), some (.ref ra), y6, none] ∧ Ex H2 H' ∧ H' pl = some (.dK kvs) ∧ kvs.length ≤ 56 * i + j ∧ ∀ d ∈ (rs.take i).flatten ++ row.take j, valV kvs (.inl (d : Int)) = some (.int (MT.rn rs d : Int)))
      ⟨_, kvs, rfl, e7, eT _ _ hkv, by omega, by rw [List.take_zero, List.append_nil]; exact hval⟩ (fun j σ' H' _ ⟨_, _, _, e, _⟩ => sq_of (e _ _ hrc)) ?_ ?_⟩
    · rintro j x σ' H' hx ⟨y6, kvs, rfl, e, hkv, lkv, hval⟩
      obtain ⟨z, hz, rfl⟩ := nI_got hx
      have hzr := List.mem_of_getElem? hz
      have hj : j < row.length := (List.getElem?_eq_some_iff.mp hz).1
      have hzi := hS.is hrow hzr
      refine ⟨_, rfl, _, rfl, _, rfl, pl, _, rfl, DPut.k (k := .inl (z : Int)) hkv (sz_lt (by omega)), ?_⟩
      refine ⟨_, _, rfl, Ex.mut e npl, upd_same, by have := putK_len (kvs := kvs) (k := .inl (z : Int)) (v := .int (i : Int)); omega, fun d hd => ?_⟩
      rw [valV_put]
      by_cases y : d = z
      · rw [if_pos (by rw [y]), y, hzi]
      · rw [if_neg (fun u => y (by have := Sum.inl.inj u; omega))]
        refine hval d ?_
        rw [List.take_add_one, hz, ← List.append_assoc, List.mem_append] at hd
        exact hd.elim id fun u => absurd (by simpa using u) y
    · rintro σ' H' ⟨y6, kvs, rfl, e, hkv, lkv, hval⟩
      rw [nI_len, List.take_length, ← take_flat hrow] at hval
      rw [nI_len] at lkv
      exact ⟨_, _, _, kvs, rfl, e, hkv, by omega, hval⟩
  · rintro σ' H3 ⟨y4, y5, y6, kvs, rfl, e, hkv, lkv, hval⟩
    rw [lr, List.take_length] at hval
    have e13 := e12.trans e
    have hval' : ∀ d, d < 2 * es.length → valV kvs (.inl (d : Int)) = some (.int (MT.rn rs d : Int)) := fun d hd => by
      obtain ⟨r, a, b⟩ := hS.cover d hd
      exact hval d (List.mem_flatten.mpr ⟨r, a, b⟩)
    refine ⟨_, rfl, rr, _, rfl, .inl (sq_of (e _ _ r1)), .ref p, rfl, p, CW, dx, _, _, rfl, e13 _ _ hp, T.cW, T.nW_ties, wfs_ties n l, l, _, rfl, .inl (sq_of (e13 _ _ hl1)), _, rfl, by omega, by omega, fun D nD => ?_⟩
    rw [ll, show ((es.length : Nat) : Int).toNat = es.length by omega]
    refine lc_fin (D := D) walk_rangeN (by omega) (gm_name 7) (fun _ => true) (fun k y H => IsT D [.int ((MT.rn rs (2 * k), MT.rn rs (2 * k + 1)).1 : Int), .int ((MT.rn rs (2 * k), MT.rn rs (2 * k + 1)).2 : Int)] y H) (fun _ _ _ _ e h => h.m e) nD (fun _ _ => trivial) ?_ ?_
    · rintro k y Ha Hb hk ea ⟨zs, hz⟩ ⟨rfl, rfl⟩
      refine ⟨rfl, Ex.refl _, et_yes, fun _ Hc ec Q' q' => ?_⟩
      have hkc := ec _ _ (ea _ _ hkv)
      refine ⟨_, rfl, _, rfl, _, _, rfl, rfl, .inl ⟨by decide, by decide⟩, pl, .int (MT.rn rs (2 * k) : Int), rfl, dget_at (k := ((2 * k : Nat) : Int)) hkc (hval' _ (by omega)), ?_⟩
      refine ⟨_, rfl, _, rfl, _, _, rfl, rfl, .inl ⟨by decide, by decide⟩, _, _, rfl, rfl, pl, .int (MT.rn rs (2 * k + 1) : Int), rfl, dget_at (k := ((2 * k + 1 : Nat) : Int)) hkc (hval' _ (by omega)), ?_⟩
      exact ⟨sz (by simp), fun c nc => q' _ _ (Ex.new nc) ⟨c, rfl, (ne_of_none (ec _ _ hz) nc).symm, upd_same⟩⟩
    · intro ys H4 e4 hD hk
      have hPL := kept_PL (g := fun k => (MT.rn rs (2 * k), MT.rn rs (2 * k + 1))) hD hk
      rw [List.filter_eq_self.mpr (fun _ _ => rfl)] at hPL
      have hPL' : PL H4 D (webE rs es.length) := hPL
      intro x dx' nx ndx _
      have e5 : Ex H4 (upd (upd H4 dx' (.own x)) x (.ins CW dx' [])) := (Ex.new ndx).trans (Ex.new (by rw [upd_ne (fun z => by subst z; exact absurd rfl (by assumption))]; exact nx))
      have inn : MT.InN rs.length (webE rs es.length) := fun e he => by
        unfold webE at he
        obtain ⟨t, ht, rfl⟩ := List.mem_map.mp he
        have := List.mem_range.mp ht
        exact ⟨hS.num_lt (by omega), hS.num_lt (by omega)⟩
      refine ⟨x, dx', D, rs.length, webE rs es.length, by rw [lr]; rfl, upd_same, hPL'.mono e5, by omega, by omega, by rw [webE_len]; omega, inn, fun H5 l' eb h5 hP => ⟨rfl, ?_⟩⟩
      exact q H5 x rs ((e13.trans e4).trans (ex_made nx ndx eb)) hS ⟨dx', l', h5, hP, by omega, by omega, by rw [webE_len]; omega, inn⟩
end
end Sr
namespace Sr
open PySem PySem.Spec PyProof.Rows L2 Evl
section
variable {P : Program} {w : World} {K : PySem.W.Frag} {mg : Str → Option Value} {base : Heap} {CW CS : Addr}
def spLeft (CW : Addr) : Sp := fun vs H Q _ => ∃ (p t : Addr) (n : Nat) (es : List (Nat × Nat)) (S : List Nat), vs = [.ref p, .ref t] ∧ WebAt CW H p n es ∧ H t = some (.tup (nI S)) ∧ MT.Tree n (ed es) es.length S ∧ ∀ H' r, Ex H H' → H' r = some (.tup (nI (MT.compl es.length S))) → Q (.ref r) H'
theorem d_left_of (T : Txt K mg CW CS) : Def P w K mg base "left_of" 3 ["web", "tree"] (spLeft CW) := by
  have D_is_tree : Def P w K mg base "is_tree" 2 ["web", "ties"] (spIsTree CW) := d_is_tree T
  refine def_by T.a_left_of sc_left_of (fun vs H Q E h => ?_) (fun f cdv A outer s H vs Q E hr h => ?_)
  · obtain ⟨p, n, es, d, _, rfl, _⟩ := h; rfl
  obtain ⟨p, t, n, es, S, rfl, hw, ht, hT, q⟩ := h
  obtain ⟨dx, l, hp, hl, h1, h14, h30, hin⟩ := id hw
  obtain ⟨ls, hl1, hl2, hl3⟩ := id hl
  have ll : (ls.map V.ref).length = es.length := by rw [List.length_map, hl2]
  refine ⟨_, (pss_cons (ps_if (pt_not (pt_val (pe_def D_is_tree hr (by omega) (by rfl) (pa_cons (pv 0) (pa_cons (pv 1) pa_nil))))) (pss_one ps_never) pss_nil)
      (pss_one (ps_ret (pe_callTy call_tuple_of (by rfl) T.z_tuple boot_tuple (pa_cons (pe_lc  (own := [("tie", 2)]) (g := (gName 2)) rfl sc_left_of.nd (pi_range1 (by rfl) T.z_range (pa_cons (pe_callB (X := _) (r := rLenS K) len_seqK (by rfl) T.z_len PySem.boot_len (pa_cons (pe_fldK (K' := K) rfl (pv 0) (by rfl)) pa_nil)) pa_nil)) (blkOk_by (own := [("tie", 2)]) (N := ["web", "tree", "tie"]) (sc := defScope s_left_of) (by decide +kernel)) (fun _ _ _ _ _ => (pg_name (i := 2) sc_left_of.nd rfl (by first | exact Or.inl rfl | exact Or.inr rfl))) (fun _ _ _ _ _ => (pts_one (pt_cmpR (r := rIn K true) op_notIn_seq (pv 2) (pv 1) (by with_unfolding_all rfl)))) (fun _ _ _ _ _ => (pv 2))) pa_nil))))), ?_⟩
  refine ⟨_, rfl, _, rfl, p, t, n, es, S, rfl, hw, ht, hT, fun H1 e1 => ⟨true, rfl, iteF ?_⟩⟩
  refine ⟨.ref p, rfl, p, CW, dx, _, _, rfl, e1 _ _ hp, T.cW, T.nW_ties, wfs_ties n l, l, _, rfl, .inl (sq_of (e1 _ _ hl1)), _, rfl, by omega, by omega, fun D nD => ?_⟩
  rw [ll, show ((es.length : Nat) : Int).toNat = es.length by omega]
  refine lc_fin (D := D) walk_rangeN (by omega) (gm_name 2) (fun k => decide (k ∉ S)) (fun k y _ => y = .int (k : Int)) (fun _ _ _ _ _ h => h) nD (fun _ _ => trivial) ?_ ?_
  · rintro k y Ha Hb hk ea _ ⟨rfl, rfl⟩
    refine ⟨rfl, Ex.refl _, et_test (ev_is (ev_op (ev_var rfl) (ev_var rfl) (rv_niT (st_of (ea _ _ (e1 _ _ ht))) rfl (nI_flat _))) ?_), fun _ => Ev.p (ev_var rfl)⟩
    rw [nI_in]
    congr 1
    rw [Bool.eq_iff_iff]
    simp
  · intro ys H2 e2 hD hk
    have ey := kept_intsF (g := fun k => k) hk
    rw [List.map_id'] at ey
    have ey' : ys = nI (MT.compl es.length S) := ey
    rw [ey'] at hD
    refine ⟨D, _, rfl, .inl ⟨sq_of hD, fun r nr => ?_⟩⟩
    exact q _ r ((e1.trans e2).trans (Ex.new nr)) upd_same
def spGcd : Sp := fun vs H Q _ => ∃ a b : Nat, vs = [.int (a : Int), .int (b : Int)] ∧ Q (.int (Nat.gcd a b : Int)) H
theorem d_common_measure (T : Txt K mg CW CS) : Def P w K mg base "common_measure" 1 ["one", "other"] spGcd := by
  refine def_by T.a_common_measure sc_common_measure (fun vs H Q E h => ?_) (fun f cdv A outer s H vs Q E hr h => ?_)
  · obtain ⟨a, b, rfl, _⟩ := h; rfl
  obtain ⟨a, b, rfl, q⟩ := h
  refine ⟨_, (pss_cons (ps_while PassesOwn.never (pt_cmpR op_ne (pv 1) pe_int (nomark _))
        (pss_one (ps_par (i := 0) (j := 1) (by rfl) sc_common_measure.nd rfl rfl (by decide) rfl rfl (pa_cons (pv 1) (pa_cons (pe_op op_modN (pv 0) (pv 1)) pa_nil)) (by rfl))))
      (pss_one (ps_ret (pv 0)))), ?_⟩
  refine ⟨fun m σ' H' => ∃ a' b' : Nat, m = b' ∧ σ' = [some (.int (a' : Int)), some (.int (b' : Int))] ∧ H' = H ∧ Nat.gcd a' b' = Nat.gcd a b, ⟨b, a, b, rfl, rfl, rfl, rfl⟩, ?_⟩
  rintro m σ' H' ⟨a', b', rfl, rfl, rfl, hg⟩
  refine ⟨_, rfl, rfl, _, rfl, ?_⟩
  by_cases h0 : m = 0
  · subst h0
    refine neqF rfl ⟨_, rfl, ?_⟩
    rw [Nat.gcd_zero_right] at hg
    rw [hg]; exact q
  · refine neqT (fun z => h0 (by have := V.int.inj z; omega)) ⟨fun σ' H'' => ∃ a2 b2 : Nat, a' % m = b2 ∧ σ' = [some (.int (a2 : Int)), some (.int (b2 : Int))] ∧ H'' = H' ∧ Nat.gcd a2 b2 = Nat.gcd a b, fun σ'' H'' ⟨a2, b2, x1, x2, x3, x4⟩ => ⟨a' % m, Nat.mod_lt _ (by omega), a2, b2, x1, x2, x3, x4⟩, ?_⟩
    refine ⟨_, rfl, _, rfl, _, rfl, _, _, rfl, rfl, (show ((m : Nat) : Int) ≠ 0 by omega), _, _, rfl, m, a' % m, rfl, ?_, rfl, ?_⟩
    · show [some (V.int (m : Int)), some (V.int (Int.fmod (a' : Int) (m : Int)))] = _
      rw [fmod_nat]
    · rw [← hg, Nat.gcd_comm m, ← Nat.gcd_rec, Nat.gcd_comm]
def spLowest : Sp := fun vs H Q _ => ∃ a b : Nat, vs = [.int (a : Int), .int (b : Int)] ∧ 0 < b ∧ b < 1073741824 ∧ ∀ H' r, Ex H H' → H' r = some (.tup [.int ((a / Nat.gcd a b : Nat) : Int), .int ((b / Nat.gcd a b : Nat) : Int)]) → Q (.ref r) H'
theorem d_lowest (T : Txt K mg CW CS) : Def P w K mg base "lowest" 2 ["top", "bottom"] spLowest := by
  have D_common_measure : Def P w K mg base "common_measure" 1 ["one", "other"] spGcd := d_common_measure T
  refine def_by T.a_lowest sc_lowest (fun vs H Q E h => ?_) (fun f cdv A outer s H vs Q E hr h => ?_)
  · obtain ⟨a, b, rfl, _⟩ := h; rfl
  obtain ⟨a, b, rfl, hb, hb30, q⟩ := h
  have hg := Nat.gcd_le_right (m := a) (n := b) hb
  have hg0 := Nat.gcd_pos_of_pos_right a hb
  refine ⟨_, (pss_cons (ps_set (i := 2) sc_lowest.nd rfl (by first | exact Or.inl rfl | exact Or.inr rfl) (pe_def D_common_measure hr (by omega) (by rfl) (pa_cons (pe_callB call_abs (by rfl) T.z_abs (by decide +kernel) (pa_cons (pv 0) pa_nil)) (pa_cons (pv 1) pa_nil))))
      (pss_one (ps_ret (pe_tup (pa_cons (pe_op op_fdivN (pv 0) (pv 2)) (pa_cons (pe_op op_fdivN (pv 1) (pv 2)) pa_nil)))))), ?_⟩
  refine ⟨_, rfl, _, rfl, _, rfl, a, b, ?_, ?_⟩
  · show [V.int (if (a : Int) < 0 then -(a : Int) else (a : Int)), V.int (b : Int)] = _
    rw [if_neg (by omega)]
  refine ⟨_, rfl, _, rfl, _, _, rfl, rfl, ⟨by omega, by omega⟩, ?_⟩
  refine ⟨_, rfl, _, rfl, _, _, rfl, rfl, ⟨by omega, by omega⟩, sz (by simp), fun r nr => ?_⟩
  refine q _ r (Ex.new nr) ?_
  rw [upd_same]
  show some (HO.tup [V.int (Int.fdiv (a : Int) (Nat.gcd a b : Int)), V.int (Int.fdiv (b : Int) (Nat.gcd a b : Int))]) = _
  rw [fdiv_nat, fdiv_nat]
def spParts (CW : Addr) : Sp := fun vs H Q _ => ∃ (p : Addr) (n : Nat) (es : List (Nat × Nat)), vs = [.ref p] ∧ WebAt CW H p n es ∧ MT.pc n (MT.mk ((List.range es.length).map (ed es))) = 1 ∧ ∀ H', Ex H H' → Q .non H'
theorem d_look_for_parts (T : Txt K mg CW CS) : Def P w K mg base "look_for_parts" 3 ["web"] (spParts CW) := by
  have D_is_joined : Def P w K mg base "is_joined" 2 ["web", "ties"] (spJoined CW) := d_is_joined T
  refine def_by T.a_look_for_parts sc_look_for_parts (fun vs H Q E h => ?_) (fun f cdv A outer s H vs Q E hr h => ?_)
  · obtain ⟨p, n, es, rfl, _⟩ := h; rfl
  obtain ⟨p, n, es, rfl, hw, hj, q⟩ := h
  obtain ⟨dx, l, hp, hl, h1, h14, h30, hin⟩ := id hw
  obtain ⟨ls, hl1, hl2, hl3⟩ := id hl
  have ll : (ls.map V.ref).length = es.length := by rw [List.length_map, hl2]
  refine ⟨_, (pss_one (ps_if (pt_not (pt_val (pe_def D_is_joined hr (by omega) (by rfl) (pa_cons (pv 0) (pa_cons (pe_tupRg rfl (by rfl) T.z_tuple (prg_1 (by rfl) T.z_range (pe_callB (X := _) (r := rLenS K) len_seqK (by rfl) T.z_len PySem.boot_len (pa_cons (pe_fldK (K' := K) rfl (pv 0) (by rfl)) pa_nil)))) pa_nil))))) (pss_one ps_never) pss_nil)), ?_⟩
  refine ⟨_, rfl, .ref p, rfl, p, CW, dx, _, _, rfl, hp, T.cW, T.nW_ties, wfs_ties n l, l, _, rfl, .inl (sq_of hl1), _, rfl, RgOk.of_le (by omega) (by omega) (by omega) (by omega), fun o no => ?_⟩
  have e2 := Ex.new (o := .tup (rgV 0 ((ls.map V.ref).length : Int))) no
  exact ⟨p, o, n, es, List.range es.length, rfl, hw.mono e2, .inl (by rw [upd_same, rgV_nI, ll]), MT.mem_subs.mpr (List.Sublist.refl _), hj, fun H3 e3 => ⟨true, rfl, iteF (q H3 (e2.trans e3))⟩⟩
theorem NT_le {n : Nat} {es : List (Nat × Nat)} (h : MT.InN n es) : MT.NT n (ed es) es.length [] [] ≤ 2 ^ es.length := by
  rw [← tau_es h, ← MT.tauf_id h]
  exact MT.tauf_le es _ _
def spShare (CW : Addr) : Sp := fun vs H Q _ => ∃ (p t : Addr) (n : Nat) (es : List (Nat × Nat)) (e : Nat), vs = [.ref p, .ref t] ∧ WebAt CW H p n es ∧ H t = some (.lst (nI [e])) ∧ e < es.length ∧ es.length ≤ 28 ∧ MT.pc n (MT.mk ((List.range es.length).map (ed es))) = 1 ∧ 0 < MT.NT n (ed es) es.length [e] [] ∧ 0 < MT.NT n (ed es) es.length [] [] ∧
  ∀ H' r, Ex H H' → H' r = some (.tup [.int ((MT.NT n (ed es) es.length [e] [] / Nat.gcd (MT.NT n (ed es) es.length [e] []) (MT.NT n (ed es) es.length [] []) : Nat) : Int), .int ((MT.NT n (ed es) es.length [] [] / Nat.gcd (MT.NT n (ed es) es.length [e] []) (MT.NT n (ed es) es.length [] []) : Nat) : Int)]) → Q (.ref r) H'
theorem d_share_of (T : Txt K mg CW CS) : Def P w K mg base "share_of" 4 ["web", "ties"] (spShare CW) := by
  have D_made_set : Def P w K mg base "made_set" 1 ["web", "ties"] (spMadeSet CW) := d_made_set T
  have D_look_for_parts : Def P w K mg base "look_for_parts" 3 ["web"] (spParts CW) := d_look_for_parts T
  have D_lowest : Def P w K mg base "lowest" 2 ["top", "bottom"] spLowest := d_lowest T
  have D_count_with : Def P w K mg base "count_with" 3 ["web", "inside", "outside"] (spCountW CW) := d_count_with T
  have D_tree_count : Def P w K mg base "tree_count" 3 ["web"] (spCount CW) := d_tree_count T
  refine def_by T.a_share_of sc_share_of (fun vs H Q E h => ?_) (fun f cdv A outer s H vs Q E hr h => ?_)
  · obtain ⟨p, n, es, _, _, rfl, _⟩ := h; rfl
  obtain ⟨p, t, n, es, e, rfl, hw, ht, he, h28, hj, hNe, hN, q⟩ := h
  obtain ⟨dx, l, hp, hl, h1, h14, h30, hin⟩ := id hw
  have hsub : [e] ∈ MT.subs (List.range es.length) := MT.mem_subs.mpr (List.singleton_sublist.mpr (List.mem_range.mpr he))
  have hle := NT_le hin
  have h2 : (2 : Nat) ^ es.length ≤ 2 ^ 28 := Nat.pow_le_pow_right (by decide) h28
  refine ⟨_, (pss_cons (ps_set (i := 2) sc_share_of.nd rfl (by first | exact Or.inl rfl | exact Or.inr rfl) (pe_def D_made_set hr (by omega) (by rfl) (pa_cons (pv 0) (pa_cons (pv 1) pa_nil))))
      (pss_cons (ps_expr (pe_def D_look_for_parts hr (by omega) (by rfl) (pa_cons (pv 0) pa_nil)))
      (pss_one (ps_ret (pe_def D_lowest hr (by omega) (by rfl) (pa_cons (pe_def D_count_with hr (by omega) (by rfl) (pa_cons (pv 0) (pa_cons (pv 2) (pa_cons (pe_tup pa_nil) pa_nil)))) (pa_cons (pe_def D_tree_count hr (by omega) (by rfl) (pa_cons (pv 0) pa_nil)) pa_nil))))))), ?_⟩
  refine ⟨_, rfl, _, rfl, p, t, n, es, [e], rfl, hw, .inr ht, hsub, fun H1 k e1 hk => ?_⟩
  refine ⟨_, rfl, p, n, es, rfl, hw.mono e1, hj, fun H2 e2 => ?_⟩
  have e12 := e1.trans e2
  refine ⟨_, rfl, _, rfl, sz (by simp), fun t0 nt0 => ?_⟩
  have e3 := Ex.new (o := .tup []) nt0
  refine ⟨p, k, t0, n, es, [e], [], rfl, hw.mono (e12.trans e3), .inl (e3 _ _ (e2 _ _ hk)), .inl upd_same, hsub, nil_sub _, MT.one_free (ed_in hin) he hNe, fun _ _ => List.not_mem_nil, h28, hNe, fun H4 e4 => ?_⟩
  have e14 := (e12.trans e3).trans e4
  refine ⟨_, rfl, p, n, es, rfl, hw.mono e14, h28, by rw [tau_es hin]; omega, fun H5 e5 => ?_⟩
  rw [tau_es hin]
  refine ⟨_, _, rfl, hN, by omega, fun H6 r e6 h6 => ?_⟩
  exact q H6 r (e14.trans (e5.trans e6)) h6
end
end Sr
namespace Sr
open PySem PySem.Spec PyProof.Rows L2 Evl
/-- the ties of a ring of bundles -/
def rings (n E : Nat) (b : List (List Nat)) (fl : Nat → Nat) : List (Nat × Nat) := (List.range E).map (MT.rend n b fl)
theorem rings_len (n E : Nat) (b : List (List Nat)) (fl : Nat → Nat) : (rings n E b fl).length = E := by unfold rings; simp
theorem rings_ed {n E : Nat} {b : List (List Nat)} {fl : Nat → Nat} {t : Nat} (h : t < E) : ed (rings n E b fl) t = MT.rend n b fl t := by
  unfold ed rings
  rw [List.getD_eq_getElem?_getD, List.getElem?_map, List.getElem?_range h]; rfl
section
variable {n E : Nat} {b : List (List Nat)} {fl : Nat → Nat}
theorem ring_of_rb (R : MT.Rb n E b fl) : MT.Ring n (rings n E b fl).length (ed (rings n E b fl)) b := by
  rw [rings_len]
  exact R.ring fun k j hk hj => by rw [rings_ed (R.tk_lt hk hj), R.rend hk hj]
theorem inn_of_rb (R : MT.Rb n E b fl) : MT.InN n (rings n E b fl) := fun e he => by
  have hE := (ring_of_rb R).edge
  unfold rings at he
  obtain ⟨t, ht, rfl⟩ := List.mem_map.mp he
  have := hE t (by rw [rings_len]; exact List.mem_range.mp ht)
  rwa [rings_ed (List.mem_range.mp ht)] at this
theorem fl_of_rb (R : MT.Rb n E b fl) (h7 : n ≤ 7) : Fl n (rings n E b fl) (MT.trows n b fl) (MT.nx n b fl) (MT.lab b fl) := by
  have hn := R.n3
  obtain ⟨s1, s2, s3⟩ := R.small h7
  have hl := rings_len n E b fl
  have st : ∀ d, d < 2 * E → stands (rings n E b fl) d = MT.std n b fl d := fun d hd => by
    unfold stands MT.std
    rw [rings_ed (by omega)]
  have rowk : ∀ (k : Nat) (r : List Nat), (MT.trows n b fl)[k]? = some r → k < n ∧ r = MT.trow n b fl k := fun k r h => by
    have hk : k < n := by
      have := (List.getElem?_eq_some_iff.mp h).1
      unfold MT.trows at this
      simpa using this
    unfold MT.trows at h
    rw [List.getElem?_map, List.getElem?_range hk] at h
    exact ⟨hk, (Option.some.inj h).symm⟩
  refine ⟨by unfold MT.trows; simp, R.rows_nd, fun r hr d hd => ?_, by rw [hl]; exact R.rows_len, fun k r d hr hd => ?_, fun r hr i d hi => ?_, fun d hd => ?_, fun d d' hd hd' e => ?_, fun rs hS => ?_, by omega, by omega, (ring_of_rb R).joined⟩
  · rw [hl]; exact R.rows_mem.mp (List.mem_flatten.mpr ⟨r, hr, hd⟩)
  · obtain ⟨hk, rfl⟩ := rowk k r hr
    rw [st d (R.row_lt hk hd)]
    exact R.std_row hk hd
  · obtain ⟨k, hk⟩ := List.getElem?_of_mem hr
    obtain ⟨hk', rfl⟩ := rowk k r hk
    exact R.rows_nxt hk' hi
  · rw [hl] at hd ⊢; exact R.nx_lab hd
  · rw [hl] at hd hd'; exact R.reach hd hd' e
  · rw [hl] at hS ⊢; exact R.num hS
end
/-- numbers that a comprehension gave, each of a kind -/
theorem kept_some {n : Nat} {p : Nat → Prop} {ys : List V} {H : Hp} (h : Kept n (fun _ => true) (fun _ y _ => ∃ s : Nat, p s ∧ y = .int (s : Int)) ys H) : ∃ l : List Nat, ys = nI l ∧ l.length = n ∧ ∀ s ∈ l, p s := by
  obtain ⟨h1, h2⟩ := h
  have e : (List.range n).filter (fun _ => true) = List.range n := List.filter_eq_self.mpr fun _ _ => rfl
  rw [e] at h1 h2
  rw [List.length_range] at h1
  have all : ∀ y ∈ ys, ∃ s : Nat, p s ∧ y = .int (s : Int) := fun y hy => by
    obtain ⟨i, hi⟩ := List.getElem?_of_mem hy
    have hl : i < n := by rw [← h1]; exact (List.getElem?_eq_some_iff.mp hi).1
    exact h2 i i y (List.getElem?_range hl) hi
  clear h2 e
  have : ∀ ys : List V, (∀ y ∈ ys, ∃ s : Nat, p s ∧ y = .int (s : Int)) → ∃ l : List Nat, ys = nI l ∧ l.length = ys.length ∧ ∀ s ∈ l, p s := fun ys => by
    induction ys with
    | nil => intro _; exact ⟨[], rfl, rfl, by simp⟩
    | cons y ys ih =>
      intro h
      obtain ⟨s, hs, rfl⟩ := h y List.mem_cons_self
      obtain ⟨l, rfl, hl, hp⟩ := ih fun z hz => h z (List.mem_cons_of_mem _ hz)
      exact ⟨s :: l, rfl, by rw [List.length_cons, List.length_cons, hl], fun x hx => by
        rcases List.mem_cons.mp hx with rfl | hx
        · exact hs
        · exact hp x hx⟩
  obtain ⟨l, a, c, d⟩ := this ys all
  exact ⟨l, a, by omega, d⟩
theorem fmod_pos {x m : Int} (h : 0 < m) : 0 ≤ Int.fmod x m ∧ Int.fmod x m < m := ⟨Int.fmod_nonneg_of_pos x h, Int.fmod_lt_of_pos x h⟩
theorem seq_nat {n k : Nat} (h : k < n) : seqIndex? (k : Int) n = some k := by
  unfold seqIndex?
  simp
  omega
theorem sum_take {l : List Nat} {i s : Nat} (h : l[i]? = some s) : (l.take (i + 1)).sum = (l.take i).sum + s := by
  rw [List.take_add_one, h]; simp
theorem sum_take_le (l : List Nat) (i : Nat) : (l.take i).sum ≤ l.sum := by
  have : l.sum = (l.take i).sum + (l.drop i).sum := by rw [← List.sum_append, List.take_append_drop]
  omega
theorem sum_nat (l : List Nat) : (l.map (fun (x : Nat) => (x : Int))).sum = ((l.sum : Nat) : Int) := by
  induction l with
  | nil => rfl
  | cons x l ih => rw [List.map_cons, List.sum_cons, List.sum_cons, ih]; omega
theorem sum_le {l : List Nat} (h : ∀ s ∈ l, s ≤ 4) : l.sum ≤ 4 * l.length := by
  induction l with
  | nil => simp
  | cons x l ih =>
    have := ih fun s hs => h s (List.mem_cons_of_mem _ hs)
    have := h x List.mem_cons_self
    rw [List.sum_cons, List.length_cons]; omega
theorem erase_map {α β : Type} (f : α → β) : ∀ (l : List α) (k : Nat), (l.map f).eraseIdx k = (l.eraseIdx k).map f
  | [], _ => rfl
  | x :: l, 0 => rfl
  | x :: l, k + 1 => by
    show f x :: (l.map f).eraseIdx k = f x :: (l.eraseIdx k).map f
    rw [erase_map f l k]
theorem erase_perm {α : Type} {z : α} : ∀ {l : List α} {k : Nat}, l[k]? = some z → (z :: l.eraseIdx k).Perm l
  | [], k, h => by simp at h
  | x :: l, 0, h => by
    have : x = z := by simpa using h
    rw [← this]; exact .refl _
  | x :: l, k + 1, h => by
    have := erase_perm (l := l) (k := k) (by simpa using h)
    show (z :: x :: l.eraseIdx k).Perm (x :: l)
    exact (List.Perm.swap x z _).trans (this.cons x)
end Sr
namespace Sr
open PySem PySem.Spec PyProof.Rows L2 Evl
section
variable {P : Program} {w : World} {K : PySem.W.Frag} {mg : Str → Option Value} {base : Heap} {CW CS : Addr}
def spMixed : Sp := fun vs H Q _ => ∃ c k : Int, vs = [.int c, .int k] ∧ ∀ r : Nat, Q (.int (r : Int)) H
theorem d_mixed (T : Txt K mg CW CS) : Def P w K mg base "_law_mixed" 1 ["cell", "k"] spMixed := by
  refine def_by T.a_law_mixed sc_law_mixed (fun vs H Q E h => ?_) (fun f cdv A outer s H vs Q E hr h => ?_)
  · obtain ⟨a, b, rfl, _⟩ := h; rfl
  obtain ⟨c, k, rfl, q⟩ := h
  refine ⟨_, (pss_cons (ps_set (i := 2) sc_law_mixed.nd rfl (by first | exact Or.inl rfl | exact Or.inr rfl) (pe_op op_modN (pe_op op_mul (pe_op op_add (pe_op op_add (pv 0) (pe_op op_mul pe_int (pv 1))) pe_int) pe_int) pe_int))
      (pss_cons (ps_set (i := 3) sc_law_mixed.nd rfl (by first | exact Or.inl rfl | exact Or.inr rfl) (pe_op op_modN (pe_op op_add (pe_op op_add (pe_op op_mul (pv 2) (pv 2)) (pe_op op_mul pe_int (pv 1))) pe_int) pe_int))
      (pss_one (ps_ret (pe_op op_fdivN (pe_op op_modN (pe_op op_mul (pv 3) (pv 3)) pe_int) pe_int))))), ?_⟩
  refine ⟨_, rfl, _, rfl, _, _, rfl, rfl, .inl ⟨by decide, by decide⟩, _, _, rfl, rfl, _, _, rfl, rfl, _, _, rfl, rfl, .inr ⟨by decide, by decide⟩, _, _, rfl, rfl, (show (2147483647 : Int) ≠ 0 by decide), ?_⟩
  obtain ⟨f1, f2⟩ := fmod_pos (x := (c + 7919 * k + 1) * 48271) (m := 2147483647) (by decide)
  generalize hx : Int.fmod ((c + 7919 * k + 1) * 48271) 2147483647 = x at *
  refine ⟨_, rfl, _, rfl, _, _, rfl, rfl, .inl ?_, _, rfl, _, _, rfl, rfl, .inl ⟨by decide, by decide⟩, _, _, rfl, rfl, _, _, rfl, rfl, _, _, rfl, rfl, (show (2147483629 : Int) ≠ 0 by decide), ?_⟩
  · show -(2 ^ 64) < Int.fmod ((c + 7919 * k + 1) * 48271) 2147483647 ∧ Int.fmod ((c + 7919 * k + 1) * 48271) 2147483647 < 2 ^ 64
    rw [hx]; omega
  obtain ⟨g1, g2⟩ := fmod_pos (x := Int.fmod ((c + 7919 * k + 1) * 48271) 2147483647 * Int.fmod ((c + 7919 * k + 1) * 48271) 2147483647 + 40692 * k + 3) (m := 2147483629) (by decide)
  refine ⟨_, rfl, _, rfl, _, _, rfl, rfl, .inl ⟨?_, ?_⟩, _, _, rfl, rfl, (show (2147483587 : Int) ≠ 0 by decide), _, _, rfl, rfl, ⟨by decide, by decide⟩, ?_⟩
  · exact Int.lt_of_lt_of_le (by decide) g1
  · exact Int.lt_trans g2 (by decide)
  generalize hy : Int.fmod (Int.fmod ((c + 7919 * k + 1) * 48271) 2147483647 * Int.fmod ((c + 7919 * k + 1) * 48271) 2147483647 + 40692 * k + 3) 2147483629 = y at *
  obtain ⟨k1, k2⟩ := fmod_pos (x := y * y) (m := 2147483587) (by decide)
  have e : Int.fdiv (Int.fmod (y * y) 2147483587) 8 = (((Int.fmod (y * y) 2147483587).toNat / 8 : Nat) : Int) := by
    rw [← fdiv_nat]
    congr 1
    omega
  show Q (V.int (Int.fdiv (Int.fmod (y * y) 2147483587) 8)) H
  rw [e]
  exact q _
/-- bundles, as many as a ring has -/
structure Bun (n : Nat) (b : List (List Nat)) : Prop where
  n3 : 3 ≤ n
  n7 : n ≤ 7
  bl : b.length = n
  size : ∀ l ∈ b, 1 ≤ l.length ∧ l.length ≤ 4
  perm : b.flatten.Perm (List.range b.flatten.length)
def spBundles : Sp := fun vs H Q _ => ∃ c : Int, vs = [.int c] ∧ ∀ H' r n b, Ex H H' → NL H' r b → Bun n b → Q (.ref r) H'
/-- the bundles so far, their lists beside what is taken from -/
def Bs (H' : Hp) (td lf : Addr) (b : List (List Nat)) : Prop := ∃ ps : List Addr, H' td = some (.lst (ps.map V.ref)) ∧ ps.length = b.length ∧ ∀ (u : Nat) (a : Addr) (r : List Nat), ps[u]? = some a → b[u]? = some r → a ≠ td ∧ a ≠ lf ∧ H' a = some (.lst (nI r))
theorem d_bundles (T : Txt K mg CW CS) : Def P w K mg base "_law_bundles" 2 ["cell"] spBundles := by
  have D_law_mixed : Def P w K mg base "_law_mixed" 1 ["cell", "k"] spMixed := d_mixed T
  refine def_by T.a_law_bundles sc_law_bundles (fun vs H Q E h => ?_) (fun f cdv A outer s H vs Q E hr h => ?_)
  · obtain ⟨a, rfl, _⟩ := h; rfl
  obtain ⟨c, rfl, q⟩ := h
  refine ⟨_, (pss_cons (ps_set (i := 1) sc_law_bundles.nd rfl (by first | exact Or.inl rfl | exact Or.inr rfl) (pe_op op_add pe_int (pe_op op_modN (pe_def D_law_mixed hr (by omega) (by rfl) (pa_cons (pv 0) (pa_cons pe_int pa_nil))) pe_int)))
      (pss_cons (ps_setLc (i := 3)  (own := [("k", 2)]) (g := (gName 2)) rfl sc_law_bundles.nd rfl rfl (sw_true rfl rfl rfl (by decide +kernel)) (pi_range1 (by rfl) T.z_range (pa_cons (pv 1) pa_nil)) (blkOk_by (own := [("k", 2)]) (N := ["cell", "places", "k", "sizes", "left", "bundles", "bundle", "j"]) (sc := defScope s_law_bundles) (by decide +kernel)) (fun _ _ _ _ _ => (pg_name (i := 2) sc_law_bundles.nd rfl (by first | exact Or.inl rfl | exact Or.inr rfl))) (fun _ _ _ _ _ => pts_nil) (fun _ _ _ _ _ => (pe_op op_add pe_int (pe_op op_modN (pe_def D_law_mixed hr (by omega) (by rfl) (pa_cons (pv 0) (pa_cons (pe_op op_add pe_int (pv 2)) pa_nil))) pe_int))))
      (pss_cons (ps_set (i := 4) sc_law_bundles.nd rfl (by first | exact Or.inl rfl | exact Or.inr rfl) (pe_listRg rfl (by rfl) T.z_list (prg_1 (by rfl) T.z_range (pe_callB (cr_sum rfl) (by rfl) T.z_sum (by decide +kernel) (pa_cons (pv 3) pa_nil)))))
      (pss_cons (ps_set (i := 5) sc_law_bundles.nd rfl (by first | exact Or.inl rfl | exact Or.inr rfl) (pe_lst pa_nil))
      (pss_cons (ps_for PassesOwn.never rfl (pi_range1 (by rfl) T.z_range (pa_cons (pv 1) pa_nil)) (pg_name (i := 2) sc_law_bundles.nd rfl (by first | exact Or.inl rfl | exact Or.inr rfl))
        (pss_cons (ps_set (i := 6) sc_law_bundles.nd rfl (by first | exact Or.inl rfl | exact Or.inr rfl) (pe_lst pa_nil))
        (pss_cons (ps_for PassesOwn.never rfl (pi_range1 (by rfl) T.z_range (pa_cons (pe_ix (r := rIxL K) ix_list (pv 3) (pv 2) (fun _ _ => rfl)) pa_nil)) (pg_name (i := 7) sc_law_bundles.nd rfl (by first | exact Or.inl rfl | exact Or.inr rfl))
          (pss_one (ps_expr (pe_bm PySem.F.plainAttrs_list PySem.F.slot_list_append PySem.F.type_list_append mt_append (pv 6) (pa_cons (pe_bm PySem.F.plainAttrs_list PySem.F.slot_list_pop PySem.F.type_list_pop mt_popAt (pv 4) (pa_cons (pe_op op_modN (pe_def D_law_mixed hr (by omega) (by rfl) (pa_cons (pv 0) (pa_cons (pe_op op_add (pe_op op_add pe_int (pe_op op_mul pe_int (pv 2))) (pv 7)) pa_nil))) (pe_callB (X := _) (r := rLenS K) len_seqK (by rfl) T.z_len PySem.boot_len (pa_cons (pv 4) pa_nil))) pa_nil)) pa_nil)))))
        (pss_one (ps_expr (pe_bm PySem.F.plainAttrs_list PySem.F.slot_list_append PySem.F.type_list_append mt_append (pv 5) (pa_cons (pv 6) pa_nil)))))))
      (pss_one (ps_ret (pv 5)))))))), ?_⟩
  refine ⟨_, rfl, c, 1, rfl, fun r0 => ⟨_, _, rfl, rfl, (show (5 : Int) ≠ 0 by decide), _, _, rfl, rfl, ?_⟩⟩
  obtain ⟨n, hn, n3, n7⟩ : ∃ n : Nat, (3 : Int) + Int.fmod (r0 : Int) 5 = (n : Int) ∧ 3 ≤ n ∧ n ≤ 7 := by
    refine ⟨3 + r0 % 5, ?_, by omega, by omega⟩
    rw [show Int.fmod (r0 : Int) 5 = ((r0 % 5 : Nat) : Int) from fmod_nat r0 5]; rfl
  show gName 1 (V.int ((3 : Int) + Int.fmod (r0 : Int) 5)) _ _ _
  rw [hn]
  refine ⟨_, rfl, (n : Int), rfl, by omega, by omega, fun D nD => ?_⟩
  rw [show ((n : Nat) : Int).toNat = n by omega]
  refine lc_fin (D := D) walk_rangeN (by omega) (gm_name 2) (fun _ => true) (fun k y _ => ∃ s : Nat, (1 ≤ s ∧ s ≤ 4) ∧ y = .int (s : Int)) (fun _ _ _ _ _ h => h) nD (fun _ _ => trivial) ?_ ?_
  · rintro k y Ha Hb hk ea _ ⟨rfl, rfl⟩
    refine ⟨rfl, Ex.refl _, et_yes, fun _ Hc ec Q' q' => ?_⟩
    refine ⟨_, rfl, _, rfl, _, _, rfl, rfl, c, _, rfl, fun r => ⟨_, _, rfl, rfl, (show (4 : Int) ≠ 0 by decide), _, _, rfl, rfl, ?_⟩⟩
    refine q' _ _ (Ex.refl _) ⟨1 + r % 4, ⟨by omega, by omega⟩, ?_⟩
    show V.int (1 + Int.fmod (r : Int) 4) = _
    rw [show Int.fmod (r : Int) 4 = ((r % 4 : Nat) : Int) from fmod_nat r 4]; rfl
  intro ys H1 e1 hD hk
  obtain ⟨sl, rfl, hsl, hsz⟩ := kept_some hk
  have hsum := sum_le (l := sl) fun s hs => (hsz s hs).2
  refine ⟨_, rfl, D, sl.map (fun (x : Nat) => (x : Int)), rfl, by rw [← nI_int]; exact sq_of hD, ?_⟩
  rw [sum_nat]
  refine ⟨_, rfl, RgOk.of_le (by omega) (by omega) (by omega) (by omega), fun lf nlf => ?_⟩
  rw [rgV_nI]
  have e2 := e1.trans (Ex.new (o := .lst (nI (List.range sl.sum))) nlf)
  have nlf0 : H lf = none := fresh_back e1 nlf
  refine ⟨sz (by simp), fun td ntd => ?_⟩
  have e3 := e2.trans (Ex.new (o := .lst []) ntd)
  have ntd0 : H td = none := fresh_back e2 ntd
  have nlt : lf ≠ td := ne_of_none (show upd H1 lf (.lst (nI (List.range sl.sum))) lf = some _ from upd_same) ntd
  have nDl : D ≠ lf := ne_of_none hD nlf
  have nDt : D ≠ td := ne_of_none ((Ex.new nlf) _ _ hD) ntd
  refine ⟨_, rfl, (n : Int), rfl, by omega, by omega, ?_⟩
  rw [show ((n : Nat) : Int).toNat = n by omega]
  refine for_it walk_rangeN (fun i σ' H' => ∃ (y2 y6 y7 : Option V) (b : List (List Nat)) (L : List Nat), σ' = [some (.int c), some (.int (n : Int)), y2, some (.ref D), some (.ref lf), some (.ref td), y6, y7] ∧ Ex H H' ∧ H' D = some (.lst (nI sl)) ∧ Bs H' td lf b ∧ b.length = i ∧ (∀ (u : Nat) (r : List Nat), b[u]? = some r → sl[u]? = some r.length) ∧ H' lf = some (.lst (nI L)) ∧ (b.flatten ++ L).Perm (List.range sl.sum) ∧ b.flatten.length = (sl.take i).sum)
    ⟨none, none, none, [], List.range sl.sum, rfl, e3, by rw [upd_ne nDt, upd_ne nDl]; exact hD, ⟨[], upd_same, rfl, fun u a r h => by simp at h⟩, rfl, fun u r h => by simp at h, by rw [upd_ne nlt]; exact upd_same, by simp, rfl⟩ (fun _ _ _ _ _ => trivial) ?_ ?_
  · rintro i x σ' Ha Hb hi ⟨y2, y6, y7, b, L, rfl, e, hD', hB, hbl, hbs, hlf, hperm, hfl⟩ ⟨rfl, rfl⟩
    refine ⟨sz (by simp), fun ra nra => ?_⟩
    obtain ⟨ps, h1, h2, h3⟩ := hB
    have eR := Ex.new (o := .lst []) nra
    have nra0 : H ra = none := fresh_back e nra
    have ratd : ra ≠ td := (ne_of_none h1 nra).symm
    have ralf : ra ≠ lf := (ne_of_none hlf nra).symm
    have raD : ra ≠ D := (ne_of_none hD' nra).symm
    obtain ⟨s, hs⟩ := some_of (l := sl) (i := i) (by omega)
    have hs4 := hsz s (List.mem_of_getElem? hs)
    have st := sum_take hs
    have stl := sum_take_le sl (i + 1)
    refine ⟨_, rfl, _, rfl, D, _, _, _, rfl, rfl, sq_of (eR _ _ hD'), atI_nat (nI_get hs), (s : Int), rfl, by omega, by omega, ?_⟩
    rw [show ((s : Nat) : Int).toNat = s by omega]
    refine for_it walk_rangeN (fun j σ' H' => ∃ (y7 : Option V) (cl L : List Nat), σ' = [some (.int c), some (.int (n : Int)), some (.int (i : Int)), some (.ref D), some (.ref lf), some (.ref td), some (.ref ra), y7] ∧ Ex H H' ∧ H' D = some (.lst (nI sl)) ∧ H' td = some (.lst (ps.map V.ref)) ∧ (∀ (u : Nat) (a : Addr) (r : List Nat), ps[u]? = some a → b[u]? = some r → a ≠ td ∧ a ≠ lf ∧ a ≠ ra ∧ H' a = some (.lst (nI r))) ∧ H' lf = some (.lst (nI L)) ∧ H' ra = some (.lst (nI cl)) ∧ cl.length = j ∧ (b.flatten ++ cl ++ L).Perm (List.range sl.sum))
      ⟨y7, [], L, rfl, e.trans eR, eR _ _ hD', eR _ _ h1, fun u a r ha hr => ?_, eR _ _ hlf, upd_same, rfl, by rw [List.append_nil]; exact hperm⟩ (fun _ _ _ _ _ => trivial) ?_ ?_
    · obtain ⟨z1, z2, z3⟩ := h3 u a r ha hr
      exact ⟨z1, z2, ne_of_none z3 nra, eR _ _ z3⟩
    · rintro j x σ' Hc Hd hj ⟨y7, cl, L, rfl, e, hD', h1, h3, hlf, hra, hcl, hperm⟩ ⟨rfl, rfl⟩
      have hlen : L.length + cl.length + b.flatten.length = sl.sum := by
        have := hperm.length_eq
        rw [List.length_append, List.length_append, List.length_range] at this
        omega
      have hLp : 0 < L.length := by omega
      refine ⟨_, rfl, .inl ⟨rfl, _, sq_of hra⟩, _, rfl, .inl ⟨rfl, _, sq_of hlf⟩, _, rfl, _, rfl, _, _, rfl, rfl, .inl ⟨by decide, by decide⟩, _, _, rfl, rfl, _, rfl, _, _, rfl, rfl, c, _, rfl, fun r => ?_⟩
      refine ⟨_, rfl, lf, _, rfl, .inl (sq_of hlf), _, _, rfl, rfl, ?_, ?_⟩
      · show (((nI L).length : Nat) : Int) ≠ 0
        rw [nI_len]; omega
      have hm : r % L.length < L.length := Nat.mod_lt _ hLp
      have em : Int.fmod (r : Int) (((nI L).length : Nat) : Int) = ((r % L.length : Nat) : Int) := by rw [nI_len]; exact fmod_nat r L.length
      obtain ⟨z, hz⟩ := some_of hm
      refine ⟨lf, nI L, Int.fmod (r : Int) (((nI L).length : Nat) : Int), r % L.length, _, rfl, rfl, hlf, by rw [em]; omega, by rw [em]; omega, by rw [em, nI_len]; exact seq_nat hm, nI_get hz, ?_⟩
      have ee : (nI L).eraseIdx (r % L.length) = nI (L.eraseIdx (r % L.length)) := by unfold nI; rw [erase_map]
      rw [ee]
      refine ⟨ra, _, _, rfl, rfl, by rw [upd_ne ralf]; exact hra, sz_lt (by rw [nI_len]; omega), ?_⟩
      refine ⟨_, cl ++ [z], L.eraseIdx (r % L.length), rfl, Ex.mut (Ex.mut e nlf0) nra0, ?_, ?_, fun u a r ha hr => ?_, ?_, grow_at, by simp [hcl], ?_⟩
      · rw [upd_ne raD.symm, upd_ne nDl]; exact hD'
      · rw [upd_ne ratd.symm, upd_ne nlt.symm]; exact h1
      · obtain ⟨z1, z2, z3, z4⟩ := h3 u a r ha hr
        exact ⟨z1, z2, z3, by rw [upd_ne z3, upd_ne z2]; exact z4⟩
      · rw [upd_ne ralf.symm]; exact upd_same
      · refine List.Perm.trans ?_ hperm
        have pe := erase_perm hz
        rw [← List.append_assoc, List.append_assoc, List.singleton_append]
        exact List.Perm.append_left _ pe
    · rintro σ' H' ⟨y7, cl, L, rfl, e, hD', h1, h3, hlf, hra, hcl, hperm⟩
      refine ⟨_, rfl, .inl ⟨rfl, _, sq_of h1⟩, _, rfl, td, _, _, rfl, rfl, h1, sz_lt (by rw [List.length_map, h2]; omega), ?_⟩
      refine ⟨_, _, _, b ++ [cl], L, rfl, Ex.mut e ntd0, by rw [upd_ne nDt]; exact hD', ⟨ps ++ [ra], by rw [upd_same, List.map_append]; rfl, by simp [h2], fun u a r ha hr => ?_⟩, by simp [hbl], fun u r hr => ?_, by rw [upd_ne nlt]; exact hlf, ?_, ?_⟩
      · by_cases hu : u < ps.length
        · rw [List.getElem?_append_left hu] at ha
          rw [List.getElem?_append_left (by omega)] at hr
          obtain ⟨z1, z2, z3, z4⟩ := h3 u a r ha hr
          exact ⟨z1, z2, by rw [upd_ne z1]; exact z4⟩
        · have h0 : u - ps.length = 0 := by
            rw [List.getElem?_append_right (by omega)] at ha
            obtain ⟨z1, _⟩ := List.getElem?_eq_some_iff.mp ha
            simp at z1; omega
          rw [List.getElem?_append_right (by omega), h0] at ha
          rw [List.getElem?_append_right (by omega), show u - b.length = 0 by omega] at hr
          have x1 : ra = a := by simpa using ha
          have x2 : cl = r := by simpa using hr
          subst x1; subst x2
          exact ⟨ratd, ralf, by rw [upd_ne ratd]; exact hra⟩
      · by_cases hu : u < b.length
        · rw [List.getElem?_append_left hu] at hr
          exact hbs u r hr
        · have h0 : u - b.length = 0 := by
            rw [List.getElem?_append_right (by omega)] at hr
            obtain ⟨z1, _⟩ := List.getElem?_eq_some_iff.mp hr
            simp at z1; omega
          rw [List.getElem?_append_right (by omega), h0] at hr
          have x2 : cl = r := by simpa using hr
          rw [← x2, hcl, show u = i by omega]; exact hs
      · rw [List.flatten_append]; simpa using hperm
      · rw [List.flatten_append, List.length_append, hfl, st]; simp [hcl]
  · rintro σ' H' ⟨y2, y6, y7, b, L, rfl, e, hD', ⟨ps, h1, h2, h3⟩, hbl, hbs, hlf, hperm, hfl⟩
    rw [← hsl, List.take_length] at hfl
    have hL : L = [] := by
      have := hperm.length_eq
      rw [List.length_append, List.length_range] at this
      exact List.eq_nil_of_length_eq_zero (by omega)
    subst hL
    rw [List.append_nil] at hperm
    refine ⟨_, rfl, q H' td n b e ⟨ps, h1, h2, fun u a r ha hr => (h3 u a r ha hr).2.2⟩ ⟨n3, n7, hbl, fun l hl => ?_, by rw [hfl]; exact hperm⟩⟩
    obtain ⟨u, hu⟩ := List.getElem?_of_mem hl
    exact hsz _ (List.mem_of_getElem? (hbs u l hu))
end
end Sr
namespace Sr
open PySem PySem.Spec PyProof.Rows L2 Evl
theorem nI_refs {l : List Nat} {ps : List Addr} (h : ps ≠ []) : nI l ≠ ps.map V.ref := fun q => by
  cases ps with
  | nil => exact h rfl
  | cons p ps =>
    cases l with
    | nil => cases q
    | cons n l => cases (List.cons.inj q).1
theorem rb_of {n : Nat} {b : List (List Nat)} (B : Bun n b) {fl : Nat → Nat} (h : ∀ t, fl t < 2) : MT.Rb n b.flatten.length b fl :=
  ⟨B.n3, B.bl, B.perm, fun l hl z => by have := (B.size l hl).1; rw [z] at this; simp at this, fun l hl => (B.size l hl).2, h⟩
theorem end1 {k k1 f : Nat} (hf : f < 2) : atI [V.int (k : Int), V.int (k1 : Int)] (f : Int) = some (V.int ((if f = 0 then (k, k1) else (k1, k)).1 : Int)) := by
  refine atI_nat ?_
  match f, hf with
  | 0, _ => rfl
  | 1, _ => rfl
theorem end2 {k k1 f : Nat} (hf : f < 2) : atI [V.int (k : Int), V.int (k1 : Int)] (1 - (f : Int)) = some (V.int ((if f = 0 then (k, k1) else (k1, k)).2 : Int)) := by
  rw [show (1 : Int) - (f : Int) = ((1 - f : Nat) : Int) by omega]
  refine atI_nat ?_
  match f, hf with
  | 0, _ => rfl
  | 1, _ => rfl
theorem atI_back {xs : List V} {k n : Nat} (hk : k < n) (hl : xs.length = n) {v : V} (h : xs[MT.prev n k]? = some v) : atI xs ((k : Int) - 1) = some v := by
  have hp : MT.prev n k = if k = 0 then n - 1 else k - 1 := by
    unfold MT.prev
    split
    · rename_i z; rw [z, Nat.zero_add, Nat.mod_eq_of_lt (by omega)]
    · rw [show k + (n - 1) = (k - 1) + n by omega, Nat.add_mod_right, Nat.mod_eq_of_lt (by omega)]
  rw [hp] at h
  by_cases z : k = 0
  · rw [if_pos z] at h
    subst z
    unfold atI ixN
    rw [if_neg (by omega), if_pos (by omega)]
    show xs[(((0 : Nat) : Int) - 1 + (xs.length : Int)).toNat]? = _
    rw [show (((0 : Nat) : Int) - 1 + (xs.length : Int)).toNat = n - 1 by omega, h]
  · rw [if_neg z] at h
    rw [show ((k : Nat) : Int) - 1 = ((k - 1 : Nat) : Int) by omega]
    exact atI_nat h
theorem NL.get {H : Hp} {l : Addr} {rows : List (List Nat)} (h : NL H l rows) : ∃ ps : List Addr, H l = some (.lst (ps.map V.ref)) ∧ ps.length = rows.length ∧ ∀ i, i < rows.length → ∃ a, ps[i]? = some a ∧ (ps.map V.ref)[i]? = some (.ref a) ∧ H a = some (.lst (nI (rows.getD i []))) := by
  obtain ⟨ps, h1, h2, h3⟩ := h
  refine ⟨ps, h1, h2, fun i hi => ?_⟩
  obtain ⟨a, ha⟩ := some_of (l := ps) (i := i) (by omega)
  exact ⟨a, ha, by rw [List.getElem?_map, ha]; rfl, h3 i a _ ha (by rw [List.getElem?_eq_getElem hi, List.getD_eq_getElem?_getD, List.getElem?_eq_getElem hi]; rfl)⟩
section
variable {P : Program} {w : World} {K : PySem.W.Frag} {mg : Str → Option Value} {base : Heap} {CW CS : Addr}
def spMade : Sp := fun vs H Q _ => ∃ (bl : Addr) (c : Int) (n : Nat) (b : List (List Nat)), vs = [.ref bl, .int c] ∧ NL H bl b ∧ Bun n b ∧
  ∀ H' r ta tu fl, Ex H H' → H' r = some (.tup [.ref ta, .ref tu]) → MT.Rb n b.flatten.length b fl → PL H' ta (rings n b.flatten.length b fl) → NL H' tu (MT.trows n b fl) → Q (.ref r) H'
theorem d_made (T : Txt K mg CW CS) : Def P w K mg base "_law_made" 2 ["bundles", "cell"] spMade := by
  have D_law_mixed : Def P w K mg base "_law_mixed" 1 ["cell", "k"] spMixed := d_mixed T
  refine def_by T.a_law_made sc_law_made (fun vs H Q E h => ?_) (fun f cdv A outer s H vs Q E hr h => ?_)
  · obtain ⟨a, _, _, _, rfl, _⟩ := h; rfl
  obtain ⟨bl, c, n, b, rfl, hb, B, q⟩ := h
  obtain ⟨ps, b1, b2, b3⟩ := hb.get
  have n3 := B.n3
  have n7 := B.n7
  have lps : (ps.map V.ref).length = n := by rw [List.length_map, b2, B.bl]
  obtain ⟨s1, s2, s3⟩ := (rb_of B (fl := fun _ => 0) (fun _ => by omega)).small n7
  generalize hE : b.flatten.length = E' at *
  refine ⟨_, (pss_cons (ps_set (i := 2) sc_law_made.nd rfl (by first | exact Or.inl rfl | exact Or.inr rfl) (pe_callB (X := _) (r := rLenS K) len_seqK (by rfl) T.z_len PySem.boot_len (pa_cons (pv 0) pa_nil)))
      (pss_cons (ps_set (i := 3) sc_law_made.nd rfl (by first | exact Or.inl rfl | exact Or.inr rfl) (pe_op op_rep (pe_lst (pa_cons (pe_tup (pa_cons pe_int (pa_cons pe_int pa_nil))) pa_nil)) (pe_callB (cr_sum rfl) (by rfl) T.z_sum (by decide +kernel) (pa_cons (pe_lc  (own := [("bundle", 11)]) (g := (gName 11)) rfl sc_law_made.nd (pi_list (pv 0)) (blkOk_by (own := [("bundle", 11)]) (N := ["bundles", "cell", "places", "ties", "turns", "tie", "flips", "k", "ends", "onward", "backward", "bundle"]) (sc := defScope s_law_made) (by decide +kernel)) (fun _ _ _ _ _ => (pg_name (i := 11) sc_law_made.nd rfl (by first | exact Or.inl rfl | exact Or.inr rfl))) (fun _ _ _ _ _ => pts_nil) (fun _ _ _ _ _ => (pe_callB (X := _) (r := rLenS K) len_seqK (by rfl) T.z_len PySem.boot_len (pa_cons (pv 11) pa_nil)))) pa_nil))))
      (pss_cons (ps_set (i := 4) sc_law_made.nd rfl (by first | exact Or.inl rfl | exact Or.inr rfl) (pe_lst pa_nil))
      (pss_cons (ps_set (i := 6) sc_law_made.nd rfl (by first | exact Or.inl rfl | exact Or.inr rfl) (pe_lc  (own := [("tie", 5)]) (g := (gName 5)) rfl sc_law_made.nd (pi_range1 (by rfl) T.z_range (pa_cons (pe_callB (X := _) (r := rLenS K) len_seqK (by rfl) T.z_len PySem.boot_len (pa_cons (pv 3) pa_nil)) pa_nil)) (blkOk_by (own := [("tie", 5)]) (N := ["bundles", "cell", "places", "ties", "turns", "tie", "flips", "k", "ends", "onward", "backward", "bundle"]) (sc := defScope s_law_made) (by decide +kernel)) (fun _ _ _ _ _ => (pg_name (i := 5) sc_law_made.nd rfl (by first | exact Or.inl rfl | exact Or.inr rfl))) (fun _ _ _ _ _ => pts_nil) (fun _ _ _ _ _ => (pe_op op_modN (pe_def D_law_mixed hr (by omega) (by rfl) (pa_cons (pv 1) (pa_cons (pe_op op_add pe_int (pv 5)) pa_nil))) pe_int))))
      (pss_cons (ps_for PassesOwn.never rfl (pi_range1 (by rfl) T.z_range (pa_cons (pv 2) pa_nil)) (pg_name (i := 7) sc_law_made.nd rfl (by first | exact Or.inl rfl | exact Or.inr rfl))
        (pss_cons (ps_for PassesOwn.never rfl (pi_list (pe_ix (r := rIxL K) ix_list (pv 0) (pv 7) (fun _ _ => rfl))) (pg_name (i := 5) sc_law_made.nd rfl (by first | exact Or.inl rfl | exact Or.inr rfl))
          (pss_cons (ps_set (i := 8) sc_law_made.nd rfl (by first | exact Or.inl rfl | exact Or.inr rfl) (pe_tup (pa_cons (pv 7) (pa_cons (pe_op op_modN (pe_op op_add (pv 7) pe_int) (pv 2)) pa_nil))))
          (pss_one (ps_asg (pe_tup (pa_cons (pe_ix (r := rIxT K) ix_tup (pv 8) (pe_ix (r := rIxL K) ix_list (pv 6) (pv 5) (fun _ _ => rfl)) (fun _ _ => rfl)) (pa_cons (pe_ix (r := rIxT K) ix_tup (pv 8) (pe_op op_sub pe_int (pe_ix (r := rIxL K) ix_list (pv 6) (pv 5) (fun _ _ => rfl))) (fun _ _ => rfl)) pa_nil))) (pg_sub (pv 3) (pv 5) set_list)))))
        (pss_cons (ps_setLc (i := 9)  (own := [("tie", 5)]) (g := (gName 5)) rfl sc_law_made.nd rfl rfl (sw_true rfl rfl rfl (by decide +kernel)) (pi_list (pe_ix (r := rIxL K) ix_list (pv 0) (pv 7) (fun _ _ => rfl))) (blkOk_by (own := [("tie", 5)]) (N := ["bundles", "cell", "places", "ties", "turns", "tie", "flips", "k", "ends", "onward", "backward", "bundle"]) (sc := defScope s_law_made) (by decide +kernel)) (fun _ _ _ _ _ => (pg_name (i := 5) sc_law_made.nd rfl (by first | exact Or.inl rfl | exact Or.inr rfl))) (fun _ _ _ _ _ => pts_nil) (fun _ _ _ _ _ => (pe_op op_add (pe_op op_mul pe_int (pv 5)) (pe_ix (r := rIxL K) ix_list (pv 6) (pv 5) (fun _ _ => rfl)))))
        (pss_cons (ps_setLc (i := 10)  (own := [("tie", 5)]) (g := (gName 5)) rfl sc_law_made.nd rfl rfl (sw_true rfl rfl rfl (by decide +kernel)) (pi_reversed (by rfl) T.z_reversed (pa_cons (pe_ix (r := rIxL K) ix_list (pv 0) (pe_op op_sub (pv 7) pe_int) (fun _ _ => rfl)) pa_nil)) (blkOk_by (own := [("tie", 5)]) (N := ["bundles", "cell", "places", "ties", "turns", "tie", "flips", "k", "ends", "onward", "backward", "bundle"]) (sc := defScope s_law_made) (by decide +kernel)) (fun _ _ _ _ _ => (pg_name (i := 5) sc_law_made.nd rfl (by first | exact Or.inl rfl | exact Or.inr rfl))) (fun _ _ _ _ _ => pts_nil) (fun _ _ _ _ _ => (pe_op op_sub (pe_op op_add (pe_op op_mul pe_int (pv 5)) pe_int) (pe_ix (r := rIxL K) ix_list (pv 6) (pv 5) (fun _ _ => rfl)))))
        (pss_one (ps_expr (pe_bm PySem.F.plainAttrs_list PySem.F.slot_list_append PySem.F.type_list_append mt_append (pv 4) (pa_cons (pe_op op_cat (pv 9) (pv 10)) pa_nil))))))))
      (pss_one (ps_ret (pe_tup (pa_cons (pv 3) (pa_cons (pv 4) pa_nil)))))))))), ?_⟩
  refine ⟨_, rfl, bl, _, rfl, .inl (sq_of b1), ?_⟩
  rw [lps]
  -- ties
  refine ⟨sz (by simp), fun z0 nz0 => ⟨sz (by simp), fun l0 nl0 => ?_⟩⟩
  have e2 := (Ex.new (o := .tup [V.int 0, V.int 0]) nz0).trans (Ex.new (o := .lst [V.ref z0]) nl0)
  have hl0 : upd (upd H z0 (.tup [V.int 0, V.int 0])) l0 (.lst [V.ref z0]) l0 = some (.lst [V.ref z0]) := upd_same
  refine ⟨_, rfl, bl, rfl, ⟨_, sq_of (e2 _ _ b1)⟩, fun D nD => lc_fin (D := D) (walk_list (xs := ps.map V.ref)) (by omega) (gm_name 11) (fun _ => true) (fun k y _ => y = .int (((b.getD k []).length : Nat) : Int)) (fun _ _ _ _ _ h => h) nD (fun H2 e3 => sq_of (e3 _ _ (e2 _ _ b1))) ?_ ?_⟩
  · rintro k y Ha Hb hk ea _ ⟨rfl, hy⟩
    obtain ⟨ra, a1, a2, a3⟩ := b3 k (by rw [B.bl]; omega)
    rw [a2] at hy
    cases hy
    refine ⟨rfl, Ex.refl _, et_yes, fun _ => Ev.p (ev_is (ev_lenS (ev_var rfl) (.inl (ea _ _ (e2 _ _ a3)))) ?_)⟩
    rw [nI_len]
  intro ys H3 e3 hD hk3
  have ey := kept_ints (g := fun k => (b.getD k []).length) hk3
  rw [lps] at ey
  have eb : (List.range n).map (fun k => (b.getD k []).length) = b.map List.length := by
    rw [← B.bl]; exact map_range b [] List.length
  rw [eb] at ey
  subst ey
  have hsum : (b.map List.length).sum = E' := by rw [← hE, List.length_flatten]
  refine ⟨D, (b.map List.length).map (fun (x : Nat) => (x : Int)), rfl, by rw [← nI_int]; exact sq_of hD, ?_⟩
  rw [sum_nat, hsum]
  refine ⟨l0, (E' : Int), _, rfl, rfl, e3 _ _ hl0, by omega, by omega, sz (by simp; omega), fun ta nta => ?_⟩
  have erep : (List.replicate ((E' : Nat) : Int).toNat [V.ref z0]).flatten = (List.replicate E' z0).map V.ref := by
    rw [show ((E' : Nat) : Int).toNat = E' by omega]
    simp
  rw [erep]
  have e4 := (e2.trans e3).trans (Ex.new (o := .lst ((List.replicate E' z0).map V.ref)) nta)
  have nta0 : H ta = none := fresh_back (e2.trans e3) nta
  refine ⟨sz (by simp), fun tu ntu => ?_⟩
  have e5 := e4.trans (Ex.new (o := .lst []) ntu)
  have ntu0 : H tu = none := fresh_back e4 ntu
  have hta : upd H3 ta (.lst ((List.replicate E' z0).map V.ref)) ta = some (.lst ((List.replicate E' z0).map V.ref)) := upd_same
  have nat : ta ≠ tu := ne_of_none hta ntu
  have hta5 := (Ex.new (o := .lst []) ntu) _ _ hta
  -- flips
  refine ⟨_, rfl, ta, _, rfl, .inl (sq_of hta5), _, rfl, by simp <;> omega, by simp <;> omega, fun F nF => ?_⟩
  have elen : ((((List.replicate E' z0).map V.ref).length : Nat) : Int).toNat = E' := by simp
  rw [elen]
  refine lc_fin (D := F) walk_rangeN (by omega) (gm_name 5) (fun _ => true) (fun k y _ => ∃ s : Nat, s < 2 ∧ y = .int (s : Int)) (fun _ _ _ _ _ h => h) nF (fun _ _ => trivial) ?_ ?_
  · rintro k y Ha Hb hk ea _ ⟨rfl, rfl⟩
    refine ⟨rfl, Ex.refl _, et_yes, fun _ Hc ec Q' q' => ?_⟩
    refine ⟨_, rfl, _, rfl, _, _, rfl, rfl, c, _, rfl, fun r => ⟨_, _, rfl, rfl, (show (2 : Int) ≠ 0 by decide), ?_⟩⟩
    exact q' _ _ (Ex.refl _) ⟨r % 2, by omega, by rw [show (2 : Int) = ((2 : Nat) : Int) from rfl]; exact congrArg V.int (fmod_nat r 2)⟩
  intro ys6 H6 e6 hF hk6
  obtain ⟨fs, rfl, hfs, hf2⟩ := kept_some hk6
  have e56 := e5.trans e6
  have hfl2 : ∀ t, fs.getD t 0 < 2 := fun t => by
    rw [List.getD_eq_getElem?_getD]
    cases e : fs[t]? with
    | none => simp
    | some z => exact hf2 z (List.mem_of_getElem? e)
  have R := rb_of B (fl := fun t => fs.getD t 0) hfl2
  rw [hE] at R
  have hfget : ∀ t, t < E' → (nI fs)[t]? = some (.int ((fs.getD t 0 : Nat) : Int)) := fun t ht => by
    obtain ⟨z, hz⟩ := some_of (l := fs) (i := t) (by omega)
    rw [nI_get hz, List.getD_eq_getElem?_getD, hz]; rfl
  have hta6 := e6 _ _ hta5
  have htu6 : H6 tu = some (.lst []) := e6 _ _ upd_same
  have nFa : F ≠ ta := (ne_of_none hta5 nF).symm
  have nFu : F ≠ tu := (ne_of_none (show upd (upd H3 ta (.lst ((List.replicate E' z0).map V.ref))) tu (.lst []) tu = some (.lst []) from upd_same) nF).symm
  refine ⟨_, rfl, (n : Int), rfl, by omega, by omega, ?_⟩
  rw [show ((n : Nat) : Int).toNat = n by omega]
  refine for_it walk_rangeN (fun i σ' H' => ∃ (y5 y7 y8 y9 y10 : Option V) (qs : List Addr), σ' = [some (.ref bl), some (.int c), some (.int (n : Int)), some (.ref ta), some (.ref tu), y5, some (.ref F), y7, y8, y9, y10, none] ∧ Bld H tu (fun u => .lst (nI (MT.trow n b (fun t => fs.getD t 0) u))) i H' ∧ H' ta = some (.lst (qs.map V.ref)) ∧ qs.length = E' ∧ H' F = some (.lst (nI fs)) ∧
      ∀ k j, k < i → j < MT.sz b k → ∃ a, qs[MT.tk b k j]? = some a ∧ a ≠ ta ∧ a ≠ tu ∧ H' a = some (eV (MT.rend n b (fun t => fs.getD t 0) (MT.tk b k j))))
    ⟨none, none, none, none, none, List.replicate E' z0, rfl, .zero e56 ntu0 htu6, hta6, by simp, hF, fun k j h => by omega⟩ (fun _ _ _ _ _ => trivial) ?_ ?_
  · rintro i x σ' Ha Hb hi ⟨y5, y7, y8, y9, y10, qs, rfl, hB, hqa, hql, hFF, hdone⟩ ⟨rfl, rfl⟩
    obtain ⟨ra, a1, a2, a3⟩ := b3 i (by rw [B.bl]; omega)
    have hrow : (b.getD i []).length = MT.sz b i := rfl
    have hsz := R.szp hi
    refine ⟨_, rfl, _, rfl, bl, _, _, _, rfl, rfl, sq_of (hB.ex _ _ b1), atI_nat a2, ra, rfl, ⟨_, sq_of (hB.ex _ _ a3)⟩, ?_⟩
    refine for_list (K := K) (a := ra) (xs := nI (b.getD i [])) (fun j' σ' H' => ∃ (y5 y8 : Option V) (qs : List Addr), σ' = [some (.ref bl), some (.int c), some (.int (n : Int)), some (.ref ta), some (.ref tu), y5, some (.ref F), some (.int (i : Int)), y8, y9, y10, none] ∧ Bld H tu (fun u => .lst (nI (MT.trow n b (fun t => fs.getD t 0) u))) i H' ∧ H' ta = some (.lst (qs.map V.ref)) ∧ qs.length = E' ∧ H' F = some (.lst (nI fs)) ∧
        ∀ k j, (k < i ∨ (k = i ∧ j < j')) → k < n → j < MT.sz b k → ∃ a, qs[MT.tk b k j]? = some a ∧ a ≠ ta ∧ a ≠ tu ∧ H' a = some (eV (MT.rend n b (fun t => fs.getD t 0) (MT.tk b k j))))
      ⟨y5, y8, qs, rfl, hB, hqa, hql, hFF, fun k j h hk hj => hdone k j (h.elim id fun z => by omega) hj⟩ (fun j σ' H' _ ⟨_, _, _, _, hB, _⟩ => sq_of (hB.ex _ _ a3)) ?_ ?_
    · rintro j x σ' H' hx ⟨y5, y8, qs, rfl, hB, hqa, hql, hFF, hdone⟩
      obtain ⟨t, ht, rfl⟩ := nI_got hx
      have hj : j < MT.sz b i := (List.getElem?_eq_some_iff.mp ht).1
      have etk : t = MT.tk b i j := by
        have := MT.b_get hj
        rw [ht] at this
        exact Option.some.inj this
      have htE : t < E' := by rw [etk]; exact R.tk_lt hi hj
      refine ⟨_, rfl, _, rfl, _, _, rfl, rfl, _, rfl, _, _, rfl, rfl, (show ((n : Nat) : Int) ≠ 0 by omega), sz (by simp), fun eT neT => ?_⟩
      have ek : Int.fmod ((i : Int) + 1) (n : Int) = (((i + 1) % n : Nat) : Int) := fmod_nat (i + 1) n
      have eE := Ex.new (o := .tup [V.int (i : Int), V.int (Int.fmod ((i : Int) + 1) (n : Int))]) neT
      have heT : upd H' eT (.tup [V.int (i : Int), V.int (Int.fmod ((i : Int) + 1) (n : Int))]) eT = some (.tup [V.int (i : Int), V.int (((i + 1) % n : Nat) : Int)]) := by rw [upd_same, ek]
      have hfv := hfget t htE
      have hf := hfl2 t
      refine ⟨_, rfl, _, rfl, _, rfl, F, _, _, _, rfl, rfl, sq_of (eE _ _ hFF), atI_nat hfv, eT, _, _, _, rfl, rfl, st_of heT, end1 hf, ?_⟩
      refine ⟨_, rfl, _, rfl, _, rfl, F, _, _, _, rfl, rfl, sq_of (eE _ _ hFF), atI_nat hfv, _, _, rfl, rfl, eT, _, _, _, rfl, rfl, st_of heT, end2 hf, ?_⟩
      refine ⟨sz (by simp), fun nt nnt => ?_⟩
      have eN := Ex.new (o := eV (if fs.getD t 0 = 0 then (i, (i + 1) % n) else ((i + 1) % n, i))) nnt
      have hta' := eN _ _ (eE _ _ hqa)
      have nnta : nt ≠ ta := (ne_of_none (eE _ _ hqa) nnt).symm
      have hBt := hB.mono (eE.trans eN)
      obtain ⟨tus, tu1, _⟩ := hB.seq
      have nntu : nt ≠ tu := (ne_of_none (eE _ _ tu1) nnt).symm
      refine ⟨_, rfl, _, rfl, ta, _, _, t, rfl, rfl, hta', ixN_nat (by rw [List.length_map, hql]; exact htE), ?_⟩
      have hqs : qs ≠ [] := fun z => by rw [z] at hql; simp at hql; omega
      refine ⟨_, _, qs.set t nt, rfl, hBt.beside nta0 hta' (fun u _ z => nI_refs hqs (by injection z)) nat.symm, ?_, by rw [List.length_set, hql], by rw [upd_ne nFa]; exact eN _ _ (eE _ _ hFF), fun k j' h hk hj' => ?_⟩
      · rw [upd_same, List.map_set]
      · by_cases same : k = i ∧ j' = j
        · obtain ⟨rfl, rfl⟩ := same
          refine ⟨nt, ?_, nnta, nntu, ?_⟩
          · rw [← etk, List.getElem?_set_self (by rw [hql]; exact htE)]
          · rw [upd_ne nnta, upd_same, ← etk]
            congr 2
            rw [etk, R.rend hi hj]
        · obtain ⟨a, x1, x2, x3, x4⟩ := hdone k j' (by omega) hk hj'
          have ne : MT.tk b k j' ≠ t := fun z => by
            have p1 := R.pos hk hj'
            have p2 := R.pos hi hj
            rw [z, etk] at p1
            exact same ⟨by omega, by omega⟩
          refine ⟨a, by rw [List.getElem?_set_ne (fun z => ne z.symm)]; exact x1, x2, x3, ?_⟩
          rw [upd_ne x2]; exact eN _ _ (eE _ _ x4)
    · rintro σ' H7 ⟨y5, y8, qs, rfl, hB, hqa, hql, hFF, hdone⟩
      rw [nI_len, hrow] at hdone
      have eHF := hB.ex
      -- onward
      refine ⟨_, rfl, _, rfl, bl, _, _, _, rfl, rfl, sq_of (hB.ex _ _ b1), atI_nat a2, ra, rfl, ⟨_, sq_of (hB.ex _ _ a3)⟩, fun D1 nD1 => ?_⟩
      refine lc_fin (D := D1) (walk_list (xs := nI (b.getD i []))) (by rw [nI_len, hrow]; omega) (gm_name 5) (fun _ => true) (fun k y _ => y = .int ((MT.on (fun t => fs.getD t 0) ((b.getD i []).getD k 0) : Nat) : Int)) (fun _ _ _ _ _ h => h) nD1 (fun H2 e2 => sq_of (e2 _ _ (hB.ex _ _ a3))) ?_ ?_
      · rintro k y Hx Hy hk ea _ ⟨rfl, hy⟩
        obtain ⟨t, ht, rfl⟩ := nI_got hy
        rw [nI_len, hrow] at hk
        have etk : t = MT.tk b i k := by
          have := MT.b_get hk
          rw [ht] at this
          exact Option.some.inj this
        have htE : t < E' := by rw [etk]; exact R.tk_lt hi hk
        have ev : (b.getD i []).getD k 0 = t := by rw [List.getD_eq_getElem?_getD, ht]; rfl
        rw [ev]
        refine ⟨rfl, Ex.refl _, et_yes, fun _ => Ev.p (ev_is (ev_op (ev_op ev_c (ev_var rfl) (rv_I (.inl ⟨by decide, by decide⟩))) (ev_ixL (ev_var rfl) (ev_var rfl) (ea _ _ hFF) (hfget t htE)) rv_I0) ?_)⟩
        congr 1
      intro ys8 H8 e8 hD1 hk8
      have ey8 := kept_ints (g := fun k => MT.on (fun t => fs.getD t 0) ((b.getD i []).getD k 0)) hk8
      rw [nI_len, map_range (b.getD i []) 0 (MT.on (fun t => fs.getD t 0))] at ey8
      subst ey8
      -- backward
      have hB8 := hB.mono e8
      have hp := MT.prev_lt (n := n) (by omega) i
      obtain ⟨rb, c1, c2, c3⟩ := b3 (MT.prev n i) (by rw [B.bl]; exact hp)
      have hszp := R.szp hp
      have hrowp : (b.getD (MT.prev n i) []).length = MT.sz b (MT.prev n i) := rfl
      have hrb8 := hB8.ex _ _ c3
      refine ⟨_, rfl, _, rfl, _, _, rfl, rfl, bl, _, _, .ref rb, rfl, rfl, sq_of (hB8.ex _ _ b1), atI_back hi lps c2, rb, _, rfl, sq_of hrb8, fun D2 nD2 => ?_⟩
      refine lc_fin (D := D2) (walk_rev (xs := nI (b.getD (MT.prev n i) []))) (by rw [nI_len, hrowp]; omega) (gm_name 5) (fun _ => true) (fun k y _ => y = .int ((MT.bk (fun t => fs.getD t 0) ((b.getD (MT.prev n i) []).reverse.getD k 0) : Nat) : Int)) (fun _ _ _ _ _ h => h) nD2 (fun H2 e2 => sq_of (e2 _ _ hrb8)) ?_ ?_
      · rintro k y Hx Hy hk ea _ ⟨rfl, hy⟩
        obtain ⟨t, ht, rfl⟩ := nI_got hy
        rw [nI_len] at hk ht
        have hmem : t ∈ b.getD (MT.prev n i) [] := List.mem_of_getElem? ht
        obtain ⟨j, hj, etk⟩ := R.in_b hp hmem
        have htE : t < E' := by rw [etk]; exact R.tk_lt hp hj
        have ev : (b.getD (MT.prev n i) []).reverse.getD k 0 = t := by
          rw [List.getD_eq_getElem?_getD, List.getElem?_reverse hk, ht]; rfl
        rw [ev]
        refine ⟨rfl, Ex.refl _, et_yes, fun _ => Ev.p (ev_is (ev_op (ev_op (ev_op ev_c (ev_var rfl) (rv_I (.inl ⟨by decide, by decide⟩))) ev_c rv_I0) (ev_ixL (ev_var rfl) (ev_var rfl) (ea _ _ (e8 _ _ hFF)) (hfget t htE)) rv_I0) ?_)⟩
        congr 1
        have := hfl2 t
        show (2 : Int) * (t : Int) + 1 - ((fs.getD t 0 : Nat) : Int) = ((2 * t + 1 - fs.getD t 0 : Nat) : Int)
        omega
      intro ys9 H9 e9 hD2 hk9
      have ey9 := kept_ints (g := fun k => MT.bk (fun t => fs.getD t 0) ((b.getD (MT.prev n i) []).reverse.getD k 0)) hk9
      rw [nI_len, ← List.length_reverse (as := b.getD (MT.prev n i) []), map_range (b.getD (MT.prev n i) []).reverse 0 (MT.bk (fun t => fs.getD t 0))] at ey9
      subst ey9
      have hB9 := hB8.mono e9
      obtain ⟨tus, tu1, _⟩ := hB9.seq
      have e89 := e8.trans e9
      refine ⟨_, rfl, .inl ⟨rfl, _, sq_of tu1⟩, _, rfl, _, rfl, D1, D2, _, _, rfl, rfl, e9 _ _ hD1, hD2, sz (by rw [nI_len, nI_len, List.length_map, List.length_map, List.length_reverse, hrow, hrowp]; omega), fun cw ncw => ?_⟩
      have hB10 := hB9.mono (Ex.new (o := .lst (nI ((b.getD i []).map (MT.on (fun t => fs.getD t 0))) ++ nI ((b.getD (MT.prev n i) []).reverse.map (MT.bk (fun t => fs.getD t 0))))) ncw)
      obtain ⟨xs, x1, x2, hB11⟩ := hB10.push (a := cw) (by rw [upd_same, ← nI_app]; rfl) (hB9.ne ncw) (by omega)
      refine ⟨tu, xs, _, rfl, rfl, x1, x2, ?_⟩
      have eX := Ex.new (o := .lst (nI ((b.getD i []).map (MT.on (fun t => fs.getD t 0))) ++ nI ((b.getD (MT.prev n i) []).reverse.map (MT.bk (fun t => fs.getD t 0))))) ncw
      refine ⟨_, _, _, _, _, qs, rfl, hB11, by rw [upd_ne nat]; exact eX _ _ (e89 _ _ hqa), hql, by rw [upd_ne nFu]; exact eX _ _ (e89 _ _ hFF), fun k j h hj => ?_⟩
      obtain ⟨a, x1, x2, x3, x4⟩ := hdone k j (by
        by_cases z : k < i
        · exact .inl z
        · have : k = i := by omega
          subst this; exact .inr ⟨rfl, hj⟩) (by omega) hj
      exact ⟨a, x1, x2, x3, by rw [upd_ne x3]; exact eX _ _ (e89 _ _ x4)⟩
  · rintro σ' H' ⟨y5, y7, y8, y9, y10, qs, rfl, hB, hqa, hql, hFF, hdone⟩
    refine ⟨_, rfl, _, rfl, sz (by simp), fun r nr => ?_⟩
    have eR := Ex.new (o := .tup [.ref ta, .ref tu]) nr
    refine q _ r ta tu (fun t => fs.getD t 0) (hB.ex.trans eR) upd_same R ?_ ?_
    · refine ⟨qs, eR _ _ hqa, by rw [hql, rings_len], fun i a e ha he => ?_⟩
      have hi : i < E' := by rw [← hql]; exact (List.getElem?_eq_some_iff.mp ha).1
      obtain ⟨k, j, hk, hj, ei⟩ := R.cover hi
      obtain ⟨a', x1, _, _, x4⟩ := hdone k j hk hj
      rw [← ei, ha] at x1
      rw [← Option.some.inj x1] at x4
      rw [eR _ _ x4]
      unfold rings at he
      rw [List.getElem?_map, List.getElem?_range hi] at he
      rw [← Option.some.inj he, ← ei]
    · exact (hB.nl).mono eR
def spDue : Sp := fun vs H Q _ => ∃ (bl : Addr) (n : Nat) (b : List (List Nat)), vs = [.ref bl] ∧ NL H bl b ∧ Bun n b ∧ Q (.int ((MT.elN (b.map List.length) : Nat) : Int)) H
theorem d_due (T : Txt K mg CW CS) : Def P w K mg base "_law_due" 1 ["bundles"] spDue := by
  refine def_by T.a_law_due sc_law_due (fun vs H Q E h => ?_) (fun f cdv A outer s H vs Q E hr h => ?_)
  · obtain ⟨a, _, _, rfl, _⟩ := h; rfl
  obtain ⟨bl, n, b, rfl, hb, B, q⟩ := h
  obtain ⟨ps, b1, b2, b3⟩ := hb.get
  have n7 := B.n7
  have lps : (ps.map V.ref).length = n := by rw [List.length_map, b2, B.bl]
  have ll : (b.map List.length).length = n := by rw [List.length_map, B.bl]
  refine ⟨_, (pss_cons (ps_set (i := 1) sc_law_due.nd rfl (by first | exact Or.inl rfl | exact Or.inr rfl) pe_int)
      (pss_cons (ps_for PassesOwn.never rfl (pi_range1 (by rfl) T.z_range (pa_cons (pe_callB (X := _) (r := rLenS K) len_seqK (by rfl) T.z_len PySem.boot_len (pa_cons (pv 0) pa_nil)) pa_nil)) (pg_name (i := 2) sc_law_due.nd rfl (by first | exact Or.inl rfl | exact Or.inr rfl))
        (pss_cons (ps_set (i := 3) sc_law_due.nd rfl (by first | exact Or.inl rfl | exact Or.inr rfl) pe_int)
        (pss_cons (ps_for PassesOwn.never rfl (pi_range1 (by rfl) T.z_range (pa_cons (pe_callB (X := _) (r := rLenS K) len_seqK (by rfl) T.z_len PySem.boot_len (pa_cons (pv 0) pa_nil)) pa_nil)) (pg_name (i := 4) sc_law_due.nd rfl (by first | exact Or.inl rfl | exact Or.inr rfl))
          (pss_one (ps_if (pt_cmpR op_ne (pv 4) (pv 2) (nomark _)) (pss_one (ps_set (i := 3) sc_law_due.nd rfl (by first | exact Or.inl rfl | exact Or.inr rfl) (pe_op op_mul (pv 3) (pe_callB (X := _) (r := rLenS K) len_seqK (by rfl) T.z_len PySem.boot_len (pa_cons (pe_ix (r := rIxL K) ix_list (pv 0) (pv 4) (fun _ _ => rfl)) pa_nil))))) pss_nil)))
        (pss_one (ps_set (i := 1) sc_law_due.nd rfl (by first | exact Or.inl rfl | exact Or.inr rfl) (pe_op op_add (pv 1) (pv 3)))))))
      (pss_one (ps_ret (pv 1))))), ?_⟩
  refine ⟨_, rfl, bl, _, rfl, .inl (sq_of b1), _, rfl, by omega, by omega, ?_⟩
  rw [lps, show ((n : Nat) : Int).toNat = n by omega]
  refine for_it walk_rangeN (fun i σ' H' => ∃ (y2 y3 y4 : Option V), σ' = [some (.ref bl), some (.int ((MT.sN (fun k => MT.wr (b.map List.length) k n) i : Nat) : Int)), y2, y3, y4] ∧ H' = H) ⟨none, none, none, rfl, rfl⟩ (fun _ _ _ _ _ => trivial) ?_ ?_
  · rintro i x σ' Ha Hb hi ⟨y2, y3, y4, rfl, rfl⟩ ⟨rfl, rfl⟩
    refine ⟨_, rfl, bl, _, rfl, .inl (sq_of b1), _, rfl, by omega, by omega, ?_⟩
    rw [lps, show ((n : Nat) : Int).toNat = n by omega]
    refine for_it walk_rangeN (fun j σ' H' => ∃ (y4 : Option V), σ' = [some (.ref bl), some (.int ((MT.sN (fun k => MT.wr (b.map List.length) k n) i : Nat) : Int)), some (.int (i : Int)), some (.int ((MT.wr (b.map List.length) i j : Nat) : Int)), y4] ∧ H' = Hb) ⟨y4, rfl, rfl⟩ (fun _ _ _ _ _ => trivial) ?_ ?_
    · rintro j x σ' Hc Hd hj ⟨y4, rfl, rfl⟩ ⟨rfl, rfl⟩
      obtain ⟨ra, a1, a2, a3⟩ := b3 j (by rw [B.bl]; exact hj)
      refine ⟨_, rfl, _, rfl, rfl, _, rfl, ?_⟩
      by_cases z : j = i
      · refine neqF (by rw [z]) ⟨some (.int (j : Int)), ?_, rfl⟩
        show _ = [_, _, _, some (V.int ((MT.wr (b.map List.length) i (j + 1) : Nat) : Int)), _]
        have : MT.wr (b.map List.length) i (j + 1) = MT.wr (b.map List.length) i j := by
          conv => lhs; unfold MT.wr
          rw [if_pos z]
        rw [this]; rfl
      · refine neqT (int_ne z) ?_
        have hs := B.size (b.getD j []) (by
          have hj' : j < b.length := by rw [B.bl]; exact hj
          rw [MT.getD_b hj']; exact List.getElem_mem hj')
        refine ⟨_, rfl, _, rfl, _, rfl, bl, _, _, _, rfl, rfl, sq_of b1, atI_nat a2, ra, _, rfl, .inl (sq_of a3), _, _, rfl, rfl, .inr ⟨by rw [nI_len]; omega, by rw [nI_len]; omega⟩, ?_⟩
        refine ⟨some (.int (j : Int)), ?_, rfl⟩
        have : MT.wr (b.map List.length) i (j + 1) = MT.wr (b.map List.length) i j * (b.getD j []).length := by
          conv => lhs; unfold MT.wr
          rw [if_neg z]
          congr 1
          have hj' : j < b.length := by rw [B.bl]; exact hj
          rw [MT.getD_b hj', List.getD_eq_getElem?_getD, List.getElem?_map, List.getElem?_eq_getElem hj']; rfl
        rw [this, Int.natCast_mul]
        show [_, _, _, some (V.int (((MT.wr (b.map List.length) i j : Nat) : Int) * (((nI (b.getD j [])).length : Nat) : Int))), _] = _
        rw [nI_len]
    · rintro σ' H' ⟨y4, rfl, rfl⟩
      refine ⟨_, rfl, _, rfl, _, _, rfl, rfl, _, _, _, rfl, rfl⟩
  · rintro σ' H' ⟨y2, y3, y4, rfl, rfl⟩
    refine ⟨_, rfl, ?_⟩
    have := MT.due_all (b.map List.length)
    rw [ll] at this
    rw [this]
    exact q
end
end Sr
namespace Sr
open PySem PySem.Spec PyProof.Rows L2 Evl
theorem shares_sum {a b m : Nat} (h : a + b = m) (hm : 0 < m) : a / Nat.gcd a m * (m / Nat.gcd b m) + b / Nat.gcd b m * (m / Nat.gcd a m) = m / Nat.gcd a m * (m / Nat.gcd b m) := by
  have g0 := Nat.gcd_pos_of_pos_right a hm
  have h0 := Nat.gcd_pos_of_pos_right b hm
  obtain ⟨a1, ha⟩ := Nat.gcd_dvd_left a m
  obtain ⟨m1, hm1⟩ := Nat.gcd_dvd_right a m
  obtain ⟨b1, hb⟩ := Nat.gcd_dvd_left b m
  obtain ⟨m2, hm2⟩ := Nat.gcd_dvd_right b m
  generalize Nat.gcd a m = g at *
  generalize Nat.gcd b m = k at *
  have e1 : a / g = a1 := by rw [ha]; exact Nat.mul_div_cancel_left _ g0
  have e2 : m / g = m1 := by rw [hm1]; exact Nat.mul_div_cancel_left _ g0
  have e3 : b / k = b1 := by rw [hb]; exact Nat.mul_div_cancel_left _ h0
  have e4 : m / k = m2 := by rw [hm2]; exact Nat.mul_div_cancel_left _ h0
  rw [e1, e2, e3, e4]
  refine Nat.eq_of_mul_eq_mul_left (Nat.mul_pos g0 h0) ?_
  have x1 : g * k * (a1 * m2) = a * m := by
    conv => rhs; rw [ha, hm2]
    simp only [Nat.mul_assoc, Nat.mul_left_comm, Nat.mul_comm]
  have x2 : g * k * (b1 * m1) = b * m := by
    conv => rhs; rw [hb, hm1]
    simp only [Nat.mul_assoc, Nat.mul_left_comm, Nat.mul_comm]
  have x3 : g * k * (m1 * m2) = m * m := by
    have : m * m = (g * m1) * (k * m2) := by rw [← hm1, ← hm2]
    rw [this]
    simp only [Nat.mul_assoc, Nat.mul_left_comm, Nat.mul_comm]
  rw [Nat.mul_add, x1, x2, x3, ← Nat.add_mul, h]
theorem prN_pos : ∀ {l : List Nat}, (∀ x ∈ l, 1 ≤ x) → 1 ≤ MT.prN l
  | [], _ => Nat.le_refl _
  | x :: l, h => by
    have a := h x List.mem_cons_self
    have b := prN_pos (l := l) fun y hy => h y (List.mem_cons_of_mem _ hy)
    exact Nat.mul_le_mul a b
theorem elN_len : ∀ {l : List Nat}, (∀ x ∈ l, 1 ≤ x) → l.length ≤ MT.elN l
  | [], _ => Nat.le_refl _
  | x :: l, h => by
    have a := h x List.mem_cons_self
    have b := prN_pos (l := l) fun y hy => h y (List.mem_cons_of_mem _ hy)
    have c := elN_len (l := l) fun y hy => h y (List.mem_cons_of_mem _ hy)
    have d : 1 * l.length ≤ x * MT.elN l := Nat.mul_le_mul a c
    show l.length + 1 ≤ MT.prN l + x * MT.elN l
    omega
theorem dp_ints {K : PySem.W.Frag} {H : Hp} : ∀ l : List Nat, DpAll K H (nI l) (l.map fun (n : Nat) => PyData.int (n : Int))
  | [] => .nil
  | n :: l => .cons (.int (n : Int)) (dp_ints l)
theorem ints_lay : ∀ l : List Nat, PyData.canLayAll0 (l.map fun (n : Nat) => PyData.int (n : Int)) = true
  | [] => rfl
  | n :: l => by
    show (PyData.canLay0 (.int (n : Int)) && PyData.canLayAll0 (l.map fun (n : Nat) => PyData.int (n : Int))) = true
    rw [ints_lay l]; rfl
theorem ints_depth : ∀ l : List Nat, PyData.depthAll (l.map fun (n : Nat) => PyData.int (n : Int)) = 0
  | [] => rfl
  | n :: l => by
    show max (PyData.depth (.int (n : Int))) (PyData.depthAll (l.map fun (n : Nat) => PyData.int (n : Int))) = 0
    rw [ints_depth l]; rfl
theorem ints_shaped (l : List Nat) : SeqAt.shaped (.tuple (l.map fun (n : Nat) => PyData.int (n : Int))) = true := by
  unfold SeqAt.shaped
  rw [Bool.and_eq_true, decide_eq_true_eq]
  refine ⟨ints_lay l, ?_⟩
  show PyData.depthAll (l.map fun (n : Nat) => PyData.int (n : Int)) + 1 ≤ 64
  rw [ints_depth]; decide
theorem ints_all : ∀ l : List Nat, PyData.eqvAll (l.map fun (n : Nat) => PyData.int (n : Int)) (l.map fun (n : Nat) => PyData.int (n : Int)) = true
  | [] => by simp [PyData.eqvAll]
  | n :: l => by
    rw [List.map_cons, PyData.eqvAll, ints_all l]
    simp [PyData.eqv]
theorem ints_eqv (l : List Nat) : PyData.eqv (.tuple (l.map fun (n : Nat) => PyData.int (n : Int))) (.tuple (l.map fun (n : Nat) => PyData.int (n : Int))) = true := by
  rw [PyData.eqv]; exact ints_all l
theorem tup_data {K : PySem.W.Frag} {H : Hp} {a : Addr} {l : List Nat} (h : H a = some (.tup (nI l))) : Dp K H (.ref a) (.tuple (l.map fun (n : Nat) => PyData.int (n : Int))) := .tup (st_of h) (dp_ints l)
section
variable {P : Program} {w : World} {K : PySem.W.Frag} {mg : Str → Option Value} {base : Heap} {CW CS : Addr}
def spGood (CW : Addr) : Sp := fun vs H Q _ => ∃ (p t : Addr) (c : Int) (n : Nat) (es : List (Nat × Nat)) (rows : List (List Nat)) (f lab : Nat → Nat) (b : List (List Nat)), vs = [.ref p, .ref t, .int c, .int ((MT.NT n (ed es) es.length [] [] : Nat) : Int)] ∧ WebAt CW H p n es ∧ NL H t rows ∧ Fl n es rows f lab ∧ es.length + 2 ≤ n + 14 ∧
  MT.Ring n es.length (ed es) b ∧ (∀ rs, MT.Rnds (2 * es.length) lab rs → ∃ cf X Y, MT.Dual n es.length b rs.length (ed (webE rs es.length)) cf X Y) ∧ 2 ≤ MT.NT n (ed es) es.length [] [] ∧ ∀ H', Ex H H' → Q (.bl true) H'
theorem d_good (T : Txt K mg CW CS) : Def P w K mg base "_law_other_good" 39 ["web", "turns", "cell", "many"] (spGood CW) := by
  have D_law_mixed : Def P w K mg base "_law_mixed" 1 ["cell", "k"] spMixed := d_mixed T
  have D_other_web : Def P w K mg base "other_web" 5 ["web", "turns"] (spOther CW) := d_other_web T
  have D_tree_count : Def P w K mg base "tree_count" 3 ["web"] (spCount CW) := d_tree_count T
  have D_row_at : Def P w K mg base "row_at" 38 ["web", "number"] (spRowAt CW) := d_row_at T
  have D_left_of : Def P w K mg base "left_of" 3 ["web", "tree"] (spLeft CW) := d_left_of T
  have D_is_tree : Def P w K mg base "is_tree" 2 ["web", "ties"] (spIsTree CW) := d_is_tree T
  have D_share_of : Def P w K mg base "share_of" 4 ["web", "ties"] (spShare CW) := d_share_of T
  refine def_by T.a_law_other_good sc_law_other_good (fun vs H Q E h => ?_) (fun f cdv A outer s H vs Q E hr h => ?_)
  · obtain ⟨a, _, _, _, _, _, _, _, _, rfl, _⟩ := h; rfl
  obtain ⟨p, t, c, n, es, rows, nf, lab, b, rfl, hw, ht, F, hfew, R, hD, h2, q⟩ := h
  obtain ⟨dx, l, hp, hl, h1, h14, h30, hin⟩ := id hw
  obtain ⟨ls, hl1, hl2, hl3⟩ := id hl
  have ll : (ls.map V.ref).length = es.length := by rw [List.length_map, hl2]
  have he := ed_in hin
  have h28 := F.e28
  have hE0 := F.pos
  have hle := NT_le hin
  have hpow : (2 : Nat) ^ es.length ≤ 2 ^ 28 := Nat.pow_le_pow_right (by decide) h28
  refine ⟨_, (pss_cons (ps_set (i := 4) sc_law_other_good.nd rfl (by first | exact Or.inl rfl | exact Or.inr rfl) (pe_def D_other_web hr (by omega) (by rfl) (pa_cons (pv 0) (pa_cons (pv 1) pa_nil))))
      (pss_cons (ps_if (pt_cmpR op_ne (pe_def D_tree_count hr (by omega) (by rfl) (pa_cons (pv 4) pa_nil)) (pv 3) (nomark _)) (pss_one (ps_ret pe_bl)) pss_nil)
      (pss_cons (ps_for PassesOwn.never rfl (pi_range1 (by rfl) T.z_range (pa_cons pe_int pa_nil)) (pg_name (i := 5) sc_law_other_good.nd rfl (by first | exact Or.inl rfl | exact Or.inr rfl))
        (pss_cons (ps_set (i := 6) sc_law_other_good.nd rfl (by first | exact Or.inl rfl | exact Or.inr rfl) (pe_def D_row_at hr (by omega) (by rfl) (pa_cons (pv 0) (pa_cons (pe_op op_modN (pe_def D_law_mixed hr (by omega) (by rfl) (pa_cons (pv 2) (pa_cons (pe_op op_add pe_int (pv 5)) pa_nil))) (pv 3)) pa_nil))))
        (pss_cons (ps_set (i := 7) sc_law_other_good.nd rfl (by first | exact Or.inl rfl | exact Or.inr rfl) (pe_def D_left_of hr (by omega) (by rfl) (pa_cons (pv 0) (pa_cons (pv 6) pa_nil))))
        (pss_cons (ps_if (PW.pt (pw_or (pt_not (pt_val (pe_def D_is_tree hr (by omega) (by rfl) (pa_cons (pv 4) (pa_cons (pv 7) pa_nil))))) (pw_or1 (pt_cmpR (op_neD hr.units) (pe_def D_left_of hr (by omega) (by rfl) (pa_cons (pv 4) (pa_cons (pv 7) pa_nil))) (pv 6) (nomark _))))) (pss_one (ps_ret pe_bl)) pss_nil)
        (pss_cons (ps_set (i := 8) sc_law_other_good.nd rfl (by first | exact Or.inl rfl | exact Or.inr rfl) (pe_op op_modN (pe_def D_law_mixed hr (by omega) (by rfl) (pa_cons (pv 2) (pa_cons (pe_op op_add pe_int (pv 5)) pa_nil))) (pe_callB (X := _) (r := rLenS K) len_seqK (by rfl) T.z_len PySem.boot_len (pa_cons (pe_fldK (K' := K) rfl (pv 0) (by rfl)) pa_nil))))
        (pss_cons (ps_set (i := 9) sc_law_other_good.nd rfl (by first | exact Or.inl rfl | exact Or.inr rfl) (pe_def D_share_of hr (by omega) (by rfl) (pa_cons (pv 0) (pa_cons (pe_lst (pa_cons (pv 8) pa_nil)) pa_nil))))
        (pss_cons (ps_set (i := 10) sc_law_other_good.nd rfl (by first | exact Or.inl rfl | exact Or.inr rfl) (pe_def D_share_of hr (by omega) (by rfl) (pa_cons (pv 4) (pa_cons (pe_lst (pa_cons (pv 8) pa_nil)) pa_nil))))
        (pss_one (ps_if (pt_cmpR op_ne (pe_op op_add (pe_op op_mul (pe_ix (r := rIxT K) ix_tup (pv 9) pe_int (fun _ _ => rfl)) (pe_ix (r := rIxT K) ix_tup (pv 10) pe_int (fun _ _ => rfl))) (pe_op op_mul (pe_ix (r := rIxT K) ix_tup (pv 10) pe_int (fun _ _ => rfl)) (pe_ix (r := rIxT K) ix_tup (pv 9) pe_int (fun _ _ => rfl)))) (pe_op op_mul (pe_ix (r := rIxT K) ix_tup (pv 9) pe_int (fun _ _ => rfl)) (pe_ix (r := rIxT K) ix_tup (pv 10) pe_int (fun _ _ => rfl))) (nomark _)) (pss_one (ps_ret pe_bl)) pss_nil)))))))))
      (pss_one (ps_ret pe_bl))))), ?_⟩
  refine ⟨_, rfl, _, rfl, p, t, n, es, rows, nf, lab, rfl, hw, ht, F, hfew, fun H1 r rs e1 hS hw' => ?_⟩
  obtain ⟨cf, X, Y, D⟩ := hD rs hS
  have le' := webE_len rs es.length
  obtain ⟨dx', l', hp', hl', h1', h14', h30', hin'⟩ := id hw'
  have tau' : MT.tau rs.length id (webE rs es.length) = MT.NT n (ed es) es.length [] [] := by
    rw [tau_es hin', le', D.count R]
  have NT' : MT.NT rs.length (ed (webE rs es.length)) (webE rs es.length).length [] [] = MT.NT n (ed es) es.length [] [] := by rw [le', D.count R]
  obtain ⟨B0, hB0⟩ : ∃ B0, MT.Tree n (ed es) es.length B0 := by
    refine Classical.byContradiction fun z => ?_
    have : MT.NT n (ed es) es.length [] [] = 0 := MT.cnt_false fun S _ ⟨a, _, _⟩ => z ⟨S, a⟩
    omega
  have hone' : MT.pc rs.length (MT.mk ((List.range (webE rs es.length).length).map (ed (webE rs es.length)))) = 1 := by
    rw [le']
    have T1 := (D.tree R hB0)
    have z := (MT.pc_one (MT.mk_inv _) h1').mp T1.one
    refine (MT.pc_one (MT.mk_inv _) h1').mpr fun v hv => ?_
    have a := z v hv
    have b0 : MT.mk ((MT.compl es.length B0).map (ed (webE rs es.length))) 0 = 0 := Nat.le_zero.mp (MT.mk_inv _ 0).1
    have := MT.mk_mono (es' := (List.range es.length).map (ed (webE rs es.length))) (fun e h => by
      obtain ⟨u, hu, rfl⟩ := List.mem_map.mp h
      exact List.mem_map_of_mem (List.mem_range.mpr (MT.mem_compl.mp hu).1)) (a.trans b0.symm)
    rw [this]
    exact Nat.le_zero.mp (MT.mk_inv _ 0).1
  refine ⟨_, rfl, r, _, _, rfl, hw', by omega, by rw [tau']; omega, fun H2 e2 => ?_⟩
  refine ⟨_, rfl, rfl, _, rfl, neqF (by rw [tau']) ?_⟩
  have e12 := e1.trans e2
  refine ⟨_, rfl, by decide, by decide, ?_⟩
  refine for_it walk_rangeN (fun i σ' H' => ∃ (y5 y6 y7 y8 y9 y10 : Option V), σ' = [some (.ref p), some (.ref t), some (.int c), some (.int ((MT.NT n (ed es) es.length [] [] : Nat) : Int)), some (.ref r), y5, y6, y7, y8, y9, y10] ∧ Ex H1 H') ⟨none, none, none, none, none, none, rfl, e2⟩ (fun _ _ _ _ _ => trivial) ?_ ?_
  · rintro i x σ' Ha Hb hi ⟨y5, y6, y7, y8, y9, y10, rfl, e⟩ ⟨rfl, rfl⟩
    have ea := e1.trans e
    refine ⟨_, rfl, _, rfl, _, rfl, _, _, rfl, rfl, c, _, rfl, fun r0 => ⟨_, rfl, _, _, rfl, rfl, (show ((MT.NT n (ed es) es.length [] [] : Nat) : Int) ≠ 0 by omega), ?_⟩⟩
    refine ⟨p, n, es, r0 % MT.NT n (ed es) es.length [] [], congrArg (fun z => [V.ref p, V.int z]) (fmod_nat r0 _), hw.mono ea, h28, F.one, h2, Nat.mod_lt _ (by omega), fun H3 tr T' e3 h3 hT => ?_⟩
    have e03 := ea.trans e3
    refine ⟨_, rfl, _, rfl, p, tr, n, es, T', rfl, hw.mono e03, h3, hT, fun H4 rt e4 h4 => ?_⟩
    have T1 := D.tree R hT
    have T1' : MT.Tree rs.length (ed (webE rs es.length)) (webE rs es.length).length (MT.compl es.length T') := by rw [le']; exact T1
    have e14 := (e.trans e3).trans e4
    refine ⟨_, rfl, _, rfl, r, rt, _, _, MT.compl es.length T', rfl, hw'.mono e14, h4, T1', fun H5 e5 => ⟨true, rfl, iteF ?_⟩⟩
    refine ⟨_, rfl, _, rfl, r, rt, _, _, MT.compl es.length T', rfl, hw'.mono (e14.trans e5), e5 _ _ h4, T1', fun H6 l2 e6 h6 => ?_⟩
    rw [le', MT.compl_compl hT.sub] at h6
    have e36 := (e4.trans e5).trans e6
    refine ⟨_, rfl, _, _, tup_data h6, tup_data (e36 _ _ h3), ints_shaped _, ints_shaped _, _, rfl, ?_⟩
    rw [ints_eqv]
    refine iteF ?_
    have e16 := (e.trans e3).trans e36
    have e06 := e1.trans e16
    refine ⟨_, rfl, _, rfl, _, _, rfl, rfl, c, _, rfl, fun r1 => ⟨.ref p, rfl, p, CW, dx, _, _, rfl, e06 _ _ hp, T.cW, T.nW_ties, wfs_ties n l, l, _, rfl, .inl (sq_of (e06 _ _ hl1)), _, _, rfl, rfl, (show (((ls.map V.ref).length : Nat) : Int) ≠ 0 by omega), ?_⟩⟩
    have ee : Int.fmod (r1 : Int) (((ls.map V.ref).length : Nat) : Int) = ((r1 % es.length : Nat) : Int) := by rw [ll]; exact fmod_nat r1 _
    have hlt : r1 % es.length < es.length := Nat.mod_lt _ hE0
    generalize r1 % es.length = u at ee hlt
    have hsum := D.shares R hlt
    have hNTu : 0 < MT.NT n (ed es) es.length [u] [] := MT.tree_with he h1 hB0 hlt (R.noloop hlt)
    have hNTu' : 0 < MT.NT rs.length (ed (webE rs es.length)) es.length [u] [] := MT.tree_with (D.edge R) h1' T1 hlt (D.noloop R hlt)
    refine ⟨_, rfl, _, rfl, sz (by simp), fun tl ntl => ?_⟩
    have eL := Ex.new (o := .lst [V.int (Int.fmod (r1 : Int) (((ls.map V.ref).length : Nat) : Int))]) ntl
    refine ⟨p, tl, n, es, u, rfl, hw.mono (e06.trans eL), by rw [upd_same]; show some (HO.lst [V.int (Int.fmod (r1 : Int) (((ls.map V.ref).length : Nat) : Int))]) = _; rw [ee]; rfl, hlt, h28, F.one, hNTu, by omega, fun H8 o1 e8 h8 => ?_⟩
    refine ⟨_, rfl, _, rfl, sz (by simp), fun tl2 ntl2 => ?_⟩
    have eL2 := Ex.new (o := .lst [V.int (Int.fmod (r1 : Int) (((ls.map V.ref).length : Nat) : Int))]) ntl2
    have e18 := (e16.trans eL).trans e8
    refine ⟨r, tl2, _, _, u, rfl, hw'.mono (e18.trans eL2), by rw [upd_same]; show some (HO.lst [V.int (Int.fmod (r1 : Int) (((ls.map V.ref).length : Nat) : Int))]) = _; rw [ee]; rfl, by rw [le']; exact hlt, by rw [le']; exact h28, hone', by rw [le']; exact hNTu', by rw [NT']; omega, fun H9 o2 e9 h9 => ?_⟩
    rw [NT', le'] at h9
    have h89 := (eL2.trans e9) _ _ h8
    generalize hm : MT.NT n (ed es) es.length [] [] = m at *
    generalize ha : MT.NT n (ed es) es.length [u] [] = a at *
    generalize hb : MT.NT rs.length (ed (webE rs es.length)) es.length [u] [] = b' at *
    have ar := shares_sum hsum (by omega)
    have d1 := Nat.div_le_self a (Nat.gcd a m)
    have d2 := Nat.div_le_self m (Nat.gcd a m)
    have d3 := Nat.div_le_self b' (Nat.gcd b' m)
    have d4 := Nat.div_le_self m (Nat.gcd b' m)
    generalize a / Nat.gcd a m = a1 at *
    generalize m / Nat.gcd a m = m1 at *
    generalize b' / Nat.gcd b' m = b1 at *
    generalize m / Nat.gcd b' m = m2 at *
    refine ⟨_, rfl, o1, _, 0, _, rfl, rfl, st_of h89, rfl, _, rfl, o2, _, 1, _, rfl, rfl, st_of h9, rfl, _, _, rfl, rfl, .inl ⟨by omega, by omega⟩, ?_⟩
    refine ⟨_, rfl, o2, _, 0, _, rfl, rfl, st_of h9, rfl, _, rfl, o1, _, 1, _, rfl, rfl, st_of h89, rfl, _, _, rfl, rfl, .inl ⟨by omega, by omega⟩, _, _, rfl, rfl, ?_⟩
    refine ⟨_, rfl, o1, _, 1, _, rfl, rfl, st_of h89, rfl, _, rfl, o2, _, 1, _, rfl, rfl, st_of h9, rfl, _, _, rfl, rfl, .inl ⟨by omega, by omega⟩, rfl, _, rfl, neqF ?_ ?_⟩
    · show V.int ((a1 : Int) * (m2 : Int) + (b1 : Int) * (m1 : Int)) = V.int ((m1 : Int) * (m2 : Int))
      congr 1
      exact_mod_cast ar
    · exact ⟨_, _, _, _, _, _, rfl, e18.trans (eL2.trans e9)⟩
  · rintro σ' H' ⟨y5, y6, y7, y8, y9, y10, rfl, e⟩
    exact q H' (e1.trans e)
def spLaw (K : PySem.W.Frag) : Sp := fun vs H Q _ => ∃ (a : Addr) (ns : List Int), vs = [.ref a] ∧ SqL K H a (ns.map V.int) ∧ ns.length ≤ 63 ∧ ∀ H', Q (.bl true) H'
theorem d_law {lf : Addr} {lfd : FuncData} (FL : Fun K "law" "law" s_law lf lfd) (T : Txt K mg CW CS) : FnOk P w K mg base CX0 40 lf lfd ["script"] (spLaw K) := by
  have D_law_bundles : Def P w K mg base "_law_bundles" 2 ["cell"] spBundles := d_bundles T
  have D_law_made : Def P w K mg base "_law_made" 2 ["bundles", "cell"] spMade := d_made T
  have D_law_due : Def P w K mg base "_law_due" 1 ["bundles"] spDue := d_due T
  have D_tree_count : Def P w K mg base "tree_count" 3 ["web"] (spCount CW) := d_tree_count T
  have D_lies_flat : Def P w K mg base "lies_flat" 4 ["web", "turns"] (spFlat CW) := d_lies_flat T
  have D_rounds_of : Def P w K mg base "rounds_of" 3 ["web", "turns"] (spRounds CW) := d_rounds_of T
  have D_law_other_good : Def P w K mg base "_law_other_good" 39 ["web", "turns", "cell", "many"] (spGood CW) := d_good T
  have M_Web : IDef P w K mg base CW 1 ["self", "places", "ties"] (spWebInit CW) := d_webinit T
  refine FL.ok sc_law (fun vs H Q E h => ?_) (fun cdv A outer s H vs Q E hr h => ?_)
  · obtain ⟨a, _, rfl, _⟩ := h; rfl
  obtain ⟨sa, ns, rfl, hs, h63, q⟩ := h
  refine ⟨_, (pss_cons (ps_set (i := 1) sc_law.nd rfl (by first | exact Or.inl rfl | exact Or.inr rfl) (pe_op op_modN (pe_callB (cr_sum rfl) (by rfl) T.z_sum (by decide +kernel) (pa_cons (pv 0) pa_nil)) (pe_op op_pow pe_int pe_int)))
      (pss_cons (ps_set (i := 2) sc_law.nd rfl (by first | exact Or.inl rfl | exact Or.inr rfl) (pe_def D_law_bundles hr (by omega) (by rfl) (pa_cons (pv 1) pa_nil)))
      (pss_cons (ps_asg (pe_def D_law_made hr (by omega) (by rfl) (pa_cons (pv 2) (pa_cons (pv 1) pa_nil))) (pg_tup rfl (pgs_cons (pg_name (i := 3) sc_law.nd rfl (by first | exact Or.inl rfl | exact Or.inr rfl)) (pgs_cons (pg_name (i := 4) sc_law.nd rfl (by first | exact Or.inl rfl | exact Or.inr rfl)) pgs_nil))))
      (pss_cons (ps_set (i := 5) sc_law.nd rfl (by first | exact Or.inl rfl | exact Or.inr rfl) (pe_mk M_Web hr (by omega) (by rfl) T.mW (pa_cons (pe_callB (X := _) (r := rLenS K) len_seqK (by rfl) T.z_len PySem.boot_len (pa_cons (pv 2) pa_nil)) (pa_cons (pv 3) pa_nil))))
      (pss_cons (ps_set (i := 6) sc_law.nd rfl (by first | exact Or.inl rfl | exact Or.inr rfl) (pe_def D_tree_count hr (by omega) (by rfl) (pa_cons (pv 5) pa_nil)))
      (pss_cons (ps_if (PW.pt (pw_or (pt_cmpR op_ne (pv 6) (pe_def D_law_due hr (by omega) (by rfl) (pa_cons (pv 2) pa_nil)) (nomark _)) (pw_or1 (pt_cmpR op_notBl (pe_def D_lies_flat hr (by omega) (by rfl) (pa_cons (pv 5) (pa_cons (pv 4) pa_nil))) pe_bl (nomark _))))) (pss_one (ps_ret pe_bl)) pss_nil)
      (pss_cons (ps_set (i := 7) sc_law.nd rfl (by first | exact Or.inl rfl | exact Or.inr rfl) (pe_def D_rounds_of hr (by omega) (by rfl) (pa_cons (pv 5) (pa_cons (pv 4) pa_nil))))
      (pss_cons (ps_if (pt_cmpR op_ne (pe_callB (X := _) (r := rLenS K) len_seqK (by rfl) T.z_len PySem.boot_len (pa_cons (pv 7) pa_nil)) (pe_op op_add (pe_op op_sub (pe_callB (X := _) (r := rLenS K) len_seqK (by rfl) T.z_len PySem.boot_len (pa_cons (pv 3) pa_nil)) (pe_callB (X := _) (r := rLenS K) len_seqK (by rfl) T.z_len PySem.boot_len (pa_cons (pv 2) pa_nil))) pe_int) (nomark _)) (pss_one (ps_ret pe_bl)) pss_nil)
      (pss_one (ps_ret (pe_or (pe_cmpR op_gt (pe_callB (X := _) (r := rLenS K) len_seqK (by rfl) T.z_len PySem.boot_len (pa_cons (pv 7) pa_nil)) pe_int (nomark _)) (pe_one (pe_def D_law_other_good hr (by omega) (by rfl) (pa_cons (pv 5) (pa_cons (pv 4) (pa_cons (pv 1) (pa_cons (pv 6) pa_nil))))))))))))))))), ?_⟩
  refine ⟨_, rfl, sa, ns, rfl, hs, _, _, rfl, rfl, ⟨by decide, by decide, by decide⟩, _, _, rfl, rfl, (show (10 : Int) ^ (60 : Int).toNat ≠ 0 by decide +kernel), ?_⟩
  show gName 1 (V.int (Int.fmod ns.sum ((10 : Int) ^ (60 : Int).toNat))) _ _ _
  generalize Int.fmod ns.sum ((10 : Int) ^ (60 : Int).toNat) = c
  refine ⟨_, rfl, c, rfl, fun H1 bl n b e1 hb B => ?_⟩
  refine ⟨_, rfl, _, rfl, bl, c, n, b, rfl, hb, B, fun H2 r ta tu fl e2 hr2 R hPL hNL => ?_⟩
  refine ⟨r, _, rfl, st_of hr2, rfl, _, _, rfl, _, _, rfl, rfl, ?_⟩
  have n3 := B.n3
  have n7 := B.n7
  obtain ⟨s1, s2, s3⟩ := R.small n7
  have F := fl_of_rb R n7
  have RR := ring_of_rb R
  have inn := inn_of_rb R
  have le := rings_len n b.flatten.length b fl
  generalize hE : b.flatten.length = E' at *
  generalize hes : rings n E' b fl = es at *
  obtain ⟨bs, b1, b2, b3⟩ := hb
  have lb : (bs.map V.ref).length = n := by rw [List.length_map, b2, B.bl]
  have b1' := e2 _ _ b1
  refine ⟨_, rfl, bl, _, rfl, .inl (sq_of b1'), _, rfl, ?_⟩
  intro x dx nx ndx nxd
  have eI : Ex H2 (upd (upd H2 dx (.own x)) x (.ins CW dx [])) := (Ex.new ndx).trans (Ex.new (by rw [upd_ne nxd.symm]; exact nx))
  refine ⟨x, dx, ta, n, es, by rw [lb]; rfl, upd_same, hPL.mono eI, by omega, by omega, by omega, inn, fun H3 l' eb h3 hP => ⟨rfl, ?_⟩⟩
  have e3 := ex_made nx ndx eb
  have hw : WebAt CW H3 x n es := ⟨dx, l', h3, hP, by omega, by omega, by omega, inn⟩
  have he := ed_in inn
  have hcount : MT.tau n id es = MT.elN (b.map List.length) := by
    rw [tau_es inn, ← MT.tau_all he]
    exact RR.count
  have h2 : 2 ≤ MT.elN (b.map List.length) := by
    have := elN_len (l := b.map List.length) fun y hy => by
      obtain ⟨l, hl, rfl⟩ := List.mem_map.mp hy
      exact (B.size l hl).1
    rw [List.length_map, B.bl] at this
    omega
  refine ⟨_, rfl, x, n, es, rfl, hw, by omega, by omega, fun H4 e4 => ?_⟩
  rw [hcount]
  have e14 := (e2.trans e3).trans e4
  refine ⟨_, rfl, _, rfl, bl, n, b, rfl, ⟨bs, e14 _ _ b1, b2, fun i a rr ha hr' => e14 _ _ (b3 i a rr ha hr')⟩, B, rfl, _, rfl, neqF rfl ?_⟩
  have e24 := e3.trans e4
  refine ⟨_, rfl, _, rfl, x, tu, n, es, MT.trows n b fl, MT.nx n b fl, MT.lab b fl, rfl, hw.mono e4, hNL.mono e24, F, fun H5 e5 => ⟨true, true, rfl, rfl, _, rfl, iteF ?_⟩⟩
  have e25 := e24.trans e5
  refine ⟨_, rfl, _, rfl, x, tu, n, es, MT.trows n b fl, MT.nx n b fl, MT.lab b fl, rfl, hw.mono (e4.trans e5), hNL.mono e25, F, fun H6 rr rs e6 hrs hS h56 => ?_⟩
  have e26 := e25.trans e6
  obtain ⟨rps, r1, r2, r3⟩ := hrs
  obtain ⟨tps, t1, t2, t3⟩ := hPL.mono e26
  have hnum := F.num rs hS
  refine ⟨_, rfl, rr, _, rfl, .inl (sq_of r1), _, rfl, ta, _, rfl, .inl (sq_of t1), _, rfl, bl, _, rfl, .inl (sq_of ((e2.trans e26) _ _ b1)), _, _, rfl, rfl, _, _, rfl, rfl, rfl, _, rfl, neqF ?_ ?_⟩
  · show V.int (((rps.map V.ref).length : Nat) : Int) = V.int ((((tps.map V.ref).length : Nat) : Int) - (((bs.map V.ref).length : Nat) : Int) + 2)
    rw [lb, List.length_map, List.length_map, r2, t2]
    congr 1
    omega
  refine ⟨_, rfl, rr, _, rfl, .inl (sq_of r1), _, _, rfl, rfl, _, rfl, ?_⟩
  by_cases hq : (14 : Int) < (((rps.map V.ref).length : Nat) : Int)
  · refine ifT hq ?_
    exact q H6
  · refine ifF hq ?_
    have hfew : es.length + 2 ≤ n + 14 := by rw [List.length_map, r2] at hq; omega
    refine ⟨_, rfl, _, rfl, _, rfl, _, rfl, x, tu, c, n, es, MT.trows n b fl, MT.nx n b fl, MT.lab b fl, b, by rw [← tau_es inn, hcount]; rfl, hw.mono ((e4.trans e5).trans e6), hNL.mono e26, F, hfew, RR, fun rs' hS' => ?_, by rw [← tau_es inn, hcount]; exact h2, fun H7 e7 => q H7⟩
    rw [le] at hS' ⊢
    exact ⟨_, _, _, R.dual hS' fun t ht => webE_ed ht⟩
end
end Sr
namespace Sr
open PySem PySem.Spec PyProof.Rows L2 Evl
section
variable {K : PySem.W.Frag} {h : Heap} {mg : Str → Option Value} {C f : Addr} {od an : Option Addr} {sl : Array (Option Value)} {oc kV dc pm cd ct : Value}
theorem mk_webinit (m : PySem.W.makesIn K C = true) (a : PySem.W.findIn K (.ref C) "__init__" = some (some (.ref f))) (i : PySem.W.isFn K (.ref f) = true) (kc : PySem.W.keepIn K (.ref C) = true) (l : K.lookup f = some ⟨oc, od, .func (PySem.W.fnOf "__init__" "Web.__init__" (defArgs s_webinit) (defBody s_webinit) (defScope s_webinit) .none kV dc pm an cd ct), sl⟩) (c : PySem.W.codeIn K cd "Web.__init__" = true) (k : PySem.W.keepIn K (.ref f) = true) : IAt K C "Web.__init__" s_webinit ["self", "places", "ties"] :=
  ⟨f, _, ⟨m, a, i, kc⟩, fun_mk (st := s_webinit) l c k, (fun_mk (st := s_webinit) l c k).binds (ps := ["self", "places", "ties"]) fun _ _ _ _ _ _ us hl => match us, hl with | [_, _, _], _ => rfl⟩
theorem mk_made_set (X : K.In h) (G : h.Ns mainGlobals mg) (a : PySem.W.nsIn K mainGlobals "made_set" = some (some (.ref f))) (l : K.lookup f = some ⟨oc, od, .func (PySem.W.fnOf "made_set" "made_set" (defArgs s_made_set) (defBody s_made_set) (defScope s_made_set) .none kV dc pm an cd ct), sl⟩) (c : PySem.W.codeIn K cd "made_set" = true) (k : PySem.W.keepIn K (.ref f) = true) : At K mg "made_set" s_made_set ["web", "ties"] :=
  ⟨f, _, PySem.W.mg_of X G a, fun_mk (st := s_made_set) l c k, (fun_mk (st := s_made_set) l c k).binds (ps := ["web", "ties"]) fun _ _ _ _ _ _ us hl => match us, hl with | [_, _], _ => rfl⟩
theorem mk_marks_over (X : K.In h) (G : h.Ns mainGlobals mg) (a : PySem.W.nsIn K mainGlobals "marks_over" = some (some (.ref f))) (l : K.lookup f = some ⟨oc, od, .func (PySem.W.fnOf "marks_over" "marks_over" (defArgs s_marks_over) (defBody s_marks_over) (defScope s_marks_over) .none kV dc pm an cd ct), sl⟩) (c : PySem.W.codeIn K cd "marks_over" = true) (k : PySem.W.keepIn K (.ref f) = true) : At K mg "marks_over" s_marks_over ["web", "ties"] :=
  ⟨f, _, PySem.W.mg_of X G a, fun_mk (st := s_marks_over) l c k, (fun_mk (st := s_marks_over) l c k).binds (ps := ["web", "ties"]) fun _ _ _ _ _ _ us hl => match us, hl with | [_, _], _ => rfl⟩
theorem mk_pieces_of (X : K.In h) (G : h.Ns mainGlobals mg) (a : PySem.W.nsIn K mainGlobals "pieces_of" = some (some (.ref f))) (l : K.lookup f = some ⟨oc, od, .func (PySem.W.fnOf "pieces_of" "pieces_of" (defArgs s_pieces_of) (defBody s_pieces_of) (defScope s_pieces_of) .none kV dc pm an cd ct), sl⟩) (c : PySem.W.codeIn K cd "pieces_of" = true) (k : PySem.W.keepIn K (.ref f) = true) : At K mg "pieces_of" s_pieces_of ["web", "ties"] :=
  ⟨f, _, PySem.W.mg_of X G a, fun_mk (st := s_pieces_of) l c k, (fun_mk (st := s_pieces_of) l c k).binds (ps := ["web", "ties"]) fun _ _ _ _ _ _ us hl => match us, hl with | [_, _], _ => rfl⟩
theorem mk_is_joined (X : K.In h) (G : h.Ns mainGlobals mg) (a : PySem.W.nsIn K mainGlobals "is_joined" = some (some (.ref f))) (l : K.lookup f = some ⟨oc, od, .func (PySem.W.fnOf "is_joined" "is_joined" (defArgs s_is_joined) (defBody s_is_joined) (defScope s_is_joined) .none kV dc pm an cd ct), sl⟩) (c : PySem.W.codeIn K cd "is_joined" = true) (k : PySem.W.keepIn K (.ref f) = true) : At K mg "is_joined" s_is_joined ["web", "ties"] :=
  ⟨f, _, PySem.W.mg_of X G a, fun_mk (st := s_is_joined) l c k, (fun_mk (st := s_is_joined) l c k).binds (ps := ["web", "ties"]) fun _ _ _ _ _ _ us hl => match us, hl with | [_, _], _ => rfl⟩
theorem mk_is_tree (X : K.In h) (G : h.Ns mainGlobals mg) (a : PySem.W.nsIn K mainGlobals "is_tree" = some (some (.ref f))) (l : K.lookup f = some ⟨oc, od, .func (PySem.W.fnOf "is_tree" "is_tree" (defArgs s_is_tree) (defBody s_is_tree) (defScope s_is_tree) .none kV dc pm an cd ct), sl⟩) (c : PySem.W.codeIn K cd "is_tree" = true) (k : PySem.W.keepIn K (.ref f) = true) : At K mg "is_tree" s_is_tree ["web", "ties"] :=
  ⟨f, _, PySem.W.mg_of X G a, fun_mk (st := s_is_tree) l c k, (fun_mk (st := s_is_tree) l c k).binds (ps := ["web", "ties"]) fun _ _ _ _ _ _ us hl => match us, hl with | [_, _], _ => rfl⟩
theorem mk_look_at_tree (X : K.In h) (G : h.Ns mainGlobals mg) (a : PySem.W.nsIn K mainGlobals "look_at_tree" = some (some (.ref f))) (l : K.lookup f = some ⟨oc, od, .func (PySem.W.fnOf "look_at_tree" "look_at_tree" (defArgs s_look_at_tree) (defBody s_look_at_tree) (defScope s_look_at_tree) .none kV dc pm an cd ct), sl⟩) (c : PySem.W.codeIn K cd "look_at_tree" = true) (k : PySem.W.keepIn K (.ref f) = true) : At K mg "look_at_tree" s_look_at_tree ["web", "tree"] :=
  ⟨f, _, PySem.W.mg_of X G a, fun_mk (st := s_look_at_tree) l c k, (fun_mk (st := s_look_at_tree) l c k).binds (ps := ["web", "tree"]) fun _ _ _ _ _ _ us hl => match us, hl with | [_, _], _ => rfl⟩
theorem mk_grown (X : K.In h) (G : h.Ns mainGlobals mg) (a : PySem.W.nsIn K mainGlobals "grown" = some (some (.ref f))) (l : K.lookup f = some ⟨oc, od, .func (PySem.W.fnOf "grown" "grown" (defArgs s_grown) (defBody s_grown) (defScope s_grown) .none kV dc pm an cd ct), sl⟩) (c : PySem.W.codeIn K cd "grown" = true) (k : PySem.W.keepIn K (.ref f) = true) : At K mg "grown" s_grown ["web", "kept", "order"] :=
  ⟨f, _, PySem.W.mg_of X G a, fun_mk (st := s_grown) l c k, (fun_mk (st := s_grown) l c k).binds (ps := ["web", "kept", "order"]) fun _ _ _ _ _ _ us hl => match us, hl with | [_, _, _], _ => rfl⟩
theorem mk_least_tree (X : K.In h) (G : h.Ns mainGlobals mg) (a : PySem.W.nsIn K mainGlobals "least_tree" = some (some (.ref f))) (l : K.lookup f = some ⟨oc, od, .func (PySem.W.fnOf "least_tree" "least_tree" (defArgs s_least_tree) (defBody s_least_tree) (defScope s_least_tree) .none kV dc pm an cd ct), sl⟩) (c : PySem.W.codeIn K cd "least_tree" = true) (k : PySem.W.keepIn K (.ref f) = true) : At K mg "least_tree" s_least_tree ["web"] :=
  ⟨f, _, PySem.W.mg_of X G a, fun_mk (st := s_least_tree) l c k, (fun_mk (st := s_least_tree) l c k).binds (ps := ["web"]) fun _ _ _ _ _ _ us hl => match us, hl with | [_], _ => rfl⟩
theorem mk_without_tie (X : K.In h) (G : h.Ns mainGlobals mg) (a : PySem.W.nsIn K mainGlobals "without_tie" = some (some (.ref f))) (l : K.lookup f = some ⟨oc, od, .func (PySem.W.fnOf "without_tie" "without_tie" (defArgs s_without_tie) (defBody s_without_tie) (defScope s_without_tie) .none kV dc pm an cd ct), sl⟩) (c : PySem.W.codeIn K cd "without_tie" = true) (k : PySem.W.keepIn K (.ref f) = true) : At K mg "without_tie" s_without_tie ["ties", "tie"] :=
  ⟨f, _, PySem.W.mg_of X G a, fun_mk (st := s_without_tie) l c k, (fun_mk (st := s_without_tie) l c k).binds (ps := ["ties", "tie"]) fun _ _ _ _ _ _ us hl => match us, hl with | [_, _], _ => rfl⟩
theorem mk_ring_of (X : K.In h) (G : h.Ns mainGlobals mg) (a : PySem.W.nsIn K mainGlobals "ring_of" = some (some (.ref f))) (l : K.lookup f = some ⟨oc, od, .func (PySem.W.fnOf "ring_of" "ring_of" (defArgs s_ring_of) (defBody s_ring_of) (defScope s_ring_of) .none kV dc pm an cd ct), sl⟩) (c : PySem.W.codeIn K cd "ring_of" = true) (k : PySem.W.keepIn K (.ref f) = true) : At K mg "ring_of" s_ring_of ["web", "tree", "tie"] :=
  ⟨f, _, PySem.W.mg_of X G a, fun_mk (st := s_ring_of) l c k, (fun_mk (st := s_ring_of) l c k).binds (ps := ["web", "tree", "tie"]) fun _ _ _ _ _ _ us hl => match us, hl with | [_, _, _], _ => rfl⟩
theorem mk_place_from (X : K.In h) (G : h.Ns mainGlobals mg) (a : PySem.W.nsIn K mainGlobals "place_from" = some (some (.ref f))) (l : K.lookup f = some ⟨oc, od, .func (PySem.W.fnOf "place_from" "place_from" (defArgs s_place_from) (defBody s_place_from) (defScope s_place_from) .none kV dc pm an cd ct), sl⟩) (c : PySem.W.codeIn K cd "place_from" = true) (k : PySem.W.keepIn K (.ref f) = true) : At K mg "place_from" s_place_from ["web", "dart"] :=
  ⟨f, _, PySem.W.mg_of X G a, fun_mk (st := s_place_from) l c k, (fun_mk (st := s_place_from) l c k).binds (ps := ["web", "dart"]) fun _ _ _ _ _ _ us hl => match us, hl with | [_, _], _ => rfl⟩
theorem mk_look_at_turns (X : K.In h) (G : h.Ns mainGlobals mg) (a : PySem.W.nsIn K mainGlobals "look_at_turns" = some (some (.ref f))) (l : K.lookup f = some ⟨oc, od, .func (PySem.W.fnOf "look_at_turns" "look_at_turns" (defArgs s_look_at_turns) (defBody s_look_at_turns) (defScope s_look_at_turns) .none kV dc pm an cd ct), sl⟩) (c : PySem.W.codeIn K cd "look_at_turns" = true) (k : PySem.W.keepIn K (.ref f) = true) : At K mg "look_at_turns" s_look_at_turns ["web", "turns"] :=
  ⟨f, _, PySem.W.mg_of X G a, fun_mk (st := s_look_at_turns) l c k, (fun_mk (st := s_look_at_turns) l c k).binds (ps := ["web", "turns"]) fun _ _ _ _ _ _ us hl => match us, hl with | [_, _], _ => rfl⟩
theorem mk_darts_behind (X : K.In h) (G : h.Ns mainGlobals mg) (a : PySem.W.nsIn K mainGlobals "darts_behind" = some (some (.ref f))) (l : K.lookup f = some ⟨oc, od, .func (PySem.W.fnOf "darts_behind" "darts_behind" (defArgs s_darts_behind) (defBody s_darts_behind) (defScope s_darts_behind) .none kV dc pm an cd ct), sl⟩) (c : PySem.W.codeIn K cd "darts_behind" = true) (k : PySem.W.keepIn K (.ref f) = true) : At K mg "darts_behind" s_darts_behind ["turns"] :=
  ⟨f, _, PySem.W.mg_of X G a, fun_mk (st := s_darts_behind) l c k, (fun_mk (st := s_darts_behind) l c k).binds (ps := ["turns"]) fun _ _ _ _ _ _ us hl => match us, hl with | [_], _ => rfl⟩
theorem mk_rounds_of (X : K.In h) (G : h.Ns mainGlobals mg) (a : PySem.W.nsIn K mainGlobals "rounds_of" = some (some (.ref f))) (l : K.lookup f = some ⟨oc, od, .func (PySem.W.fnOf "rounds_of" "rounds_of" (defArgs s_rounds_of) (defBody s_rounds_of) (defScope s_rounds_of) .none kV dc pm an cd ct), sl⟩) (c : PySem.W.codeIn K cd "rounds_of" = true) (k : PySem.W.keepIn K (.ref f) = true) : At K mg "rounds_of" s_rounds_of ["web", "turns"] :=
  ⟨f, _, PySem.W.mg_of X G a, fun_mk (st := s_rounds_of) l c k, (fun_mk (st := s_rounds_of) l c k).binds (ps := ["web", "turns"]) fun _ _ _ _ _ _ us hl => match us, hl with | [_, _], _ => rfl⟩
theorem mk_lies_flat (X : K.In h) (G : h.Ns mainGlobals mg) (a : PySem.W.nsIn K mainGlobals "lies_flat" = some (some (.ref f))) (l : K.lookup f = some ⟨oc, od, .func (PySem.W.fnOf "lies_flat" "lies_flat" (defArgs s_lies_flat) (defBody s_lies_flat) (defScope s_lies_flat) .none kV dc pm an cd ct), sl⟩) (c : PySem.W.codeIn K cd "lies_flat" = true) (k : PySem.W.keepIn K (.ref f) = true) : At K mg "lies_flat" s_lies_flat ["web", "turns"] :=
  ⟨f, _, PySem.W.mg_of X G a, fun_mk (st := s_lies_flat) l c k, (fun_mk (st := s_lies_flat) l c k).binds (ps := ["web", "turns"]) fun _ _ _ _ _ _ us hl => match us, hl with | [_, _], _ => rfl⟩
theorem mk_other_web (X : K.In h) (G : h.Ns mainGlobals mg) (a : PySem.W.nsIn K mainGlobals "other_web" = some (some (.ref f))) (l : K.lookup f = some ⟨oc, od, .func (PySem.W.fnOf "other_web" "other_web" (defArgs s_other_web) (defBody s_other_web) (defScope s_other_web) .none kV dc pm an cd ct), sl⟩) (c : PySem.W.codeIn K cd "other_web" = true) (k : PySem.W.keepIn K (.ref f) = true) : At K mg "other_web" s_other_web ["web", "turns"] :=
  ⟨f, _, PySem.W.mg_of X G a, fun_mk (st := s_other_web) l c k, (fun_mk (st := s_other_web) l c k).binds (ps := ["web", "turns"]) fun _ _ _ _ _ _ us hl => match us, hl with | [_, _], _ => rfl⟩
theorem mk_left_of (X : K.In h) (G : h.Ns mainGlobals mg) (a : PySem.W.nsIn K mainGlobals "left_of" = some (some (.ref f))) (l : K.lookup f = some ⟨oc, od, .func (PySem.W.fnOf "left_of" "left_of" (defArgs s_left_of) (defBody s_left_of) (defScope s_left_of) .none kV dc pm an cd ct), sl⟩) (c : PySem.W.codeIn K cd "left_of" = true) (k : PySem.W.keepIn K (.ref f) = true) : At K mg "left_of" s_left_of ["web", "tree"] :=
  ⟨f, _, PySem.W.mg_of X G a, fun_mk (st := s_left_of) l c k, (fun_mk (st := s_left_of) l c k).binds (ps := ["web", "tree"]) fun _ _ _ _ _ _ us hl => match us, hl with | [_, _], _ => rfl⟩
theorem mk_look_at_table (X : K.In h) (G : h.Ns mainGlobals mg) (a : PySem.W.nsIn K mainGlobals "look_at_table" = some (some (.ref f))) (l : K.lookup f = some ⟨oc, od, .func (PySem.W.fnOf "look_at_table" "look_at_table" (defArgs s_look_at_table) (defBody s_look_at_table) (defScope s_look_at_table) .none kV dc pm an cd ct), sl⟩) (c : PySem.W.codeIn K cd "look_at_table" = true) (k : PySem.W.keepIn K (.ref f) = true) : At K mg "look_at_table" s_look_at_table ["table"] :=
  ⟨f, _, PySem.W.mg_of X G a, fun_mk (st := s_look_at_table) l c k, (fun_mk (st := s_look_at_table) l c k).binds (ps := ["table"]) fun _ _ _ _ _ _ us hl => match us, hl with | [_], _ => rfl⟩
theorem mk_first_row_with (X : K.In h) (G : h.Ns mainGlobals mg) (a : PySem.W.nsIn K mainGlobals "first_row_with" = some (some (.ref f))) (l : K.lookup f = some ⟨oc, od, .func (PySem.W.fnOf "first_row_with" "first_row_with" (defArgs s_first_row_with) (defBody s_first_row_with) (defScope s_first_row_with) .none kV dc pm an cd ct), sl⟩) (c : PySem.W.codeIn K cd "first_row_with" = true) (k : PySem.W.keepIn K (.ref f) = true) : At K mg "first_row_with" s_first_row_with ["rows", "at"] :=
  ⟨f, _, PySem.W.mg_of X G a, fun_mk (st := s_first_row_with) l c k, (fun_mk (st := s_first_row_with) l c k).binds (ps := ["rows", "at"]) fun _ _ _ _ _ _ us hl => match us, hl with | [_, _], _ => rfl⟩
theorem mk_cleared (X : K.In h) (G : h.Ns mainGlobals mg) (a : PySem.W.nsIn K mainGlobals "cleared" = some (some (.ref f))) (l : K.lookup f = some ⟨oc, od, .func (PySem.W.fnOf "cleared" "cleared" (defArgs s_cleared) (defBody s_cleared) (defScope s_cleared) .none kV dc pm an cd ct), sl⟩) (c : PySem.W.codeIn K cd "cleared" = true) (k : PySem.W.keepIn K (.ref f) = true) : At K mg "cleared" s_cleared ["rows", "at", "ahead"] :=
  ⟨f, _, PySem.W.mg_of X G a, fun_mk (st := s_cleared) l c k, (fun_mk (st := s_cleared) l c k).binds (ps := ["rows", "at", "ahead"]) fun _ _ _ _ _ _ us hl => match us, hl with | [_, _, _], _ => rfl⟩
theorem mk_determinant (X : K.In h) (G : h.Ns mainGlobals mg) (a : PySem.W.nsIn K mainGlobals "determinant" = some (some (.ref f))) (l : K.lookup f = some ⟨oc, od, .func (PySem.W.fnOf "determinant" "determinant" (defArgs s_determinant) (defBody s_determinant) (defScope s_determinant) .none kV dc pm an cd ct), sl⟩) (c : PySem.W.codeIn K cd "determinant" = true) (k : PySem.W.keepIn K (.ref f) = true) : At K mg "determinant" s_determinant ["table"] :=
  ⟨f, _, PySem.W.mg_of X G a, fun_mk (st := s_determinant) l c k, (fun_mk (st := s_determinant) l c k).binds (ps := ["table"]) fun _ _ _ _ _ _ us hl => match us, hl with | [_], _ => rfl⟩
theorem mk_pulls (X : K.In h) (G : h.Ns mainGlobals mg) (a : PySem.W.nsIn K mainGlobals "pulls" = some (some (.ref f))) (l : K.lookup f = some ⟨oc, od, .func (PySem.W.fnOf "pulls" "pulls" (defArgs s_pulls) (defBody s_pulls) (defScope s_pulls) .none kV dc pm an cd ct), sl⟩) (c : PySem.W.codeIn K cd "pulls" = true) (k : PySem.W.keepIn K (.ref f) = true) : At K mg "pulls" s_pulls ["count", "ties"] :=
  ⟨f, _, PySem.W.mg_of X G a, fun_mk (st := s_pulls) l c k, (fun_mk (st := s_pulls) l c k).binds (ps := ["count", "ties"]) fun _ _ _ _ _ _ us hl => match us, hl with | [_, _], _ => rfl⟩
theorem mk_without_last (X : K.In h) (G : h.Ns mainGlobals mg) (a : PySem.W.nsIn K mainGlobals "without_last" = some (some (.ref f))) (l : K.lookup f = some ⟨oc, od, .func (PySem.W.fnOf "without_last" "without_last" (defArgs s_without_last) (defBody s_without_last) (defScope s_without_last) .none kV dc pm an cd ct), sl⟩) (c : PySem.W.codeIn K cd "without_last" = true) (k : PySem.W.keepIn K (.ref f) = true) : At K mg "without_last" s_without_last ["table"] :=
  ⟨f, _, PySem.W.mg_of X G a, fun_mk (st := s_without_last) l c k, (fun_mk (st := s_without_last) l c k).binds (ps := ["table"]) fun _ _ _ _ _ _ us hl => match us, hl with | [_], _ => rfl⟩
theorem mk_pull_table (X : K.In h) (G : h.Ns mainGlobals mg) (a : PySem.W.nsIn K mainGlobals "pull_table" = some (some (.ref f))) (l : K.lookup f = some ⟨oc, od, .func (PySem.W.fnOf "pull_table" "pull_table" (defArgs s_pull_table) (defBody s_pull_table) (defScope s_pull_table) .none kV dc pm an cd ct), sl⟩) (c : PySem.W.codeIn K cd "pull_table" = true) (k : PySem.W.keepIn K (.ref f) = true) : At K mg "pull_table" s_pull_table ["web"] :=
  ⟨f, _, PySem.W.mg_of X G a, fun_mk (st := s_pull_table) l c k, (fun_mk (st := s_pull_table) l c k).binds (ps := ["web"]) fun _ _ _ _ _ _ us hl => match us, hl with | [_], _ => rfl⟩
theorem mk_tree_count (X : K.In h) (G : h.Ns mainGlobals mg) (a : PySem.W.nsIn K mainGlobals "tree_count" = some (some (.ref f))) (l : K.lookup f = some ⟨oc, od, .func (PySem.W.fnOf "tree_count" "tree_count" (defArgs s_tree_count) (defBody s_tree_count) (defScope s_tree_count) .none kV dc pm an cd ct), sl⟩) (c : PySem.W.codeIn K cd "tree_count" = true) (k : PySem.W.keepIn K (.ref f) = true) : At K mg "tree_count" s_tree_count ["web"] :=
  ⟨f, _, PySem.W.mg_of X G a, fun_mk (st := s_tree_count) l c k, (fun_mk (st := s_tree_count) l c k).binds (ps := ["web"]) fun _ _ _ _ _ _ us hl => match us, hl with | [_], _ => rfl⟩
theorem mk_count_with (X : K.In h) (G : h.Ns mainGlobals mg) (a : PySem.W.nsIn K mainGlobals "count_with" = some (some (.ref f))) (l : K.lookup f = some ⟨oc, od, .func (PySem.W.fnOf "count_with" "count_with" (defArgs s_count_with) (defBody s_count_with) (defScope s_count_with) .none kV dc pm an cd ct), sl⟩) (c : PySem.W.codeIn K cd "count_with" = true) (k : PySem.W.keepIn K (.ref f) = true) : At K mg "count_with" s_count_with ["web", "inside", "outside"] :=
  ⟨f, _, PySem.W.mg_of X G a, fun_mk (st := s_count_with) l c k, (fun_mk (st := s_count_with) l c k).binds (ps := ["web", "inside", "outside"]) fun _ _ _ _ _ _ us hl => match us, hl with | [_, _, _], _ => rfl⟩
theorem mk_strinit (m : PySem.W.makesIn K C = true) (a : PySem.W.findIn K (.ref C) "__init__" = some (some (.ref f))) (i : PySem.W.isFn K (.ref f) = true) (kc : PySem.W.keepIn K (.ref C) = true) (l : K.lookup f = some ⟨oc, od, .func (PySem.W.fnOf "__init__" "Stretch.__init__" (defArgs s_strinit) (defBody s_strinit) (defScope s_strinit) .none kV dc pm an cd ct), sl⟩) (c : PySem.W.codeIn K cd "Stretch.__init__" = true) (k : PySem.W.keepIn K (.ref f) = true) : IAt K C "Stretch.__init__" s_strinit ["self", "web", "kept", "shut", "base", "lead", "count"] :=
  ⟨f, _, ⟨m, a, i, kc⟩, fun_mk (st := s_strinit) l c k, (fun_mk (st := s_strinit) l c k).binds (ps := ["self", "web", "kept", "shut", "base", "lead", "count"]) fun _ _ _ _ _ _ us hl => match us, hl with | [_, _, _, _, _, _, _], _ => rfl⟩
theorem mk_st_piece_ends (a : PySem.W.findIn K (.ref C) "piece_ends" = some (some (.ref f))) (i : PySem.W.isFn K (.ref f) = true) (l : K.lookup f = some ⟨oc, od, .func (PySem.W.fnOf "piece_ends" "Stretch.piece_ends" (defArgs s_st_piece_ends) (defBody s_st_piece_ends) (defScope s_st_piece_ends) .none kV dc pm an cd ct), sl⟩) (c : PySem.W.codeIn K cd "Stretch.piece_ends" = true) (k : PySem.W.keepIn K (.ref f) = true) : MAt K C "piece_ends" "Stretch.piece_ends" s_st_piece_ends ["self"] :=
  ⟨f, _, ⟨a, i, k⟩, fun_mk (st := s_st_piece_ends) l c k, (fun_mk (st := s_st_piece_ends) l c k).binds (ps := ["self"]) fun _ _ _ _ _ _ us hl => match us, hl with | [_], _ => rfl⟩
theorem mk_st_loose_on_ring (a : PySem.W.findIn K (.ref C) "loose_on_ring" = some (some (.ref f))) (i : PySem.W.isFn K (.ref f) = true) (l : K.lookup f = some ⟨oc, od, .func (PySem.W.fnOf "loose_on_ring" "Stretch.loose_on_ring" (defArgs s_st_loose_on_ring) (defBody s_st_loose_on_ring) (defScope s_st_loose_on_ring) .none kV dc pm an cd ct), sl⟩) (c : PySem.W.codeIn K cd "Stretch.loose_on_ring" = true) (k : PySem.W.keepIn K (.ref f) = true) : MAt K C "loose_on_ring" "Stretch.loose_on_ring" s_st_loose_on_ring ["self"] :=
  ⟨f, _, ⟨a, i, k⟩, fun_mk (st := s_st_loose_on_ring) l c k, (fun_mk (st := s_st_loose_on_ring) l c k).binds (ps := ["self"]) fun _ _ _ _ _ _ us hl => match us, hl with | [_], _ => rfl⟩
theorem mk_st_next_lead (a : PySem.W.findIn K (.ref C) "next_lead" = some (some (.ref f))) (i : PySem.W.isFn K (.ref f) = true) (l : K.lookup f = some ⟨oc, od, .func (PySem.W.fnOf "next_lead" "Stretch.next_lead" (defArgs s_st_next_lead) (defBody s_st_next_lead) (defScope s_st_next_lead) .none kV dc pm an cd ct), sl⟩) (c : PySem.W.codeIn K cd "Stretch.next_lead" = true) (k : PySem.W.keepIn K (.ref f) = true) : MAt K C "next_lead" "Stretch.next_lead" s_st_next_lead ["self"] :=
  ⟨f, _, ⟨a, i, k⟩, fun_mk (st := s_st_next_lead) l c k, (fun_mk (st := s_st_next_lead) l c k).binds (ps := ["self"]) fun _ _ _ _ _ _ us hl => match us, hl with | [_], _ => rfl⟩
theorem mk_st_first_half (a : PySem.W.findIn K (.ref C) "first_half" = some (some (.ref f))) (i : PySem.W.isFn K (.ref f) = true) (l : K.lookup f = some ⟨oc, od, .func (PySem.W.fnOf "first_half" "Stretch.first_half" (defArgs s_st_first_half) (defBody s_st_first_half) (defScope s_st_first_half) .none kV dc pm an cd ct), sl⟩) (c : PySem.W.codeIn K cd "Stretch.first_half" = true) (k : PySem.W.keepIn K (.ref f) = true) : MAt K C "first_half" "Stretch.first_half" s_st_first_half ["self", "lead"] :=
  ⟨f, _, ⟨a, i, k⟩, fun_mk (st := s_st_first_half) l c k, (fun_mk (st := s_st_first_half) l c k).binds (ps := ["self", "lead"]) fun _ _ _ _ _ _ us hl => match us, hl with | [_, _], _ => rfl⟩
theorem mk_st_second_half (a : PySem.W.findIn K (.ref C) "second_half" = some (some (.ref f))) (i : PySem.W.isFn K (.ref f) = true) (l : K.lookup f = some ⟨oc, od, .func (PySem.W.fnOf "second_half" "Stretch.second_half" (defArgs s_st_second_half) (defBody s_st_second_half) (defScope s_st_second_half) .none kV dc pm an cd ct), sl⟩) (c : PySem.W.codeIn K cd "Stretch.second_half" = true) (k : PySem.W.keepIn K (.ref f) = true) : MAt K C "second_half" "Stretch.second_half" s_st_second_half ["self", "lead", "first"] :=
  ⟨f, _, ⟨a, i, k⟩, fun_mk (st := s_st_second_half) l c k, (fun_mk (st := s_st_second_half) l c k).binds (ps := ["self", "lead", "first"]) fun _ _ _ _ _ _ us hl => match us, hl with | [_, _, _], _ => rfl⟩
theorem mk_st_laid_out (a : PySem.W.findIn K (.ref C) "laid_out" = some (some (.ref f))) (i : PySem.W.isFn K (.ref f) = true) (l : K.lookup f = some ⟨oc, od, .func (PySem.W.fnOf "laid_out" "Stretch.laid_out" (defArgs s_st_laid_out) (defBody s_st_laid_out) (defScope s_st_laid_out) .none kV dc pm an cd ct), sl⟩) (c : PySem.W.codeIn K cd "Stretch.laid_out" = true) (k : PySem.W.keepIn K (.ref f) = true) : MAt K C "laid_out" "Stretch.laid_out" s_st_laid_out ["self"] :=
  ⟨f, _, ⟨a, i, k⟩, fun_mk (st := s_st_laid_out) l c k, (fun_mk (st := s_st_laid_out) l c k).binds (ps := ["self"]) fun _ _ _ _ _ _ us hl => match us, hl with | [_], _ => rfl⟩
theorem mk_st_between (a : PySem.W.findIn K (.ref C) "between" = some (some (.ref f))) (i : PySem.W.isFn K (.ref f) = true) (l : K.lookup f = some ⟨oc, od, .func (PySem.W.fnOf "between" "Stretch.between" (defArgs s_st_between) (defBody s_st_between) (defScope s_st_between) .none kV dc pm an cd ct), sl⟩) (c : PySem.W.codeIn K cd "Stretch.between" = true) (k : PySem.W.keepIn K (.ref f) = true) : MAt K C "between" "Stretch.between" s_st_between ["self", "low", "high"] :=
  ⟨f, _, ⟨a, i, k⟩, fun_mk (st := s_st_between) l c k, (fun_mk (st := s_st_between) l c k).binds (ps := ["self", "low", "high"]) fun _ _ _ _ _ _ us hl => match us, hl with | [_, _, _], _ => rfl⟩
theorem mk_swapped (X : K.In h) (G : h.Ns mainGlobals mg) (a : PySem.W.nsIn K mainGlobals "swapped" = some (some (.ref f))) (l : K.lookup f = some ⟨oc, od, .func (PySem.W.fnOf "swapped" "swapped" (defArgs s_swapped) (defBody s_swapped) (defScope s_swapped) .none kV dc pm an cd ct), sl⟩) (c : PySem.W.codeIn K cd "swapped" = true) (k : PySem.W.keepIn K (.ref f) = true) : At K mg "swapped" s_swapped ["tree", "out", "into"] :=
  ⟨f, _, PySem.W.mg_of X G a, fun_mk (st := s_swapped) l c k, (fun_mk (st := s_swapped) l c k).binds (ps := ["tree", "out", "into"]) fun _ _ _ _ _ _ us hl => match us, hl with | [_, _, _], _ => rfl⟩
theorem mk_least_open (X : K.In h) (G : h.Ns mainGlobals mg) (a : PySem.W.nsIn K mainGlobals "least_open" = some (some (.ref f))) (l : K.lookup f = some ⟨oc, od, .func (PySem.W.fnOf "least_open" "least_open" (defArgs s_least_open) (defBody s_least_open) (defScope s_least_open) .none kV dc pm an cd ct), sl⟩) (c : PySem.W.codeIn K cd "least_open" = true) (k : PySem.W.keepIn K (.ref f) = true) : At K mg "least_open" s_least_open ["web", "base"] :=
  ⟨f, _, PySem.W.mg_of X G a, fun_mk (st := s_least_open) l c k, (fun_mk (st := s_least_open) l c k).binds (ps := ["web", "base"]) fun _ _ _ _ _ _ us hl => match us, hl with | [_, _], _ => rfl⟩
theorem mk_whole_row (X : K.In h) (G : h.Ns mainGlobals mg) (a : PySem.W.nsIn K mainGlobals "whole_row" = some (some (.ref f))) (l : K.lookup f = some ⟨oc, od, .func (PySem.W.fnOf "whole_row" "whole_row" (defArgs s_whole_row) (defBody s_whole_row) (defScope s_whole_row) .none kV dc pm an cd ct), sl⟩) (c : PySem.W.codeIn K cd "whole_row" = true) (k : PySem.W.keepIn K (.ref f) = true) : At K mg "whole_row" s_whole_row ["web"] :=
  ⟨f, _, PySem.W.mg_of X G a, fun_mk (st := s_whole_row) l c k, (fun_mk (st := s_whole_row) l c k).binds (ps := ["web"]) fun _ _ _ _ _ _ us hl => match us, hl with | [_], _ => rfl⟩
theorem mk_row_at (X : K.In h) (G : h.Ns mainGlobals mg) (a : PySem.W.nsIn K mainGlobals "row_at" = some (some (.ref f))) (l : K.lookup f = some ⟨oc, od, .func (PySem.W.fnOf "row_at" "row_at" (defArgs s_row_at) (defBody s_row_at) (defScope s_row_at) .none kV dc pm an cd ct), sl⟩) (c : PySem.W.codeIn K cd "row_at" = true) (k : PySem.W.keepIn K (.ref f) = true) : At K mg "row_at" s_row_at ["web", "number"] :=
  ⟨f, _, PySem.W.mg_of X G a, fun_mk (st := s_row_at) l c k, (fun_mk (st := s_row_at) l c k).binds (ps := ["web", "number"]) fun _ _ _ _ _ _ us hl => match us, hl with | [_, _], _ => rfl⟩
theorem mk_row_from (X : K.In h) (G : h.Ns mainGlobals mg) (a : PySem.W.nsIn K mainGlobals "row_from" = some (some (.ref f))) (l : K.lookup f = some ⟨oc, od, .func (PySem.W.fnOf "row_from" "row_from" (defArgs s_row_from) (defBody s_row_from) (defScope s_row_from) .none kV dc pm an cd ct), sl⟩) (c : PySem.W.codeIn K cd "row_from" = true) (k : PySem.W.keepIn K (.ref f) = true) : At K mg "row_from" s_row_from ["web", "number", "most"] :=
  ⟨f, _, PySem.W.mg_of X G a, fun_mk (st := s_row_from) l c k, (fun_mk (st := s_row_from) l c k).binds (ps := ["web", "number", "most"]) fun _ _ _ _ _ _ us hl => match us, hl with | [_, _, _], _ => rfl⟩
theorem mk_common_measure (X : K.In h) (G : h.Ns mainGlobals mg) (a : PySem.W.nsIn K mainGlobals "common_measure" = some (some (.ref f))) (l : K.lookup f = some ⟨oc, od, .func (PySem.W.fnOf "common_measure" "common_measure" (defArgs s_common_measure) (defBody s_common_measure) (defScope s_common_measure) .none kV dc pm an cd ct), sl⟩) (c : PySem.W.codeIn K cd "common_measure" = true) (k : PySem.W.keepIn K (.ref f) = true) : At K mg "common_measure" s_common_measure ["one", "other"] :=
  ⟨f, _, PySem.W.mg_of X G a, fun_mk (st := s_common_measure) l c k, (fun_mk (st := s_common_measure) l c k).binds (ps := ["one", "other"]) fun _ _ _ _ _ _ us hl => match us, hl with | [_, _], _ => rfl⟩
theorem mk_lowest (X : K.In h) (G : h.Ns mainGlobals mg) (a : PySem.W.nsIn K mainGlobals "lowest" = some (some (.ref f))) (l : K.lookup f = some ⟨oc, od, .func (PySem.W.fnOf "lowest" "lowest" (defArgs s_lowest) (defBody s_lowest) (defScope s_lowest) .none kV dc pm an cd ct), sl⟩) (c : PySem.W.codeIn K cd "lowest" = true) (k : PySem.W.keepIn K (.ref f) = true) : At K mg "lowest" s_lowest ["top", "bottom"] :=
  ⟨f, _, PySem.W.mg_of X G a, fun_mk (st := s_lowest) l c k, (fun_mk (st := s_lowest) l c k).binds (ps := ["top", "bottom"]) fun _ _ _ _ _ _ us hl => match us, hl with | [_, _], _ => rfl⟩
theorem mk_look_for_parts (X : K.In h) (G : h.Ns mainGlobals mg) (a : PySem.W.nsIn K mainGlobals "look_for_parts" = some (some (.ref f))) (l : K.lookup f = some ⟨oc, od, .func (PySem.W.fnOf "look_for_parts" "look_for_parts" (defArgs s_look_for_parts) (defBody s_look_for_parts) (defScope s_look_for_parts) .none kV dc pm an cd ct), sl⟩) (c : PySem.W.codeIn K cd "look_for_parts" = true) (k : PySem.W.keepIn K (.ref f) = true) : At K mg "look_for_parts" s_look_for_parts ["web"] :=
  ⟨f, _, PySem.W.mg_of X G a, fun_mk (st := s_look_for_parts) l c k, (fun_mk (st := s_look_for_parts) l c k).binds (ps := ["web"]) fun _ _ _ _ _ _ us hl => match us, hl with | [_], _ => rfl⟩
theorem mk_share_of (X : K.In h) (G : h.Ns mainGlobals mg) (a : PySem.W.nsIn K mainGlobals "share_of" = some (some (.ref f))) (l : K.lookup f = some ⟨oc, od, .func (PySem.W.fnOf "share_of" "share_of" (defArgs s_share_of) (defBody s_share_of) (defScope s_share_of) .none kV dc pm an cd ct), sl⟩) (c : PySem.W.codeIn K cd "share_of" = true) (k : PySem.W.keepIn K (.ref f) = true) : At K mg "share_of" s_share_of ["web", "ties"] :=
  ⟨f, _, PySem.W.mg_of X G a, fun_mk (st := s_share_of) l c k, (fun_mk (st := s_share_of) l c k).binds (ps := ["web", "ties"]) fun _ _ _ _ _ _ us hl => match us, hl with | [_, _], _ => rfl⟩
theorem mk_law_mixed (X : K.In h) (G : h.Ns mainGlobals mg) (a : PySem.W.nsIn K mainGlobals "_law_mixed" = some (some (.ref f))) (l : K.lookup f = some ⟨oc, od, .func (PySem.W.fnOf "_law_mixed" "_law_mixed" (defArgs s_law_mixed) (defBody s_law_mixed) (defScope s_law_mixed) .none kV dc pm an cd ct), sl⟩) (c : PySem.W.codeIn K cd "_law_mixed" = true) (k : PySem.W.keepIn K (.ref f) = true) : At K mg "_law_mixed" s_law_mixed ["cell", "k"] :=
  ⟨f, _, PySem.W.mg_of X G a, fun_mk (st := s_law_mixed) l c k, (fun_mk (st := s_law_mixed) l c k).binds (ps := ["cell", "k"]) fun _ _ _ _ _ _ us hl => match us, hl with | [_, _], _ => rfl⟩
theorem mk_law_bundles (X : K.In h) (G : h.Ns mainGlobals mg) (a : PySem.W.nsIn K mainGlobals "_law_bundles" = some (some (.ref f))) (l : K.lookup f = some ⟨oc, od, .func (PySem.W.fnOf "_law_bundles" "_law_bundles" (defArgs s_law_bundles) (defBody s_law_bundles) (defScope s_law_bundles) .none kV dc pm an cd ct), sl⟩) (c : PySem.W.codeIn K cd "_law_bundles" = true) (k : PySem.W.keepIn K (.ref f) = true) : At K mg "_law_bundles" s_law_bundles ["cell"] :=
  ⟨f, _, PySem.W.mg_of X G a, fun_mk (st := s_law_bundles) l c k, (fun_mk (st := s_law_bundles) l c k).binds (ps := ["cell"]) fun _ _ _ _ _ _ us hl => match us, hl with | [_], _ => rfl⟩
theorem mk_law_made (X : K.In h) (G : h.Ns mainGlobals mg) (a : PySem.W.nsIn K mainGlobals "_law_made" = some (some (.ref f))) (l : K.lookup f = some ⟨oc, od, .func (PySem.W.fnOf "_law_made" "_law_made" (defArgs s_law_made) (defBody s_law_made) (defScope s_law_made) .none kV dc pm an cd ct), sl⟩) (c : PySem.W.codeIn K cd "_law_made" = true) (k : PySem.W.keepIn K (.ref f) = true) : At K mg "_law_made" s_law_made ["bundles", "cell"] :=
  ⟨f, _, PySem.W.mg_of X G a, fun_mk (st := s_law_made) l c k, (fun_mk (st := s_law_made) l c k).binds (ps := ["bundles", "cell"]) fun _ _ _ _ _ _ us hl => match us, hl with | [_, _], _ => rfl⟩
theorem mk_law_due (X : K.In h) (G : h.Ns mainGlobals mg) (a : PySem.W.nsIn K mainGlobals "_law_due" = some (some (.ref f))) (l : K.lookup f = some ⟨oc, od, .func (PySem.W.fnOf "_law_due" "_law_due" (defArgs s_law_due) (defBody s_law_due) (defScope s_law_due) .none kV dc pm an cd ct), sl⟩) (c : PySem.W.codeIn K cd "_law_due" = true) (k : PySem.W.keepIn K (.ref f) = true) : At K mg "_law_due" s_law_due ["bundles"] :=
  ⟨f, _, PySem.W.mg_of X G a, fun_mk (st := s_law_due) l c k, (fun_mk (st := s_law_due) l c k).binds (ps := ["bundles"]) fun _ _ _ _ _ _ us hl => match us, hl with | [_], _ => rfl⟩
theorem mk_law_other_good (X : K.In h) (G : h.Ns mainGlobals mg) (a : PySem.W.nsIn K mainGlobals "_law_other_good" = some (some (.ref f))) (l : K.lookup f = some ⟨oc, od, .func (PySem.W.fnOf "_law_other_good" "_law_other_good" (defArgs s_law_other_good) (defBody s_law_other_good) (defScope s_law_other_good) .none kV dc pm an cd ct), sl⟩) (c : PySem.W.codeIn K cd "_law_other_good" = true) (k : PySem.W.keepIn K (.ref f) = true) : At K mg "_law_other_good" s_law_other_good ["web", "turns", "cell", "many"] :=
  ⟨f, _, PySem.W.mg_of X G a, fun_mk (st := s_law_other_good) l c k, (fun_mk (st := s_law_other_good) l c k).binds (ps := ["web", "turns", "cell", "many"]) fun _ _ _ _ _ _ us hl => match us, hl with | [_, _, _, _], _ => rfl⟩
end
theorem all_mk {l : PySem.W.OpenLaw} {w : World} {K : PySem.W.Frag} {h : Heap} {mg : Str → Option Value} {fa CW CS f : Addr} {tP tT : Nat} (X : K.In h) (G : h.Ns mainGlobals mg) (hfa : mg "law" = some (.ref fa)) {od an : Option Addr} {sl : Array (Option Value)} {oc kV dc pm cd ct : Value}
    (aW : PySem.W.nsIn K mainGlobals "Web" = some (some (.ref CW))) (aS : PySem.W.nsIn K mainGlobals "Stretch" = some (some (.ref CS)))
    (aP : PySem.W.nsIn K mainGlobals "MOST_PLACES" = some (some (.int 14 tP))) (aT : PySem.W.nsIn K mainGlobals "MOST_TIES" = some (some (.int 30 tT)))
    (z_len : PySem.W.nsIn K mainGlobals "len" = some none) (z_range : PySem.W.nsIn K mainGlobals "range" = some none) (z_list : PySem.W.nsIn K mainGlobals "list" = some none) (z_tuple : PySem.W.nsIn K mainGlobals "tuple" = some none) (z_min : PySem.W.nsIn K mainGlobals "min" = some none) (z_max : PySem.W.nsIn K mainGlobals "max" = some none) (z_sorted : PySem.W.nsIn K mainGlobals "sorted" = some none) (z_set : PySem.W.nsIn K mainGlobals "set" = some none) (z_enumerate : PySem.W.nsIn K mainGlobals "enumerate" = some none) (z_reversed : PySem.W.nsIn K mainGlobals "reversed" = some none) (z_any : PySem.W.nsIn K mainGlobals "any" = some none) (z_sum : PySem.W.nsIn K mainGlobals "sum" = some none) (z_abs : PySem.W.nsIn K mainGlobals "abs" = some none)
    (pgW : PySem.W.plainGet K CW Str.empty = true) (hdW : PySem.W.hasDictIn K CW = true) (poW : PySem.W.plainOver K CW = true) (saW : PySem.W.findIn K (.ref CW) "__setattr__" = some (some (.builtin "object.__setattr__"))) (pgS : PySem.W.plainGet K CS Str.empty = true) (hdS : PySem.W.hasDictIn K CS = true) (poS : PySem.W.plainOver K CS = true) (saS : PySem.W.findIn K (.ref CS) "__setattr__" = some (some (.builtin "object.__setattr__")))
    (nW_places : PySem.W.findIn K (.ref CW) "places" = some none) (nW_ties : PySem.W.findIn K (.ref CW) "ties" = some none) (nS_web : PySem.W.findIn K (.ref CS) "web" = some none) (nS_kept : PySem.W.findIn K (.ref CS) "kept" = some none) (nS_shut : PySem.W.findIn K (.ref CS) "shut" = some none) (nS_base : PySem.W.findIn K (.ref CS) "base" = some none) (nS_lead : PySem.W.findIn K (.ref CS) "lead" = some none) (nS_size : PySem.W.findIn K (.ref CS) "size" = some none)
    (a_webinit : IAt K CW "Web.__init__" s_webinit ["self", "places", "ties"]) (a_made_set : At K mg "made_set" s_made_set ["web", "ties"]) (a_marks_over : At K mg "marks_over" s_marks_over ["web", "ties"]) (a_pieces_of : At K mg "pieces_of" s_pieces_of ["web", "ties"]) (a_is_joined : At K mg "is_joined" s_is_joined ["web", "ties"]) (a_is_tree : At K mg "is_tree" s_is_tree ["web", "ties"]) (a_look_at_tree : At K mg "look_at_tree" s_look_at_tree ["web", "tree"]) (a_grown : At K mg "grown" s_grown ["web", "kept", "order"]) (a_least_tree : At K mg "least_tree" s_least_tree ["web"]) (a_without_tie : At K mg "without_tie" s_without_tie ["ties", "tie"]) (a_ring_of : At K mg "ring_of" s_ring_of ["web", "tree", "tie"]) (a_place_from : At K mg "place_from" s_place_from ["web", "dart"]) (a_look_at_turns : At K mg "look_at_turns" s_look_at_turns ["web", "turns"]) (a_darts_behind : At K mg "darts_behind" s_darts_behind ["turns"]) (a_rounds_of : At K mg "rounds_of" s_rounds_of ["web", "turns"]) (a_lies_flat : At K mg "lies_flat" s_lies_flat ["web", "turns"]) (a_other_web : At K mg "other_web" s_other_web ["web", "turns"]) (a_left_of : At K mg "left_of" s_left_of ["web", "tree"]) (a_look_at_table : At K mg "look_at_table" s_look_at_table ["table"]) (a_first_row_with : At K mg "first_row_with" s_first_row_with ["rows", "at"]) (a_cleared : At K mg "cleared" s_cleared ["rows", "at", "ahead"]) (a_determinant : At K mg "determinant" s_determinant ["table"]) (a_pulls : At K mg "pulls" s_pulls ["count", "ties"]) (a_without_last : At K mg "without_last" s_without_last ["table"]) (a_pull_table : At K mg "pull_table" s_pull_table ["web"]) (a_tree_count : At K mg "tree_count" s_tree_count ["web"]) (a_count_with : At K mg "count_with" s_count_with ["web", "inside", "outside"]) (a_strinit : IAt K CS "Stretch.__init__" s_strinit ["self", "web", "kept", "shut", "base", "lead", "count"]) (a_st_piece_ends : MAt K CS "piece_ends" "Stretch.piece_ends" s_st_piece_ends ["self"]) (a_st_loose_on_ring : MAt K CS "loose_on_ring" "Stretch.loose_on_ring" s_st_loose_on_ring ["self"]) (a_st_next_lead : MAt K CS "next_lead" "Stretch.next_lead" s_st_next_lead ["self"]) (a_st_first_half : MAt K CS "first_half" "Stretch.first_half" s_st_first_half ["self", "lead"]) (a_st_second_half : MAt K CS "second_half" "Stretch.second_half" s_st_second_half ["self", "lead", "first"]) (a_st_laid_out : MAt K CS "laid_out" "Stretch.laid_out" s_st_laid_out ["self"]) (a_st_between : MAt K CS "between" "Stretch.between" s_st_between ["self", "low", "high"]) (a_swapped : At K mg "swapped" s_swapped ["tree", "out", "into"]) (a_least_open : At K mg "least_open" s_least_open ["web", "base"]) (a_whole_row : At K mg "whole_row" s_whole_row ["web"]) (a_row_at : At K mg "row_at" s_row_at ["web", "number"]) (a_row_from : At K mg "row_from" s_row_from ["web", "number", "most"]) (a_common_measure : At K mg "common_measure" s_common_measure ["one", "other"]) (a_lowest : At K mg "lowest" s_lowest ["top", "bottom"]) (a_look_for_parts : At K mg "look_for_parts" s_look_for_parts ["web"]) (a_share_of : At K mg "share_of" s_share_of ["web", "ties"]) (a_law_mixed : At K mg "_law_mixed" s_law_mixed ["cell", "k"]) (a_law_bundles : At K mg "_law_bundles" s_law_bundles ["cell"]) (a_law_made : At K mg "_law_made" s_law_made ["bundles", "cell"]) (a_law_due : At K mg "_law_due" s_law_due ["bundles"]) (a_law_other_good : At K mg "_law_other_good" s_law_other_good ["web", "turns", "cell", "many"])
    (aL : PySem.W.nsIn K mainGlobals "law" = some (some (.ref f))) (lL : K.lookup f = some ⟨oc, od, .func (PySem.W.fnOf "law" "law" (defArgs s_law) (defBody s_law) (defScope s_law) .none kV dc pm an cd ct), sl⟩) (cL : PySem.W.codeIn K cd "law" = true) (kL : PySem.W.keepIn K (.ref f) = true) :
    ∃ fd : FuncData, (∀ (s : Shared) (v : Value), BindsTo s fd ⟨[v], []⟩ [("script", v)]) ∧ ∀ base : Heap, K.In base → base.Ns mainGlobals mg → FnOk l.prog w K mg base CX0 40 fa fd ["script"] (spLaw K) := by
  have e := hfa.symm.trans (PySem.W.mg_of X G aL)
  cases e
  have T : Txt K mg CW CS := ⟨PySem.W.mg_none_of X G z_len, PySem.W.mg_none_of X G z_range, PySem.W.mg_none_of X G z_list, PySem.W.mg_none_of X G z_tuple, PySem.W.mg_none_of X G z_min, PySem.W.mg_none_of X G z_max, PySem.W.mg_none_of X G z_sorted, PySem.W.mg_none_of X G z_set, PySem.W.mg_none_of X G z_enumerate, PySem.W.mg_none_of X G z_reversed, PySem.W.mg_none_of X G z_any, PySem.W.mg_none_of X G z_sum, PySem.W.mg_none_of X G z_abs, ⟨_, PySem.W.mg_of X G aP⟩, ⟨_, PySem.W.mg_of X G aT⟩, ⟨pgW, hdW, poW, saW⟩, ⟨pgS, hdS, poS, saS⟩, nW_places, nW_ties, nS_web, nS_kept, nS_shut, nS_base, nS_lead, nS_size, PySem.W.mg_of X G aW, PySem.W.mg_of X G aS, a_webinit, a_made_set, a_marks_over, a_pieces_of, a_is_joined, a_is_tree, a_look_at_tree, a_grown, a_least_tree, a_without_tie, a_ring_of, a_place_from, a_look_at_turns, a_darts_behind, a_rounds_of, a_lies_flat, a_other_web, a_left_of, a_look_at_table, a_first_row_with, a_cleared, a_determinant, a_pulls, a_without_last, a_pull_table, a_tree_count, a_count_with, a_strinit, a_st_piece_ends, a_st_loose_on_ring, a_st_next_lead, a_st_first_half, a_st_second_half, a_st_laid_out, a_st_between, a_swapped, a_least_open, a_whole_row, a_row_at, a_row_from, a_common_measure, a_lowest, a_look_for_parts, a_share_of, a_law_mixed, a_law_bundles, a_law_made, a_law_due, a_law_other_good⟩
  exact ⟨PySem.W.fnOf "law" "law" (defArgs s_law) (defBody s_law) (defScope s_law) .none kV dc pm an cd ct, fun s v => .of_eq rfl, fun base _ _ => d_law (fun_mk (st := s_law) lL cL kL) T⟩
end Sr
open PySem PySem.W PyProof.Rows in
set_option maxHeartbeats 0 in
theorem PySem.Challenge.cw_spanrow_k97_whole_rings_of_bundles_holds : PySem.Challenge.rw_spanrow_k97_whole_rings_of_bundles.Holds := by
  w_on; o_law; k_head; (case hw => w_witness2)
  k_fill
  refine L2.walk_ofK (l := PySem.Challenge.rw_spanrow_k97_whole_rings_of_bundles) (n := 63) (k := 40) (x := "script") (CX := L2.CX0) (sp := Sr.spLaw) rfl (by decide) rfl ⟨rfl, by decide, by decide⟩ (fun w h Y => PySem.W.kIn_of Y) ?F ?S ?E
  case F =>
    intro w mg fa h KX G hmg
    refine' Sr.all_mk KX G hmg ?aW ?aS ?aP ?aT ?z_len ?z_range ?z_list ?z_tuple ?z_min ?z_max ?z_sorted ?z_set ?z_enumerate ?z_reversed ?z_any ?z_sum ?z_abs ?pgW ?hdW ?poW ?saW ?pgS ?hdS ?poS ?saS ?nW_places ?nW_ties ?nS_web ?nS_kept ?nS_shut ?nS_base ?nS_lead ?nS_size ?d_webinit ?d_made_set ?d_marks_over ?d_pieces_of ?d_is_joined ?d_is_tree ?d_look_at_tree ?d_grown ?d_least_tree ?d_without_tie ?d_ring_of ?d_place_from ?d_look_at_turns ?d_darts_behind ?d_rounds_of ?d_lies_flat ?d_other_web ?d_left_of ?d_look_at_table ?d_first_row_with ?d_cleared ?d_determinant ?d_pulls ?d_without_last ?d_pull_table ?d_tree_count ?d_count_with ?d_strinit ?d_st_piece_ends ?d_st_loose_on_ring ?d_st_next_lead ?d_st_first_half ?d_st_second_half ?d_st_laid_out ?d_st_between ?d_swapped ?d_least_open ?d_whole_row ?d_row_at ?d_row_from ?d_common_measure ?d_lowest ?d_look_for_parts ?d_share_of ?d_law_mixed ?d_law_bundles ?d_law_made ?d_law_due ?d_law_other_good ?aL ?lL ?cL ?kL
    (case aW => k_is)
    (case aS => k_is)
    (case aP => k_is)
    (case aT => k_is)
    (case z_len => k_is)
    (case z_range => k_is)
    (case z_list => k_is)
    (case z_tuple => k_is)
    (case z_min => k_is)
    (case z_max => k_is)
    (case z_sorted => k_is)
    (case z_set => k_is)
    (case z_enumerate => k_is)
    (case z_reversed => k_is)
    (case z_any => k_is)
    (case z_sum => k_is)
    (case z_abs => k_is)
    (case pgW => k_is)
    (case hdW => k_is)
    (case poW => k_is)
    (case saW => k_is)
    (case pgS => k_is)
    (case hdS => k_is)
    (case poS => k_is)
    (case saS => k_is)
    (case nW_places => k_is)
    (case nW_ties => k_is)
    (case nS_web => k_is)
    (case nS_kept => k_is)
    (case nS_shut => k_is)
    (case nS_base => k_is)
    (case nS_lead => k_is)
    (case nS_size => k_is)
    (case d_webinit =>
      refine' Sr.mk_webinit ?m ?a ?i ?kc ?l ?c ?k
      (case m => k_is)
      (case a => k_is)
      (case i => k_is)
      (case kc => k_is)
      (case l => k_is)
      (case c => k_is)
      (case k => k_is))
    (case d_made_set =>
      refine' Sr.mk_made_set KX G ?a ?l ?c ?k
      (case a => k_is)
      (case l => k_is)
      (case c => k_is)
      (case k => k_is))
    (case d_marks_over =>
      refine' Sr.mk_marks_over KX G ?a ?l ?c ?k
      (case a => k_is)
      (case l => k_is)
      (case c => k_is)
      (case k => k_is))
    (case d_pieces_of =>
      refine' Sr.mk_pieces_of KX G ?a ?l ?c ?k
      (case a => k_is)
      (case l => k_is)
      (case c => k_is)
      (case k => k_is))
    (case d_is_joined =>
      refine' Sr.mk_is_joined KX G ?a ?l ?c ?k
      (case a => k_is)
      (case l => k_is)
      (case c => k_is)
      (case k => k_is))
    (case d_is_tree =>
      refine' Sr.mk_is_tree KX G ?a ?l ?c ?k
      (case a => k_is)
      (case l => k_is)
      (case c => k_is)
      (case k => k_is))
    (case d_look_at_tree =>
      refine' Sr.mk_look_at_tree KX G ?a ?l ?c ?k
      (case a => k_is)
      (case l => k_is)
      (case c => k_is)
      (case k => k_is))
    (case d_grown =>
      refine' Sr.mk_grown KX G ?a ?l ?c ?k
      (case a => k_is)
      (case l => k_is)
      (case c => k_is)
      (case k => k_is))
    (case d_least_tree =>
      refine' Sr.mk_least_tree KX G ?a ?l ?c ?k
      (case a => k_is)
      (case l => k_is)
      (case c => k_is)
      (case k => k_is))
    (case d_without_tie =>
      refine' Sr.mk_without_tie KX G ?a ?l ?c ?k
      (case a => k_is)
      (case l => k_is)
      (case c => k_is)
      (case k => k_is))
    (case d_ring_of =>
      refine' Sr.mk_ring_of KX G ?a ?l ?c ?k
      (case a => k_is)
      (case l => k_is)
      (case c => k_is)
      (case k => k_is))
    (case d_place_from =>
      refine' Sr.mk_place_from KX G ?a ?l ?c ?k
      (case a => k_is)
      (case l => k_is)
      (case c => k_is)
      (case k => k_is))
    (case d_look_at_turns =>
      refine' Sr.mk_look_at_turns KX G ?a ?l ?c ?k
      (case a => k_is)
      (case l => k_is)
      (case c => k_is)
      (case k => k_is))
    (case d_darts_behind =>
      refine' Sr.mk_darts_behind KX G ?a ?l ?c ?k
      (case a => k_is)
      (case l => k_is)
      (case c => k_is)
      (case k => k_is))
    (case d_rounds_of =>
      refine' Sr.mk_rounds_of KX G ?a ?l ?c ?k
      (case a => k_is)
      (case l => k_is)
      (case c => k_is)
      (case k => k_is))
    (case d_lies_flat =>
      refine' Sr.mk_lies_flat KX G ?a ?l ?c ?k
      (case a => k_is)
      (case l => k_is)
      (case c => k_is)
      (case k => k_is))
    (case d_other_web =>
      refine' Sr.mk_other_web KX G ?a ?l ?c ?k
      (case a => k_is)
      (case l => k_is)
      (case c => k_is)
      (case k => k_is))
    (case d_left_of =>
      refine' Sr.mk_left_of KX G ?a ?l ?c ?k
      (case a => k_is)
      (case l => k_is)
      (case c => k_is)
      (case k => k_is))
    (case d_look_at_table =>
      refine' Sr.mk_look_at_table KX G ?a ?l ?c ?k
      (case a => k_is)
      (case l => k_is)
      (case c => k_is)
      (case k => k_is))
    (case d_first_row_with =>
      refine' Sr.mk_first_row_with KX G ?a ?l ?c ?k
      (case a => k_is)
      (case l => k_is)
      (case c => k_is)
      (case k => k_is))
    (case d_cleared =>
      refine' Sr.mk_cleared KX G ?a ?l ?c ?k
      (case a => k_is)
      (case l => k_is)
      (case c => k_is)
      (case k => k_is))
    (case d_determinant =>
      refine' Sr.mk_determinant KX G ?a ?l ?c ?k
      (case a => k_is)
      (case l => k_is)
      (case c => k_is)
      (case k => k_is))
    (case d_pulls =>
      refine' Sr.mk_pulls KX G ?a ?l ?c ?k
      (case a => k_is)
      (case l => k_is)
      (case c => k_is)
      (case k => k_is))
    (case d_without_last =>
      refine' Sr.mk_without_last KX G ?a ?l ?c ?k
      (case a => k_is)
      (case l => k_is)
      (case c => k_is)
      (case k => k_is))
    (case d_pull_table =>
      refine' Sr.mk_pull_table KX G ?a ?l ?c ?k
      (case a => k_is)
      (case l => k_is)
      (case c => k_is)
      (case k => k_is))
    (case d_tree_count =>
      refine' Sr.mk_tree_count KX G ?a ?l ?c ?k
      (case a => k_is)
      (case l => k_is)
      (case c => k_is)
      (case k => k_is))
    (case d_count_with =>
      refine' Sr.mk_count_with KX G ?a ?l ?c ?k
      (case a => k_is)
      (case l => k_is)
      (case c => k_is)
      (case k => k_is))
    (case d_strinit =>
      refine' Sr.mk_strinit ?m ?a ?i ?kc ?l ?c ?k
      (case m => k_is)
      (case a => k_is)
      (case i => k_is)
      (case kc => k_is)
      (case l => k_is)
      (case c => k_is)
      (case k => k_is))
    (case d_st_piece_ends =>
      refine' Sr.mk_st_piece_ends ?a ?i ?l ?c ?k
      (case a => k_is)
      (case i => k_is)
      (case l => k_is)
      (case c => k_is)
      (case k => k_is))
    (case d_st_loose_on_ring =>
      refine' Sr.mk_st_loose_on_ring ?a ?i ?l ?c ?k
      (case a => k_is)
      (case i => k_is)
      (case l => k_is)
      (case c => k_is)
      (case k => k_is))
    (case d_st_next_lead =>
      refine' Sr.mk_st_next_lead ?a ?i ?l ?c ?k
      (case a => k_is)
      (case i => k_is)
      (case l => k_is)
      (case c => k_is)
      (case k => k_is))
    (case d_st_first_half =>
      refine' Sr.mk_st_first_half ?a ?i ?l ?c ?k
      (case a => k_is)
      (case i => k_is)
      (case l => k_is)
      (case c => k_is)
      (case k => k_is))
    (case d_st_second_half =>
      refine' Sr.mk_st_second_half ?a ?i ?l ?c ?k
      (case a => k_is)
      (case i => k_is)
      (case l => k_is)
      (case c => k_is)
      (case k => k_is))
    (case d_st_laid_out =>
      refine' Sr.mk_st_laid_out ?a ?i ?l ?c ?k
      (case a => k_is)
      (case i => k_is)
      (case l => k_is)
      (case c => k_is)
      (case k => k_is))
    (case d_st_between =>
      refine' Sr.mk_st_between ?a ?i ?l ?c ?k
      (case a => k_is)
      (case i => k_is)
      (case l => k_is)
      (case c => k_is)
      (case k => k_is))
    (case d_swapped =>
      refine' Sr.mk_swapped KX G ?a ?l ?c ?k
      (case a => k_is)
      (case l => k_is)
      (case c => k_is)
      (case k => k_is))
    (case d_least_open =>
      refine' Sr.mk_least_open KX G ?a ?l ?c ?k
      (case a => k_is)
      (case l => k_is)
      (case c => k_is)
      (case k => k_is))
    (case d_whole_row =>
      refine' Sr.mk_whole_row KX G ?a ?l ?c ?k
      (case a => k_is)
      (case l => k_is)
      (case c => k_is)
      (case k => k_is))
    (case d_row_at =>
      refine' Sr.mk_row_at KX G ?a ?l ?c ?k
      (case a => k_is)
      (case l => k_is)
      (case c => k_is)
      (case k => k_is))
    (case d_row_from =>
      refine' Sr.mk_row_from KX G ?a ?l ?c ?k
      (case a => k_is)
      (case l => k_is)
      (case c => k_is)
      (case k => k_is))
    (case d_common_measure =>
      refine' Sr.mk_common_measure KX G ?a ?l ?c ?k
      (case a => k_is)
      (case l => k_is)
      (case c => k_is)
      (case k => k_is))
    (case d_lowest =>
      refine' Sr.mk_lowest KX G ?a ?l ?c ?k
      (case a => k_is)
      (case l => k_is)
      (case c => k_is)
      (case k => k_is))
    (case d_look_for_parts =>
      refine' Sr.mk_look_for_parts KX G ?a ?l ?c ?k
      (case a => k_is)
      (case l => k_is)
      (case c => k_is)
      (case k => k_is))
    (case d_share_of =>
      refine' Sr.mk_share_of KX G ?a ?l ?c ?k
      (case a => k_is)
      (case l => k_is)
      (case c => k_is)
      (case k => k_is))
    (case d_law_mixed =>
      refine' Sr.mk_law_mixed KX G ?a ?l ?c ?k
      (case a => k_is)
      (case l => k_is)
      (case c => k_is)
      (case k => k_is))
    (case d_law_bundles =>
      refine' Sr.mk_law_bundles KX G ?a ?l ?c ?k
      (case a => k_is)
      (case l => k_is)
      (case c => k_is)
      (case k => k_is))
    (case d_law_made =>
      refine' Sr.mk_law_made KX G ?a ?l ?c ?k
      (case a => k_is)
      (case l => k_is)
      (case c => k_is)
      (case k => k_is))
    (case d_law_due =>
      refine' Sr.mk_law_due KX G ?a ?l ?c ?k
      (case a => k_is)
      (case l => k_is)
      (case c => k_is)
      (case k => k_is))
    (case d_law_other_good =>
      refine' Sr.mk_law_other_good KX G ?a ?l ?c ?k
      (case a => k_is)
      (case l => k_is)
      (case c => k_is)
      (case k => k_is))
    (case aL => k_is)
    (case lL => k_is)
    (case cL => k_is)
    (case kL => k_is)
  case S => exact fun K H a ns hl _ hS => ⟨a, ns, rfl, hS, hl, fun _ => rfl⟩
  case E => exact fun _ _ _ _ z => z
