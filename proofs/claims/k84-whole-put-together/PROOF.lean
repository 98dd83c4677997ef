import PyProof.Rows.All
import Wide.All
import OpenK.AllK
import Wide.FinOn
import HandS.ForMost
import HandS.IsInst
import HandS.TupAny
import HandS.TupMul
import HandS.Deep
import HandS.Walk
import HandS.SortInts
import HandS.SortRule
import HandS.SetFor
import HandS.Strs
import HandS.Style
import KE.DataMinMax
import KE.GoesEnum
import PySem.Challenge.RW_withindays_k84_whole_put_together
set_option Elab.async false
set_option linter.all false
set_option maxRecDepth 100000
set_option maxHeartbeats 4200000
namespace WD
open PySem L2

/-! ### data that stands in an abstract heap -/
theorem rd_same {H H' : Hp} {a : Addr} {u : HO} (e : Same H H') (h : Rd H a u) : Rd H' a u := by
  rcases h with h | ⟨o, h⟩
  · exact .inl (e _ _ h)
  · exact .inr ⟨o, e _ _ h⟩
theorem sqt_same {K : PySem.W.Frag} {H H' : Hp} {a : Addr} {xs : List V} (e : Same H H') (h : SqT K H a xs) : SqT K H' a xs := by
  rcases h with h | h
  · exact .inl (rd_same e h)
  · exact .inr h
theorem sql_same {K : PySem.W.Frag} {H H' : Hp} {a : Addr} {xs : List V} (e : Same H H') (h : SqL K H a xs) : SqL K H' a xs := e.seq h
mutual
theorem dp_same {K : PySem.W.Frag} {H H' : Hp} (e : Same H H') : ∀ (d : PyData) (v : V), Dp K H v d → Dp K H' v d
  | .none, _, h => by cases h; exact .non
  | .bool b, _, h => by cases h; exact .bl b
  | .int i, _, h => by cases h; exact .int i
  | .str x, _, h => by cases h; exact .str x
  | .list ds, _, h => by
    cases h with
    | lst hs ha => exact .lst (sql_same e hs) (dpAll_same e ds _ ha)
  | .tuple ds, _, h => by
    cases h with
    | tup hs ha => exact .tup (sqt_same e hs) (dpAll_same e ds _ ha)
  | .dict _, _, h => by cases h
theorem dpAll_same {K : PySem.W.Frag} {H H' : Hp} (e : Same H H') : ∀ (ds : List PyData) (vs : List V), DpAll K H vs ds → DpAll K H' vs ds
  | [], _, h => by cases h; exact .nil
  | d :: ds, _, h => by
    cases h with
    | cons h1 h2 => exact .cons (dp_same e d _ h1) (dpAll_same e ds _ h2)
end
/- no list stands in it -/
mutual
def lf : PyData → Bool
  | .none => true
  | .bool _ => true
  | .int _ => true
  | .str _ => true
  | .list _ => false
  | .tuple xs => lfAll xs
  | .dict _ => false
def lfAll : List PyData → Bool
  | [] => true
  | x :: xs => lf x && lfAll xs
end
def off (H : Hp) (M : List Addr) : Hp := fun a => if a ∈ M then none else H a
theorem off_same (H : Hp) (M : List Addr) : Same (off H M) H := fun b o e => by
  unfold off at e
  split at e
  · cases e
  · exact e
theorem off_in {H : Hp} {M : List Addr} {a : Addr} {o : HO} (h : a ∉ M) (e : H a = some o) : off H M a = some o := by
  unfold off; rw [if_neg h]; exact e
theorem off_get {H : Hp} {M : List Addr} {a : Addr} {o : HO} (e : off H M a = some o) : a ∉ M ∧ H a = some o := by
  unfold off at e
  split at e
  · cases e
  · rename_i h; exact ⟨h, e⟩
theorem off_mono {H H' : Hp} {M M' : List Addr} (e : Same H H') (h : ∀ a, a ∈ M' → a ∈ M) : Same (off H M) (off H' M') := fun b o q => by
  obtain ⟨h1, h2⟩ := off_get q
  exact off_in (fun z => h1 (h b z)) (e _ _ h2)
theorem off_nil (H : Hp) : off H [] = H := by funext a; unfold off; rw [if_neg (by simp)]
/-- the addresses of M hold lists -/
def Lists (H : Hp) (M : List Addr) : Prop := ∀ p ∈ M, ∃ vs, H p = some (.lst vs)
mutual
theorem dp_off {K : PySem.W.Frag} {H : Hp} {M : List Addr} (hm : Lists H M) : ∀ (d : PyData) (v : V), lf d = true → Dp K H v d → Dp K (off H M) v d
  | .none, _, _, h => by cases h; exact .non
  | .bool b, _, _, h => by cases h; exact .bl b
  | .int i, _, _, h => by cases h; exact .int i
  | .str x, _, _, h => by cases h; exact .str x
  | .list ds, _, q, h => by unfold lf at q; cases q
  | .tuple ds, _, q, h => by
    unfold lf at q
    cases h with
    | tup hs ha =>
      refine .tup ?_ (dpAll_off hm ds _ q ha)
      rcases hs with (hs | ⟨o, hs⟩) | hs
      · refine .inl (.inl (off_in (fun z => ?_) hs))
        obtain ⟨vs, e⟩ := hm _ z
        rw [hs] at e; cases e
      · refine .inl (.inr ⟨o, off_in (fun z => ?_) hs⟩)
        obtain ⟨vs, e⟩ := hm _ z
        rw [hs] at e; cases e
      · exact .inr hs
  | .dict _, _, _, h => by cases h
theorem dpAll_off {K : PySem.W.Frag} {H : Hp} {M : List Addr} (hm : Lists H M) : ∀ (ds : List PyData) (vs : List V), lfAll ds = true → DpAll K H vs ds → DpAll K (off H M) vs ds
  | [], _, _, h => by cases h; exact .nil
  | d :: ds, _, q, h => by
    unfold lfAll at q
    rw [Bool.and_eq_true] at q
    cases h with
    | cons h1 h2 => exact .cons (dp_off hm d _ q.1 h1) (dpAll_off hm ds _ q.2 h2)
end
section
variable {K : PySem.W.Frag} {H : Hp}
theorem dpAll_len : ∀ {vs : List V} {ds : List PyData}, DpAll K H vs ds → vs.length = ds.length
  | _, _, .nil => rfl
  | _, _, .cons _ h => by rw [List.length_cons, List.length_cons, dpAll_len h]
theorem dpAll_get : ∀ {vs : List V} {ds : List PyData} {i : Nat} {d : PyData}, DpAll K H vs ds → ds[i]? = some d → ∃ v, vs[i]? = some v ∧ Dp K H v d
  | _, _, _, _, .nil, e => absurd e (by simp)
  | _, _, 0, _, .cons h _, e => by simp at e; subst e; exact ⟨_, rfl, h⟩
  | _, _, i + 1, d, .cons _ t, e => by
    obtain ⟨v, h1, h2⟩ := dpAll_get (i := i) (d := d) t (by simpa using e)
    exact ⟨v, by simpa using h1, h2⟩
theorem dpAll_get' : ∀ {vs : List V} {ds : List PyData} {i : Nat} {v : V}, DpAll K H vs ds → vs[i]? = some v → ∃ d, ds[i]? = some d ∧ Dp K H v d
  | _, _, _, _, .nil, e => absurd e (by simp)
  | _, _, 0, _, .cons h _, e => by simp at e; subst e; exact ⟨_, rfl, h⟩
  | _, _, i + 1, v, .cons _ t, e => by
    obtain ⟨d, h1, h2⟩ := dpAll_get' (i := i) (v := v) t (by simpa using e)
    exact ⟨d, by simpa using h1, h2⟩
theorem dpAll_append : ∀ {vs ws : List V} {ds es : List PyData}, DpAll K H vs ds → DpAll K H ws es → DpAll K H (vs ++ ws) (ds ++ es)
  | _, _, _, _, .nil, s => s
  | _, _, _, _, .cons r t, s => .cons r (dpAll_append t s)
theorem dpAll_set : ∀ {vs : List V} {ds : List PyData} {v : V} {d : PyData} (i : Nat), DpAll K H vs ds → Dp K H v d → DpAll K H (vs.set i v) (ds.set i d)
  | _, _, _, _, _, .nil, _ => .nil
  | _, _, _, _, 0, .cons _ t, h => .cons h t
  | _, _, _, _, i + 1, .cons r t, h => .cons r (dpAll_set i t h)
theorem dpAll_take : ∀ {vs : List V} {ds : List PyData} (n : Nat), DpAll K H vs ds → DpAll K H (vs.take n) (ds.take n)
  | _, _, 0, _ => .nil
  | _, _, _ + 1, .nil => .nil
  | _, _, n + 1, .cons r t => .cons r (dpAll_take n t)
theorem dpAll_drop : ∀ {vs : List V} {ds : List PyData} (n : Nat), DpAll K H vs ds → DpAll K H (vs.drop n) (ds.drop n)
  | _, _, 0, r => r
  | _, _, _ + 1, .nil => .nil
  | _, _, n + 1, .cons _ t => dpAll_drop n t
theorem dpAll_reverse : ∀ {vs : List V} {ds : List PyData}, DpAll K H vs ds → DpAll K H vs.reverse ds.reverse
  | _, _, .nil => .nil
  | _, _, .cons r t => by rw [List.reverse_cons, List.reverse_cons]; exact dpAll_append (dpAll_reverse t) (.cons r .nil)
theorem dpAll_rep {vs : List V} {ds : List PyData} (h : DpAll K H vs ds) : ∀ n : Nat, DpAll K H (List.replicate n vs).flatten (List.replicate n ds).flatten
  | 0 => .nil
  | n + 1 => by rw [List.replicate_succ, List.replicate_succ, List.flatten_cons, List.flatten_cons]; exact dpAll_append h (dpAll_rep h n)
theorem dpAll_int : ∀ {vs : List V} {ns : List Int}, DpAll K H vs (ns.map .int) → vs = ns.map V.int
  | _, [], h => by cases h; rfl
  | _, n :: ns, h => by
    cases h with
    | cons h1 h2 => cases h1; rw [dpAll_int h2]; rfl
theorem int_dpAll : ∀ (ns : List Int), DpAll K H (ns.map V.int) (ns.map .int)
  | [] => .nil
  | n :: ns => .cons (.int n) (int_dpAll ns)
theorem dpAll_bool : ∀ {vs : List V} {bs : List Bool}, DpAll K H vs (bs.map .bool) → vs = bs.map V.bl
  | _, [], h => by cases h; rfl
  | _, b :: bs, h => by
    cases h with
    | cons h1 h2 => cases h1; rw [dpAll_bool h2]; rfl
theorem dpAll_nil {vs : List V} (h : DpAll K H vs []) : vs = [] := by cases h; rfl
theorem dpAll_cons {vs : List V} {d : PyData} {ds : List PyData} (h : DpAll K H vs (d :: ds)) : ∃ v ws, vs = v :: ws ∧ Dp K H v d ∧ DpAll K H ws ds := by
  cases h with
  | cons h1 h2 => exact ⟨_, _, rfl, h1, h2⟩
theorem atI_dp {vs : List V} {ds : List PyData} {i : Int} {d : PyData} (h : DpAll K H vs ds) (e : atI ds i = some d) : ∃ v, atI vs i = some v ∧ Dp K H v d := by
  unfold atI at e ⊢
  rw [dpAll_len h]
  cases q : ixN ds.length i with
  | none => rw [q] at e <;> cases e
  | some j =>
    rw [q] at e
    exact dpAll_get h e
end

/-! ### cells and frames -/
/-- what a name holds: nothing that matters, data, a list of its own at p -/
inductive Cell where
  | u
  | d (x : PyData)
  | m (p : Addr) (xs : List PyData)
def muts : List Cell → List Addr
  | [] => []
  | .u :: r => muts r
  | .d _ :: r => muts r
  | .m p _ :: r => p :: muts r
inductive COk (K : PySem.W.Frag) (F H : Hp) : Cell → Option V → Prop
  | u {s : Option V} : COk K F H .u s
  | d {x : PyData} {v : V} (h : Dp K F v x) : COk K F H (.d x) (some v)
  | m {p : Addr} {xs : List PyData} {vs : List V} (h : H p = some (.lst vs)) (q : DpAll K F vs xs) : COk K F H (.m p xs) (some (.ref p))
/-- B: what stands as it was, through the whole; the lists of its own are not in it -/
structure Env (K : PySem.W.Frag) (B H : Hp) (δ : List Cell) (σ : L2.St) : Prop where
  ex : Same B H
  fr : ∀ p ∈ muts δ, B p = none
  nd : (muts δ).Nodup
  ok : Paired (COk K (off H (muts δ)) H) δ σ
section
variable {K : PySem.W.Frag} {B F F' H H' : Hp} {δ : List Cell} {σ : L2.St}
theorem cok_mono {c : Cell} {s : Option V} (e : Same F F') (e2 : ∀ p vs, p ∈ muts [c] → H p = some (.lst vs) → H' p = some (.lst vs)) (h : COk K F H c s) : COk K F' H' c s := by
  cases h with
  | u => exact .u
  | d h => exact .d (dp_same e _ _ h)
  | m h q => exact .m (e2 _ _ (by simp [muts]) h) (dpAll_same e _ _ q)
theorem pok_mono : ∀ {δ : List Cell} {σ : L2.St}, Same F F' → (∀ p vs, p ∈ muts δ → H p = some (.lst vs) → H' p = some (.lst vs)) → Paired (COk K F H) δ σ → Paired (COk K F' H') δ σ
  | _, _, _, _, .nil => .nil
  | c :: δ, _, e, e2, .cons h t => by
    refine .cons (cok_mono e (fun p vs hp => e2 p vs ?_) h) (pok_mono e (fun p vs hp => e2 p vs ?_) t)
    · cases c with
      | u => simp [muts] at hp
      | d x => simp [muts] at hp
      | m q xs => simp [muts] at hp ⊢; exact .inl hp
    · cases c with
      | u => exact hp
      | d x => exact hp
      | m q xs => exact List.mem_cons_of_mem _ hp
theorem Env.mono (h : Env K B H δ σ) (e : Same H H') : Env K B H' δ σ :=
  ⟨h.ex.trans e, h.fr, h.nd, pok_mono (off_mono e fun _ z => z) (fun _ _ _ q => e _ _ q) h.ok⟩
theorem pok_get : ∀ {δ : List Cell} {σ : L2.St} {i : Nat} {c : Cell}, Paired (COk K F H) δ σ → δ[i]? = some c → ∃ s, σ[i]? = some s ∧ COk K F H c s
  | _, _, _, _, .nil, e => absurd e (by simp)
  | _, _, 0, _, .cons h _, e => by simp at e; subst e; exact ⟨_, rfl, h⟩
  | _, _, i + 1, c, .cons _ t, e => by
    obtain ⟨s, h1, h2⟩ := pok_get (i := i) (c := c) t (by simpa using e)
    exact ⟨s, by simpa using h1, h2⟩
theorem pok_set : ∀ {δ : List Cell} {σ : L2.St} {c : Cell} {s : Option V} (i : Nat), Paired (COk K F H) δ σ → COk K F H c s → Paired (COk K F H) (δ.set i c) (σ.set i s)
  | _, _, _, _, _, .nil, _ => .nil
  | _, _, _, _, 0, .cons _ t, h => .cons h t
  | _, _, _, _, i + 1, .cons r t, h => .cons r (pok_set i t h)
theorem muts_get : ∀ {δ : List Cell} {i : Nat} {p : Addr} {xs : List PyData}, δ[i]? = some (.m p xs) → p ∈ muts δ
  | [], _, _, _, e => by simp at e
  | c :: δ, 0, p, xs, e => by simp at e; subst e; exact List.mem_cons_self
  | c :: δ, i + 1, p, xs, e => by
    have := muts_get (δ := δ) (i := i) (p := p) (xs := xs) (by simpa using e)
    cases c with
    | u => exact this
    | d x => exact this
    | m q ys => exact List.mem_cons_of_mem _ this
theorem muts_lists : ∀ {δ : List Cell} {σ : L2.St}, Paired (COk K F H) δ σ → Lists H (muts δ)
  | _, _, .nil => fun p hp => by simp [muts] at hp
  | _, _, .cons h t => fun p hp => by
    cases h with
    | u => exact muts_lists t p hp
    | d h => exact muts_lists t p hp
    | m h q =>
      rcases List.mem_cons.1 hp with rfl | hp
      · exact ⟨_, h⟩
      · exact muts_lists t p hp
theorem muts_set_d : ∀ {δ : List Cell} {x : PyData} {i : Nat} {q : Addr}, q ∈ muts (δ.set i (.d x)) → q ∈ muts δ
  | [], _, _, _, h => h
  | c :: δ, x, 0, q, h => by
    cases c with
    | u => exact h
    | d y => exact h
    | m p ys => exact List.mem_cons_of_mem _ h
  | c :: δ, x, i + 1, q, h => by
    cases c with
    | u => exact muts_set_d (δ := δ) (i := i) (x := x) h
    | d y => exact muts_set_d (δ := δ) (i := i) (x := x) h
    | m p ys =>
      rcases List.mem_cons.mp (show q ∈ p :: muts (δ.set i (.d x)) from h) with h | h
      · exact List.mem_cons.mpr (.inl h)
      · exact List.mem_cons_of_mem _ (muts_set_d h)
theorem nd_set_d : ∀ {δ : List Cell} {x : PyData} {i : Nat}, (muts δ).Nodup → (muts (δ.set i (.d x))).Nodup
  | [], _, _, h => h
  | c :: δ, x, 0, h => by
    cases c with
    | u => exact h
    | d y => exact h
    | m p ys => exact (List.nodup_cons.mp h).2
  | c :: δ, x, i + 1, h => by
    cases c with
    | u => exact nd_set_d (δ := δ) (i := i) h
    | d y => exact nd_set_d (δ := δ) (i := i) h
    | m p ys => exact List.nodup_cons.mpr ⟨fun z => (List.nodup_cons.mp h).1 (muts_set_d z), nd_set_d (List.nodup_cons.mp h).2⟩
theorem muts_set_m : ∀ {δ : List Cell} {p : Addr} {xs : List PyData} {i : Nat} {q : Addr}, q ∈ muts (δ.set i (.m p xs)) → q = p ∨ q ∈ muts δ
  | [], _, _, _, _, h => .inr h
  | c :: δ, p, xs, 0, q, h => by
    rcases List.mem_cons.mp (show q ∈ p :: muts δ from h) with g | g
    · exact .inl g
    · clear h
      cases c with
      | u => exact .inr g
      | d y => exact .inr g
      | m r ys => exact .inr (List.mem_cons_of_mem _ g)
  | c :: δ, p, xs, i + 1, q, h => by
    cases c with
    | u => exact muts_set_m (δ := δ) (i := i) h
    | d y => exact muts_set_m (δ := δ) (i := i) h
    | m r ys =>
      rcases List.mem_cons.mp (show q ∈ r :: muts (δ.set i (.m p xs)) from h) with h | h
      · exact .inr (List.mem_cons.mpr (.inl h))
      · exact (muts_set_m h).imp id fun z => List.mem_cons_of_mem _ z
theorem nd_set_m : ∀ {δ : List Cell} {p : Addr} {xs : List PyData} {i : Nat}, (muts δ).Nodup → p ∉ muts δ → (muts (δ.set i (.m p xs))).Nodup
  | [], _, _, _, h, _ => h
  | c :: δ, p, xs, 0, h, hp => by
    cases c with
    | u => exact List.nodup_cons.mpr ⟨hp, h⟩
    | d y => exact List.nodup_cons.mpr ⟨hp, h⟩
    | m r ys => exact List.nodup_cons.mpr ⟨fun z => hp (List.mem_cons_of_mem _ z), (List.nodup_cons.mp h).2⟩
  | c :: δ, p, xs, i + 1, h, hp => by
    cases c with
    | u => exact nd_set_m (δ := δ) (i := i) h hp
    | d y => exact nd_set_m (δ := δ) (i := i) h hp
    | m r ys =>
      refine List.nodup_cons.mpr ⟨fun z => ?_, nd_set_m (List.nodup_cons.mp h).2 fun z => hp (List.mem_cons_of_mem _ z)⟩
      rcases muts_set_m z with e | z
      · exact hp (by rw [← e]; exact List.mem_cons_self)
      · exact (List.nodup_cons.mp h).1 z
theorem muts_set_same : ∀ {δ : List Cell} {p : Addr} {xs ys : List PyData} {i : Nat}, δ[i]? = some (.m p xs) → muts (δ.set i (.m p ys)) = muts δ
  | [], _, _, _, _, h => absurd h (by simp)
  | c :: δ, p, xs, ys, 0, h => by simp at h; subst h; rfl
  | c :: δ, p, xs, ys, i + 1, h => by
    have ih := muts_set_same (δ := δ) (p := p) (xs := xs) (ys := ys) (i := i) (by simpa using h)
    cases c with
    | u => exact ih
    | d y => exact ih
    | m r zs => show r :: muts (δ.set i (.m p ys)) = r :: muts δ; rw [ih]
/-- x = data -/
theorem Env.set_d (h : Env K B H δ σ) {v : V} {x : PyData} (i : Nat) (hv : Dp K H v x) (ok : muts δ = [] ∨ lf x = true) : Env K B H (δ.set i (.d x)) (σ.set i (some v)) := by
  have hl := muts_lists h.ok
  have hv' : Dp K (off H (muts δ)) v x := by
    rcases ok with e | e
    · rw [e, off_nil]; exact hv
    · exact dp_off hl _ _ e hv
  have hs : Same (off H (muts δ)) (off H (muts (δ.set i (.d x)))) := off_mono (Same.refl H) fun a z => muts_set_d z
  exact ⟨h.ex, fun p hp => h.fr p (muts_set_d hp), nd_set_d h.nd, pok_mono hs (fun _ _ _ q => q) (pok_set i h.ok (.d hv'))⟩
/-- x = a new list -/
theorem Env.set_m (h : Env K B H δ σ) {p : Addr} {vs : List V} {xs : List PyData} (i : Nat) (e : Same H H') (hn : H p = none) (hp : H' p = some (.lst vs)) (hv : DpAll K H' vs xs) (hx : lfAll xs = true) : Env K B H' (δ.set i (.m p xs)) (σ.set i (some (.ref p))) := by
  have hl := muts_lists h.ok
  have hp' : p ∉ muts δ := fun z => by
    obtain ⟨ws, q⟩ := hl p z
    rw [hn] at q; cases q
  have hl' : Lists H' (muts (δ.set i (.m p xs))) := fun q hq => by
    rcases muts_set_m hq with e1 | z
    · rw [e1]; exact ⟨_, hp⟩
    · obtain ⟨ws, z⟩ := hl q z
      exact ⟨ws, e _ _ z⟩
  have hs : Same (off H (muts δ)) (off H' (muts (δ.set i (.m p xs)))) := fun a o z => by
    obtain ⟨h1, h2⟩ := off_get z
    refine off_in (fun y => ?_) (e _ _ h2)
    rcases muts_set_m y with e1 | y
    · rw [e1, hn] at h2; cases h2
    · exact h1 y
  refine ⟨h.ex.trans e, fun q hq => ?_, nd_set_m h.nd hp', pok_set i (pok_mono hs (fun _ _ _ q => e _ _ q) h.ok) (.m hp (dpAll_off hl' _ _ hx hv))⟩
  rcases muts_set_m hq with e1 | z
  · rw [e1]; exact h.ex.free hn
  · exact h.fr q z
theorem pok_upd : ∀ {δ : List Cell} {σ : L2.St} {p : Addr} {o : HO}, p ∉ muts δ → Paired (COk K F H) δ σ → Paired (COk K F (upd H p o)) δ σ := fun {δ σ p o} hp h =>
  pok_mono (Same.refl F) (fun q vs hq e => by rw [upd_ne (fun z => hp (by rw [← z]; exact hq))]; exact e) h
theorem pok_mut : ∀ {δ : List Cell} {σ : L2.St} {i : Nat} {p : Addr} {xs ys : List PyData} {ws : List V}, (muts δ).Nodup → δ[i]? = some (.m p xs) → DpAll K F ws ys → Paired (COk K F H) δ σ → Paired (COk K F (upd H p (.lst ws))) (δ.set i (.m p ys)) σ
  | _, _, _, _, _, _, _, _, e, _, .nil => by simp at e
  | _, _, 0, p, xs, ys, ws, nd, e, hw, .cons h t => by
    simp at e; subst e
    cases h with
    | m h q => exact .cons (.m upd_same hw) (pok_upd (List.nodup_cons.mp nd).1 t)
  | c :: δ, _, i + 1, p, xs, ys, ws, nd, e, hw, .cons h t => by
    have e' : δ[i]? = some (.m p xs) := by simpa using e
    have hm := muts_get e'
    have nd' : (muts δ).Nodup := by
      cases c with
      | u => exact nd
      | d x => exact nd
      | m q zs => exact (List.nodup_cons.mp nd).2
    refine .cons (cok_mono (Same.refl F) (fun q vs hq z => ?_) h) (pok_mut (i := i) nd' e' hw t)
    cases c with
    | u => simp [muts] at hq
    | d x => simp [muts] at hq
    | m r zs =>
      simp [muts] at hq
      subst hq
      rw [upd_ne (fun y => (List.nodup_cons.mp nd).1 (by rw [y]; exact hm))]
      exact z
/-- a list of its own is changed -/
theorem Env.mut (h : Env K B H δ σ) {i : Nat} {p : Addr} {xs ys : List PyData} {ws : List V} (hi : δ[i]? = some (.m p xs)) (hw : DpAll K H ws ys) (hy : lfAll ys = true) : Env K B (upd H p (.lst ws)) (δ.set i (.m p ys)) σ := by
  have hl := muts_lists h.ok
  have hm := muts_get hi
  have em : muts (δ.set i (.m p ys)) = muts δ := muts_set_same hi
  have eo : off (upd H p (.lst ws)) (muts δ) = off H (muts δ) := by
    funext a
    unfold off
    by_cases ha : a ∈ muts δ
    · rw [if_pos ha, if_pos ha]
    · rw [if_neg ha, if_neg ha, upd_ne (fun z => ha (by rw [z]; exact hm))]
  refine ⟨fun b o q => ?_, fun q hq => h.fr q (by rw [em] at hq; exact hq), by rw [em]; exact h.nd, ?_⟩
  · rw [upd_ne (fun z => by rw [z, h.fr p hm] at q; cases q)]
    exact h.ex _ _ q
  · rw [em, eo]
    exact pok_mut h.nd hi (dpAll_off hl _ _ hy hw) h.ok
theorem Env.get_d (h : Env K B H δ σ) {i : Nat} {x : PyData} (hi : δ[i]? = some (.d x)) : ∃ v, σ[i]? = some (some v) ∧ Dp K H v x := by
  obtain ⟨s, h1, h2⟩ := pok_get h.ok hi
  cases h2 with
  | d q => exact ⟨_, h1, dp_same (off_same _ _) _ _ q⟩
theorem Env.get_m (h : Env K B H δ σ) {i : Nat} {p : Addr} {xs : List PyData} (hi : δ[i]? = some (.m p xs)) : σ[i]? = some (some (.ref p)) ∧ ∃ vs, H p = some (.lst vs) ∧ DpAll K H vs xs := by
  obtain ⟨s, h1, h2⟩ := pok_get h.ok hi
  cases h2 with
  | m q r => exact ⟨h1, _, q, dpAll_same (off_same _ _) _ _ r⟩
/-- forget a name -/
theorem muts_set_u : ∀ {δ : List Cell} {i : Nat} {q : Addr}, q ∈ muts (δ.set i .u) → q ∈ muts δ
  | [], _, _, h => h
  | c :: δ, 0, q, h => by
    cases c with
    | u => exact h
    | d y => exact h
    | m p ys => exact List.mem_cons_of_mem _ h
  | c :: δ, i + 1, q, h => by
    cases c with
    | u => exact muts_set_u (δ := δ) (i := i) h
    | d y => exact muts_set_u (δ := δ) (i := i) h
    | m p ys =>
      rcases List.mem_cons.mp (show q ∈ p :: muts (δ.set i .u) from h) with h | h
      · exact List.mem_cons.mpr (.inl h)
      · exact List.mem_cons_of_mem _ (muts_set_u h)
theorem nd_set_u : ∀ {δ : List Cell} {i : Nat}, (muts δ).Nodup → (muts (δ.set i .u)).Nodup
  | [], _, h => h
  | c :: δ, 0, h => by
    cases c with
    | u => exact h
    | d y => exact h
    | m p ys => exact (List.nodup_cons.mp h).2
  | c :: δ, i + 1, h => by
    cases c with
    | u => exact nd_set_u (δ := δ) (i := i) h
    | d y => exact nd_set_u (δ := δ) (i := i) h
    | m p ys => exact List.nodup_cons.mpr ⟨fun z => (List.nodup_cons.mp h).1 (muts_set_u z), nd_set_u (List.nodup_cons.mp h).2⟩
theorem Env.set_u (h : Env K B H δ σ) (i : Nat) (s : Option V) : Env K B H (δ.set i .u) (σ.set i s) := by
  have hs : Same (off H (muts δ)) (off H (muts (δ.set i .u))) := off_mono (Same.refl H) fun a z => muts_set_u z
  exact ⟨h.ex, fun p hp => h.fr p (muts_set_u hp), nd_set_u h.nd, pok_mono hs (fun _ _ _ q => q) (pok_set i h.ok .u)⟩
theorem pok_forget : ∀ {δ : List Cell} {σ : L2.St} (i : Nat), Paired (COk K F H) δ σ → Paired (COk K F H) (δ.set i .u) σ
  | _, _, _, .nil => .nil
  | _, _, 0, .cons _ t => .cons .u t
  | _, _, i + 1, .cons r t => .cons r (pok_forget i t)
theorem Env.forget (h : Env K B H δ σ) (i : Nat) : Env K B H (δ.set i .u) σ := by
  have hs : Same (off H (muts δ)) (off H (muts (δ.set i .u))) := off_mono (Same.refl H) fun a z => muts_set_u z
  exact ⟨h.ex, fun p hp => h.fr p (muts_set_u hp), nd_set_u h.nd, pok_mono hs (fun _ _ _ q => q) (pok_forget i h.ok)⟩
/-- another ground: all but the lists of its own stands -/
theorem Env.ground (h : Env K B H δ σ) : Env K (off H (muts δ)) H δ σ :=
  ⟨off_same _ _, fun p hp => by unfold off; rw [if_pos hp], h.nd, h.ok⟩
theorem Env.unground (h : Env K B H δ σ) : Same B (off H (muts δ)) := fun a o e => off_in (fun z => by rw [h.fr a z] at e; cases e) (h.ex _ _ e)
end
end WD

namespace WD
open PySem PySem.Spec PyProof.Rows L2 PySem.SeqAt PySem.W

/-! ### a list or a tuple, walked -/
def iSeq (K : PySem.W.Frag) (tl : TE) : TI := fun σ H R => tl σ H fun xx Ha => ∃ a, xx = .ref a ∧ ((∃ xz, SqL K Ha a xz ∧ R (Itl K a) Ha) ∨ (∃ xz, SqT K Ha a xz ∧ R (Itt K a) Ha))
theorem pi_seq {X : Cx} {tg ls : Expr} {tl : TE} (hl : PE X ls tl) : PI X tg ls (iSeq X.K tl) := by
  refine ⟨fun pn s σ H R I h => ?_⟩
  refine thn (hl.run pn s σ H _ I h) fun v sa ⟨xx, Ha, Ia, rra, qa⟩ => ?_
  obtain ⟨a, ee, qq⟩ := qa
  subst ee
  cases rra
  rcases qq with ⟨xz, hqq, qq⟩ | ⟨xz, hqq, qq⟩
  · obtain ⟨cs, rvs, pl, hsz0⟩ := Ia.list hqq
    refine wpAny_pyIter_list pl.isList ?_
    refine ⟨sa.heap.objs.size, [sa.heap.objs.size], _, _, Ha, rfl, Ia.kept (t' := sa.toks) fun bo ob ee => Heap.get?_push_of_some _ ee, turn_list a _, ⟨_, Heap.get?_push_size _ rfl, rfl, rfl⟩, fun bo hbb => ?_, qq⟩
    have ee : bo = sa.heap.objs.size := by simpa using hbb
    subst ee
    exact Ia.fpOk (Nat.le_refl _) (Ia.hok.fresh (Nat.le_refl _))
  · obtain ⟨cs, rvs, pl, hsz0⟩ := Ia.tuple hqq
    refine wpAny_pyIter_tuple (show sa.heap.IsTuple a cs.toArray from pl) ?_
    refine ⟨sa.heap.objs.size, [sa.heap.objs.size], _, _, Ha, rfl, Ia.kept (t' := sa.toks) fun bo ob ee => Heap.get?_push_of_some _ ee, turn_tuple a _, ⟨_, Heap.get?_push_size _ rfl, rfl, rfl⟩, fun bo hbb => ?_, qq⟩
    have ee : bo = sa.heap.objs.size := by simpa using hbb
    subst ee
    exact Ia.fpOk (Nat.le_refl _) (Ia.hok.fresh (Nat.le_refl _))

/-! ### enumerate(t), t a tuple -/
theorem meets_enumerate_newT (ls : Addr) (cells : Array Value) (nn : Nat) (dc0 : Option Addr) (sl : Array (Option Value)) :
    Meets (Builtin.«enumerate.__new__» ⟨[.type "enumerate", .ref ls], []⟩) (fun _ R s => s.heap.get? ls = some { cls := .type "tuple", dict := dc0, data := .seq cells nn, slots := sl } ∧
      R (.ok (.ret (.ref (s.heap.push { cls := .type "tuple_iterator", data := .fields #[.ref ls, .int 0 0] }).objs.size)))
        { s with heap := (s.heap.push { cls := .type "tuple_iterator", data := .fields #[.ref ls, .int 0 0] }).push { cls := .type "enumerate", data := .fields #[.none, .bool false, .ref s.heap.objs.size, rawInt 0, .none, .none] } }) :=
  .of_wp fun prg wd Ar R s h => by
    obtain ⟨hpp, g, dd, tks, oss⟩ := s; obtain ⟨hl, h⟩ := h
    have hsb := sub_enumerate
    have hLi : Heap.IsTuple (Shared.heap ⟨hpp, g, dd, tks, oss⟩) ls cells := ⟨_, hl, rfl, nn, rfl⟩
    wp_walk using AutoSeq1.wpAny_loadPart' hl
    refine wpAny_stack_any fun stt => wpAny_pure ?_
    split
    · rename_i cc _ _ _ _ _
      cases (cc == Value.type "enumerate")
      · wp_walk using AutoSeq1.wpAny_loadPart' hl, wpAny_pyIter_tuple hLi
        exact ⟨_, rfl, h⟩
      · wp_walk using AutoSeq1.wpAny_loadPart' hl, wpAny_pyIter_tuple hLi
        exact ⟨_, rfl, h⟩
    · wp_walk using AutoSeq1.wpAny_loadPart' hl, wpAny_pyIter_tuple hLi
      exact ⟨_, rfl, h⟩
section
variable {prg : Program} {wd : World} {Ar : Around} {E : Value → Shared → Prop} {s : Shared}
theorem call_enumerate_tuple {ls : Addr} {cells : Array Value} {Q : Value → Shared → Prop} (hLi : s.heap.IsTuple ls cells)
    (h : ∀ h', IsEnum h' (s.heap.objs.size + 1) s.heap.objs.size 0 .none → h'.IsTupleIter s.heap.objs.size ls 0 → h'.objs.size = s.heap.objs.size + 2 →
      (∀ bo ob, s.heap.get? bo = some ob → h'.get? bo = some ob) → Q (.ref (s.heap.objs.size + 1)) { s with heap := h' }) :
    wpAny (model prg wd) Ar (call (.type "enumerate") [.ref ls]) Q E s := by
  obtain ⟨⟨cc, dc0, dt, sl⟩, hl, hcc, nn, hdd⟩ := hLi
  replace hcc : cc = .type "tuple" := hcc
  replace hdd : dt = .seq cells nn := hdd
  subst hcc hdd
  refine callType_new F.called_enumerate (by decide) (F.typeCall_enumerate_1 _) (F.newCall_enumerate_1 _) (fun y => F.args_object_init_2 y _) F.entry_enumerate_new
    (meets_enumerate_newT ls cells nn dc0 sl) ⟨hl, ?_⟩
  have hsz0 : (s.heap.push { cls := .type "tuple_iterator", data := .fields #[.ref ls, .int 0 0] }).objs.size = s.heap.objs.size + 1 := Heap.size_push ..
  show _ ∧ _
  rw [hsz0]
  have hee : IsEnum ((s.heap.push { cls := .type "tuple_iterator", data := .fields #[.ref ls, .int 0 0] }).push { cls := .type "enumerate", data := .fields #[.none, .bool false, .ref s.heap.objs.size, rawInt 0, .none, .none] }) (s.heap.objs.size + 1) s.heap.objs.size 0 .none := by
    have := Heap.get?_push_size (s.heap.push { cls := .type "tuple_iterator", data := .fields #[.ref ls, .int 0 0] }) (o := { cls := .type "enumerate", data := .fields #[.none, .bool false, .ref s.heap.objs.size, rawInt 0, .none, .none] }) rfl
    rw [hsz0] at this; exact this
  refine ⟨⟨_, hee, rfl⟩, h _ hee ⟨_, Heap.get?_push_of_some _ (Heap.get?_push_size _ rfl), rfl, rfl⟩ (by rw [Heap.size_push, hsz0]) fun bo ob xx => Heap.get?_push_of_some _ (Heap.get?_push_of_some _ xx)⟩
end
/-- the tuple at a, counted -/
def IteT (K : PySem.W.Frag) (a : Addr) : It :=
  ⟨fun i H => ∃ xz xx, SqT K H a xz ∧ xz[i]? = some xx, fun i H v H' => ∃ T xx, v = .ref T ∧ H T = none ∧ H' = upd H T (.tup [.int (i : Nat), xx]) ∧ ∀ xz, SqT K H a xz → xz[i]? = some xx, fun i H => ∃ xz, SqT K H a xz ∧ xz.length ≤ i⟩
theorem turn_enumT {P : Program} {wd : World} {K : PySem.W.Frag} {elts : List Expr} {kk : Nat} {tpos : Pos} (a ee itr : Addr) :
    Turn P wd K (.Tuple elts kk tpos) (IteT K a) [ee, itr] ee (fun i h => (∃ old, IsEnum h ee itr ((i : Nat) : Int) old) ∧ h.IsTupleIter itr a i ∧ ee ≠ itr ∧ a ≠ itr ∧ a ≠ ee) where
  mem := by simp
  obj := fun i h stt bo hbb => by
    obtain ⟨⟨old, hee⟩, ⟨ob, hoo, hcc, hdd⟩, _⟩ := stt
    have eq1 : bo = ee ∨ bo = itr := by simpa using hbb
    rcases eq1 with zz | zz
    · rw [zz]; exact ⟨_, hee, fun v qq => nomatch qq⟩
    · rw [zz]; exact ⟨ob, hoo, fun v qq => by rw [hdd] at qq; cases qq⟩
  keep := fun i h h' stt k => let ⟨⟨old, hee⟩, hiv, hne⟩ := stt; ⟨⟨old, k ee (by simp) _ hee⟩, hiv.at fun ob qq => k itr (by simp) ob qq, hne⟩
  item := by
    intro X hP hw hK hcc i pn s σ H E I hf stt hgg
    subst hP hw hK
    obtain ⟨⟨old, hee⟩, hitr, hne, hai, hae⟩ := stt
    obtain ⟨xz, xx, hqq, hxx⟩ := hgg
    obtain ⟨cs, rvs, pl, hsz0⟩ := I.tuple hqq
    obtain ⟨uu, huu, ruu⟩ := rvs.get hxx
    have hez : ee < s.heap.objs.size := Heap.lt_size hee
    have hiz : itr < s.heap.objs.size := by obtain ⟨_, qq, _⟩ := hitr; exact Heap.lt_size qq
    have hT0 : s.heap.IsTuple a cs.toArray := pl
    refine wpAny_pyNext_enum_itemD (Draws.tuple (A := X.A.in1) (show X.A.in1.handled = none by simp [I.ok.hd hcc]) itr a hai cs.toArray) hee ⟨hitr, hT0⟩ (i := i) (by have := (List.getElem?_eq_some_iff.mp huu).1; simpa using this) hne (by simp only [List.mem_cons, List.mem_singleton, List.not_mem_nil, or_false, not_or]; exact ⟨hne, fun zz => hae zz.symm⟩) fun x' h' tks hx' hoo hit' hTy hszb hk => ?_
    have hxu : x' = uu := by
      have h1 : cs.toArray[i]? = some x' := hx'
      have h2 : cs.toArray[i]? = some uu := by simpa using huu
      rw [h1] at h2
      exact Option.some.inj h2
    subst hxu
    refine ⟨_, rfl, wpAny_letOwnedTupleGo_enum (s := { s with heap := h', toks := tks + 1 }) hoo fun h'' he' sb => ?_⟩
    have hT2 : h''.get? s.heap.objs.size = some { cls := .type "tuple", data := .seq #[.int i tks, x'] } := (sb.2 _ (Nat.ne_of_gt hez)).trans hTy
    have nw : ObjOk X.prog X.w (upd H s.heap.objs.size (.tup [.int (i : Nat), xx])) h'' s.heap.objs.size (.tup [.int (i : Nat), xx]) :=
      ⟨by show 2 ≤ sizeLine; decide, [.int i tks, x'], .cons ⟨_, rfl⟩ (.cons ruu .nil), ⟨_, hT2, rfl, _, rfl⟩⟩
    have Ia : Inv X pn σ (upd H s.heap.objs.size (.tup [.int (i : Nat), xx])) { s with heap := h'', toks := tks + 1 } :=
      I.turnedNew (ch := [ee, itr]) (fun bo ob hbb qq => (sb.2 bo (fun zz => hbb (by simp [zz]))).trans (hk bo ob (fun zz => hbb (by simp [zz])) (fun zz => hbb (by simp [zz])) qq)) hf (Nat.le_refl _) nw
    refine ⟨.ref s.heap.objs.size, _, Ia, rfl, ⟨_, xx, rfl, I.hok.fresh (Nat.le_refl _), rfl, fun ys hy => by rw [I.tuple_inj hy hqq]; exact hxx⟩, ⟨⟨x', ?_⟩, hit'.1.at fun ob qq => (sb.2 itr (Ne.symm hne)).trans qq, hne, hai, hae⟩, fun bo hbb => ?_⟩
    · have ea1 : ((i + 1 : Nat) : Int) = (i : Int) + 1 := by omega
      rw [ea1]; exact he'
    · have hbq : bo < s.heap.objs.size := by
        have eq1 : bo = ee ∨ bo = itr := by simpa using hbb
        rcases eq1 with zz | zz
        · rw [zz]; exact hez
        · rw [zz]; exact hiz
      rw [upd_ne (Nat.ne_of_lt hbq)]
      exact (hf bo hbb).1
  done := by
    intro X hP hw hK hcc i pn s σ H E I hf stt hgg
    subst hP hw hK
    obtain ⟨⟨old, hee⟩, hitr, hne, hai, hae⟩ := stt
    obtain ⟨xz, hqq, hxx⟩ := hgg
    obtain ⟨cs, rvs, pl, hsz0⟩ := I.tuple hqq
    obtain ⟨w0, w1, w2, w3, w4, w5⟩ := hf itr (by simp)
    have hl := rvs.length
    have hT0 : s.heap.IsTuple a cs.toArray := pl
    have hTy : s.TypeIs (.ref ee) "enumerate" := ⟨_, hee, rfl⟩
    unfold pyNext
    refine wpAny_bind (wpAny_attempt (wpAny_callSpecial?_slot (name := Str.ofString "__next__") hTy F.slot_enumerate_next (wpAny_call_entry F.slot_enumerate_next hTy F.entry_enumerate_next ?_ (F.args_enumerate_next_1 _))))
    show wpAny _ _ (field (.ref ee) 2 >>= _) _ _ _
    refine wpAny_bind (wpAny_field hee rfl (x := .ref itr) rfl ?_)
    refine wpAny_bind (wpAny_nextOf_tuple_end (show X.A.in1.handled = none by simp [I.ok.hd hcc]) hitr hT0 (by simp; omega) fun h' xx he' hx' => ?_)
    obtain ⟨ob, hoo, hc'⟩ := hx'
    refine wpAny_bind (wpAny_isInstance (T := "StopIteration") (b := true) ⟨ob, hoo, hc'⟩ isSubtype_stop ?_)
    exact wpAny_pure ⟨rfl, I.turned (t' := s.toks) (fun bo ob hbb qq => he' bo ob hbb qq) w0 w1 w3 w4 w5⟩
  self := fun Ar i s Q E stt h => let ⟨⟨_, hee⟩, _⟩ := stt; wpAny_pyIter_enum hee h
def iEnumT (K : PySem.W.Frag) (ta : TA) : TI := fun σ H R => ta σ H fun vz Ha => ∃ a xz, vz = [.ref a] ∧ SqT K Ha a xz ∧ R (IteT K a) Ha
theorem pi_enumT {X : Cx} {ee : Expr} {ta : TA} {pl pos tpos : Pos} {elts : List Expr} {kk : Nat} (hgg : Gl X "enumerate") (hmm : X.mg "enumerate" = none) (haa : PA X [ee] ta) (hss : starEach [ee] X.env = [(false, eval ee X.env)] := by rfl) :
    PI X (.Tuple elts kk tpos) (.Call (.Name "enumerate" pl) [ee] [] pos) (iEnumT X.K ta) := by
  refine ⟨fun pn s σ H R I h => ?_⟩
  refine Call_ (ld_blt I hgg hmm boot_enumerate (PyProof.Rows.callWith_type1 (thn (haa.run pos pn s σ H _ I h) fun uz sa ⟨vz, Ha, Ia, rra, qa⟩ => ?_) hss rfl))
  obtain ⟨a, xz, ex, hqq, qq⟩ := qa
  subst ex
  cases rra with
  | cons r rr =>
    cases rr
    cases r
    obtain ⟨cs, rvs, p', hsz0⟩ := Ia.tuple hqq
    have hltb : a < sa.heap.objs.size := p'.lt
    refine call_enumerate_tuple (show sa.heap.IsTuple a cs.toArray from p') fun h' hee hitr hszb hk => wpAny_pyIter_enum hee ?_
    have Ib : Inv X pn σ Ha { sa with heap := h' } := Ia.kept (t' := sa.toks) hk
    refine ⟨sa.heap.objs.size + 1, [sa.heap.objs.size + 1, sa.heap.objs.size], _, _, Ha, rfl, Ib, turn_enumT a (sa.heap.objs.size + 1) sa.heap.objs.size, ⟨⟨.none, hee⟩, hitr, Nat.succ_ne_self _, Nat.ne_of_lt hltb, Nat.ne_of_lt (Nat.lt_succ_of_lt hltb)⟩, fun bo hbb => ?_, qq⟩
    have hleb : sa.heap.objs.size ≤ bo := by
      have eq1 : bo = sa.heap.objs.size + 1 ∨ bo = sa.heap.objs.size := by simpa using hbb
      rcases eq1 with zz | zz
      · rw [zz]; exact Nat.le_succ _
      · rw [zz]; exact Nat.le_refl _
    exact Ia.fpOk hleb (Ia.hok.fresh hleb)

/-! ### min, max of a tuple of ints -/
def rMinT (K : PySem.W.Frag) : List V → Hp → VK → Prop := fun vz H Q => ∃ (a : Addr) (nn : Int) (nz : List Int), vz = [V.ref a] ∧ SqT K H a ((nn :: nz).map V.int) ∧ Q (.int (nz.foldl min nn)) H
def rMaxT (K : PySem.W.Frag) : List V → Hp → VK → Prop := fun vz H Q => ∃ (a : Addr) (nn : Int) (nz : List Int), vz = [V.ref a] ∧ SqT K H a ((nn :: nz).map V.int) ∧ Q (.int (nz.foldl max nn)) H
theorem reads_ints {h : Heap} : ∀ {cs : List Value} {nz : List Int}, IntsAre cs nz → ∃ as, ReadsAll h cs (nz.map .int) as
  | _, _, .nil => ⟨_, .nil⟩
  | _, _, .cons nn t r => by
    obtain ⟨as, qq⟩ := reads_ints (h := h) r
    exact ⟨_, .cons (.int nn t) qq⟩
theorem alike_ints (nz : List Int) : AlikeAll (nz.map .int) := by
  refine ⟨fun xx hxx y hy => ?_, fun xx hxx ee => ?_⟩
  · obtain ⟨i, _, rfl⟩ := List.mem_map.mp hxx
    obtain ⟨j, _, rfl⟩ := List.mem_map.mp hy
    rfl
  · obtain ⟨i, _, rfl⟩ := List.mem_map.mp hxx
    cases ee
theorem depth_ints : ∀ (nz : List Int), PyData.depthAll (nz.map .int) ≤ 1
  | [] => by rw [List.map_nil]; simp [PyData.depthAll]
  | nn :: nz => by
    have ih := depth_ints nz
    rw [List.map_cons]
    unfold PyData.depthAll
    unfold PyData.depth
    omega
theorem reads_int_is {h : Heap} {v : Value} {nn : Int} {as : List Addr} (r : Reads h v (.int nn) as) : ∃ t, v = .int nn t := by
  cases r; exact ⟨_, rfl⟩
section
variable {X : Cx}
theorem cr_minT (hcc : X.calm = true) (huu : X.A.units + 64 < cLine) : CallR X (.builtin "min") (rMinT X.K) := by
  intro pn s σ H vz uz Q I r h
  obtain ⟨a, nn, nz, rfl, hss, qq⟩ := h
  obtain ⟨cs, rvs, hl, _⟩ := I.tuple hss
  rw [Vals.ref1 r]
  obtain ⟨as, ra⟩ := reads_ints (h := s.heap) (ints_of_vals rvs)
  have hdd := depth_ints (nn :: nz)
  refine min_tuple_data (x := .int nn) (xs := nz.map .int) (I.ok.hd hcc) (show s.heap.IsTuple a cs.toArray from hl) (by simpa using ra) (alike_ints (nn :: nz)) (by show X.A.units + 1 + PyData.depthAll ((nn :: nz).map .int) < cLine; omega) fun i v h' tks bs _ rv' hk => ?_
  rw [minD_ints] at rv'
  obtain ⟨t, rfl⟩ := reads_int_is rv'
  exact ⟨.int _, H, I.kept hk, ⟨_, rfl⟩, qq⟩
theorem cr_maxT (hcc : X.calm = true) (huu : X.A.units + 64 < cLine) : CallR X (.builtin "max") (rMaxT X.K) := by
  intro pn s σ H vz uz Q I r h
  obtain ⟨a, nn, nz, rfl, hss, qq⟩ := h
  obtain ⟨cs, rvs, hl, _⟩ := I.tuple hss
  rw [Vals.ref1 r]
  obtain ⟨as, ra⟩ := reads_ints (h := s.heap) (ints_of_vals rvs)
  have hdd := depth_ints (nn :: nz)
  refine max_tuple_data (x := .int nn) (xs := nz.map .int) (I.ok.hd hcc) (show s.heap.IsTuple a cs.toArray from hl) (by simpa using ra) (alike_ints (nn :: nz)) (by show X.A.units + 1 + PyData.depthAll ((nn :: nz).map .int) < cLine; omega) fun i v h' tks bs _ rv' hk => ?_
  rw [maxD_ints] at rv'
  obtain ⟨t, rfl⟩ := reads_int_is rv'
  exact ⟨.int _, H, I.kept hk, ⟨_, rfl⟩, qq⟩
end

/-! ### sorted of a tuple of ints -/
section
variable {prg : Program} {wd : World} {Ar : Around} {E : Value → Shared → Prop} {s : Shared}
theorem collect_tuple {ls : Addr} {vz : List Value} {Q : List Value → Shared → Prop} (hl : s.heap.IsTuple ls vz.toArray)
    (h : Q vz { s with heap := (s.heap.push (seqObj "list" #[] 0)).update s.heap.objs.size (Obj.mapSeq (· ++ vz.toArray)) }) (hszb : vz.length ≤ sizeLine) :
    wpAny (model prg wd) Ar (collect (.ref ls)) Q E s := by
  obtain ⟨ob, hoo, hcc, nn, hdd⟩ := id hl
  unfold collect
  refine wpAny_bind (wpAny_runValue (codeAny_builtin entry_proto_collect' ?_)); show wpAny _ _ (do again (.builtin "list.__iadd__" ⟨[← newList [], .ref ls], []⟩)) _ _ s
  refine wpAny_bind (wpAny_newList (wpAny_pure ⟨Code.quiet_builtin _ (by decide +kernel), codeAny_builtin entry_list_iadd' ?_⟩)); show wpAny _ _ (Builtin.List.listExtendWith (.ref s.heap.objs.size) (.ref ls) (.ref s.heap.objs.size)) _ _ { s with heap := s.heap.push (seqObj "list" #[] 0) }
  unfold Builtin.List.listExtendWith; have hoq : (s.heap.push (seqObj "list" #[] 0)).get? ls = some ob := Heap.get?_push_of_some _ hoo
  refine wpAny_bind (wpAny_typeOf (T := "tuple") ⟨ob, hoq, hcc⟩ ?_)
  have htt : (Value.type "tuple" == Value.type "tuple") = true := by rfl
  rw [if_pos (by rw [htt]; simp)]
  refine wpAny_bind (listItems_at hoq hdd ?_)
  refine wpAny_bind (listItems_at (xs := #[]) (n := 0) (Heap.get?_push_size _ rfl) rfl ?_); rw [if_neg (by simp)]
  refine wpAny_bind (listUpdate_at (xs := #[]) (n := 0) (Heap.get?_push_size _ rfl) rfl ?_ (Nat.zero_le _) (by show (#[] ++ vz.toArray).size ≤ sizeLine + 1; simp only [Array.size_append, List.size_toArray, List.length_nil]; omega))
  refine wpAny_pure ?_
  show wpAny (model prg wd) Ar (do
      let ob ← load s.heap.objs.size
      match ob.data with
      | .seq xz _ => pure xz.toList
      | _ => unsupported "internal:collect") Q E { s with heap := (s.heap.push (seqObj "list" #[] 0)).update s.heap.objs.size (Obj.mapSeq (· ++ vz.toArray)) }
  refine wpAny_bind (wpAny_load (get?_update_seq (Heap.get?_push_size _ rfl) _) ?_); show wpAny _ _ (pure ((#[] : Array Value) ++ vz.toArray).toList) Q E _
  rw [show ((#[] : Array Value) ++ vz.toArray).toList = vz by simp]
  exact wpAny_pure h
end
end WD
namespace L2.SrtO
end L2.SrtO
namespace SrtO
open PySem PyProof.Rows PySem.Spec
section
variable {prg : Program} {wd : World} {Ar : Around} {E : Value → Shared → Prop} {s : Shared}
theorem sorted_ordT {ls : Addr} {vz : List Value} {ltw : Value → Value → Bool} {Q : Value → Shared → Prop} (O : Swo ltw) (hl : s.heap.IsTuple ls vz.toArray) (hsz0 : vz.length ≤ sizeLine)
    (hS : 2 ≤ vz.length → ∀ (h₁ : Heap) (a : Addr), h₁.get? a = some (seqObj "list" vz.toArray 0) → (∀ bo ob, s.heap.get? bo = some ob → bo ≠ a ∧ h₁.get? bo = some ob) → SortableO prg wd Ar.in1.in1 { s with heap := h₁ } a vz ltw)
    (h : ∀ res : List Value, Srtd ltw res → Stb ltw res vz → Q (.ref (s.heap.objs.size + 1)) { s with heap := sortedAll s.heap vz res.toArray }) :
    wpAny (model prg wd) Ar (call (.builtin "sorted") [.ref ls]) Q E s := by
  refine Calls.call_function_entry kind_sorted plain_sorted entry_sorted (args_sorted1 _) ?_; unfold Builtin.«sorted»
  refine wpAny_bind (m := checkCount "sorted" 1 1 _) (wpAny_pure ?_); refine wpAny_bind (WD.collect_tuple hl ?_ hsz0)
  refine wpAny_bind (wpAny_newList ?_ hsz0)
  have hszb : ((s.heap.push (seqObj "list" #[] 0)).update s.heap.objs.size (Obj.mapSeq (· ++ vz.toArray))).objs.size = s.heap.objs.size + 1 := by rw [Heap.size_update, size_push']
  have hobj : (((s.heap.push (seqObj "list" #[] 0)).update s.heap.objs.size (Obj.mapSeq (· ++ vz.toArray))).push (seqObj "list" vz.toArray 0)).get? (s.heap.objs.size + 1) = some (seqObj "list" vz.toArray 0) := by
    rw [← hszb]; exact Heap.get?_push_size _ rfl
  have keep : ∀ bo ob, s.heap.get? bo = some ob → bo ≠ s.heap.objs.size + 1 ∧ (((s.heap.push (seqObj "list" #[] 0)).update s.heap.objs.size (Obj.mapSeq (· ++ vz.toArray))).push (seqObj "list" vz.toArray 0)).get? bo = some ob := fun bo ob qq => by
    have hltb : bo < s.heap.objs.size := Heap.lt_size qq
    refine ⟨Nat.ne_of_lt (Nat.lt_succ_of_lt hltb), Heap.get?_push_of_some _ ?_⟩
    rw [Heap.get?_update_ne _ _ _ _ (Nat.ne_of_lt hltb)]
    exact Heap.get?_push_of_some _ qq
  show wpAny _ _ _ _ _ { s with heap := ((s.heap.push (seqObj "list" #[] 0)).update s.heap.objs.size (Obj.mapSeq (· ++ vz.toArray))).push (seqObj "list" vz.toArray 0) }
  rw [hszb]
  refine wpAny_bind (wpAny_holding (wpAny_call_entry slot_list_sort ⟨_, hobj, rfl⟩ entry_list_sort (list_sort_ord O hobj hsz0 (fun h2 => hS h2 _ _ hobj keep) fun res hss hbb => ⟨_, rfl, ?_⟩) (args_list_sort _)))
  exact wpAny_pure ⟨_, rfl, h res hss hbb⟩
end
end SrtO
namespace WD
open PySem PySem.Spec PyProof.Rows L2 PySem.SeqAt PySem.W
section
variable {X : Cx}
def rSortedT (K : PySem.W.Frag) : List V → Hp → VK → Prop := fun vz H Q => ∃ (a : Addr) (nz : List Int), vz = [V.ref a] ∧ SqT K H a (nz.map V.int) ∧ ∀ (ns' : List Int) (pl : Addr), ns'.Perm nz → ns'.Pairwise (· ≤ ·) → H pl = none → Q (.ref pl) (upd H pl (.lst (ns'.map V.int)))
theorem cr_sortedT : CallR X (.builtin "sorted") (rSortedT X.K) := by
  intro pn s σ H vz uz Q I r h
  obtain ⟨a, nz, rfl, hss, qq⟩ := h
  obtain ⟨cs, rvs, hl, hsz0⟩ := I.tuple hss
  rw [Vals.ref1 r]
  have hiv := rvs.ints
  refine SrtO.sorted_ordT SrtO.swo_int (show s.heap.IsTuple a cs.toArray from hl) (by rw [← rvs.length]; exact hsz0) (fun h2 h₁ a' _ _ => SrtO.ints_sortable hiv h2) fun res h1 h2 => ?_
  obtain ⟨ka, kb, kc⟩ := SrtO.ints_out hiv h1 h2
  obtain ⟨epp, he'⟩ := PyProof.Rows.sortedAll_at s.heap cs res.toArray
  have hln : ((res.map SrtO.iv).map V.int).length ≤ sizeLine := by
    rw [List.length_map, kb.length_eq]
    rw [List.length_map] at hsz0
    exact hsz0
  exact ⟨.ref _, upd H (s.heap.objs.size + 1) (.lst ((res.map SrtO.iv).map V.int)), I.laid (t' := s.toks) (fun _ _ => PyProof.Rows.sortedAll_old) (Nat.le_succ _) ⟨hln, res, epp, vals_of_ints ka, he'⟩, rfl, qq _ _ kb kc (I.hok.fresh (Nat.le_succ _))⟩

/-! ### set(t) of a tuple of ints, cs length -/
def rSetI (K : PySem.W.Frag) (wd : World) : List V → Hp → VK → Prop := fun vz H Q => ∃ (pl : Addr) (nz : List Int), vz = [.ref pl] ∧ SqT K H pl (nz.map V.int) ∧ nz.length ≤ 1000 ∧ ∀ a cc, H a = none → cc ≤ nz.length → Q (.ref a) (upd H a (SetO wd a (fun j => decide (j ∈ nz)) cc))
theorem cr_setI (hcc : X.calm = true) : CallR X (.type "set") (rSetI X.K X.w) := by
  intro pn s σ H vz uz Q I r h
  obtain ⟨pl, nz, rfl, hss, hl, qq⟩ := h
  obtain ⟨cs, rvs, pt, hsz0⟩ := I.tuple hss
  rw [Vals.ref1 r]
  have hiv : IntsAre cs.toArray.toList nz := ints_of_vals rvs
  refine call_set_tupI nz (I.ok.hd hcc) (show s.heap.IsTuple pl cs.toArray from pt) hiv (by unfold scanBound; omega) fun h' tks cc R1 hcn k => ?_
  exact ⟨.ref s.heap.objs.size, upd H s.heap.objs.size (SetO X.w s.heap.objs.size (fun j => decide (j ∈ nz)) cc), I.laid (t' := tks) k (Nat.le_refl _) (setO_new R1), rfl, qq _ _ (I.hok.fresh (Nat.le_refl _)) hcn⟩
def rLenSet (wd : World) : List V → Hp → VK → Prop := fun vz H Q => ∃ (a : Addr) (S : Int → Bool) (nn : Nat), vz = [.ref a] ∧ H a = some (SetO wd a S nn) ∧ ((∃ ks : List Int, ks.Nodup ∧ (∀ k, k ∈ ks ↔ S k = true) ∧ ks.length = nn) → Q (.int (nn : Int)) H)
theorem cr_lenSet : CallR X (.builtin "len") (rLenSet X.w) := by
  intro pn s σ H vz uz Q I r h
  obtain ⟨a, S, nn, rfl, haa, qq⟩ := h
  have R := setO_get I haa
  rw [Vals.ref1 r]
  obtain ⟨ob, es, epp, t, hoo, hex, hdd, _, nd, hmm, hbb, hf, hnn, _⟩ := R
  have hxx : ∃ ks : List Int, ks.Nodup ∧ (∀ k, k ∈ ks ↔ S k = true) ∧ ks.length = nn := ⟨es.toList.map keyOf, nd, fun k => (hmm k).symm, by rw [List.length_map, Array.length_toList]; exact hnn⟩
  exact call_len_set hoo hex hdd hf (by have := hbb; unfold scanBound at this; omega) ⟨.int (nn : Int), H, I.tok _, ⟨_, by rw [hnn]⟩, qq hxx⟩
end
end WD

namespace WD
open PySem PySem.Spec PyProof.Rows L2 PySem.SeqAt PySem.W
theorem tuple_mul1 (ls : Addr) (cells : Array Value) (nn : Nat) (dd : Option Addr) (sl : Array (Option Value)) (xx : Int) (uu : Tok) (cz0 : (decide (xx < -(2 ^ 63)) || decide (xx ≥ 2 ^ 63)) = false) (cz1 : (cells.isEmpty || xx == 1) = true) :
    Meets (Builtin.«tuple.__mul__» ⟨[.ref ls, .int xx uu], []⟩) (fun _ R s => s.heap.get? ls = some { cls := .type "tuple", dict := dd, data := .seq cells nn, slots := sl } ∧
      R (.ok (.ret (Value.ref ls))) s) :=
  .of_wp fun prg wd Ar R s h => by
    obtain ⟨hpp, g, dd, tks, oss⟩ := s
    obtain ⟨hl, h⟩ := h
    have w1 := AutoSeq1.idx_int
    wp_walk using AutoSeq1.wpAny_loadPart' hl
    repeat (first
      | (refine wpAny_ite_false (decide_eq_false (by rw [cz0]; exact Bool.false_ne_true)) ?_; wp_walk using AutoSeq1.wpAny_loadPart' hl)
      | (refine wpAny_ite_true (decide_eq_true cz1) ?_; wp_walk using AutoSeq1.wpAny_loadPart' hl))
    exact ⟨_, rfl, h⟩
theorem tuple_mul0 (ls : Addr) (cells : Array Value) (nn : Nat) (dd : Option Addr) (sl : Array (Option Value)) (xx : Int) (uu : Tok) (cz0 : (decide (xx < -(2 ^ 63)) || decide (xx ≥ 2 ^ 63)) = false) (cz1 : (cells.isEmpty || xx == 1) = false) (c2 : (decide (xx ≤ 0) || cells.isEmpty) = true) :
    Meets (Builtin.«tuple.__mul__» ⟨[.ref ls, .int xx uu], []⟩) (fun _ R s => s.heap.get? ls = some { cls := .type "tuple", dict := dd, data := .seq cells nn, slots := sl } ∧
      R (.ok (.ret (Value.ref s.heap.objs.size))) { s with heap := s.heap.push { cls := Value.type "tuple", data := Data.seq #[] }, toks := s.toks }) :=
  .of_wp fun prg wd Ar R s h => by
    obtain ⟨hpp, g, dd, tks, oss⟩ := s
    obtain ⟨hl, h⟩ := h
    have w1 := AutoSeq1.idx_int
    wp_walk using AutoSeq1.wpAny_loadPart' hl
    repeat (first
      | (refine wpAny_ite_false (decide_eq_false (by rw [cz0]; exact Bool.false_ne_true)) ?_; wp_walk using AutoSeq1.wpAny_loadPart' hl)
      | (refine wpAny_ite_false (decide_eq_false (by rw [cz1]; exact Bool.false_ne_true)) ?_; wp_walk using AutoSeq1.wpAny_loadPart' hl)
      | (refine wpAny_ite_true (decide_eq_true c2) ?_; wp_walk using AutoSeq1.wpAny_loadPart' hl))
    exact ⟨_, rfl, h⟩
/-- t * k, 0 ≤ k ≤ 1000, t not empty -/
def rRepA (K : PySem.W.Frag) : R2 := fun xx y H Q => ∃ ls k xz, xx = .ref ls ∧ y = .int k ∧ SqT K H ls xz ∧ xz ≠ [] ∧ 0 ≤ k ∧ k ≤ 1000 ∧ xz.length ≤ 1000 ∧ (k = 1 → Q (.ref ls) H) ∧ (k ≠ 1 → ∀ pl, H pl = none → Q (.ref pl) (upd H pl (.tup (List.replicate k.toNat xz).flatten)))
section
variable {X : Cx}
theorem op_repA : OpR X (binaryOp .Mult) (rRepA X.K) := by
  intro pn s σ H xx y v uu Q I rx ry h
  obtain ⟨ls, k, xz, rfl, rfl, hTy, hne, h1, h2, hsz0, qa, q2⟩ := h
  by_cases hk2 : 2 ≤ k
  · exact op_repT pn s σ H _ _ v uu Q I rx ry ⟨ls, k, xz, rfl, rfl, hTy, hne, hk2, h2, hsz0, q2 (by omega)⟩
  cases rx
  obtain ⟨t, rfl⟩ := ry
  obtain ⟨cs, r, ⟨⟨cls, dd, data, sl⟩, hoo, hcc, nn, hdd⟩, hss⟩ := I.tuple hTy
  simp only at hcc hdd
  subst hcc hdd
  have hleb : cs.length = xz.length := r.length.symm
  have hnn : cs ≠ [] := fun ee => hne (by
    rw [ee] at hleb
    exact List.eq_nil_of_length_eq_zero hleb.symm)
  have hiv : cs.toArray.isEmpty = false := by
    cases cs with
    | nil => exact absurd rfl hnn
    | cons a bo => rfl
  have cz0 : (decide (k < -(2 ^ 63)) || decide (k ≥ 2 ^ 63)) = false := by
    rw [decide_eq_false (by omega)]; rw [decide_eq_false (by omega)] <;> rfl
  by_cases hk1 : k = 1
  · have cz1 : (cs.toArray.isEmpty || k == 1) = true := by
      rw [hiv, Bool.false_or]
      exact beq_iff_eq.mpr hk1
    refine wpAny_binaryOp_repeat_ref (T := "tuple") (U := "int") (by decide) ⟨_, hoo, rfl⟩ (fun s' => typeIs_int s' k t) noFill_tuple_mul F.fills_int_mul F.slot_int_rmul repeat_tuple F.slot_int_index.lookup
      (call_meets F.slot_int_rmul (typeIs_int s k t) F.entry_int_rmul (F.args_int_rmul_2 _ _) (int_rmul_tuple k t ls cs.toArray nn dd sl)
        ⟨hoo, rfl, ⟨_, hoo, rfl⟩, call_meets F.slot_tuple_mul ⟨_, hoo, rfl⟩ F.entry_tuple_mul (F.args_tuple_mul_2 _ _) (tuple_mul1 ls cs.toArray nn dd sl k t cz0 cz1) ⟨hoo, ?_⟩⟩)
    exact ⟨.ref ls, H, I, rfl, qa hk1⟩
  · have hk0 : k = 0 := by omega
    have cz1 : (cs.toArray.isEmpty || k == 1) = false := by
      rw [hiv, Bool.false_or]
      exact beq_eq_false_iff_ne.mpr hk1
    have c2 : (decide (k ≤ 0) || cs.toArray.isEmpty) = true := by
      rw [decide_eq_true (by omega)] <;> rfl
    refine wpAny_binaryOp_repeat_ref (T := "tuple") (U := "int") (by decide) ⟨_, hoo, rfl⟩ (fun s' => typeIs_int s' k t) noFill_tuple_mul F.fills_int_mul F.slot_int_rmul repeat_tuple F.slot_int_index.lookup
      (call_meets F.slot_int_rmul (typeIs_int s k t) F.entry_int_rmul (F.args_int_rmul_2 _ _) (int_rmul_tuple k t ls cs.toArray nn dd sl)
        ⟨hoo, rfl, ⟨_, hoo, rfl⟩, call_meets F.slot_tuple_mul ⟨_, hoo, rfl⟩ F.entry_tuple_mul (F.args_tuple_mul_2 _ _) (tuple_mul0 ls cs.toArray nn dd sl k t cz0 cz1 c2) ⟨hoo, ?_⟩⟩)
    subst hk0
    exact ⟨.ref s.heap.objs.size, upd H s.heap.objs.size (.tup (List.replicate (0 : Int).toNat xz).flatten), I.laid (t' := s.toks) (fun bo ob qq => Heap.get?_push_of_some _ qq) (Nat.le_refl _) ⟨Nat.zero_le _, [], .nil, IsTup.new _ _⟩, rfl, q2 (by omega) _ (I.hok.fresh (Nat.le_refl _))⟩
end
end WD

namespace WD
open PySem L2

theorem same_new {H : Hp} {p : Addr} {o : HO} (h : H p = none) : Same H (upd H p o) := fun b u e => by rw [upd_ne (ne_of_none e h)]; exact e
/-! ### readings by a name -/
def rLen (K : PySem.W.Frag) : List V → Hp → VK → Prop := fun xs H Q => ∃ p ys, xs = [.ref p] ∧ (SqL K H p ys ∨ SqT K H p ys) ∧ Q (.int ys.length) H
theorem cw_len {X : Cx} : CallR X (.builtin "len") (rLen X.K) := call_len_seq
def rTupOf (K : PySem.W.Frag) : List V → Hp → VK → Prop := fun xs H Q => ∃ p ys, xs = [.ref p] ∧ ((SqL K H p ys ∧ ∀ l, H l = none → Q (.ref l) (upd H l (.tup ys))) ∨ (SqT K H p ys ∧ Q (.ref p) H))
theorem cw_tup {X : Cx} : CallR X (.type "tuple") (rTupOf X.K) := call_tuple_of
def rLstOf (K : PySem.W.Frag) : List V → Hp → VK → Prop := fun xs H Q => ∃ p ys, xs = [.ref p] ∧ (SqL K H p ys ∨ SqT K H p ys) ∧ ∀ l, H l = none → Q (.ref l) (upd H l (.lst ys))
theorem cw_lst {X : Cx} : CallR X (.type "list") (rLstOf X.K) := call_list_of
def rIntB : List V → Hp → VK → Prop := fun xs H Q => (∃ i, xs = [.int i] ∧ Q (.int i) H) ∨ ∃ k, xs = [.bl k] ∧ Q (.int (if k then 1 else 0)) H
theorem cw_int {X : Cx} : CallR X (.type "int") rIntB := call_int1
def rMin2 : List V → Hp → VK → Prop := fun xs H Q => ∃ i j, xs = [.int i, .int j] ∧ Q (.int (if j < i then j else i)) H
theorem cw_min2 {X : Cx} (hc : X.calm = true) : CallR X (.builtin "min") rMin2 := call_min2 hc
def rIsNo : R2 := fun x y H Q => y = .non ∧ Q (.bl (decide (x = .non))) H
def rNotNo : R2 := fun x y H Q => y = .non ∧ Q (.bl (!decide (x = .non))) H
theorem ow_isN {X : Cx} : OpR X (compareOp .Is) rIsNo := op_isN
theorem ow_notN {X : Cx} : OpR X (compareOp .IsNot) rNotNo := op_notN

/-! ### what evaluates to what: data in, data out -/
section
variable (K : PySem.W.Frag)
def Ed (te : TE) (δ : List Cell) (d : PyData) : Prop := ∀ (B : Hp) (σ : L2.St) (H : Hp), Env K B H δ σ → ∀ Q : VK, (∀ v H', Same H H' → Dp K H' v d → Q v H') → te σ H Q
def EdP (te : TE) (δ : List Cell) (P : PyData → Prop) : Prop := ∀ (B : Hp) (σ : L2.St) (H : Hp), Env K B H δ σ → ∀ Q : VK, (∀ d v H', P d → Same H H' → Dp K H' v d → Q v H') → te σ H Q
/-- a new list -/
def EdL (te : TE) (δ : List Cell) (xs : List PyData) : Prop := ∀ (B : Hp) (σ : L2.St) (H : Hp), Env K B H δ σ → ∀ Q : VK, (∀ p vs H', H p = none → Same H H' → H' p = some (.lst vs) → DpAll K H' vs xs → Q (.ref p) H') → te σ H Q
def Td (tt : TT) (δ : List Cell) (b : Bool) : Prop := ∀ (B : Hp) (σ : L2.St) (H : Hp), Env K B H δ σ → ∀ Q : Bool → Hp → Prop, (∀ H', Same H H' → Q b H') → tt σ H Q
def EdA (ta : TA) (δ : List Cell) (ds : List PyData) : Prop := ∀ (B : Hp) (σ : L2.St) (H : Hp), Env K B H δ σ → ∀ Q : List V → Hp → Prop, (∀ vs H', Same H H' → DpAll K H' vs ds → Q vs H') → ta σ H Q
def EdO (to : TO) (δ : List Cell) (o : Option Int) : Prop := ∀ (B : Hp) (σ : L2.St) (H : Hp), Env K B H δ σ → ∀ Q : Option Int → Hp → Prop, (∀ H', Same H H' → Q o H') → to σ H Q
end

section
variable {K : PySem.W.Frag} {δ : List Cell} {ta tb tc te : TE} {t u : TT} {x y z d : PyData}
theorem Ed.of_l {xs : List PyData} (h : EdL K te δ xs) : Ed K te δ (.list xs) := fun B σ H e Q q =>
  h B σ H e Q fun p vs H' _ s hp hv => q _ H' s (.lst (SqL.of hp) hv)
theorem Ed.p {P : PyData → Prop} (h : Ed K te δ d) (hp : P d) : EdP K te δ P := fun B σ H e Q q => h B σ H e Q fun v H' s hd => q d v H' hp s hd
theorem Ed.is (h : Ed K te δ x) (e : x = y) : Ed K te δ y := e ▸ h
theorem Td.is {a b : Bool} (h : Td K t δ a) (e : a = b) : Td K t δ b := e ▸ h
theorem ed_var {i : Nat} (h : δ[i]? = some (.d x)) : Ed K (tVar i) δ x := fun B σ H e Q q => by
  obtain ⟨v, h1, h2⟩ := e.get_d h
  exact ⟨v, h1, q v H (Same.refl H) h2⟩
theorem ed_varm {i : Nat} {p : Addr} {xs : List PyData} (h : δ[i]? = some (.m p xs)) : Ed K (tVar i) δ (.list xs) := fun B σ H e Q q => by
  obtain ⟨h1, vs, h2, h3⟩ := e.get_m h
  exact ⟨_, h1, q _ H (Same.refl H) (.lst (SqL.of h2) h3)⟩
theorem ed_int {i : Int} : Ed K (tC (.int i)) δ (.int i) := fun B σ H e Q q => q _ H (Same.refl H) (.int i)
theorem ed_bl {b : Bool} : Ed K (tC (.bl b)) δ (.bool b) := fun B σ H e Q q => q _ H (Same.refl H) (.bl b)
theorem ed_non : Ed K (tC .non) δ .none := fun B σ H e Q q => q _ H (Same.refl H) .non
theorem ed_str {s : Str} : Ed K (tC (.str s)) δ (.str s) := fun B σ H e Q q => q _ H (Same.refl H) (.str s)
/-- two operands, by values -/
theorem ed_op {r : R2} (ha : Ed K ta δ x) (hb : Ed K tb δ y) (hr : ∀ (H : Hp) (u v : V), Dp K H u x → Dp K H v y → ∀ Q : VK, (∀ w H', Same H H' → Dp K H' w z → Q w H') → r u v H Q) : Ed K (tOp r ta tb) δ z := fun B σ H e Q q =>
  ha B σ H e _ fun u H1 s1 h1 => hb B σ H1 (e.mono s1) _ fun v H2 s2 h2 => hr H2 u v (dp_same s2 _ _ h1) h2 Q fun w H3 s3 h3 => q w H3 ((s1.trans s2).trans s3) h3
theorem ed_opI {i j : Int} {g : Int → Int → V} (ha : Ed K ta δ (.int i)) (hb : Ed K tb δ (.int j)) (hg : ∀ H, Dp K H (g i j) z) : Ed K (tOp (rI0 g) ta tb) δ z :=
  ed_op ha hb fun H u v h1 h2 Q q => by cases h1; cases h2; exact ⟨i, j, rfl, rfl, q _ H (Same.refl H) (hg H)⟩
theorem ed_add {i j : Int} (ha : Ed K ta δ (.int i)) (hb : Ed K tb δ (.int j)) : Ed K (tOp (rI0 fun i j => .int (i + j)) ta tb) δ (.int (i + j)) := ed_opI ha hb fun _ => .int _
theorem ed_sub {i j : Int} (ha : Ed K ta δ (.int i)) (hb : Ed K tb δ (.int j)) : Ed K (tOp (rI0 fun i j => .int (i - j)) ta tb) δ (.int (i - j)) := ed_opI ha hb fun _ => .int _
theorem ed_lt {i j : Int} (ha : Ed K ta δ (.int i)) (hb : Ed K tb δ (.int j)) : Ed K (tOp (rI0 fun i j => .bl (decide (i < j))) ta tb) δ (.bool (decide (i < j))) := ed_opI ha hb fun _ => .bl _
theorem ed_le {i j : Int} (ha : Ed K ta δ (.int i)) (hb : Ed K tb δ (.int j)) : Ed K (tOp (rI0 fun i j => .bl (decide (i ≤ j))) ta tb) δ (.bool (decide (i ≤ j))) := ed_opI ha hb fun _ => .bl _
theorem ed_gt {i j : Int} (ha : Ed K ta δ (.int i)) (hb : Ed K tb δ (.int j)) : Ed K (tOp (rI0 fun i j => .bl (decide (j < i))) ta tb) δ (.bool (decide (j < i))) := ed_opI ha hb fun _ => .bl _
theorem ed_ge {i j : Int} (ha : Ed K ta δ (.int i)) (hb : Ed K tb δ (.int j)) : Ed K (tOp (rI0 fun i j => .bl (decide (j ≤ i))) ta tb) δ (.bool (decide (j ≤ i))) := ed_opI ha hb fun _ => .bl _
theorem ed_mul {i j : Int} (ha : Ed K ta δ (.int i)) (hb : Ed K tb δ (.int j)) (hc : CMul i j) : Ed K (tOp (rI CMul fun i j => .int (i * j)) ta tb) δ (.int (i * j)) :=
  ed_op ha hb fun H u v h1 h2 Q q => by cases h1; cases h2; exact ⟨i, j, rfl, rfl, hc, q _ H (Same.refl H) (.int _)⟩
theorem ed_fdiv {i j : Int} (ha : Ed K ta δ (.int i)) (hb : Ed K tb δ (.int j)) (hc : CDiv i j) : Ed K (tOp (rI CDiv fun i j => .int (i / j)) ta tb) δ (.int (i / j)) :=
  ed_op ha hb fun H u v h1 h2 Q q => by cases h1; cases h2; exact ⟨i, j, rfl, rfl, hc, q _ H (Same.refl H) (.int _)⟩
theorem ed_mod {i j : Int} (ha : Ed K ta δ (.int i)) (hb : Ed K tb δ (.int j)) (hc : 0 < j) : Ed K (tOp (rI (fun _ j => 0 < j) fun i j => .int (i % j)) ta tb) δ (.int (i % j)) :=
  ed_op ha hb fun H u v h1 h2 Q q => by cases h1; cases h2; exact ⟨i, j, rfl, rfl, hc, q _ H (Same.refl H) (.int _)⟩
theorem ed_eq (ha : Ed K ta δ x) (hb : Ed K tb δ y) (hx : SeqAt.shaped x = true) (hy : SeqAt.shaped y = true) : Ed K (tOp (rEqD K) ta tb) δ (.bool (PyData.eqv x y)) :=
  ed_op ha hb fun H u v h1 h2 Q q => ⟨x, y, h1, h2, hx, hy, q _ H (Same.refl H) (.bl _)⟩
theorem ed_ne (ha : Ed K ta δ x) (hb : Ed K tb δ y) (hx : SeqAt.shaped x = true) (hy : SeqAt.shaped y = true) : Ed K (tOp (rNeD K) ta tb) δ (.bool (!PyData.eqv x y)) :=
  ed_op ha hb fun H u v h1 h2 Q q => ⟨x, y, h1, h2, hx, hy, q _ H (Same.refl H) (.bl _)⟩
def isNo : PyData → Bool
  | .none => true
  | _ => false
theorem dp_isNo {H : Hp} {v : V} (h : Dp K H v x) : decide (v = V.non) = isNo x := by
  cases h <;> simp [isNo]
theorem ed_isN (ha : Ed K ta δ x) (hb : Ed K tb δ .none) : Ed K (tOp rIsNo ta tb) δ (.bool (isNo x)) :=
  ed_op ha hb fun H u v h1 h2 Q q => by cases h2; exact ⟨rfl, by rw [dp_isNo h1]; exact q _ H (Same.refl H) (.bl _)⟩
theorem ed_notN (ha : Ed K ta δ x) (hb : Ed K tb δ .none) : Ed K (tOp rNotNo ta tb) δ (.bool (!isNo x)) :=
  ed_op ha hb fun H u v h1 h2 Q q => by cases h2; exact ⟨rfl, by rw [dp_isNo h1]; exact q _ H (Same.refl H) (.bl _)⟩
theorem ed_isB {a b : Bool} (ha : Ed K ta δ (.bool a)) (hb : Ed K tb δ (.bool b)) : Ed K (tOp rIsB ta tb) δ (.bool (decide (a = b))) :=
  ed_op ha hb fun H u v h1 h2 Q q => by cases h1; cases h2; exact ⟨a, b, rfl, rfl, q _ H (Same.refl H) (.bl _)⟩
/-- ints in a row -/
theorem inV_ints (k : Int) : ∀ ns : List Int, inV (.int k) (ns.map V.int) = ns.contains k
  | [] => rfl
  | n :: ns => by
    have ih := inV_ints k ns
    unfold inV at ih ⊢
    rw [List.map_cons, List.any_cons, ih, List.contains_cons]
    congr 1
    show (n == k) = (k == n)
    exact Bool.beq_comm
theorem flat_ints : ∀ ns : List Int, (ns.map V.int).all flatV = true
  | [] => rfl
  | n :: ns => by rw [List.map_cons, List.all_cons, flat_ints ns]; rfl
/-- a row (list or tuple) of ints -/
def Ints (x : PyData) (ns : List Int) : Prop := x = .tuple (ns.map .int) ∨ x = .list (ns.map .int)
theorem ed_inG {neg : Bool} {k : Int} {ns : List Int} (ha : Ed K ta δ (.int k)) (hb : Ed K tb δ y) (hy : Ints y ns) : Ed K (tOp (rIn K neg) ta tb) δ (.bool (if neg then !ns.contains k else ns.contains k)) :=
  ed_op ha hb fun H u v h1 h2 Q q => by
    cases h1
    rcases hy with rfl | rfl
    · cases h2 with
      | tup hs hv =>
        have e := dpAll_int hv
        subst e
        exact ⟨_, _, rfl, .inr hs, rfl, flat_ints ns, by rw [inV_ints]; exact q _ H (Same.refl H) (.bl _)⟩
    · cases h2 with
      | lst hs hv =>
        have e := dpAll_int hv
        subst e
        exact ⟨_, _, rfl, .inl hs, rfl, flat_ints ns, by rw [inV_ints]; exact q _ H (Same.refl H) (.bl _)⟩
theorem ed_in {k : Int} {ns : List Int} (ha : Ed K ta δ (.int k)) (hb : Ed K tb δ y) (hy : Ints y ns) : Ed K (tOp (rIn K false) ta tb) δ (.bool (ns.contains k)) := ed_inG ha hb hy
theorem ed_notIn {k : Int} {ns : List Int} (ha : Ed K ta δ (.int k)) (hb : Ed K tb δ y) (hy : Ints y ns) : Ed K (tOp (rIn K true) ta tb) δ (.bool (!ns.contains k)) := ed_inG ha hb hy
/-- x[i] -/
theorem ed_ix {ds : List PyData} {i : Int} (ha : Ed K ta δ x) (hb : Ed K tb δ (.int i)) (hx : x = .tuple ds ∨ x = .list ds) (hi : atI ds i = some d) : Ed K (tOp (rIx K) ta tb) δ d :=
  ed_op ha hb fun H u v h1 h2 Q q => by
    cases h2
    rcases hx with rfl | rfl
    · cases h1 with
      | tup hs hv =>
        obtain ⟨w, h3, h4⟩ := atI_dp hv hi
        exact .inr (.inl ⟨_, _, i, w, rfl, rfl, hs, h3, q w H (Same.refl H) h4⟩)
    · cases h1 with
      | lst hs hv =>
        obtain ⟨w, h3, h4⟩ := atI_dp hv hi
        exact .inl ⟨_, _, i, w, rfl, rfl, hs, h3, q w H (Same.refl H) h4⟩
/-- t + u -/
theorem ed_catT {xs ys : List PyData} (ha : Ed K ta δ (.tuple xs)) (hb : Ed K tb δ (.tuple ys)) (hz : xs.length + ys.length ≤ sizeLine) : Ed K (tOp (rCatA K) ta tb) δ (.tuple (xs ++ ys)) :=
  ed_op ha hb fun H u v h1 h2 Q q => by
    cases h1 with
    | tup hs hv =>
      cases h2 with
      | tup hs' hv' =>
        refine ⟨_, _, _, _, rfl, rfl, hs, hs', by rw [dpAll_len hv, dpAll_len hv']; exact hz, fun e => ?_, fun e1 e2 => ?_, fun _ _ p hp => ?_⟩
        · subst e
          have e : xs = [] := by cases hv; rfl
          subst e
          exact q _ H (Same.refl H) (.tup hs' hv')
        · subst e2
          have e : ys = [] := by cases hv'; rfl
          subst e
          rw [List.append_nil] at q
          exact q _ H (Same.refl H) (.tup hs hv)
        · exact q _ _ (same_new hp) (.tup (SqT.of upd_same) (dpAll_append (dpAll_same (same_new hp) _ _ hv) (dpAll_same (same_new hp) _ _ hv')))
/-- t * k -/
theorem ed_repT {xs : List PyData} {k : Int} (ha : Ed K ta δ (.tuple xs)) (hb : Ed K tb δ (.int k)) (hne : xs ≠ []) (h0 : 0 ≤ k) (h1 : k ≤ 1000) (hz : xs.length ≤ 1000) : Ed K (tOp (rRepA K) ta tb) δ (.tuple (List.replicate k.toNat xs).flatten) :=
  ed_op ha hb fun H u v h1' h2 Q q => by
    cases h2
    cases h1' with
    | tup hs hv =>
      refine ⟨_, k, _, rfl, rfl, hs, fun e => ?_, h0, h1, by rw [dpAll_len hv]; exact hz, fun e => ?_, fun _ p hp => ?_⟩
      · subst e; cases hv; exact hne rfl
      · subst e
        have e : (List.replicate (1 : Int).toNat xs).flatten = xs := by show (List.replicate 1 xs).flatten = xs; simp
        rw [e] at q
        exact q _ H (Same.refl H) (.tup hs hv)
      · exact q _ _ (same_new hp) (.tup (SqT.of upd_same) (dpAll_rep (dpAll_same (same_new hp) _ _ hv) _))
/-- xs * k of a new list -/
theorem el_rep {xs : List PyData} {k : Int} (ha : EdL K ta δ xs) (hb : Ed K tb δ (.int k)) (h0 : 0 ≤ k) (h1 : k ≤ 100000) (hz : xs.length * k.toNat ≤ sizeLine) : EdL K (tOp rRep ta tb) δ (List.replicate k.toNat xs).flatten := fun B σ H e Q q =>
  ha B σ H e _ fun p vs H1 n1 s1 hp hv => hb B σ H1 (e.mono s1) _ fun v H2 s2 h2 => by
    cases h2
    refine ⟨p, k, vs, rfl, rfl, s2 _ _ hp, by omega, by omega, by rw [dpAll_len hv]; exact hz, fun r hr => ?_⟩
    have s : Same H2 (upd H2 r (.lst (List.replicate k.toNat vs).flatten)) := same_new hr
    exact q r _ _ ((s1.trans s2).free hr) ((s1.trans s2).trans s) upd_same (dpAll_rep (dpAll_same (s2.trans s) _ _ hv) _)

/-! tests -/
theorem td_test {b : Bool} (h : Ed K te δ (.bool b)) : Td K (tTest te) δ b := fun B σ H e Q q => h B σ H e _ fun v H' s hv => by cases hv; exact ⟨b, rfl, q H' s⟩
theorem td_B {b : Bool} (h : Ed K te δ (.bool b)) : Td K (tB te) δ b := fun B σ H e Q q => h B σ H e _ fun v H' s hv => by cases hv; exact ⟨b, rfl, q H' s⟩
theorem td_and {a b : Bool} (h1 : Td K t δ a) (h2 : a = true → Td K u δ b) : Td K (tAnd t u) δ (a && b) := fun B σ H e Q q => h1 B σ H e _ fun H1 s1 => by
  cases a with
  | true => exact h2 rfl B σ H1 (e.mono s1) Q fun H2 s2 => q H2 (s1.trans s2)
  | false => exact q H1 s1
theorem td_or {a b : Bool} (h1 : Td K t δ a) (h2 : a = false → Td K u δ b) : Td K (tOr t u) δ (a || b) := fun B σ H e Q q => h1 B σ H e _ fun H1 s1 => by
  cases a with
  | true => exact q H1 s1
  | false => exact h2 rfl B σ H1 (e.mono s1) Q fun H2 s2 => q H2 (s1.trans s2)
theorem td_not {a : Bool} (h1 : Td K t δ a) : Td K (tNot t) δ (!a) := fun B σ H e Q q => h1 B σ H e _ fun H1 s1 => q H1 s1
theorem ed_andV {a b : Bool} (h1 : Ed K ta δ (.bool a)) (h2 : a = true → Ed K tb δ (.bool b)) : Ed K (tAndV ta tb) δ (.bool (a && b)) := fun B σ H e Q q => h1 B σ H e _ fun v H1 s1 hv => by
  cases hv
  refine ⟨a, rfl, ?_⟩
  cases a with
  | true => exact h2 rfl B σ H1 (e.mono s1) Q fun w H2 s2 h => q w H2 (s1.trans s2) h
  | false => exact q _ H1 s1 (.bl _)
theorem ed_orV {a b : Bool} (h1 : Ed K ta δ (.bool a)) (h2 : a = false → Ed K tb δ (.bool b)) : Ed K (tOrV ta tb) δ (.bool (a || b)) := fun B σ H e Q q => h1 B σ H e _ fun v H1 s1 hv => by
  cases hv
  refine ⟨a, rfl, ?_⟩
  cases a with
  | true => exact q _ H1 s1 (.bl _)
  | false => exact h2 rfl B σ H1 (e.mono s1) Q fun w H2 s2 h => q w H2 (s1.trans s2) h
theorem ed_notV {a : Bool} (h1 : Ed K ta δ (.bool a)) : Ed K (tNotV ta) δ (.bool (!a)) := fun B σ H e Q q => h1 B σ H e _ fun v H1 s1 hv => by
  cases hv
  exact ⟨a, rfl, q _ H1 s1 (.bl _)⟩
/-- a <= b <= c -/
theorem ed_chain {i j k : Int} (ha : Ed K ta δ (.int i)) (hb : Ed K tb δ (.int j)) (hc : Ed K tc δ (.int k)) : Ed K (tChain (rI0 fun i j => .bl (decide (i ≤ j))) (rI0 fun i j => .bl (decide (i ≤ j))) ta tb tc) δ (.bool (decide (i ≤ j) && decide (j ≤ k))) := fun B σ H e Q q =>
  ha B σ H e _ fun u H1 s1 h1 => hb B σ H1 (e.mono s1) _ fun v H2 s2 h2 => by
    cases h1; cases h2
    refine ⟨i, j, rfl, rfl, decide (i ≤ j), rfl, ?_⟩
    cases hd : decide (i ≤ j) with
    | true =>
      rw [if_pos rfl]
      refine hc B σ H2 ((e.mono s1).mono s2) _ fun w H3 s3 h3 => ?_
      cases h3
      rw [hd, Bool.true_and] at q
      exact ⟨j, k, rfl, rfl, q _ H3 ((s1.trans s2).trans s3) (.bl _)⟩
    | false =>
      rw [if_neg (by decide)]
      rw [hd, Bool.false_and] at q
      exact q _ H2 (s1.trans s2) (.bl _)

/-! arguments, displays -/
theorem ea_nil : EdA K tNil δ [] := fun B σ H e Q q => q [] H (Same.refl H) .nil
theorem ea_cons {tr : TA} {ds : List PyData} (ha : Ed K ta δ x) (hr : EdA K tr δ ds) : EdA K (tCons ta tr) δ (x :: ds) := fun B σ H e Q q =>
  ha B σ H e _ fun v H1 s1 h1 => hr B σ H1 (e.mono s1) _ fun vs H2 s2 h2 => q _ H2 (s1.trans s2) (.cons (dp_same s2 _ _ h1) h2)
theorem ed_tup {ts : TA} {ds : List PyData} (h : EdA K ts δ ds) (hz : ds.length ≤ 1000 := by decide) : Ed K (tTup ts) δ (.tuple ds) := fun B σ H e Q q =>
  h B σ H e _ fun vs H1 s1 h1 => ⟨by rw [dpAll_len h1]; exact Nat.le_of_lt (small1000 hz), fun p hp => by
    have s : Same H1 (upd H1 p (.tup vs)) := same_new hp
    exact q _ _ (s1.trans s) (.tup (SqT.of upd_same) (dpAll_same s _ _ h1))⟩
theorem el_lst {ts : TA} {ds : List PyData} (h : EdA K ts δ ds) (hz : ds.length ≤ 1000 := by decide) : EdL K (tLst ts) δ ds := fun B σ H e Q q =>
  h B σ H e _ fun vs H1 s1 h1 => ⟨by rw [dpAll_len h1]; exact Nat.le_of_lt (small1000 hz), fun p hp => by
    have s : Same H1 (upd H1 p (.lst vs)) := same_new hp
    exact q p vs _ (s1.free hp) (s1.trans s) upd_same (dpAll_same s _ _ h1)⟩

/-! built-ins -/
/-- a call by values -/
theorem ed_cb {r : List V → Hp → VK → Prop} {ts : TA} {ds : List PyData} (h : EdA K ts δ ds) (hr : ∀ (H : Hp) (vs : List V), DpAll K H vs ds → ∀ Q : VK, (∀ w H', Same H H' → Dp K H' w z → Q w H') → r vs H Q) : Ed K (tCB r ts) δ z := fun B σ H e Q q =>
  h B σ H e _ fun vs H1 s1 h1 => hr H1 vs h1 Q fun w H2 s2 h2 => q w H2 (s1.trans s2) h2
theorem el_cb {r : List V → Hp → VK → Prop} {ts : TA} {ds xs : List PyData} (h : EdA K ts δ ds) (hr : ∀ (H : Hp) (vs : List V), DpAll K H vs ds → ∀ Q : VK, (∀ p ws H', H p = none → Same H H' → H' p = some (.lst ws) → DpAll K H' ws xs → Q (.ref p) H') → r vs H Q) : EdL K (tCB r ts) δ xs := fun B σ H e Q q =>
  h B σ H e _ fun vs H1 s1 h1 => hr H1 vs h1 Q fun p ws H2 hp s2 h2 h3 => q p ws H2 (s1.free hp) (s1.trans s2) h2 h3
theorem ed_len {ds : List PyData} (h : Ed K ta δ x) (hx : x = .tuple ds ∨ x = .list ds) : Ed K (tCB (rLen K) (tCons ta tNil)) δ (.int (ds.length : Int)) :=
  ed_cb (ea_cons h ea_nil) fun H vs hv Q q => by
    obtain ⟨v, ws, rfl, h1, h2⟩ := dpAll_cons hv
    have e := dpAll_nil h2
    subst e
    rcases hx with rfl | rfl
    · cases h1 with
      | tup hs hv => exact ⟨_, _, rfl, .inr hs, by rw [dpAll_len hv]; exact q _ H (Same.refl H) (.int _)⟩
    · cases h1 with
      | lst hs hv => exact ⟨_, _, rfl, .inl hs, by rw [dpAll_len hv]; exact q _ H (Same.refl H) (.int _)⟩
theorem ed_lenT {ds : List PyData} (h : Ed K ta δ (.tuple ds)) : Ed K (tCB (rLen K) (tCons ta tNil)) δ (.int (ds.length : Int)) := ed_len h (.inl rfl)
theorem ed_lenL {ds : List PyData} (h : Ed K ta δ (.list ds)) : Ed K (tCB (rLen K) (tCons ta tNil)) δ (.int (ds.length : Int)) := ed_len h (.inr rfl)
theorem ed_tupOf {ds : List PyData} (h : Ed K ta δ x) (hx : x = .tuple ds ∨ x = .list ds) : Ed K (tCB (rTupOf K) (tCons ta tNil)) δ (.tuple ds) :=
  ed_cb (ea_cons h ea_nil) fun H vs hv Q q => by
    obtain ⟨v, ws, rfl, h1, h2⟩ := dpAll_cons hv
    have e := dpAll_nil h2
    subst e
    rcases hx with rfl | rfl
    · cases h1 with
      | tup hs hv => exact ⟨_, _, rfl, .inr ⟨hs, q _ H (Same.refl H) (.tup hs hv)⟩⟩
    · cases h1 with
      | lst hs hv => exact ⟨_, _, rfl, .inl ⟨hs, fun l hl => by
          exact q _ _ (same_new hl) (.tup (SqT.of upd_same) (dpAll_same (same_new hl) _ _ hv))⟩⟩
theorem ed_tupL {ds : List PyData} (h : EdL K ta δ ds) : Ed K (tCB (rTupOf K) (tCons ta tNil)) δ (.tuple ds) := ed_tupOf (Ed.of_l h) (.inr rfl)
theorem ed_intB {b : Bool} (h : Ed K ta δ (.bool b)) : Ed K (tCB rIntB (tCons ta tNil)) δ (.int (if b then 1 else 0)) :=
  ed_cb (ea_cons h ea_nil) fun H vs hv Q q => by
    obtain ⟨v, ws, rfl, h1, h2⟩ := dpAll_cons hv
    have e := dpAll_nil h2
    subst e
    cases h1
    exact .inr ⟨b, rfl, q _ H (Same.refl H) (.int _)⟩
theorem ed_min2 {i j : Int} (ha : Ed K ta δ (.int i)) (hb : Ed K tb δ (.int j)) : Ed K (tCB rMin2 (tCons ta (tCons tb tNil))) δ (.int (if j < i then j else i)) :=
  ed_cb (ea_cons ha (ea_cons hb ea_nil)) fun H vs hv Q q => by
    obtain ⟨v, ws, rfl, h1, h2⟩ := dpAll_cons hv
    obtain ⟨v', ws', rfl, h1', h2'⟩ := dpAll_cons h2
    have e := dpAll_nil h2'
    subst e
    cases h1; cases h1'
    exact ⟨i, j, rfl, q _ H (Same.refl H) (.int _)⟩
theorem ed_sum {ns : List Int} (h : Ed K ta δ (.list (ns.map .int))) : Ed K (tCB (rSum K) (tCons ta tNil)) δ (.int ns.sum) :=
  ed_cb (ea_cons h ea_nil) fun H vs hv Q q => by
    obtain ⟨v, ws, rfl, h1, h2⟩ := dpAll_cons hv
    have e := dpAll_nil h2
    subst e
    cases h1 with
    | lst hs hv =>
      have e := dpAll_int hv
      subst e
      exact ⟨_, ns, rfl, hs, q _ H (Same.refl H) (.int _)⟩
theorem ed_all {bs : List Bool} (h : Ed K ta δ (.list (bs.map .bool))) : Ed K (tCB (rAll K) (tCons ta tNil)) δ (.bool (bs.all id)) :=
  ed_cb (ea_cons h ea_nil) fun H vs hv Q q => by
    obtain ⟨v, ws, rfl, h1, h2⟩ := dpAll_cons hv
    have e := dpAll_nil h2
    subst e
    cases h1 with
    | lst hs hv =>
      have e := dpAll_bool hv
      subst e
      exact ⟨_, bs, rfl, hs, q _ H (Same.refl H) (.bl _)⟩
theorem ed_minT {n : Int} {ns : List Int} (h : Ed K ta δ (.tuple ((n :: ns).map .int))) : Ed K (tCB (rMinT K) (tCons ta tNil)) δ (.int (ns.foldl min n)) :=
  ed_cb (ea_cons h ea_nil) fun H vs hv Q q => by
    obtain ⟨v, ws, rfl, h1, h2⟩ := dpAll_cons hv
    have e := dpAll_nil h2
    subst e
    cases h1 with
    | tup hs hv =>
      have e := dpAll_int hv
      subst e
      exact ⟨_, n, ns, rfl, hs, q _ H (Same.refl H) (.int _)⟩
theorem ed_maxT {n : Int} {ns : List Int} (h : Ed K ta δ (.tuple ((n :: ns).map .int))) : Ed K (tCB (rMaxT K) (tCons ta tNil)) δ (.int (ns.foldl max n)) :=
  ed_cb (ea_cons h ea_nil) fun H vs hv Q q => by
    obtain ⟨v, ws, rfl, h1, h2⟩ := dpAll_cons hv
    have e := dpAll_nil h2
    subst e
    cases h1 with
    | tup hs hv =>
      have e := dpAll_int hv
      subst e
      exact ⟨_, n, ns, rfl, hs, q _ H (Same.refl H) (.int _)⟩
/-- the one rising row of the same ints -/
theorem perm_sorted_eq : ∀ {xs ys : List Int}, xs.Perm ys → xs.Pairwise (· ≤ ·) → ys.Pairwise (· ≤ ·) → xs = ys := fun p h1 h2 =>
  List.Perm.eq_of_pairwise (fun a b _ _ h h' => Int.le_antisymm h h') h1 h2 p
theorem el_sortedT {ns ms : List Int} (h : Ed K ta δ (.tuple (ns.map .int))) (hp : ms.Perm ns) (ho : ms.Pairwise (· ≤ ·)) : EdL K (tCB (rSortedT K) (tCons ta tNil)) δ (ms.map .int) :=
  el_cb (ea_cons h ea_nil) fun H vs hv Q q => by
    obtain ⟨v, ws, rfl, h1, h2⟩ := dpAll_cons hv
    have e := dpAll_nil h2
    subst e
    cases h1 with
    | tup hs hv =>
      have e := dpAll_int hv
      subst e
      refine ⟨_, ns, rfl, hs, fun ns' p hp' ho' hn => ?_⟩
      have e : ns' = ms := perm_sorted_eq (hp'.trans hp.symm) ho' ho
      subst e
      have s : Same H (upd H p (.lst (ns'.map V.int))) := same_new hn
      exact q p _ _ hn s upd_same (int_dpAll ns')
theorem el_listOf {ds : List PyData} (h : Ed K ta δ x) (hx : x = .tuple ds ∨ x = .list ds) : EdL K (tCB (rLstOf K) (tCons ta tNil)) δ ds :=
  el_cb (ea_cons h ea_nil) fun H vs hv Q q => by
    obtain ⟨v, ws, rfl, h1, h2⟩ := dpAll_cons hv
    have e := dpAll_nil h2
    subst e
    rcases hx with rfl | rfl
    · cases h1 with
      | tup hs hv =>
        refine ⟨_, _, rfl, .inr hs, fun l hl => ?_⟩
        exact q l _ _ hl (same_new hl) upd_same (dpAll_same (same_new hl) _ _ hv)
    · cases h1 with
      | lst hs hv =>
        refine ⟨_, _, rfl, .inl hs, fun l hl => ?_⟩
        exact q l _ _ hl (same_new hl) upd_same (dpAll_same (same_new hl) _ _ hv)
/-- len(set(t)), sorted(set(t)): by any row of the same members, none twice -/
theorem nodup_len {ks ms : List Int} (h1 : ks.Nodup) (h2 : ms.Nodup) (h : ∀ k, k ∈ ks ↔ k ∈ ms) : ks.length = ms.length :=
  ((List.perm_ext_iff_of_nodup h1 h2).mpr h).length_eq
theorem ed_lenSet {w : World} {ns ms : List Int} (h : Ed K ta δ (.tuple (ns.map .int))) (hz : ns.length ≤ 1000) (hm : ms.Nodup) (he : ∀ k, k ∈ ms ↔ k ∈ ns) : Ed K (tCB (rLenSet w) (tCons (tCB (rSetI K w) (tCons ta tNil)) tNil)) δ (.int (ms.length : Int)) := fun B σ H e Q q =>
  h B σ H e _ fun v H1 s1 h1 => by
    cases h1 with
    | tup hs hv =>
      have e' := dpAll_int hv
      subst e'
      refine ⟨_, ns, rfl, hs, hz, fun a c ha hc => ⟨a, _, c, rfl, upd_same, fun ⟨ks, k1, k2, k3⟩ => ?_⟩⟩
      have s : Same H1 (upd H1 a (SetO w a (fun j => decide (j ∈ ns)) c)) := same_new ha
      have el : ms.length = c := by
        rw [← k3]
        exact (nodup_len k1 hm fun k => by rw [k2, decide_eq_true_eq, he]).symm
      have q2 := q (.int (ms.length : Int)) _ (s1.trans s) (.int _)
      have e3 : (c : Int) = (ms.length : Int) := by rw [el]
      rw [e3]
      exact q2
theorem lt_sorted_eq {xs ys : List Int} (h1 : xs.Pairwise (· < ·)) (h2 : ys.Pairwise (· < ·)) (h : ∀ k, k ∈ xs ↔ k ∈ ys) : xs = ys := by
  have n1 : xs.Nodup := h1.imp fun h => Int.ne_of_lt h
  have n2 : ys.Nodup := h2.imp fun h => Int.ne_of_lt h
  exact perm_sorted_eq ((List.perm_ext_iff_of_nodup n1 n2).mpr h) (h1.imp fun h => Int.le_of_lt h) (h2.imp fun h => Int.le_of_lt h)
theorem el_sortedSet {w : World} {ns ms : List Int} (h : Ed K ta δ (.tuple (ns.map .int))) (hz : ns.length ≤ 60) (hm : ms.Pairwise (· < ·)) (he : ∀ k, k ∈ ms ↔ k ∈ ns) : EdL K (tCB (rSortedSet w) (tCons (tCB (rSetI K w) (tCons ta tNil)) tNil)) δ (ms.map .int) := fun B σ H e Q q =>
  h B σ H e _ fun v H1 s1 h1 => by
    cases h1 with
    | tup hs hv =>
      have e' := dpAll_int hv
      subst e'
      refine ⟨_, ns, rfl, hs, by omega, fun a c ha hc => ⟨a, _, c, rfl, upd_same, by omega, fun ks p k1 k2 k3 hp => ?_⟩⟩
      have s : Same H1 (upd H1 a (SetO w a (fun j => decide (j ∈ ns)) c)) := same_new ha
      have s' : Same (upd H1 a (SetO w a (fun j => decide (j ∈ ns)) c)) (upd (upd H1 a (SetO w a (fun j => decide (j ∈ ns)) c)) p (.lst (ks.map V.int))) := same_new hp
      have el : ks = ms := lt_sorted_eq k1 hm fun k => by rw [k2, decide_eq_true_eq, he]
      subst el
      exact q p _ _ ((s1.trans s).free hp) ((s1.trans s).trans s') upd_same (int_dpAll ks)

/-! slices -/
theorem eo_none : EdO K tNoPart δ none := fun B σ H e Q q => q H (Same.refl H)
theorem eo_some {i : Int} (h : Ed K te δ (.int i)) : EdO K (tPart te) δ (some i) := fun B σ H e Q q => h B σ H e _ fun v H' s hv => by cases hv; exact ⟨i, rfl, q H' s⟩
def cutD (ds : List PyData) (lo hi : Option Int) : List PyData := (ds.drop (HT.sIx ds.length 0 lo)).take (HT.sIx ds.length ds.length hi - HT.sIx ds.length 0 lo)
theorem dpAll_cut {H : Hp} {vs : List V} {ds : List PyData} (h : DpAll K H vs ds) (lo hi : Option Int) : DpAll K H (cutV vs lo hi) (cutD ds lo hi) := by
  unfold cutV cutD
  rw [dpAll_len h]
  exact dpAll_take _ (dpAll_drop _ h)
theorem cut_whole {ds : List PyData} {lo hi : Option Int} (h : HT.sIx ds.length 0 lo = 0 ∧ HT.sIx ds.length ds.length hi = ds.length) : cutD ds lo hi = ds := by
  unfold cutD
  rw [h.1, h.2]
  simp
theorem ed_slT {tl th : TO} {ds : List PyData} {lo hi : Option Int} (h : Ed K te δ (.tuple ds)) (h1 : EdO K tl δ lo) (h2 : EdO K th δ hi) : Ed K (tSl (rSlA K) te tl th) δ (.tuple (cutD ds lo hi)) := fun B σ H e Q q =>
  h B σ H e _ fun v H1 s1 hv => h1 B σ H1 (e.mono s1) _ fun H2 s2 => h2 B σ H2 ((e.mono s1).mono s2) _ fun H3 s3 => by
    have hv3 := dp_same (s2.trans s3) _ _ hv
    cases hv3 with
    | tup hs ha =>
      refine ⟨_, _, rfl, hs, fun hw => ?_, fun _ p hp => ?_⟩
      · rw [dpAll_len ha] at hw
        rw [cut_whole hw] at q
        exact q _ H3 ((s1.trans s2).trans s3) (.tup hs ha)
      · exact q _ _ (((s1.trans s2).trans s3).trans (same_new hp)) (.tup (SqT.of upd_same) (dpAll_cut (dpAll_same (same_new hp) _ _ ha) lo hi))
theorem el_slL {tl th : TO} {ds : List PyData} {lo hi : Option Int} (h : Ed K te δ (.list ds)) (h1 : EdO K tl δ lo) (h2 : EdO K th δ hi) : EdL K (tSl (rSlL K) te tl th) δ (cutD ds lo hi) := fun B σ H e Q q =>
  h B σ H e _ fun v H1 s1 hv => h1 B σ H1 (e.mono s1) _ fun H2 s2 => h2 B σ H2 ((e.mono s1).mono s2) _ fun H3 s3 => by
    have hv3 := dp_same (s2.trans s3) _ _ hv
    cases hv3 with
    | lst hs ha =>
      refine ⟨_, _, rfl, hs, fun p hp => ?_⟩
      exact q p _ _ (((s1.trans s2).trans s3).free hp) (((s1.trans s2).trans s3).trans (same_new hp)) upd_same (dpAll_cut (dpAll_same (same_new hp) _ _ ha) lo hi)

/-! isinstance -/
def tyN : PyData → String
  | .none => "NoneType"
  | .bool _ => "bool"
  | .int _ => "int"
  | .str _ => "str"
  | .list _ => "list"
  | .tuple _ => "tuple"
  | .dict _ => "dict"
theorem dp_ty {H : Hp} {v : V} (h : Dp K H v x) : TyX K H v (.type (tyN x)) := by
  cases h with
  | non => exact .base .non
  | bl b => exact .base (.bl b)
  | int i => exact .base (.int i)
  | str s => exact .base (.str s)
  | lst hs ha =>
    rcases hs with (h | ⟨o, h⟩) | ⟨o, its, n, h, hc, _⟩
    · exact .base (.lst h)
    · exact .base (.frz h)
    · exact .kList h hc
  | tup hs ha =>
    rcases hs with (h | ⟨o, h⟩) | ⟨o, its, n, h, hc, _⟩
    · exact .base (.tup h)
    · exact .fTuple h
    · exact .kTuple h hc
theorem ed_isi {T : String} {b : Bool} (h : Ed K ta δ x) (hb : kitB (tyN x) T = some b) : Ed K (tCB (rIsi K) (tCons ta (tCons (tC (.ty T)) tNil))) δ (.bool b) := fun B σ H e Q q =>
  h B σ H e _ fun v H1 s1 h1 => ⟨v, .ty T, .type (tyN x), .type T, b, rfl, .ty T, dp_ty h1, kit_ty hb, q _ H1 s1 (.bl _)⟩
theorem ed_isi2 {T U : String} {b c : Bool} (h : Ed K ta δ x) (hb : kitB (tyN x) T = some b) (hc : kitB (tyN x) U = some c) : Ed K (tCB (rIsiT K) (tCons ta (tCons (tTup (tCons (tC (.ty T)) (tCons (tC (.ty U)) tNil))) tNil))) δ (.bool (b || c)) := fun B σ H e Q q =>
  h B σ H e _ fun v H1 s1 h1 => ⟨by show 2 ≤ sizeLine; decide, fun p hp => by
    have s : Same H1 (upd H1 p (.tup [.ty T, .ty U])) := same_new hp
    refine ⟨v, p, [.ty T, .ty U], .type (tyN x), [.type T, .type U], b || c, rfl, upd_same, .cons (.ty T) (.cons (.ty U) .nil), dp_ty (dp_same s _ _ h1), ?_, q _ _ (s1.trans s) (.bl _)⟩
    refine kitAny_cons (kit_ty hb) (fun e1 => ?_) (fun e1 => by rw [e1]; rfl)
    rw [e1, Bool.false_or]
    exact kitAny_cons (kit_ty hc) (fun e2 => by rw [e2]; exact kitAny_nil) (fun e2 => e2)⟩
end
end WD

namespace WD
open PySem L2

/-! ### what a def hands back; a statement's word -/
inductive Res where
  | d (x : PyData)
  | l (xs : List PyData)
def RetOk (K : PySem.W.Frag) (B H : Hp) (v : V) : Res → Prop
  | .d x => Dp K H v x
  | .l xs => ∃ p vs, v = .ref p ∧ B p = none ∧ H p = some (.lst vs) ∧ DpAll K H vs xs
theorem RetOk.ground {K : PySem.W.Frag} {B B' H : Hp} {v : V} {r : Res} (s : Same B B') (h : RetOk K B' H v r) : RetOk K B H v r := by
  cases r with
  | d x => exact h
  | l xs =>
    obtain ⟨p, vs, rfl, h1, h2, h3⟩ := h
    exact ⟨p, vs, rfl, s.free h1, h2, h3⟩
theorem Env.reground {K : PySem.W.Frag} {B B' H : Hp} {δ : List Cell} {σ : L2.St} (s : Same B B') (h : Env K B' H δ σ) : Env K B H δ σ :=
  ⟨s.trans h.ex, fun p hp => s.free (h.fr p hp), h.nd, h.ok⟩
def Sd (K : PySem.W.Frag) (ts : TS) (δ : List Cell) (N : List Cell → Prop) (R : Res → List Cell → Prop) : Prop :=
  ∀ (B : Hp) (σ : L2.St) (H : Hp) (D : Ends), Env K B H δ σ → (∀ δ' σ' H', N δ' → Env K B H' δ' σ' → D.nx σ' H') → (∀ r δ' v σ' H', R r δ' → Env K B H' δ' σ' → RetOk K B H' v r → D.rt v H') → ts D σ H
/-- no list of its own stands by, or the data has none -/
abbrev Fz (δ : List Cell) (d : PyData) : Prop := muts δ = [] ∨ lf d = true
abbrev FzA (δ : List Cell) (ds : List PyData) : Prop := muts δ = [] ∨ lfAll ds = true

section
variable {K : PySem.W.Frag} {δ : List Cell} {ta tb tc te tl ti : TE} {tt : TT} {x y z d : PyData} {t u : TS} {M N : List Cell → Prop} {R : Res → List Cell → Prop} {P P' : PyData → Prop} {i j : Nat}
theorem sd_seq (h1 : Sd K t δ M R) (h2 : ∀ δ', M δ' → Sd K u δ' N R) : Sd K (tSeq t u) δ N R := fun B σ H D e hn hr =>
  h1 B σ H { D with nx := u D } e (fun δ' σ' H' m e' => h2 δ' m B σ' H' D e' hn hr) hr
theorem sd_next (h : N δ) : Sd K tNext δ N R := fun B σ H D e hn hr => hn δ σ H h e
theorem sd_asg (h : Ed K te δ d) (hf : Fz δ d) (k : N (δ.set i (.d d))) : Sd K (tAsg te (gName i)) δ N R := fun B σ H D e hn hr =>
  h B σ H e _ fun v H' s hv => hn _ _ _ k ((e.mono s).set_d i hv hf)
theorem sd_asgP (h : EdP K te δ P) (k : ∀ d, P d → Fz δ d ∧ N (δ.set i (.d d))) : Sd K (tAsg te (gName i)) δ N R := fun B σ H D e hn hr =>
  h B σ H e _ fun d v H' hp s hv => hn _ _ _ (k d hp).2 ((e.mono s).set_d i hv (k d hp).1)
theorem sd_asgL {xs : List PyData} (h : EdL K te δ xs) (hf : lfAll xs = true) (k : ∀ p, N (δ.set i (.m p xs))) : Sd K (tAsg te (gName i)) δ N R := fun B σ H D e hn hr =>
  h B σ H e _ fun p vs H' n s hp hv => hn _ _ _ (k p) (e.set_m i s n hp hv hf)
theorem sq_asg (h : Ed K te δ d) (hf : Fz δ d) (k : Sd K u (δ.set i (.d d)) N R) : Sd K (tSeq (tAsg te (gName i)) u) δ N R :=
  sd_seq (M := fun δ' => δ' = δ.set i (.d d)) (sd_asg h hf rfl) fun δ' e => e ▸ k
theorem sq_asgP (h : EdP K te δ P) (k : ∀ d, P d → Fz δ d ∧ Sd K u (δ.set i (.d d)) N R) : Sd K (tSeq (tAsg te (gName i)) u) δ N R :=
  sd_seq (M := fun δ' => ∃ d, P d ∧ δ' = δ.set i (.d d)) (sd_asgP h fun d hp => ⟨(k d hp).1, d, hp, rfl⟩) fun δ' ⟨d, hp, e⟩ => e ▸ (k d hp).2
theorem sq_asgL {xs : List PyData} (h : EdL K te δ xs) (hf : lfAll xs = true) (k : ∀ p, Sd K u (δ.set i (.m p xs)) N R) : Sd K (tSeq (tAsg te (gName i)) u) δ N R :=
  sd_seq (M := fun δ' => ∃ p, δ' = δ.set i (.m p xs)) (sd_asgL h hf fun p => ⟨p, rfl⟩) fun δ' ⟨p, e⟩ => e ▸ k p
/-- a, b = x, y -/
theorem sd_parP (ha : EdP K ta δ P) (hb : EdP K tb δ P') (k : ∀ x y, P x → P' y → Fz δ x ∧ Fz δ y ∧ N ((δ.set i (.d x)).set j (.d y))) : Sd K (tPar i j (tCons ta (tCons tb tNil))) δ N R := fun B σ H D e hn hr =>
  ha B σ H e _ fun x v H1 hx s1 h1 => hb B σ H1 (e.mono s1) _ fun y w H2 hy s2 h2 => ⟨v, w, rfl, by
    obtain ⟨k1, k2, k3⟩ := k x y hx hy
    have e2 := ((e.mono s1).mono s2).set_d i (dp_same s2 _ _ h1) k1
    refine hn _ _ _ k3 (e2.set_d j h2 ?_)
    rcases k2 with q | q
    · left
      cases hm : muts (δ.set i (.d x)) with
      | nil => rfl
      | cons p ps =>
        have : p ∈ muts δ := muts_set_d (by rw [hm]; exact List.mem_cons_self)
        rw [q] at this; cases this
    · exact .inr q⟩
theorem sq_parP (ha : EdP K ta δ P) (hb : EdP K tb δ P') (k : ∀ x y, P x → P' y → Fz δ x ∧ Fz δ y ∧ Sd K u ((δ.set i (.d x)).set j (.d y)) N R) : Sd K (tSeq (tPar i j (tCons ta (tCons tb tNil))) u) δ N R :=
  sd_seq (M := fun δ' => ∃ x y, P x ∧ P' y ∧ δ' = (δ.set i (.d x)).set j (.d y)) (sd_parP ha hb fun x y hx hy => ⟨(k x y hx hy).1, (k x y hx hy).2.1, x, y, hx, hy, rfl⟩) fun δ' ⟨x, y, hx, hy, e⟩ => e ▸ (k x y hx hy).2.2
theorem sq_par (ha : Ed K ta δ x) (hb : Ed K tb δ y) (hx : Fz δ x) (hy : Fz δ y) (k : Sd K u ((δ.set i (.d x)).set j (.d y)) N R) : Sd K (tSeq (tPar i j (tCons ta (tCons tb tNil))) u) δ N R :=
  sq_parP (ha.p (P := (· = x)) rfl) (hb.p (P := (· = y)) rfl) fun x' y' e1 e2 => by subst e1; subst e2; exact ⟨hx, hy, k⟩
theorem sd_par (ha : Ed K ta δ x) (hb : Ed K tb δ y) (hx : Fz δ x) (hy : Fz δ y) (k : N ((δ.set i (.d x)).set j (.d y))) : Sd K (tPar i j (tCons ta (tCons tb tNil))) δ N R :=
  sd_parP (ha.p (P := (· = x)) rfl) (hb.p (P := (· = y)) rfl) fun x' y' e1 e2 => by subst e1; subst e2; exact ⟨hx, hy, k⟩
/-- a, b, .. = a tuple: the names one by one -/
def Gs (K : PySem.W.Frag) (g : TGs) (is : List Nat) : Prop := ∀ (vs : List V) (ds : List PyData) (B : Hp) (δ : List Cell) (σ : L2.St) (H : Hp) (Q : L2.St → Hp → Prop), vs.length = is.length → DpAll K H vs ds → Env K B H δ σ → FzA δ ds →
  (∀ σ', Env K B H ((is.zip ds).foldl (fun δ p => δ.set p.1 (.d p.2)) δ) σ' → Q σ' H) → g vs σ H Q
theorem gs_nil : Gs K gNil [] := fun vs ds B δ σ H Q hl hv e hf k => by
  have e1 : vs = [] := List.eq_nil_of_length_eq_zero hl
  subst e1
  exact ⟨rfl, k σ e⟩
theorem fz_set {δ : List Cell} {x : PyData} {i : Nat} {ds : List PyData} (h : FzA δ ds) : FzA (δ.set i (.d x)) ds := by
  rcases h with q | q
  · left
    cases hm : muts (δ.set i (.d x)) with
    | nil => rfl
    | cons p ps =>
      have : p ∈ muts δ := muts_set_d (by rw [hm]; exact List.mem_cons_self)
      rw [q] at this; cases this
  · exact .inr q
theorem gs_cons {g : TGs} {is : List Nat} (h : Gs K g is) : Gs K (gCons (gName i) g) (i :: is) := fun vs ds B δ σ H Q hl hv e hf k => by
  cases hv with
  | nil => cases hl
  | @cons v vr d dr h1 h2 =>
    refine ⟨v, vr, rfl, ?_⟩
    have hf1 : Fz δ d := by
      rcases hf with q | q
      · exact .inl q
      · unfold lfAll at q; rw [Bool.and_eq_true] at q; exact .inr q.1
    have hf2 : FzA δ dr := by
      rcases hf with q | q
      · exact .inl q
      · unfold lfAll at q; rw [Bool.and_eq_true] at q; exact .inr q.2
    exact h vr dr B _ _ H Q (by simpa using hl) h2 (e.set_d i h1 hf1) (fz_set hf2) k
theorem sd_unp {g : TGs} {is : List Nat} {n : Nat} {ds : List PyData} (hg : Gs K g is) (h : Ed K te δ (.tuple ds)) (hn : is.length = n) (hl : ds.length = n) (hf : FzA δ ds) (k : N ((is.zip ds).foldl (fun δ p => δ.set p.1 (.d p.2)) δ)) : Sd K (tAsg te (gTup K n g)) δ N R := fun B σ H D e hN hr =>
  h B σ H e _ fun v H' s hv => by
    cases hv with
    | tup hs ha => exact ⟨_, _, rfl, hs, (dpAll_len ha).trans hl, hg _ _ B δ σ H' _ ((dpAll_len ha).trans (hl.trans hn.symm)) ha (e.mono s) hf fun σ' e' => hN _ _ _ k e'⟩
theorem sq_unp {g : TGs} {is : List Nat} {n : Nat} {ds : List PyData} (hg : Gs K g is) (h : Ed K te δ (.tuple ds)) (hn : is.length = n) (hl : ds.length = n) (hf : FzA δ ds) (k : Sd K u ((is.zip ds).foldl (fun δ p => δ.set p.1 (.d p.2)) δ) N R) : Sd K (tSeq (tAsg te (gTup K n g)) u) δ N R :=
  sd_seq (M := fun δ' => δ' = (is.zip ds).foldl (fun δ p => δ.set p.1 (.d p.2)) δ) (sd_unp hg h hn hl hf rfl) fun δ' e => e ▸ k
/-- if -/
theorem sd_if {b : Bool} (h : Td K tt δ b) (h1 : b = true → Sd K t δ N R) (h2 : b = false → Sd K u δ N R) : Sd K (tIfS tt t u) δ N R := fun B σ H D e hn hr =>
  h B σ H e _ fun H' s => by
    cases b with
    | true => exact h1 rfl B σ H' D (e.mono s) hn hr
    | false => exact h2 rfl B σ H' D (e.mono s) hn hr
/-- a guard that does not hold -/
theorem sq_guard (h : Td K tt δ false) (k : Sd K u δ N R) : Sd K (tSeq (tIfS tt t tNext) u) δ N R := fun B σ H D e hn hr =>
  h B σ H e _ fun H' s => k B σ H' D (e.mono s) hn hr
theorem sq_if {t1 t2 : TS} {b : Bool} (h : Td K tt δ b) (h1 : b = true → Sd K t1 δ M R) (h2 : b = false → Sd K t2 δ M R) (k : ∀ δ', M δ' → Sd K u δ' N R) : Sd K (tSeq (tIfS tt t1 t2) u) δ N R :=
  sd_seq (sd_if h h1 h2) k
/-- if c: return .. (or a way that ends), else what follows -/
theorem sq_when {b : Bool} (h : Td K tt δ b) (h1 : b = true → Sd K t δ (fun _ => False) R) (h2 : b = false → Sd K u δ N R) : Sd K (tSeq (tIfS tt t tNext) u) δ N R := fun B σ H D e hn hr =>
  h B σ H e _ fun H' s => by
    cases b with
    | true => exact h1 rfl B σ H' { D with nx := u D } (e.mono s) (fun _ _ _ z _ => z.elim) hr
    | false => exact h2 rfl B σ H' D (e.mono s) hn hr
theorem sd_ret (h : Ed K te δ d) (k : R (.d d) δ) : Sd K (tRet te) δ N R := fun B σ H D e hn hr => h B σ H e _ fun v H' s hv => hr _ _ v σ H' k (e.mono s) hv
theorem sd_retP (h : EdP K te δ P) (k : ∀ d, P d → R (.d d) δ) : Sd K (tRet te) δ N R := fun B σ H D e hn hr => h B σ H e _ fun d v H' hp s hv => hr _ _ v σ H' (k d hp) (e.mono s) hv
theorem sd_retL {xs : List PyData} (h : EdL K te δ xs) (k : R (.l xs) δ) : Sd K (tRet te) δ N R := fun B σ H D e hn hr => h B σ H e _ fun p vs H' n s hp hv => hr _ _ _ σ H' k (e.mono s) ⟨p, vs, rfl, e.ex.free n, hp, hv⟩
theorem sd_retm {p : Addr} {xs : List PyData} (h : δ[i]? = some (.m p xs)) (k : R (.l xs) δ) : Sd K (tRet (tVar i)) δ N R := fun B σ H D e hn hr => by
  obtain ⟨h1, vs, h2, h3⟩ := e.get_m h
  exact ⟨_, h1, hr _ _ _ σ H k e ⟨p, vs, rfl, e.fr p (muts_get h), h2, h3⟩⟩
theorem sd_imp {N' : List Cell → Prop} {R' : Res → List Cell → Prop} (h : Sd K t δ N R) (hn : ∀ δ', N δ' → N' δ') (hr : ∀ r δ', R r δ' → R' r δ') : Sd K t δ N' R' := fun B σ H D e kn kr =>
  h B σ H D e (fun δ' σ' H' n => kn δ' σ' H' (hn δ' n)) fun r δ' v σ' H' q => kr r δ' v σ' H' (hr r δ' q)

/-! loops -/
theorem sd_for {ds : List PyData} (h : Ed K tl δ x) (hx : x = .tuple ds ∨ (x = .list ds ∧ muts δ = [])) (hf : FzA δ ds) (I : Nat → List Cell → Prop) (h0 : I 0 δ)
    (hs : ∀ k d δ', ds[k]? = some d → I k δ' → Fz δ' d ∧ Sd K t (δ'.set i (.d d)) (I (k + 1)) R) (hd : ∀ δ', I ds.length δ' → N δ') : Sd K (tFor (iSeq K tl) (gName i) t) δ N R := fun B σ H D e hn hr =>
  h B σ H e _ fun v H1 s hv => by
    have e1 := e.mono s
    have s1 := e1.unground
    have eg := e1.ground
    have hl := muts_lists e1.ok
    have main : ∀ (xs : List V), DpAll K (off H1 (muts δ)) xs ds → ∀ k x σ' H', xs[k]? = some x → (∃ δ', I k δ' ∧ Env K (off H1 (muts δ)) H' δ' σ') →
        gName i x σ' H' fun σ2 H2 => t { D with nx := fun σ'' H'' => ∃ δ', I (k + 1) δ' ∧ Env K (off H1 (muts δ)) H'' δ' σ'', ct := fun σ'' H'' => ∃ δ', I (k + 1) δ' ∧ Env K (off H1 (muts δ)) H'' δ' σ'', bk := D.nx } σ2 H2 := fun xs hxs k x σ' H' hk ⟨δ', hi, e'⟩ => by
      obtain ⟨d, hd1, hd2⟩ := dpAll_get' hxs hk
      obtain ⟨f1, b1⟩ := hs k d δ' hd1 hi
      exact b1 _ _ H' _ (e'.set_d i (dp_same e'.ex _ _ hd2) f1) (fun δ'' σ'' H'' n e'' => ⟨δ'', n, e''⟩) fun r δ'' w σ'' H'' q e'' ro => hr r δ'' w σ'' H'' q (e''.reground s1) (ro.ground s1)
    have fin : ∀ n, n = ds.length → ∀ σ' H', (∃ δ', I n δ' ∧ Env K (off H1 (muts δ)) H' δ' σ') → D.nx σ' H' := fun n en σ' H' ⟨δ', hi, e'⟩ => hn _ _ _ (hd _ (en ▸ hi)) (e'.reground s1)
    have el : ∀ {xs : List V}, DpAll K H1 xs ds → DpAll K (off H1 (muts δ)) xs ds := fun {xs} ha => by
      rcases hf with q | q
      · rw [q, off_nil]; exact ha
      · exact dpAll_off hl _ _ q ha
    rcases hx with rfl | ⟨rfl, hm⟩
    · cases hv with
      | @tup a xs _ hs' ha =>
        have hsB : SqT K (off H1 (muts δ)) a xs := by
          rcases hs' with (q | ⟨o, q⟩) | q
          · refine .inl (.inl (off_in (fun z => ?_) q))
            obtain ⟨vs, e2⟩ := hl _ z
            rw [q] at e2; cases e2
          · refine .inl (.inr ⟨o, off_in (fun z => ?_) q⟩)
            obtain ⟨vs, e2⟩ := hl _ z
            rw [q] at e2; cases e2
          · exact .inr q
        exact ⟨a, rfl, .inr ⟨xs, hs', for_tup (fun k σ' H' => ∃ δ', I k δ' ∧ Env K (off H1 (muts δ)) H' δ' σ') ⟨δ, h0, eg⟩ (fun k σ' H' _ ⟨δ', _, e'⟩ => sqt_same e'.ex hsB) (main xs (el ha)) (fun σ' H' q => fin xs.length (dpAll_len ha) σ' H' q)⟩⟩
    · cases hv with
      | @lst a xs _ hs' ha =>
        have hsB : SqL K (off H1 (muts δ)) a xs := by rw [hm, off_nil]; exact hs'
        exact ⟨a, rfl, .inl ⟨xs, hs', for_list (fun k σ' H' => ∃ δ', I k δ' ∧ Env K (off H1 (muts δ)) H' δ' σ') ⟨δ, h0, eg⟩ (fun k σ' H' _ ⟨δ', _, e'⟩ => sql_same e'.ex hsB) (main xs (el ha)) (fun σ' H' q => fin xs.length (dpAll_len ha) σ' H' q)⟩⟩
/-- over a new list -/
theorem sd_forL {ds : List PyData} (h : EdL K tl δ ds) (hf : FzA δ ds) (I : Nat → List Cell → Prop) (h0 : I 0 δ)
    (hs : ∀ k d δ', ds[k]? = some d → I k δ' → Fz δ' d ∧ Sd K t (δ'.set i (.d d)) (I (k + 1)) R) (hd : ∀ δ', I ds.length δ' → N δ') : Sd K (tFor (iSeq K tl) (gName i) t) δ N R := fun B σ H D e hn hr =>
  h B σ H e _ fun p xs H1 np s hp ha => by
    have e1 := e.mono s
    have s1 := e1.unground
    have eg := e1.ground
    have hl := muts_lists e1.ok
    have hpm : p ∉ muts δ := fun z => by
      obtain ⟨vs, q⟩ := muts_lists e.ok p z
      rw [np] at q; cases q
    have el : DpAll K (off H1 (muts δ)) xs ds := by
      rcases hf with q | q
      · rw [q, off_nil]; exact ha
      · exact dpAll_off hl _ _ q ha
    have hsB : SqL K (off H1 (muts δ)) p xs := SqL.of (off_in hpm hp)
    refine ⟨p, rfl, .inl ⟨xs, SqL.of hp, for_list (fun k σ' H' => ∃ δ', I k δ' ∧ Env K (off H1 (muts δ)) H' δ' σ') ⟨δ, h0, eg⟩ (fun k σ' H' _ ⟨δ', _, e'⟩ => sql_same e'.ex hsB) (fun k x σ' H' hk ⟨δ', hi, e'⟩ => ?_) (fun σ' H' ⟨δ', hi, e'⟩ => hn _ _ _ (hd _ ((dpAll_len ha) ▸ hi)) (e'.reground s1))⟩⟩
    obtain ⟨d, hd1, hd2⟩ := dpAll_get' el hk
    obtain ⟨f1, b1⟩ := hs k d δ' hd1 hi
    exact b1 _ _ H' _ (e'.set_d i (dp_same e'.ex _ _ hd2) f1) (fun δ'' σ'' H'' n e'' => ⟨δ'', n, e''⟩) fun r δ'' w σ'' H'' q e'' ro => hr r δ'' w σ'' H'' q (e''.reground s1) (ro.ground s1)
theorem sd_range1 {ts : TA} {n : Int} (h : EdA K ts δ [.int n]) (h1 : -(2 ^ 62) ≤ n) (h2 : n < 2 ^ 62) (I : Nat → List Cell → Prop) (h0 : I 0 δ)
    (hs : ∀ (k : Nat) δ', (k : Int) < n → I k δ' → Sd K t (δ'.set i (.d (.int (k : Int)))) (I (k + 1)) R) (hd : ∀ δ', I n.toNat δ' → N δ') : Sd K (tFor (iRng1 ts) (gName i) t) δ N R := fun B σ H D e hn hr =>
  h B σ H e _ fun vs H1 s hv => by
    obtain ⟨v, ws, rfl, q1, q2⟩ := dpAll_cons hv
    have e0 := dpAll_nil q2
    subst e0
    cases q1
    refine ⟨n, rfl, h1, h2, for_range (lo := 0) (n := n.toNat) (fun k σ' H' => ∃ δ', I k δ' ∧ Env K B H' δ' σ') ⟨δ, h0, e.mono s⟩ (fun k σ' H' hk ⟨δ', hi, e'⟩ => ?_) (fun σ' H' ⟨δ', hi, e'⟩ => hn _ _ _ (hd _ hi) e')⟩
    have ek : (0 : Int) + (k : Int) = (k : Int) := Int.zero_add _
    rw [ek]
    exact hs k δ' (by omega) hi _ _ H' _ (e'.set_d i (.int _) (.inr rfl)) (fun δ'' σ'' H'' n e'' => ⟨δ'', n, e''⟩) hr
theorem sd_range2 {ts : TA} {m n : Int} (h : EdA K ts δ [.int m, .int n]) (hb : -(2 ^ 62) ≤ m ∧ m < 2 ^ 62 ∧ -(2 ^ 62) ≤ n ∧ n < 2 ^ 62) (I : Nat → List Cell → Prop) (h0 : I 0 δ)
    (hs : ∀ (k : Nat) δ', m + (k : Int) < n → I k δ' → Sd K t (δ'.set i (.d (.int (m + (k : Int))))) (I (k + 1)) R) (hd : ∀ δ', I (n - m).toNat δ' → N δ') : Sd K (tFor (iRng2 ts) (gName i) t) δ N R := fun B σ H D e hn hr =>
  h B σ H e _ fun vs H1 s hv => by
    obtain ⟨v, ws, rfl, q1, q2⟩ := dpAll_cons hv
    obtain ⟨v', ws', rfl, q1', q2'⟩ := dpAll_cons q2
    have e0 := dpAll_nil q2'
    subst e0
    cases q1; cases q1'
    refine ⟨m, n, rfl, hb, for_range (lo := m) (n := (n - m).toNat) (fun k σ' H' => ∃ δ', I k δ' ∧ Env K B H' δ' σ') ⟨δ, h0, e.mono s⟩ (fun k σ' H' hk ⟨δ', hi, e'⟩ => ?_) (fun σ' H' ⟨δ', hi, e'⟩ => hn _ _ _ (hd _ hi) e')⟩
    exact hs k δ' (by omega) hi _ _ H' _ (e'.set_d i (.int _) (.inr rfl)) (fun δ'' σ'' H'' n e'' => ⟨δ'', n, e''⟩) hr
theorem sd_range3 {ts : TA} {m n c : Int} {l : Nat} (h : EdA K ts δ [.int m, .int n, .int c]) (hb : RgC m n c l) (I : Nat → List Cell → Prop) (h0 : I 0 δ)
    (hs : ∀ (k : Nat) δ', k < l → I k δ' → Sd K t (δ'.set i (.d (.int (m + (k : Int) * c)))) (I (k + 1)) R) (hd : ∀ δ', I l δ' → N δ') : Sd K (tFor (iRng3 ts) (gName i) t) δ N R := fun B σ H D e hn hr =>
  h B σ H e _ fun vs H1 s hv => by
    obtain ⟨v, ws, rfl, q1, q2⟩ := dpAll_cons hv
    obtain ⟨v', ws', rfl, q1', q2'⟩ := dpAll_cons q2
    obtain ⟨v'', ws'', rfl, q1'', q2''⟩ := dpAll_cons q2'
    have e0 := dpAll_nil q2''
    subst e0
    cases q1; cases q1'; cases q1''
    refine ⟨m, n, c, l, rfl, hb, for_rangeC (lo := m) (c := c) (n := l) (fun k σ' H' => ∃ δ', I k δ' ∧ Env K B H' δ' σ') ⟨δ, h0, e.mono s⟩ (fun k σ' H' hk ⟨δ', hi, e'⟩ => ?_) (fun σ' H' ⟨δ', hi, e'⟩ => hn _ _ _ (hd _ hi) e')⟩
    exact hs k δ' hk hi _ _ H' _ (e'.set_d i (.int _) (.inr rfl)) (fun δ'' σ'' H'' n e'' => ⟨δ'', n, e''⟩) hr
theorem sd_while (W : Nat → List Cell → Prop) (m0 : Nat) (h0 : W m0 δ) (hs : ∀ m δ', W m δ' → ∃ b, Td K tt δ' b ∧ (b = true → Sd K t δ' (fun δ'' => ∃ m', m' < m ∧ W m' δ'') R) ∧ (b = false → N δ')) : Sd K (tWhile tt t) δ N R := fun B σ H D e hn hr =>
  ⟨fun m σ' H' => ∃ δ', W m δ' ∧ Env K B H' δ' σ', ⟨m0, δ, h0, e⟩, fun m σ' H' ⟨δ', hw, e'⟩ => by
    obtain ⟨b, hb, h1, h2⟩ := hs m δ' hw
    refine hb B σ' H' e' _ fun H2 s2 => ?_
    cases b with
    | true => exact ⟨fun σ'' H'' => ∃ m', m' < m ∧ ∃ δ'', W m' δ'' ∧ Env K B H'' δ'' σ'', fun σ'' H'' ⟨m', hm, w⟩ => ⟨m', hm, w⟩, h1 rfl B σ' H2 _ (e'.mono s2) (fun δ'' σ'' H'' ⟨m', hm, w⟩ e'' => ⟨m', hm, δ'', w, e''⟩) hr⟩
    | false => exact hn _ _ _ (h2 rfl) (e'.mono s2)⟩

/-! lists of its own, changed -/
theorem lfAll_append : ∀ (xs ys : List PyData), lfAll (xs ++ ys) = (lfAll xs && lfAll ys)
  | [], ys => rfl
  | x :: xs, ys => by
    show (lf x && lfAll (xs ++ ys)) = ((lf x && lfAll xs) && lfAll ys)
    rw [lfAll_append xs ys, Bool.and_assoc]
theorem sd_app {p : Addr} {xs : List PyData} (hi : δ[i]? = some (.m p xs)) (h : Ed K te δ d) (hd : lf d = true) (hx : lfAll xs = true) (hz : xs.length < 100000) (k : N (δ.set i (.m p (xs ++ [d])))) : Sd K (tDrop (tBM K "list" rAppend (tVar i) (tCons te tNil))) δ N R := fun B σ H D e hn hr => by
  obtain ⟨h1, vs, h2, h3⟩ := e.get_m hi
  refine ⟨_, h1, .inl ⟨rfl, vs, SqL.of h2⟩, h B σ H e _ fun v H1 s hv => ⟨p, vs, v, rfl, rfl, s _ _ h2, by rw [dpAll_len h3]; exact Nat.lt_of_lt_of_le hz (by decide), hn _ _ _ k ?_⟩⟩
  refine (e.mono s).mut hi (dpAll_append (dpAll_same s _ _ h3) (.cons hv .nil)) ?_
  rw [lfAll_append, hx, Bool.true_and]
  unfold lfAll
  rw [hd]
  rfl
theorem sd_ext {p : Addr} {xs ys : List PyData} (hi : δ[i]? = some (.m p xs)) (h : EdL K te δ ys) (hy : lfAll ys = true) (hx : lfAll xs = true) (hz : xs.length + ys.length ≤ 100000) (k : N (δ.set i (.m p (xs ++ ys)))) : Sd K (tDrop (tBM K "list" rExtend (tVar i) (tCons te tNil))) δ N R := fun B σ H D e hn hr => by
  obtain ⟨h1, vs, h2, h3⟩ := e.get_m hi
  refine ⟨_, h1, .inl ⟨rfl, vs, SqL.of h2⟩, h B σ H e _ fun q ws H1 nq s hq hw => ⟨p, q, vs, ws, rfl, rfl, s _ _ h2, hq, by rw [dpAll_len h3, dpAll_len hw]; exact Nat.le_trans hz (by decide), hn _ _ _ k ?_⟩⟩
  refine (e.mono s).mut hi (dpAll_append (dpAll_same s _ _ h3) hw) ?_
  rw [lfAll_append, hx, hy]
  rfl
theorem lfAll_set : ∀ (xs : List PyData) (j : Nat) (d : PyData), lfAll xs = true → lf d = true → lfAll (xs.set j d) = true
  | [], _, _, h, _ => h
  | x :: xs, 0, d, h, hd => by
    unfold lfAll at h
    rw [Bool.and_eq_true] at h
    show lfAll (d :: xs) = true
    unfold lfAll
    rw [hd, h.2]; rfl
  | x :: xs, j + 1, d, h, hd => by
    unfold lfAll at h
    rw [Bool.and_eq_true] at h
    show lfAll (x :: xs.set j d) = true
    unfold lfAll
    rw [h.1, lfAll_set xs j d h.2 hd]; rfl
theorem sd_setL {p : Addr} {xs : List PyData} {k0 : Int} {n : Nat} (hi : δ[i]? = some (.m p xs)) (h : Ed K te δ d) (ht : Ed K ti δ (.int k0)) (hd : lf d = true) (hx : lfAll xs = true) (hk : ixN xs.length k0 = some n) (k : N (δ.set i (.m p (xs.set n d)))) : Sd K (tAsg te (gSub (tVar i) ti rSetL)) δ N R := fun B σ H D e hn hr =>
  h B σ H e _ fun v H1 s1 hv => by
    have e1 := e.mono s1
    obtain ⟨h1, vs, h2, h3⟩ := e1.get_m hi
    refine ⟨_, h1, ht B σ H1 e1 _ fun w H2 s2 hw => ?_⟩
    cases hw
    refine ⟨p, vs, k0, n, rfl, rfl, s2 _ _ h2, by rw [dpAll_len h3]; exact hk, hn _ _ _ k ?_⟩
    exact (e1.mono s2).mut hi (dpAll_set n (dpAll_same s2 _ _ h3) (dp_same s2 _ _ hv)) (lfAll_set _ _ _ hx hd)
theorem dpAll_dropLast {H : Hp} : ∀ {vs : List V} {xs : List PyData}, DpAll K H vs xs → DpAll K H vs.dropLast xs.dropLast := fun {vs xs} h => by
  rw [List.dropLast_eq_take, List.dropLast_eq_take, dpAll_len h]
  exact dpAll_take _ h
theorem lfAll_take : ∀ (n : Nat) (xs : List PyData), lfAll xs = true → lfAll (xs.take n) = true
  | 0, _, _ => rfl
  | _ + 1, [], _ => rfl
  | n + 1, x :: xs, h => by
    unfold lfAll at h
    rw [Bool.and_eq_true] at h
    show lfAll (x :: xs.take n) = true
    unfold lfAll
    rw [h.1, lfAll_take n xs h.2]; rfl
theorem lfAll_dropLast {xs : List PyData} (h : lfAll xs = true) : lfAll xs.dropLast = true := by rw [List.dropLast_eq_take]; exact lfAll_take _ _ h
theorem lfAll_reverse : ∀ (xs : List PyData), lfAll xs = true → lfAll xs.reverse = true
  | [], h => h
  | x :: xs, h => by
    unfold lfAll at h
    rw [Bool.and_eq_true] at h
    rw [List.reverse_cons, lfAll_append, lfAll_reverse xs h.2]
    unfold lfAll
    rw [h.1]; rfl
/-- l.pop(): a value, the list changed; told for any use of it -/
theorem pop_at {p : Addr} {xs : List PyData} (hi : δ[i]? = some (.m p xs)) (hl : xs[xs.length - 1]? = some d) (hx : lfAll xs = true) {B : Hp} {σ : L2.St} {H : Hp} (e : Env K B H δ σ) {Q : VK}
    (q : ∀ v H', Env K B H' (δ.set i (.m p xs.dropLast)) σ → Dp K H' v d → Q v H') : tBM0 K "list" rPop (tVar i) σ H Q := by
  obtain ⟨h1, vs, h2, h3⟩ := e.get_m hi
  obtain ⟨v, hv, hd⟩ := dpAll_get h3 hl
  refine ⟨_, h1, .inl ⟨rfl, vs, SqL.of h2⟩, p, vs, v, rfl, rfl, h2, by rw [dpAll_len h3]; exact hv, ?_⟩
  have e2 := e.mut hi (dpAll_dropLast h3) (lfAll_dropLast hx)
  have hld : lf d = true := lf_get xs _ hx hl
  have hpm : Lists H [p] := fun q hq => by rw [List.mem_singleton.mp hq]; exact ⟨_, h2⟩
  refine q v _ e2 (dp_same (fun b o e => ?_) _ _ (dp_off hpm _ _ hld hd))
  obtain ⟨a1, a2⟩ := off_get e
  rw [upd_ne (fun z => a1 (by rw [z]; exact List.mem_singleton.mpr rfl))]
  exact a2
where
  lf_get : ∀ (xs : List PyData) (k : Nat) {d : PyData}, lfAll xs = true → xs[k]? = some d → lf d = true
    | [], _, _, _, h => absurd h (by simp)
    | x :: xs, 0, d, h, e => by
      unfold lfAll at h
      rw [Bool.and_eq_true] at h
      have e' : x = d := by simpa using e
      rw [← e']; exact h.1
    | x :: xs, k + 1, d, h, e => by
      unfold lfAll at h
      rw [Bool.and_eq_true] at h
      exact lf_get xs k h.2 (by simpa using e)
theorem sd_pop {p : Addr} {xs : List PyData} (hi : δ[i]? = some (.m p xs)) (hl : xs[xs.length - 1]? = some d) (hx : lfAll xs = true) (k : N (δ.set i (.m p xs.dropLast))) : Sd K (tDrop (tBM0 K "list" rPop (tVar i))) δ N R := fun B σ H D e hn hr =>
  pop_at hi hl hx e fun v H' e' _ => hn _ _ _ k e'
theorem sd_reverse {p : Addr} {xs : List PyData} (hi : δ[i]? = some (.m p xs)) (hx : lfAll xs = true) (k : N (δ.set i (.m p xs.reverse))) : Sd K (tDrop (tBM0 K "list" rReverse (tVar i))) δ N R := fun B σ H D e hn hr => by
  obtain ⟨h1, vs, h2, h3⟩ := e.get_m hi
  exact ⟨_, h1, .inl ⟨rfl, vs, SqL.of h2⟩, p, vs, rfl, rfl, h2, hn _ _ _ k (e.mut hi (dpAll_reverse h3) (lfAll_reverse _ hx))⟩
theorem sd_aug {a b : Int} {f : Int → Int → Int} (hi : δ[i]? = some (.d (.int a))) (h : Ed K te δ (.int b)) (k : N (δ.set i (.d (.int (f a b))))) : Sd K (tAug i te (ipI f)) δ N R := fun B σ H D e hn hr => by
  obtain ⟨v, h1, h2⟩ := e.get_d hi
  cases h2
  refine ⟨_, h1, h B σ H e _ fun w H1 s hw => ?_⟩
  cases hw
  exact ⟨a, b, rfl, rfl, hn _ _ _ k ((e.mono s).set_d i (.int _) (.inr rfl))⟩
end
end WD

namespace WD
open PySem PySem.Spec L2 PyProof.Rows

/-! ### data with a look: flat enough for == -/
/-- Sh n d: may be laid, at most n deep -/
def Sh (n : Nat) (d : PyData) : Prop := d.canLay0 = true ∧ d.depth ≤ n
theorem Sh.ok {n : Nat} {d : PyData} (h : Sh n d) (hn : n ≤ 64) : SeqAt.shaped d = true := by
  unfold SeqAt.shaped
  rw [h.1, Bool.true_and]
  exact decide_eq_true (Nat.le_trans h.2 hn)
theorem sh_all {n : Nat} : ∀ {ds : List PyData}, (∀ d ∈ ds, Sh n d) → PyData.canLayAll0 ds = true ∧ PyData.depthAll ds ≤ n
  | [], _ => ⟨by simp [PyData.canLayAll0], by simp [PyData.depthAll]⟩
  | d :: ds, h => by
    obtain ⟨h1, h2⟩ := sh_all (ds := ds) fun x hx => h x (List.mem_cons_of_mem _ hx)
    obtain ⟨h3, h4⟩ := h d List.mem_cons_self
    refine ⟨by simp [PyData.canLayAll0, h1, h3], ?_⟩
    simp only [PyData.depthAll]
    omega
theorem sh_tup {n : Nat} {ds : List PyData} (h : ∀ d ∈ ds, Sh n d) : Sh (n + 1) (.tuple ds) := by
  obtain ⟨h1, h2⟩ := sh_all h
  exact ⟨by simpa [PyData.canLay0] using h1, by simp only [PyData.depth]; omega⟩
theorem sh_lst {n : Nat} {ds : List PyData} (h : ∀ d ∈ ds, Sh n d) : Sh (n + 1) (.list ds) := by
  obtain ⟨h1, h2⟩ := sh_all h
  exact ⟨by simpa [PyData.canLay0] using h1, by simp only [PyData.depth]; omega⟩
theorem sh_int (i : Int) : Sh 0 (.int i) := ⟨by simp [PyData.canLay0], by simp [PyData.depth]⟩
theorem sh_ints (ns : List Int) : ∀ d ∈ ns.map PyData.int, Sh 0 d := fun d hd => by
  obtain ⟨i, _, rfl⟩ := List.mem_map.mp hd
  exact sh_int i
theorem shaped_int (i : Int) : SeqAt.shaped (.int i) = true := (sh_int i).ok (by decide)
theorem shaped_ints (ns : List Int) : SeqAt.shaped (.tuple (ns.map .int)) = true := (sh_tup (sh_ints ns)).ok (by decide)
theorem shaped_intsL (ns : List Int) : SeqAt.shaped (.list (ns.map .int)) = true := (sh_lst (sh_ints ns)).ok (by decide)
theorem shaped_nilL : SeqAt.shaped (.list []) = true := by decide +kernel
theorem shaped_nilT : SeqAt.shaped (.tuple []) = true := by decide +kernel
theorem lfAll_ints : ∀ ns : List Int, lfAll (ns.map .int) = true
  | [] => rfl
  | n :: ns => by
    show (lf (.int n) && lfAll (ns.map .int)) = true
    rw [lfAll_ints ns]; rfl
theorem eqv_int (i j : Int) : PyData.eqv (.int i) (.int j) = decide (i = j) := by
  simp only [PyData.eqv]
  rw [Bool.beq_eq_decide_eq]
theorem eqvAll_nil (ds : List PyData) : PyData.eqvAll ds [] = ds.isEmpty := by cases ds <;> simp [PyData.eqvAll]
theorem eqv_nilL (ds : List PyData) : PyData.eqv (.list ds) (.list []) = ds.isEmpty := by simp only [PyData.eqv]; exact eqvAll_nil ds
theorem eqv_nilT (ds : List PyData) : PyData.eqv (.tuple ds) (.tuple []) = ds.isEmpty := by simp only [PyData.eqv]; exact eqvAll_nil ds

/-! ### promises -/
/-- a def that is a function of data -/
def spG (K : PySem.W.Frag) (G : List PyData → Res → Prop) : Sp := fun vs H Q _ => ∃ ds r, DpAll K H vs ds ∧ G ds r ∧ ∀ v H', Same H H' → RetOk K H H' v r → Q v H'
/-- a def of which something is known -/
def spW (K : PySem.W.Frag) (G : List PyData → (Res → Prop) → Prop) : Sp := fun vs H Q _ => ∃ ds W, DpAll K H vs ds ∧ G ds W ∧ ∀ r v H', W r → Same H H' → RetOk K H H' v r → Q v H'
structure Cal (P : Program) (w : World) (K : PySem.W.Frag) (mg : Str → Option Value) (base : Heap) (k : Nat) (x : Str) (sp : Sp) : Prop where
  ex : ∃ (f : Addr) (fd : FuncData) (ps : List Str), FnOk P w K mg base CX0 k f fd ps sp ∧ mg x = some (.ref f) ∧ PySem.W.keepIn K (.ref f) = true ∧ Binds K fd ps []
theorem pe_cl {X : Cx} {k j : Nat} {x : Str} {sp : Sp} {p pos : Pos} {e : Expr} {es : List Expr} {t : TA} (c : Cal X.prog X.w X.K X.mg X.base k x sp) (hr : Room j X.A) (hk : k ≤ j) (hg : Gl X x) (ha : PA X (e :: es) t)
    (hnd : (x == ("__debug__" : Str)) = false := by decide) (hse : starEach (e :: es) X.env = (false, eval e X.env) :: starEach es X.env := by rfl)
    (hpl : (backTo pos (starEach es X.env)).any (·.1) = false := by rfl) : PE X (.Call (.Name x p) (e :: es) [] pos) (tCall sp [] E0 t) := by
  obtain ⟨f, fd, ps, F, hm, kp, b⟩ := c.ex
  exact pe_call F (hr.mono hk) hg hm kp b .nil pass0 ha hnd hse hpl
section
variable {K : PySem.W.Frag} {δ : List Cell} {ta : TA} {ds : List PyData} {d : PyData} {xs : List PyData}
theorem ed_call {G : List PyData → Res → Prop} (h : EdA K ta δ ds) (hg : G ds (.d d)) : Ed K (tCall (spG K G) [] E0 ta) δ d := fun B σ H e Q q =>
  h B σ H e _ fun vs H1 s1 h1 => ⟨ds, .d d, by rw [List.append_nil]; exact h1, hg, fun v H2 s2 r => q v H2 (s1.trans s2) r⟩
theorem el_call {G : List PyData → Res → Prop} (h : EdA K ta δ ds) (hg : G ds (.l xs)) : EdL K (tCall (spG K G) [] E0 ta) δ xs := fun B σ H e Q q =>
  h B σ H e _ fun vs H1 s1 h1 => ⟨ds, .l xs, by rw [List.append_nil]; exact h1, hg, fun v H2 s2 ⟨p, ws, e1, n, hp, hv⟩ => e1 ▸ q p ws H2 (s1.free n) (s1.trans s2) hp hv⟩
/-- what a data-or-list result is, as data -/
def Res.D : Res → PyData
  | .d x => x
  | .l xs => .list xs
theorem RetOk.dp {B H : Hp} {v : V} {r : Res} (h : RetOk K B H v r) : Dp K H v r.D := by
  cases r with
  | d x => exact h
  | l xs =>
    obtain ⟨p, vs, rfl, _, h2, h3⟩ := h
    exact .lst (SqL.of h2) h3
theorem ep_call {G : List PyData → (Res → Prop) → Prop} {W : Res → Prop} {P : PyData → Prop} (h : EdA K ta δ ds) (hg : G ds W) (hp : ∀ r, W r → P r.D) : EdP K (tCall (spW K G) [] E0 ta) δ P := fun B σ H e Q q =>
  h B σ H e _ fun vs H1 s1 h1 => ⟨ds, W, by rw [List.append_nil]; exact h1, hg, fun r v H2 hw s2 ro => q r.D v H2 (hp r hw) (s1.trans s2) ro.dp⟩
end

/-! ### comprehensions -/
section
variable {K : PySem.W.Frag} {δ : List Cell} {σ : L2.St} {B H H1 H' : Hp} {x d : PyData} {tl te : TE} {tt : TT} {i j : Nat}
/-- the new list at D holds out -/
def Cw (K : PySem.W.Frag) (H1 : Hp) (D : Addr) (out : List PyData) (H' : Hp) : Prop := H1 D = none ∧ Same H1 H' ∧ lfAll out = true ∧ ∃ vs, H' D = some (.lst vs) ∧ DpAll K (off H' [D]) vs out
theorem cw_start {D : Addr} (h : H1 D = none) : Cw K H1 D [] (upd H1 D (.lst [])) := ⟨h, same_new h, rfl, [], upd_same, .nil⟩
theorem cw_end {D : Addr} {out : List PyData} (h : Cw K H1 D out H') : H1 D = none ∧ Same H1 H' ∧ ∃ vs, H' D = some (.lst vs) ∧ DpAll K H' vs out := by
  obtain ⟨h1, h2, _, vs, h3, h4⟩ := h
  exact ⟨h1, h2, vs, h3, dpAll_same (off_same _ _) _ _ h4⟩
theorem cw_turn {D : Addr} {out : List PyData} {b : Bool} {o : Option PyData} {δ2 : List Cell} {σ2 : L2.St} {Nx : Hp → Prop} (h : Cw K H1 D out H') (e : Env K B H' δ2 σ2) (hz : out.length < 100000) (ht : Td K tt δ2 b)
    (hb : b = true → ∃ y, o = some y ∧ lf y = true ∧ Ed K te δ2 y) (hn : b = false → o = none) (k : ∀ H'', Cw K H1 D (out ++ o.toList) H'' → Nx H'') :
    tt σ2 H' fun b H3 => if b = true then te σ2 H3 fun y H4 => ∃ acc, H4 D = some (.lst acc) ∧ acc.length < sizeLine ∧ Nx (upd H4 D (.lst (acc ++ [y]))) else Nx H3 := by
  obtain ⟨h1, h2, h3, vs, h4, h5⟩ := h
  refine ht B σ2 H' e _ fun H3 s3 => ?_
  cases b with
  | false =>
    rw [if_neg (by decide)]
    refine k H3 ?_
    rw [hn rfl]
    show Cw K H1 D (out ++ []) H3
    rw [List.append_nil]
    exact ⟨h1, h2.trans s3, h3, vs, s3 _ _ h4, dpAll_same (off_mono s3 fun _ z => z) _ _ h5⟩
  | true =>
    rw [if_pos rfl]
    obtain ⟨y, rfl, hy, he⟩ := hb rfl
    refine he B σ2 H3 (e.mono s3) _ fun v H4 s4 hv => ⟨vs, s4 _ _ (s3 _ _ h4), ?_, k _ ?_⟩
    · rw [dpAll_len h5]
      exact Nat.lt_of_lt_of_le hz (by decide)
    · have hD : H4 D = some (.lst vs) := s4 _ _ (s3 _ _ h4)
      have hl : Lists H4 [D] := fun q hq => by rw [List.mem_singleton.mp hq]; exact ⟨_, hD⟩
      have eo : off (upd H4 D (.lst (vs ++ [v]))) [D] = off H4 [D] := by
        funext a
        unfold off
        by_cases ha : a ∈ [D]
        · rw [if_pos ha, if_pos ha]
        · rw [if_neg ha, if_neg ha, upd_ne (fun z => ha (by rw [z]; exact List.mem_singleton.mpr rfl))]
      refine ⟨h1, fun a o q => ?_, ?_, _, upd_same, ?_⟩
      · rw [upd_ne (ne_of_none q h1)]
        exact s4 _ _ (s3 _ _ (h2 _ _ q))
      · show lfAll (out ++ [y]) = true
        rw [lfAll_append, h3]
        show (true && (lf y && true)) = true
        rw [hy]; rfl
      · rw [eo]
        show DpAll K _ _ (out ++ [y])
        exact dpAll_append (dpAll_same (off_mono (s3.trans s4) fun _ z => z) _ _ h5) (.cons (dp_off hl _ _ hy hv) .nil)
theorem wipe1 {σ : L2.St} {j : Nat} {v : V} : wipe ((wipe σ [j]).set j (some v)) [j] = wipe σ [j] := by simp [wipe, List.set_set]
theorem wipe1_set {σ : L2.St} {j : Nat} {v : V} : (wipe σ [j]).set j (some v) = σ.set j (some v) := by simp [wipe, List.set_set]
/-- what of the i-th item goes in; how many are in behind n turns -/
def outs (f : Nat → Option PyData) : Nat → List PyData
  | 0 => []
  | n + 1 => outs f n ++ (f n).toList
theorem outs_len (f : Nat → Option PyData) : ∀ n, (outs f n).length ≤ n
  | 0 => Nat.le_refl _
  | n + 1 => by
    have := outs_len f n
    unfold outs
    rw [List.length_append]
    cases f n <;> simp <;> omega
/-- [e for x in a row if t] -/
theorem el_lc {ds : List PyData} (h : Ed K tl δ x) (hx : x = .tuple ds ∨ x = .list ds) (hf : FzA δ ds) (hz : ds.length ≤ 50000) (f : Nat → Option PyData)
    (ht : ∀ k d, ds[k]? = some d → ∃ b, Td K tt (δ.set j (.d d)) b ∧ (b = true → ∃ y, f k = some y ∧ lf y = true ∧ Ed K te (δ.set j (.d d)) y) ∧ (b = false → f k = none)) :
    EdL K (tLc (iSeq K tl) (gName j) tt te [j]) δ (outs f ds.length) := fun B σ H e Q q =>
  h B σ H e _ fun v H1 s1 hv => by
    have e1 := e.mono s1
    have fz : ∀ k d, ds[k]? = some d → Fz δ d := fun k d hk => by
      rcases hf with z | z
      · exact .inl z
      · exact .inr (pop_at.lf_get ds k z hk)
    have main : ∀ (xs : List V), DpAll K H1 xs ds → ∀ D k w H', xs[k]? = some w → Cw K H1 D (outs f k) H' →
        gName j w (wipe σ [j]) H' fun σ2 H2 => wipe σ2 [j] = wipe σ [j] ∧ tt σ2 H2 fun b H3 => if b = true then te σ2 H3 fun y H4 => ∃ acc, H4 D = some (.lst acc) ∧ acc.length < sizeLine ∧ Cw K H1 D (outs f (k + 1)) (upd H4 D (.lst (acc ++ [y]))) else Cw K H1 D (outs f (k + 1)) H3 := fun xs ha D k w H' hk c => by
      obtain ⟨d, hd1, hd2⟩ := dpAll_get' ha hk
      obtain ⟨b, t1, t2, t3⟩ := ht k d hd1
      have hlt := (List.getElem?_eq_some_iff.mp hd1).1
      refine ⟨wipe1, ?_⟩
      show tt ((wipe σ [j]).set j (some w)) H' _
      rw [wipe1_set]
      exact cw_turn c ((e1.mono c.2.1).set_d j (dp_same c.2.1 _ _ hd2) (fz k d hd1)) (by have := outs_len f k; omega) t1 t2 t3 fun H'' c' => c'
    rcases hx with rfl | rfl
    · cases hv with
      | @tup a xs _ hs ha =>
        refine ⟨a, rfl, .inr ⟨xs, hs, fun D hD => lc_tup (K := K) (a := a) (xs := xs) (fun k H' => Cw K H1 D (outs f k) H') (cw_start hD) (fun k H' _ c => sqt_same c.2.1 hs) (fun k w H' hk c => main xs ha D k w H' hk c) fun H' c => ?_⟩⟩
        obtain ⟨c1, c2, vs, c3, c4⟩ := cw_end c
        rw [dpAll_len ha] at c4
        exact q D vs H' (s1.free c1) (s1.trans c2) c3 c4
    · cases hv with
      | @lst a xs _ hs ha =>
        refine ⟨a, rfl, .inl ⟨xs, hs, fun D hD => lc_list (K := K) (a := a) (xs := xs) (fun k H' => Cw K H1 D (outs f k) H') (cw_start hD) (fun k H' _ c => sql_same c.2.1 hs) (fun k w H' hk c => main xs ha D k w H' hk c) fun H' c => ?_⟩⟩
        obtain ⟨c1, c2, vs, c3, c4⟩ := cw_end c
        rw [dpAll_len ha] at c4
        exact q D vs H' (s1.free c1) (s1.trans c2) c3 c4
/-- [e for k in range(n) if t] -/
theorem el_lcR {ts : TA} {n : Int} (h : EdA K ts δ [.int n]) (hn : -100000 ≤ n ∧ n ≤ 50000) (f : Nat → Option PyData)
    (ht : ∀ k : Nat, (k : Int) < n → ∃ b, Td K tt (δ.set j (.d (.int (k : Int)))) b ∧ (b = true → ∃ y, f k = some y ∧ lf y = true ∧ Ed K te (δ.set j (.d (.int (k : Int)))) y) ∧ (b = false → f k = none)) :
    EdL K (tLc (iRng1 ts) (gName j) tt te [j]) δ (outs f n.toNat) := fun B σ H e Q q =>
  h B σ H e _ fun vs H1 s1 hv => by
    obtain ⟨v, ws, rfl, q1, q2⟩ := dpAll_cons hv
    have e0 := dpAll_nil q2
    subst e0
    cases q1
    have e1 := e.mono s1
    refine ⟨n, rfl, by omega, by omega, fun D hD => lc_range (lo := 0) (n := n.toNat) (fun k H' => Cw K H1 D (outs f k) H') (cw_start hD) (fun k H' hk c => ?_) fun H' c => ?_⟩
    · obtain ⟨b, t1, t2, t3⟩ := ht k (by omega)
      refine ⟨wipe1, ?_⟩
      show tt ((wipe σ [j]).set j (some (.int (0 + (k : Int))))) H' _
      rw [wipe1_set, Int.zero_add]
      exact cw_turn c ((e1.mono c.2.1).set_d j (.int _) (.inr rfl)) (by have := outs_len f k; omega) t1 t2 t3 fun H'' c' => c'
    · obtain ⟨c1, c2, vs, c3, c4⟩ := cw_end c
      exact q D vs H' (s1.free c1) (s1.trans c2) c3 c4
/-- [e for k in range(m, n) if t] -/
theorem el_lcR2 {ts : TA} {m n : Int} (h : EdA K ts δ [.int m, .int n]) (hn : -100000 ≤ m ∧ m ≤ 100000 ∧ -100000 ≤ n ∧ n ≤ 50000 ∧ n - m ≤ 50000) (f : Nat → Option PyData)
    (ht : ∀ k : Nat, m + (k : Int) < n → ∃ b, Td K tt (δ.set j (.d (.int (m + (k : Int))))) b ∧ (b = true → ∃ y, f k = some y ∧ lf y = true ∧ Ed K te (δ.set j (.d (.int (m + (k : Int))))) y) ∧ (b = false → f k = none)) :
    EdL K (tLc (iRng2 ts) (gName j) tt te [j]) δ (outs f (n - m).toNat) := fun B σ H e Q q =>
  h B σ H e _ fun vs H1 s1 hv => by
    obtain ⟨v, ws, rfl, q1, q2⟩ := dpAll_cons hv
    obtain ⟨v', ws', rfl, q1', q2'⟩ := dpAll_cons q2
    have e0 := dpAll_nil q2'
    subst e0
    cases q1; cases q1'
    have e1 := e.mono s1
    refine ⟨m, n, rfl, ⟨by omega, by omega, by omega, by omega⟩, fun D hD => lc_range (lo := m) (n := (n - m).toNat) (fun k H' => Cw K H1 D (outs f k) H') (cw_start hD) (fun k H' hk c => ?_) fun H' c => ?_⟩
    · obtain ⟨b, t1, t2, t3⟩ := ht k (by omega)
      refine ⟨wipe1, ?_⟩
      show tt ((wipe σ [j]).set j (some (.int (m + (k : Int))))) H' _
      rw [wipe1_set]
      exact cw_turn c ((e1.mono c.2.1).set_d j (.int _) (.inr rfl)) (by have := outs_len f k; omega) t1 t2 t3 fun H'' c' => c'
    · obtain ⟨c1, c2, vs, c3, c4⟩ := cw_end c
      exact q D vs H' (s1.free c1) (s1.trans c2) c3 c4
theorem wipe2 {σ : L2.St} {i j : Nat} {v w : V} (hij : i ≠ j) : wipe (((wipe σ [i, j]).set i (some v)).set j (some w)) [i, j] = wipe σ [i, j] := by
  simp only [wipe]
  apply List.ext_getElem?
  intro n
  simp only [List.getElem?_set, List.length_set]
  by_cases h1 : i = n
  · simp [h1]
  · by_cases h2 : j = n
    · simp [h1, h2]
    · simp [h1, h2]
/-- [e for i, x in enumerate(t) if t] -/
theorem el_lcE {ds : List PyData} (hij : i ≠ j) (h : Ed K tl δ (.tuple ds)) (hf : FzA δ ds) (hz : ds.length ≤ 50000) (f : Nat → Option PyData)
    (ht : ∀ (k : Nat) d, ds[k]? = some d → ∃ b, Td K tt ((δ.set i (.d (.int (k : Int)))).set j (.d d)) b ∧ (b = true → ∃ y, f k = some y ∧ lf y = true ∧ Ed K te ((δ.set i (.d (.int (k : Int)))).set j (.d d)) y) ∧ (b = false → f k = none)) :
    EdL K (tLc (iEnumT K (tCons tl tNil)) (gTup K 2 (gCons (gName i) (gCons (gName j) gNil))) tt te [i, j]) δ (outs f ds.length) := fun B σ H e Q q =>
  h B σ H e _ fun v H1 s1 hv => by
    have e1 := e.mono s1
    have fz : ∀ k d, ds[k]? = some d → Fz δ d := fun k d hk => by
      rcases hf with z | z
      · exact .inl z
      · exact .inr (pop_at.lf_get ds k z hk)
    cases hv with
    | @tup a xs _ hs ha =>
      refine ⟨a, xs, rfl, hs, fun D hD => ⟨fun k m H' => m = xs.length - k ∧ k ≤ xs.length ∧ Cw K H1 D (outs f k) H', ⟨xs.length, by simp, Nat.zero_le _, cw_start hD⟩, ?_⟩⟩
      rintro k m H' ⟨rfl, hk, c⟩
      have hq := sqt_same c.2.1 hs
      by_cases hlt : k < xs.length
      · refine .inr ⟨⟨xs, xs[k], hq, by simp [hlt]⟩, fun H'' => Cw K H1 D (outs f (k + 1)) H'', fun H'' c' => ⟨xs.length - (k + 1), by omega, rfl, hlt, c'⟩, fun w H2 y => ?_⟩
        obtain ⟨T, w', rfl, hT, rfl, hw⟩ := y
        have hk' : xs[k]? = some w' := hw xs hq
        obtain ⟨d, hd1, hd2⟩ := dpAll_get' ha hk'
        obtain ⟨b, t1, t2, t3⟩ := ht k d hd1
        have sT : Same H' (upd H' T (.tup [.int (k : Int), w'])) := same_new hT
        refine ⟨T, [.int (k : Int), w'], rfl, SqT.of upd_same, rfl, .int (k : Int), [w'], rfl, w', [], rfl, rfl, ?_, ?_⟩
        · exact wipe2 hij
        · have es : ((wipe σ [i, j]).set i (some (.int (k : Int)))).set j (some w') = (σ.set i (some (.int (k : Int)))).set j (some w') := by
            simp only [wipe]
            rw [List.set_set, List.set_comm _ _ hij, List.set_set, List.set_comm _ _ (Ne.symm hij)]
          show tt (((wipe σ [i, j]).set i (some (.int (k : Int)))).set j (some w')) _ _
          rw [es]
          have c2 : Cw K H1 D (outs f k) (upd H' T (.tup [.int (k : Int), w'])) := by
            obtain ⟨a1, a2, a3, vs, a4, a5⟩ := c
            exact ⟨a1, a2.trans sT, a3, vs, sT _ _ a4, dpAll_same (off_mono sT fun _ z => z) _ _ a5⟩
          have e2 := ((e1.mono c2.2.1).set_d i (.int (k : Int)) (.inr rfl)).set_d j (dp_same c2.2.1 _ _ hd2) (fz_set1 (fz k d hd1))
          exact cw_turn c2 e2 (by have := outs_len f k; have := dpAll_len ha; omega) t1 t2 t3 fun H'' c' => c'
      · have ek : k = xs.length := by omega
        subst ek
        refine .inl ⟨⟨xs, hq, Nat.le_refl _⟩, ?_⟩
        obtain ⟨c1, c2, vs, c3, c4⟩ := cw_end c
        rw [dpAll_len ha] at c4
        exact q D vs H' (s1.free c1) (s1.trans c2) c3 c4
where
  fz_set1 : ∀ {δ : List Cell} {x d : PyData} {i : Nat}, Fz δ d → Fz (δ.set i (.d x)) d := fun {δ x d i} h => by
    rcases h with q | q
    · left
      cases hm : muts (δ.set i (.d x)) with
      | nil => rfl
      | cons p ps =>
        have : p ∈ muts δ := muts_set_d (by rw [hm]; exact List.mem_cons_self)
        rw [q] at this; cases this
    · exact .inr q
end

/-! ### a def by its body -/
section
variable {P : Program} {w : World} {mg : Str → Option Value} {base : Heap} {K : PySem.W.Frag}
theorem muts_d : ∀ (ds : List PyData) (n : Nat), muts (ds.map Cell.d ++ List.replicate n .u) = []
  | [], 0 => rfl
  | [], n + 1 => muts_d [] n
  | d :: ds, n => muts_d ds n
theorem env_start {N : List Str} {vs : List V} {ds : List PyData} {H : Hp} (h : DpAll K H vs ds) (hl : vs.length ≤ N.length) : Env K H H (ds.map Cell.d ++ List.replicate (N.length - ds.length) .u) (L2.start N vs) := by
  have em := muts_d ds (N.length - ds.length)
  refine ⟨Same.refl H, fun p hp => by rw [em] at hp; simp at hp, by rw [em]; exact List.nodup_nil, ?_⟩
  rw [em, off_nil]
  unfold L2.start
  rw [dpAll_len h]
  have tail : ∀ n, Paired (COk K H H) (List.replicate n Cell.u) (List.replicate n none) := fun n => by
    induction n with
    | zero => exact .nil
    | succ n ih => exact .cons .u ih
  have go : ∀ {vs : List V} {ds : List PyData}, DpAll K H vs ds → ∀ n, Paired (COk K H H) (ds.map Cell.d ++ List.replicate n .u) (vs.map some ++ List.replicate n none) := fun {vs ds} h n => by
    induction ds generalizing vs with
    | nil => cases h; exact tail n
    | cons d ds ih =>
      cases h with
      | cons h1 h2 => exact .cons (.d h1) (ih h2)
  exact go h _
theorem okG {x qual : Str} {st : Stmt} {f : Addr} {fd : FuncData} {N ps : List Str} {k : Nat} {G : List PyData → Res → Prop} (F : Fun K x qual st f fd) (S : FnScope N ps (defScope st)) (len : ∀ ds r, G ds r → ds.length = ps.length)
    (body : ∀ (cdv : Value) (A : Around) (outer : List PySem.Env) (s : Shared) (H : Hp) (E : XK), Room k (A.deeper (envOfC qual (defScope st) s.heap.objs.size f cdv)) →
      ∃ t, PSs (cxOf CX0 P w K mg base N qual (defScope st) f cdv A outer s H E).nox (defBody st) t ∧ ∀ ds r, G ds r → Sd K t (ds.map Cell.d ++ List.replicate (N.length - ps.length) .u) (fun _ => r = .d .none) (fun r' _ => r' = r)) : FnOk P w K mg base CX0 (k + 1) f fd ps (spG K G) := by
  refine F.ok S (fun vs H Q E ⟨ds, r, h1, h2, _⟩ => (dpAll_len h1).trans (len ds r h2)) fun cdv A outer s H vs Q E hr ⟨ds, r, h1, h2, q⟩ => ?_
  obtain ⟨t, ht, hq⟩ := body cdv A outer s H E hr
  have hlen := len ds r h2
  have hpl : ps.length ≤ N.length := by have hln := congrArg List.length S.pre; rw [List.length_take] at hln; omega
  have e := env_start (N := N) h1 (by rw [dpAll_len h1, hlen]; exact hpl)
  rw [hlen] at e
  exact ⟨t, ht, hq ds r h2 H _ H _ e (fun δ' σ' H' n e' => q .non H' e'.ex (by rw [n]; exact Dp.non)) fun r' δ' v σ' H' e1 e' ro => q v H' e'.ex (by rw [← e1]; exact ro)⟩
theorem okW {x qual : Str} {st : Stmt} {f : Addr} {fd : FuncData} {N ps : List Str} {k : Nat} {G : List PyData → (Res → Prop) → Prop} (F : Fun K x qual st f fd) (S : FnScope N ps (defScope st)) (len : ∀ ds W, G ds W → ds.length = ps.length)
    (body : ∀ (cdv : Value) (A : Around) (outer : List PySem.Env) (s : Shared) (H : Hp) (E : XK), Room k (A.deeper (envOfC qual (defScope st) s.heap.objs.size f cdv)) →
      ∃ t, PSs (cxOf CX0 P w K mg base N qual (defScope st) f cdv A outer s H E).nox (defBody st) t ∧ ∀ ds W, G ds W → Sd K t (ds.map Cell.d ++ List.replicate (N.length - ps.length) .u) (fun _ => W (.d .none)) (fun r' _ => W r')) : FnOk P w K mg base CX0 (k + 1) f fd ps (spW K G) := by
  refine F.ok S (fun vs H Q E ⟨ds, r, h1, h2, _⟩ => (dpAll_len h1).trans (len ds r h2)) fun cdv A outer s H vs Q E hr ⟨ds, W, h1, h2, q⟩ => ?_
  obtain ⟨t, ht, hq⟩ := body cdv A outer s H E hr
  have hlen := len ds W h2
  have hpl : ps.length ≤ N.length := by have hln := congrArg List.length S.pre; rw [List.length_take] at hln; omega
  have e := env_start (N := N) h1 (by rw [dpAll_len h1, hlen]; exact hpl)
  rw [hlen] at e
  exact ⟨t, ht, hq ds W h2 H _ H _ e (fun δ' σ' H' n e' => q (.d .none) .non H' n e'.ex Dp.non) fun r' δ' v σ' H' e1 e' ro => q r' v H' e1 e'.ex ro⟩
end
end WD

namespace WM
/-! ### the plain law: rings of at most one thing a day -/
abbrev Ring := List (Option Nat)
def Keep1 (n i : Nat) (r : Ring) : Prop := ∀ a, a < r.length → ∃ k, k < n ∧ r[(a + k) % r.length]? = some (some i)
def Keeps (ns : List Nat) (r : Ring) : Prop := ∀ i n, ns[i]? = some n → Keep1 n i r
def keepsB (ns : List Nat) (r : Ring) : Bool :=
  (List.range ns.length).all fun i => (List.range r.length).all fun a => (List.range (ns.getD i 0)).any fun k => decide (r[(a + k) % r.length]? = some (some i))
theorem keeps_of {ns : List Nat} {r : Ring} (h : keepsB ns r = true) : Keeps ns r := by
  intro i n hi a ha
  unfold keepsB at h
  rw [List.all_eq_true] at h
  have hlt := (List.getElem?_eq_some_iff.mp hi).1
  have h1 := h i (List.mem_range.mpr hlt)
  rw [List.all_eq_true] at h1
  have h2 := h1 a (List.mem_range.mpr ha)
  rw [List.any_eq_true] at h2
  obtain ⟨k, hk, h3⟩ := h2
  have e : ns.getD i 0 = n := by rw [List.getD_eq_getElem?_getD, hi]; rfl
  rw [e] at hk
  exact ⟨k, List.mem_range.mp hk, of_decide_eq_true h3⟩
/-- told for any place, over the end -/
theorem Keep1.at {n i : Nat} {r : Ring} (h : Keep1 n i r) (hr : 0 < r.length) (a : Nat) : ∃ k, k < n ∧ r[(a + k) % r.length]? = some (some i) := by
  obtain ⟨k, hk, e⟩ := h (a % r.length) (Nat.mod_lt _ hr)
  exact ⟨k, hk, by rw [Nat.mod_add_mod] at e; exact e⟩

/-! ### slowed -/
def slow (t : Nat) (r : Ring) : Ring := r.flatMap fun o => o :: List.replicate (t - 1) none
theorem slow_len (t : Nat) (ht : 0 < t) : ∀ r : Ring, (slow t r).length = t * r.length
  | [] => by simp [slow]
  | o :: r => by
    have ih := slow_len t ht r
    unfold slow at ih ⊢
    rw [List.flatMap_cons, List.length_append, ih, List.length_cons, List.length_replicate, List.length_cons, Nat.mul_succ]
    omega
theorem slow_at (t : Nat) (ht : 0 < t) : ∀ (r : Ring) (m : Nat), (slow t r)[t * m]? = r[m]?
  | [], m => by simp [slow]
  | o :: r, 0 => by simp [slow]
  | o :: r, m + 1 => by
    have ih := slow_at t ht r m
    unfold slow at ih ⊢
    rw [List.flatMap_cons, List.getElem?_append_right (by rw [List.length_cons, List.length_replicate, Nat.mul_succ]; omega)]
    rw [List.length_cons, List.length_replicate]
    have e : t * (m + 1) - (t - 1 + 1) = t * m := by rw [Nat.mul_succ]; omega
    rw [e, ih]
    simp
theorem slow_mem {t : Nat} {r : Ring} {i : Nat} (h : some i ∈ slow t r) : some i ∈ r := by
  unfold slow at h
  obtain ⟨o, ho, h⟩ := List.mem_flatMap.mp h
  rcases List.mem_cons.1 h with e | h
  · rw [e]; exact ho
  · have := (List.mem_replicate.mp h).2
    cases this
theorem slow_keep {t n i : Nat} {r : Ring} (ht : 0 < t) (h : Keep1 n i r) : Keep1 (t * n) i (slow t r) := by
  intro a ha
  rw [slow_len t ht] at ha ⊢
  have hr : 0 < r.length := by
    cases r with
    | nil => simp at ha
    | cons _ _ => simp
  -- c: the next place that t divides
  obtain ⟨c, h1, h2⟩ : ∃ c, a ≤ t * c ∧ t * c < a + t := by
    refine ⟨(a + (t - 1)) / t, ?_, ?_⟩
    · have h := Nat.div_add_mod (a + (t - 1)) t
      have := Nat.mod_lt (a + (t - 1)) ht
      omega
    · have h := Nat.div_add_mod (a + (t - 1)) t
      omega
  obtain ⟨k, hk, e⟩ := h.at hr c
  refine ⟨t * (c + k) - a, ?_, ?_⟩
  · have : t * (c + k) = t * c + t * k := Nat.mul_add ..
    have h3 : t * k + t ≤ t * n := by
      have : t * (k + 1) ≤ t * n := Nat.mul_le_mul_left t hk
      rw [Nat.mul_succ] at this
      exact this
    omega
  · have h4 : a ≤ t * (c + k) := by
      have : t * (c + k) = t * c + t * k := Nat.mul_add ..
      omega
    rw [Nat.add_sub_cancel' h4, Nat.mul_mod_mul_left, slow_at t ht]
    exact e

/-! ### paired -/
def pr (a b : Ring) (m : Nat) : Nat → Ring
  | 0 => []
  | s + 1 => pr a b m s ++ [(a[s % a.length]?).join, ((b[s % b.length]?).join).map (· + m)]
theorem pr_len (a b : Ring) (m : Nat) : ∀ s, (pr a b m s).length = 2 * s
  | 0 => rfl
  | s + 1 => by unfold pr; rw [List.length_append, pr_len a b m s]; simp; omega
theorem pr_even (a b : Ring) (m : Nat) : ∀ (s k : Nat), k < s → (pr a b m s)[2 * k]? = some ((a[k % a.length]?).join)
  | 0, k, h => by omega
  | s + 1, k, h => by
    unfold pr
    by_cases hk : k < s
    · rw [List.getElem?_append_left (by rw [pr_len]; omega)]
      exact pr_even a b m s k hk
    · have e : k = s := by omega
      subst e
      rw [List.getElem?_append_right (by rw [pr_len]; exact Nat.le_refl _), pr_len]
      simp
theorem pr_odd (a b : Ring) (m : Nat) : ∀ (s k : Nat), k < s → (pr a b m s)[2 * k + 1]? = some (((b[k % b.length]?).join).map (· + m))
  | 0, k, h => by omega
  | s + 1, k, h => by
    unfold pr
    by_cases hk : k < s
    · rw [List.getElem?_append_left (by rw [pr_len]; omega)]
      exact pr_odd a b m s k hk
    · have e : k = s := by omega
      subst e
      rw [List.getElem?_append_right (by rw [pr_len]; omega), pr_len]
      have e1 : 2 * k + 1 - 2 * k = 1 := by omega
      rw [e1]
      simp
theorem pr_mem (a b : Ring) (m : Nat) : ∀ (s : Nat) (o : Option Nat), o ∈ pr a b m s → (o = none ∨ o ∈ a) ∨ ∃ j, some j ∈ b ∧ o = some (j + m)
  | 0, o, h => by simp [pr] at h
  | s + 1, o, h => by
    unfold pr at h
    rcases List.mem_append.1 h with h | h
    · exact pr_mem a b m s o h
    · simp only [List.mem_cons, List.not_mem_nil, or_false] at h
      rcases h with h | h
      · left
        cases e : a[s % a.length]? with
        | none => rw [e] at h; left; exact h
        | some x => rw [e] at h; right; rw [h]; exact List.mem_of_getElem? e
      · cases e : b[s % b.length]? with
        | none => rw [e] at h; left; left; exact h
        | some x =>
          rw [e] at h
          cases x with
          | none => left; left; exact h
          | some j => right; exact ⟨j, List.mem_of_getElem? e, h⟩
theorem pr_keep1 {a b : Ring} {m s n i : Nat} (hd : a.length ∣ s) (h : Keep1 n i a) : Keep1 (2 * n) i (pr a b m s) := by
  intro p hp
  rw [pr_len] at hp ⊢
  have hs : 0 < s := by omega
  have ha : 0 < a.length := Nat.pos_of_dvd_of_pos hd hs
  obtain ⟨c, h1, h2⟩ : ∃ c, p ≤ 2 * c ∧ 2 * c < p + 2 := ⟨(p + 1) / 2, by omega, by omega⟩
  obtain ⟨k, hk, e⟩ := h.at ha c
  refine ⟨2 * (c + k) - p, by omega, ?_⟩
  have e1 : p + (2 * (c + k) - p) = 2 * (c + k) := by omega
  rw [e1, Nat.mul_mod_mul_left, pr_even a b m s _ (Nat.mod_lt _ hs), Nat.mod_mod_of_dvd _ hd, e]
  rfl
theorem pr_keep2 {a b : Ring} {m s n i : Nat} (hd : b.length ∣ s) (h : Keep1 n i b) : Keep1 (2 * n) (i + m) (pr a b m s) := by
  intro p hp
  rw [pr_len] at hp ⊢
  have hs : 0 < s := by omega
  have hb : 0 < b.length := Nat.pos_of_dvd_of_pos hd hs
  obtain ⟨c, h1, h2⟩ : ∃ c, p ≤ 2 * c + 1 ∧ 2 * c + 1 < p + 2 := ⟨p / 2, by omega, by omega⟩
  obtain ⟨k, hk, e⟩ := h.at hb c
  refine ⟨2 * (c + k) + 1 - p, by omega, ?_⟩
  have e1 : p + (2 * (c + k) + 1 - p) = 2 * (c + k) + 1 := by omega
  have e2 : (2 * (c + k) + 1) % (2 * s) = 2 * ((c + k) % s) + 1 := by
    have h3 := Nat.mul_mod_mul_left 2 (c + k) s
    have h4 := Nat.mod_lt (c + k) hs
    have h5 := Nat.div_add_mod (c + k) s
    have h6 : 2 * (c + k) + 1 = (2 * ((c + k) % s) + 1) + 2 * s * ((c + k) / s) := by
      rw [Nat.mul_assoc]; omega
    rw [h6, Nat.add_mul_mod_self_left]
    exact Nat.mod_eq_of_lt (by omega)
  rw [e1, e2, pr_odd a b m s _ (Nat.mod_lt _ hs), Nat.mod_mod_of_dvd _ hd, e]
  rfl

/-! ### made of fewer days, again and again -/
theorem rep_len (s : Ring) (m : Nat) : (List.replicate m s).flatten.length = m * s.length := by
  induction m with
  | zero => simp
  | succ m ih => rw [List.replicate_succ, List.flatten_cons, List.length_append, ih, Nat.succ_mul]; omega
theorem rep_at (s : Ring) : ∀ (m j : Nat), j < m * s.length → (List.replicate m s).flatten[j]? = s[j % s.length]?
  | 0, j, h => by omega
  | m + 1, j, h => by
    rw [List.replicate_succ]; rw [List.flatten_cons]
    by_cases hj : j < s.length
    · rw [Nat.mod_eq_of_lt hj, List.getElem?_append_left hj]
    · rw [List.getElem?_append_right (by omega), rep_at s m (j - s.length) (by rw [Nat.succ_mul] at h; omega)]
      rw [← Nat.mod_eq_sub_mod (by omega)]
theorem rep_keep {s : Ring} {m n i : Nat} (hm : 0 < m) (h : Keep1 n i (List.replicate m s).flatten) : Keep1 n i s := by
  intro a ha
  have hs : 0 < s.length := by omega
  have hl : 0 < m * s.length := Nat.mul_pos hm hs
  obtain ⟨k, hk, e⟩ := h a (by rw [rep_len]; exact Nat.lt_of_lt_of_le ha (Nat.le_mul_of_pos_left _ hm))
  rw [rep_len, rep_at s m _ (Nat.mod_lt _ hl), Nat.mod_mod_of_dvd _ (Nat.dvd_mul_left _ _)] at e
  exact ⟨k, hk, e⟩

/-! ### a thing put in -/
/-- the places at which the thing is put: the first one lies within the first days, none is farther from the next one than so many days, over the end too -/
structure Places (r : Ring) (n : Nat) (ps : List Nat) : Prop where
  ne : ps ≠ []
  first : ∀ p, ps.head? = some p → p < n
  free : ∀ p ∈ ps, r[p % r.length]? = some none
  next : ∀ k p q, ps[k]? = some p → ps[k + 1]? = some q → p < q ∧ q ≤ p + n
  last : ∀ p q, ps.head? = some p → ps.getLast? = some q → p + r.length ≤ q + n
def put (r : Ring) (i : Nat) (ps : List Nat) : Ring := (List.range r.length).map fun k => if k ∈ ps.map (· % r.length) then some i else (r[k]?).join
theorem put_len (r : Ring) (i : Nat) (ps : List Nat) : (put r i ps).length = r.length := by simp [put]
theorem put_at {r : Ring} {i : Nat} {ps : List Nat} {k : Nat} (hk : k < r.length) : (put r i ps)[k]? = some (if k ∈ ps.map (· % r.length) then some i else (r[k]?).join) := by
  unfold put
  rw [List.getElem?_map, List.getElem?_range hk]
  rfl
theorem put_mem {r : Ring} {i j : Nat} {ps : List Nat} (h : some j ∈ put r i ps) : j = i ∨ some j ∈ r := by
  unfold put at h
  obtain ⟨k, hk, e⟩ := List.mem_map.mp h
  by_cases hp : k ∈ ps.map (· % r.length)
  · rw [if_pos hp] at e; cases e; exact .inl rfl
  · rw [if_neg hp] at e
    right
    cases q : r[k]? with
    | none => rw [q] at e <;> cases e
    | some o =>
      rw [q] at e
      have e' : o = some j := e
      rw [e'] at q
      exact List.mem_of_getElem? q
theorem put_keep {r : Ring} {i j n m : Nat} {ps : List Nat} (P : Places r m ps) (h : Keep1 n j r) : Keep1 n j (put r i ps) := by
  intro a ha
  rw [put_len] at ha ⊢
  obtain ⟨k, hk, e⟩ := h a ha
  refine ⟨k, hk, ?_⟩
  have hl : (a + k) % r.length < r.length := Nat.mod_lt _ (by omega)
  rw [put_at hl, if_neg, e]
  · rfl
  · intro hm
    obtain ⟨p, hp, ep⟩ := List.mem_map.mp hm
    have := P.free p hp
    rw [ep, e] at this
    cases this
/-- in a rising row of which the last is at least a: the first that is -/
theorem first_ge {n : Nat} : ∀ (ps : List Nat) (a : Nat), (∀ k p q, ps[k]? = some p → ps[k + 1]? = some q → p < q ∧ q ≤ p + n) → (∀ p, ps.head? = some p → p < a) → (∃ q, ps.getLast? = some q ∧ a ≤ q) → ∃ q ∈ ps, a ≤ q ∧ q < a + n
  | [], a, _, _, ⟨q, h, _⟩ => by simp at h
  | [p], a, _, h1, ⟨q, h, h2⟩ => by
    have e : p = q := by simpa using h
    subst e
    have := h1 p rfl
    omega
  | p :: q :: r, a, h0, h1, ⟨z, h, h2⟩ => by
    have hp := h1 p rfl
    have hq := h0 0 p q rfl rfl
    by_cases hqa : a ≤ q
    · exact ⟨q, by simp, hqa, by omega⟩
    · obtain ⟨x, hx, h3⟩ := first_ge (q :: r) a (fun k x y hx hy => h0 (k + 1) x y (by simpa using hx) (by simpa using hy)) (fun x hx => by
        have e : q = x := by simpa using hx
        omega) ⟨z, by simpa using h, h2⟩
      exact ⟨x, List.mem_cons_of_mem _ hx, h3⟩
theorem put_new {r : Ring} {i n : Nat} {ps : List Nat} (P : Places r n ps) : Keep1 n i (put r i ps) := by
  intro a ha
  rw [put_len] at ha ⊢
  have hr : 0 < r.length := by omega
  have hit : ∀ q ∈ ps, (put r i ps)[q % r.length]? = some (some i) := fun q hq => by
    rw [put_at (Nat.mod_lt _ hr), if_pos (List.mem_map.mpr ⟨q, hq, rfl⟩)]
  obtain ⟨p, hp⟩ : ∃ p, ps.head? = some p := by
    cases e : ps with
    | nil => exact absurd e P.ne
    | cons p _ => exact ⟨p, rfl⟩
  obtain ⟨z, hz⟩ : ∃ z, ps.getLast? = some z := by
    cases e : ps.getLast? with
    | none => rw [List.getLast?_eq_none_iff] at e; exact absurd e P.ne
    | some z => exact ⟨z, rfl⟩
  have hpm : p ∈ ps := List.mem_of_head? hp
  by_cases h1 : a ≤ p
  · have := P.first p hp
    exact ⟨p - a, by omega, by rw [Nat.add_sub_cancel' h1]; exact hit p hpm⟩
  · by_cases h2 : a ≤ z
    · obtain ⟨q, hq, h3, h4⟩ := first_ge ps a P.next (fun x hx => by rw [hp] at hx; cases hx; omega) ⟨z, hz, h2⟩
      exact ⟨q - a, by omega, by rw [Nat.add_sub_cancel' h3]; exact hit q hq⟩
    · have h3 := P.last p z hp hz
      refine ⟨p + r.length - a, by omega, ?_⟩
      have e : a + (p + r.length - a) = p + r.length := by omega
      rw [e, Nat.add_mod_right]
      exact hit p hpm

/-! ### days done from a stand: waits -/
/-- one thing's wait behind a day; none if it breaks -/
def w1 (n i w : Nat) (o : Option Nat) : Option Nat := if o = some i then some n else if w ≤ 1 then none else some (w - 1)
def run1 (n i : Nat) : Nat → Ring → Option Nat
  | w, [] => some w
  | w, o :: r => match w1 n i w o with
    | none => none
    | some w' => run1 n i w' r
theorem run1_nil {n i w : Nat} : run1 n i w [] = some w := rfl
theorem run1_cons {n i w : Nat} {o : Option Nat} {r : Ring} : run1 n i w (o :: r) = (w1 n i w o).bind fun w' => run1 n i w' r := by
  cases e : w1 n i w o with
  | none => show (match w1 n i w o with | none => none | some w' => run1 n i w' r) = _; rw [e]; rfl
  | some w' => show (match w1 n i w o with | none => none | some w' => run1 n i w' r) = _; rw [e]; rfl
theorem run1_append (n i : Nat) : ∀ (a b : Ring) (w : Nat), run1 n i w (a ++ b) = (run1 n i w a).bind fun w' => run1 n i w' b
  | [], b, w => by rw [List.nil_append, run1_nil]; rfl
  | o :: a, b, w => by
    rw [List.cons_append, run1_cons, run1_cons]
    cases w1 n i w o with
    | none => rfl
    | some w' => exact run1_append n i a b w'
/-- behind a time it comes, the wait before does not matter -/
theorem run1_same {n i : Nat} : ∀ (r : Ring) (w v a b : Nat), some i ∈ r → run1 n i w r = some a → run1 n i v r = some b → a = b
  | [], _, _, _, _, h, _, _ => absurd h (by simp)
  | o :: r, w, v, a, b, h, h1, h2 => by
    rw [run1_cons] at h1 h2
    unfold w1 at h1 h2
    by_cases ho : o = some i
    · rw [if_pos ho] at h1 h2
      have h1' : run1 n i n r = some a := h1
      rw [show run1 n i n r = some b from h2] at h1'
      exact (Option.some.inj h1').symm
    · rw [if_neg ho] at h1 h2
      have hm : some i ∈ r := by
        rcases List.mem_cons.1 h with e | e
        · exact absurd e.symm ho
        · exact e
      by_cases hw : w ≤ 1
      · rw [if_pos hw] at h1; cases h1
      · by_cases hv : v ≤ 1
        · rw [if_pos hv] at h2; cases h2
        · rw [if_neg hw] at h1
          rw [if_neg hv] at h2
          exact run1_same r (w - 1) (v - 1) a b hm h1 h2
theorem run1_less {n i : Nat} : ∀ (r : Ring) (w a : Nat), some i ∉ r → run1 n i w r = some a → a + r.length = w
  | [], w, a, _, h => by cases h; rfl
  | o :: r, w, a, h, h1 => by
    rw [run1_cons] at h1
    unfold w1 at h1
    rw [if_neg (fun e => h (by rw [← e]; exact List.mem_cons_self))] at h1
    by_cases hw : w ≤ 1
    · rw [if_pos hw] at h1; cases h1
    · rw [if_neg hw] at h1
      have := run1_less r (w - 1) a (fun z => h (List.mem_cons_of_mem _ z)) h1
      rw [List.length_cons]
      omega
theorem run1_le {n i : Nat} : ∀ (r : Ring) (w a : Nat), w ≤ n → run1 n i w r = some a → a ≤ n
  | [], w, a, h, h1 => by cases h1; exact h
  | o :: r, w, a, h, h1 => by
    rw [run1_cons] at h1
    unfold w1 at h1
    by_cases ho : o = some i
    · rw [if_pos ho] at h1
      exact run1_le r n a (Nat.le_refl _) h1
    · rw [if_neg ho] at h1
      by_cases hw : w ≤ 1
      · rw [if_pos hw] at h1; cases h1
      · rw [if_neg hw] at h1
        exact run1_le r (w - 1) a (by omega) h1
theorem run1_pos {n i : Nat} (hn : 0 < n) : ∀ (r : Ring) (w a : Nat), 0 < w → run1 n i w r = some a → 0 < a
  | [], w, a, h, h1 => by cases h1; exact h
  | o :: r, w, a, h, h1 => by
    rw [run1_cons] at h1
    unfold w1 at h1
    by_cases ho : o = some i
    · rw [if_pos ho] at h1
      exact run1_pos hn r n a hn h1
    · rw [if_neg ho] at h1
      by_cases hw : w ≤ 1
      · rw [if_pos hw] at h1; cases h1
      · rw [if_neg hw] at h1
        exact run1_pos hn r (w - 1) a (by omega) h1
theorem run1_breaks {n i : Nat} : ∀ (r : Ring) (w : Nat), 0 < w → w ≤ r.length → (∀ k, k < w → r[k]? ≠ some (some i)) → run1 n i w r = none
  | [], w, hw, hl, h => by simp at hl; omega
  | o :: r, w, hw, hl, h => by
    rw [run1_cons]
    unfold w1
    rw [if_neg (fun e => h 0 hw (by rw [e]; rfl))]
    by_cases h3 : w ≤ 1
    · rw [if_pos h3]; rfl
    · rw [if_neg h3]
      exact run1_breaks r (w - 1) (by omega) (by simp at hl; omega) fun k hk => by
        have := h (k + 1) (by omega)
        simpa using this
theorem run1_why {n i : Nat} : ∀ (l : Ring) (w : Nat), 0 < w → run1 n i w l = none → (w ≤ l.length ∧ ∀ j, j < w → l[j]? ≠ some (some i)) ∨ ∃ p, p + n ≤ l.length ∧ ∀ j, j < n → l[p + j]? ≠ some (some i)
  | [], w, hw, h => by cases h
  | o :: l, w, hw, h => by
    rw [run1_cons] at h
    unfold w1 at h
    have up : (∃ p, p + n ≤ l.length ∧ ∀ j, j < n → l[p + j]? ≠ some (some i)) → ∃ p, p + n ≤ (o :: l).length ∧ ∀ j, j < n → (o :: l)[p + j]? ≠ some (some i) := fun ⟨p, h1, h2⟩ =>
      ⟨p + 1, by rw [List.length_cons]; omega, fun j hj => by
        have e : p + 1 + j = (p + j) + 1 := by omega
        rw [e]
        simpa using h2 j hj⟩
    by_cases ho : o = some i
    · rw [if_pos ho] at h
      by_cases hn : n = 0
      · exact .inr ⟨0, by omega, fun j hj => by omega⟩
      · rcases run1_why l n (by omega) h with ⟨h1, h2⟩ | h1
        · exact .inr (up ⟨0, by omega, fun j hj => by rw [Nat.zero_add]; exact h2 j hj⟩)
        · exact .inr (up h1)
    · rw [if_neg ho] at h
      by_cases hw1 : w ≤ 1
      · left
        refine ⟨by rw [List.length_cons]; omega, fun j hj => ?_⟩
        have e : j = 0 := by omega
        subst e
        simpa using ho
      · rw [if_neg hw1] at h
        rcases run1_why l (w - 1) (by omega) h with ⟨h1, h2⟩ | h1
        · left
          refine ⟨by rw [List.length_cons]; omega, fun j hj => ?_⟩
          by_cases hj0 : j = 0
          · subst hj0; simpa using ho
          · have e : j = (j - 1) + 1 := by omega
            rw [e]
            simpa using h2 (j - 1) (by omega)
        · exact .inr (up h1)
/-- from the greatest wait it goes on round and round -/
def On1 (n i : Nat) (r : Ring) : Prop := ∃ a b, run1 n i n r = some a ∧ run1 n i a r = some b ∧ a ≤ b
theorem twice_at {r : Ring} {k : Nat} (hk : k < 2 * r.length) : (r ++ r)[k]? = r[k % r.length]? := by
  by_cases h : k < r.length
  · rw [List.getElem?_append_left h, Nat.mod_eq_of_lt h]
  · rw [List.getElem?_append_right (by omega), Nat.mod_eq_sub_mod (by omega), Nat.mod_eq_of_lt (by omega)]
theorem keep_on {n i : Nat} {r : Ring} (hn : 0 < n) (hr : 0 < r.length) (h : Keep1 n i r) : On1 n i r := by
  have hm : some i ∈ r := by
    obtain ⟨k, _, e⟩ := h 0 hr
    exact List.mem_of_getElem? e
  have hb : ∃ b, run1 n i n (r ++ r) = some b := by
    cases e : run1 n i n (r ++ r) with
    | some b => exact ⟨b, rfl⟩
    | none =>
      exfalso
      have hx : ∃ p, p + n ≤ (r ++ r).length ∧ ∀ j, j < n → (r ++ r)[p + j]? ≠ some (some i) := by
        rcases run1_why _ _ hn e with ⟨h1, h2⟩ | h1
        · exact ⟨0, by omega, fun j hj => by rw [Nat.zero_add]; exact h2 j hj⟩
        · exact h1
      obtain ⟨p, h1, h2⟩ := hx
      rw [List.length_append] at h1
      obtain ⟨k, hk, e2⟩ := h.at hr p
      refine h2 k hk ?_
      rw [twice_at (by omega)]
      exact e2
  obtain ⟨b, hb⟩ := hb
  rw [run1_append] at hb
  cases e : run1 n i n r with
  | none => rw [e] at hb; cases hb
  | some a =>
    rw [e] at hb
    have hb' : run1 n i a r = some b := hb
    exact ⟨a, b, e, hb', Nat.le_of_eq (run1_same r n a a b hm e hb')⟩
theorem on_keep {n i : Nat} {r : Ring} (hn : 0 < n) (hr : 0 < r.length) (h : On1 n i r) : Keep1 n i r := by
  obtain ⟨a, b, h1, h2, hab⟩ := h
  have hm : some i ∈ r := by
    by_cases hm : some i ∈ r
    · exact hm
    · exfalso
      have := run1_less r a b hm h2
      omega
  intro p hp
  by_cases hx : ∃ k, k < n ∧ r[(p + k) % r.length]? = some (some i)
  · exact hx
  · exfalso
    have hno : ∀ k, k < n → r[(p + k) % r.length]? ≠ some (some i) := fun k hk e => hx ⟨k, hk, e⟩
    by_cases hl : r.length ≤ n
    · obtain ⟨j, hj⟩ := List.getElem?_of_mem hm
      have hjl := (List.getElem?_eq_some_iff.mp hj).1
      -- the place j, from p on over the end
      by_cases hpj : p ≤ j
      · refine hno (j - p) (by omega) ?_
        rw [Nat.add_sub_cancel' hpj, Nat.mod_eq_of_lt hjl]
        exact hj
      · refine hno (j + r.length - p) (by omega) ?_
        have e : p + (j + r.length - p) = j + r.length := by omega
        rw [e, Nat.add_mod_right, Nat.mod_eq_of_lt hjl]
        exact hj
    · have hb : run1 n i n (r ++ r) = some b := by rw [run1_append, h1]; exact h2
      have e : (r ++ r) = (r ++ r).take p ++ (r ++ r).drop p := (List.take_append_drop p (r ++ r)).symm
      rw [e, run1_append] at hb
      cases e1 : run1 n i n ((r ++ r).take p) with
      | none => rw [e1] at hb; cases hb
      | some c =>
        rw [e1] at hb
        have hb' : run1 n i c ((r ++ r).drop p) = some b := hb
        have hc := run1_le _ _ _ (Nat.le_refl n) e1
        have hc0 := run1_pos hn _ _ _ hn e1
        rw [run1_breaks _ c hc0 (by rw [List.length_drop, List.length_append]; omega) fun k hk => by
          rw [List.getElem?_drop, twice_at (by omega)]
          exact hno k (by omega)] at hb'
        cases hb'
end WM

namespace WM
/-! ### all waits behind a day -/
def wb (ns ws : List Nat) (o : Option Nat) (i : Nat) : Nat := if o = some i then ns.getD i 0 else ws.getD i 0 - 1
def wbs (ns ws : List Nat) (o : Option Nat) : List Nat := (List.range ns.length).map (wb ns ws o)
def stepM (ns ws : List Nat) (o : Option Nat) : Option (List Nat) := if (wbs ns ws o).contains 0 then none else some (wbs ns ws o)
def ledM (ns : List Nat) : List Nat → Ring → Option (List Nat)
  | ws, [] => some ws
  | ws, o :: r => (stepM ns ws o).bind fun ws' => ledM ns ws' r
def leB (a b : List Nat) : Bool := (List.range a.length).all fun i => decide (a.getD i 0 ≤ b.getD i 0)
def onM (ns ws : List Nat) (r : Ring) : Bool := match ledM ns ws r with
  | none => false
  | some a => match ledM ns a r with
    | none => false
    | some b => leB a b
/-- each wait at least 1, as many as numbers -/
def Ws (ns ws : List Nat) : Prop := ws.length = ns.length ∧ ∀ i, i < ns.length → 0 < ws.getD i 0
theorem wbs_len (ns ws : List Nat) (o : Option Nat) : (wbs ns ws o).length = ns.length := by simp [wbs]
theorem wbs_at {ns ws : List Nat} {o : Option Nat} {i : Nat} (h : i < ns.length) : (wbs ns ws o).getD i 0 = wb ns ws o i := by
  unfold wbs
  rw [List.getD_eq_getElem?_getD]; rw [List.getElem?_map, List.getElem?_range h]
  rfl
theorem wbs_zero {ns ws : List Nat} {o : Option Nat} : (wbs ns ws o).contains 0 = true ↔ ∃ i, i < ns.length ∧ wb ns ws o i = 0 := by
  rw [List.contains_iff_mem]
  unfold wbs
  rw [List.mem_map]
  constructor
  · rintro ⟨i, h1, h2⟩; exact ⟨i, List.mem_range.mp h1, h2⟩
  · rintro ⟨i, h1, h2⟩; exact ⟨i, List.mem_range.mpr h1, h2⟩
theorem wb_w1 {ns ws : List Nat} {o : Option Nat} {i : Nat} (hn : 0 < ns.getD i 0) (hw : 0 < ws.getD i 0) :
    (wb ns ws o i = 0 ∧ w1 (ns.getD i 0) i (ws.getD i 0) o = none) ∨ (0 < wb ns ws o i ∧ w1 (ns.getD i 0) i (ws.getD i 0) o = some (wb ns ws o i)) := by
  unfold wb w1
  by_cases ho : o = some i
  · rw [if_pos ho, if_pos ho]; exact .inr ⟨hn, rfl⟩
  · rw [if_neg ho, if_neg ho]
    by_cases h : ws.getD i 0 ≤ 1
    · rw [if_pos h]; exact .inl ⟨by omega, rfl⟩
    · rw [if_neg h]; exact .inr ⟨by omega, rfl⟩
theorem stepM_some {ns ws l : List Nat} {o : Option Nat} (hn : Ws ns ns) (hw : Ws ns ws) (h : stepM ns ws o = some l) : Ws ns l ∧ ∀ i, i < ns.length → w1 (ns.getD i 0) i (ws.getD i 0) o = some (l.getD i 0) := by
  unfold stepM at h
  cases hc : (wbs ns ws o).contains 0 with
  | true => rw [hc] at h; simp at h
  | false =>
    rw [hc] at h
    have e : wbs ns ws o = l := by simpa using h
    have hno : ¬ ∃ i, i < ns.length ∧ wb ns ws o i = 0 := fun z => by rw [wbs_zero.mpr z] at hc; cases hc
    have hi : ∀ i, i < ns.length → 0 < wb ns ws o i ∧ w1 (ns.getD i 0) i (ws.getD i 0) o = some (wb ns ws o i) := fun i hi => by
      rcases wb_w1 (o := o) (hn.2 i hi) (hw.2 i hi) with z | z
      · exact absurd ⟨i, hi, z.1⟩ hno
      · exact z
    subst e
    refine ⟨⟨wbs_len _ _ _, fun i h => by rw [wbs_at h]; exact (hi i h).1⟩, fun i h => by rw [wbs_at h]; exact (hi i h).2⟩
theorem stepM_none {ns ws : List Nat} {o : Option Nat} (hn : Ws ns ns) (hw : Ws ns ws) (h : stepM ns ws o = none) : ∃ i, i < ns.length ∧ w1 (ns.getD i 0) i (ws.getD i 0) o = none := by
  unfold stepM at h
  cases hc : (wbs ns ws o).contains 0 with
  | false => rw [hc] at h; simp at h
  | true =>
    obtain ⟨i, hi, h0⟩ := wbs_zero.mp hc
    rcases wb_w1 (o := o) (hn.2 i hi) (hw.2 i hi) with z | z
    · exact ⟨i, hi, z.2⟩
    · omega
theorem ledM_some {ns : List Nat} (hn : Ws ns ns) : ∀ (r : Ring) (ws l : List Nat), Ws ns ws → ledM ns ws r = some l → Ws ns l ∧ ∀ i, i < ns.length → run1 (ns.getD i 0) i (ws.getD i 0) r = some (l.getD i 0)
  | [], ws, l, hw, h => by cases h; exact ⟨hw, fun i _ => rfl⟩
  | o :: r, ws, l, hw, h => by
    unfold ledM at h
    cases e : stepM ns ws o with
    | none => rw [e] at h <;> cases h
    | some ws' =>
      rw [e] at h
      obtain ⟨h1, h2⟩ := stepM_some hn hw e
      obtain ⟨h3, h4⟩ := ledM_some hn r ws' l h1 h
      exact ⟨h3, fun i hi => by rw [run1_cons, h2 i hi]; exact h4 i hi⟩
theorem ledM_runs {ns : List Nat} (hn : Ws ns ns) : ∀ (r : Ring) (ws : List Nat), Ws ns ws → (∀ i, i < ns.length → ∃ a, run1 (ns.getD i 0) i (ws.getD i 0) r = some a) → ∃ l, ledM ns ws r = some l
  | [], ws, _, _ => ⟨ws, rfl⟩
  | o :: r, ws, hw, h => by
    unfold ledM
    cases e : stepM ns ws o with
    | none =>
      obtain ⟨i, hi, h0⟩ := stepM_none hn hw e
      obtain ⟨a, ha⟩ := h i hi
      rw [run1_cons, h0] at ha
      cases ha
    | some ws' =>
      obtain ⟨h1, h2⟩ := stepM_some hn hw e
      exact ledM_runs hn r ws' h1 fun i hi => by
        obtain ⟨a, ha⟩ := h i hi
        rw [run1_cons, h2 i hi] at ha
        exact ⟨a, ha⟩
theorem on_iff {ns : List Nat} {r : Ring} (hn : Ws ns ns) : onM ns ns r = true ↔ ∀ i, i < ns.length → On1 (ns.getD i 0) i r := by
  unfold onM
  constructor
  · intro h i hi
    cases e : ledM ns ns r with
    | none => rw [e] at h <;> cases h
    | some a =>
      rw [e] at h
      obtain ⟨h1, h2⟩ := ledM_some hn r ns a hn e
      cases e2 : ledM ns a r with
      | none => simp only [e2] at h; cases h
      | some b =>
        simp only [e2] at h
        obtain ⟨h3, h4⟩ := ledM_some hn r a b h1 e2
        unfold leB at h
        rw [List.all_eq_true] at h
        exact ⟨_, _, h2 i hi, h4 i hi, of_decide_eq_true (h i (List.mem_range.mpr (by rw [h1.1]; exact hi)))⟩
  · intro h
    obtain ⟨a, e⟩ := ledM_runs hn r ns hn fun i hi => by
      obtain ⟨a, b, h1, _⟩ := h i hi
      exact ⟨a, h1⟩
    obtain ⟨h1, h2⟩ := ledM_some hn r ns a hn e
    obtain ⟨b, e2⟩ := ledM_runs hn r a h1 fun i hi => by
      obtain ⟨a', b, h3, h4, _⟩ := h i hi
      rw [h2 i hi] at h3
      cases h3
      exact ⟨b, h4⟩
    obtain ⟨h3, h4⟩ := ledM_some hn r a b h1 e2
    simp only [e, e2]
    unfold leB
    rw [List.all_eq_true]
    intro i hi
    have hi' : i < ns.length := by rw [← h1.1]; exact List.mem_range.mp hi
    obtain ⟨a', b', k1, k2, k3⟩ := h i hi'
    rw [h2 i hi'] at k1
    cases k1
    rw [h4 i hi'] at k2
    cases k2
    exact decide_eq_true k3
theorem ws_of {ns : List Nat} (h : ∀ n ∈ ns, 0 < n) : Ws ns ns := ⟨rfl, fun i hi => by
  rw [List.getD_eq_getElem?_getD, List.getElem?_eq_getElem (by omega)]
  exact h _ (List.getElem_mem hi)⟩
theorem on_keeps {ns : List Nat} {r : Ring} (h : ∀ n ∈ ns, 0 < n) (hr : 0 < r.length) : onM ns ns r = true ↔ Keeps ns r := by
  rw [on_iff (ws_of h)]
  constructor
  · intro h1 i n hi
    have hlt := (List.getElem?_eq_some_iff.mp hi).1
    have e : ns.getD i 0 = n := by rw [List.getD_eq_getElem?_getD, hi]; rfl
    have := h1 i hlt
    rw [e] at this
    exact on_keep (h n (List.mem_of_getElem? hi)) hr this
  · intro h1 i hi
    have e : ns[i]? = some (ns.getD i 0) := by rw [List.getD_eq_getElem?_getD, List.getElem?_eq_getElem hi]; rfl
    exact keep_on (h _ (List.mem_of_getElem? e)) hr (h1 i _ e)

/-! ### the makers, as functions -/
def lcmL (ns : List Nat) : Nat := ns.foldl Nat.lcm 1
def above (ns : List Nat) : Nat := (ns.map (lcmL ns / ·)).sum
def room (ns : List Nat) : Bool := decide (above ns / Nat.gcd (above ns) (lcmL ns) ≤ lcmL ns / Nat.gcd (above ns) (lcmL ns))
def lexLe (p q : Nat × Nat) : Bool := decide (p.1 < q.1) || (decide (p.1 = q.1) && decide (p.2 ≤ q.2))
def insP (p : Nat × Nat) : List (Nat × Nat) → List (Nat × Nat)
  | [] => [p]
  | q :: r => if lexLe p q then p :: q :: r else q :: insP p r
def sortP : List (Nat × Nat) → List (Nat × Nat)
  | [] => []
  | p :: r => insP p (sortP r)
def risT (ns : List Nat) : List Nat := (sortP ns.zipIdx).map (·.2)
def insN (p : Nat) : List Nat → List Nat
  | [] => [p]
  | q :: r => if p ≤ q then p :: q :: r else q :: insN p r
def sortN : List Nat → List Nat
  | [] => []
  | p :: r => insN p (sortN r)
def insD (p : Nat) : List Nat → List Nat
  | [] => [p]
  | q :: r => if p < q then p :: q :: r else if p = q then q :: r else q :: insD p r
/-- rising, none twice -/
def sortD : List Nat → List Nat
  | [] => []
  | p :: r => insD p (sortD r)
def divOn (ns : List Nat) : Bool := (List.range ((sortN ns).length - 1)).all fun k => decide ((sortN ns).getD (k + 1) 0 % (sortN ns).getD k 0 = 0)
def minL : List Nat → Nat
  | [] => 0
  | n :: ns => ns.foldl min n
def maxL (n : Nat) (ns : List Nat) : Nat := ns.foldl max n
def setsM (r : Ring) (first n i : Nat) : Nat → Ring
  | 0 => r
  | k + 1 => (setsM r first n i k).set (first + k * n) (some i)
def cnt (first len n : Nat) : Nat := if first < len then (len - first - 1) / n + 1 else 0
def freeM (r : Ring) : Option Nat := r.findIdx? (fun o => o.isNone)
def layM (ns : List Nat) : List Nat → Ring → Option Ring
  | [], r => some r
  | i :: is, r => match freeM r with
    | none => none
    | some f => layM ns is (setsM r f (ns.getD i 0) i (cnt f r.length (ns.getD i 0)))
def top (ns : List Nat) : Nat := maxL ((ns ++ [1]).headD 0) ((ns ++ [1]).tail)
/-- outer none: not told of -/
def dividingM (ns : List Nat) : Option (Option Ring) :=
  if room ns && divOn ns then (layM ns (risT ns) (List.replicate (top ns) none)).map some else some none
def turnsM (is : List Nat) : Ring := if is = [] then [none] else is.map some
def goM (days told : Nat) (others : List Nat) (r : Ring) : Bool := r.isEmpty || decide (0 < r.length % days) || decide (0 < told % others.length)
def spreadM (days : Nat) (things others : List Nat) : Nat → Ring → Nat → Option Ring
  | 0, _, _ => none
  | f + 1, r, told =>
    if goM days told others r then
      if (r.length + 1) * things.length / days > r.length * things.length / days then
        spreadM days things others f (r ++ [some (things.getD (r.length * things.length / days % things.length) 0)]) told
      else spreadM days things others f (r ++ [some (others.getD (told % others.length) 0)]) (told + 1)
    else some r
def fewM (ns : List Nat) : List Nat := (risT ns).filter fun i => decide (ns.getD i 0 = minL ns)
def twoM (ns : List Nat) : Option (Option Ring) :=
  if room ns && decide ((sortD ns).length ≤ 2) then
    if (fewM ns).length = (risT ns).length then some (some (turnsM (risT ns)))
    else (spreadM (minL ns) (fewM ns) ((risT ns).drop (fewM ns).length) 200 [] 0).map some
  else some none
def dbl : Nat → Nat → Nat → Nat
  | 0, f, _ => f
  | k + 1, f, n => if 2 * f ≤ n then dbl k (2 * f) n else f
def smallGo (ns : List Nat) : List Nat → Option (Option (List Nat × Option Ring))
  | [] => some none
  | f :: fs => if room (ns.map (dbl 50 f)) then (dividingM (ns.map (dbl 50 f))).map fun r => some (ns.map (dbl 50 f), r) else smallGo ns fs
def smallerM (ns : List Nat) : Option (Option (List Nat × Option Ring)) :=
  if ns = [] then (dividingM []).map fun r => some ([], r) else smallGo ns ((List.range (minL ns)).map (· + 1))
def lowM (ns : List Nat) (h : Nat) : List Nat := ns.map fun n => if n < h then minL ns else h
def lowGo (ns : List Nat) : List Nat → Option (Option (List Nat × Option Ring))
  | [] => some none
  | h :: hs => if room (lowM ns h) then (twoM (lowM ns h)).map fun r => some (lowM ns h, r) else lowGo ns hs
def lowerM (ns : List Nat) : Option (Option (List Nat × Option Ring)) :=
  if ns = [] then (twoM []).map fun r => some ([], r) else lowGo ns (sortD ns)
def atOnceM (ns : List Nat) : Option (Option Ring) :=
  match dividingM ns, twoM ns with
  | some (some r), some _ => some (some r)
  | some none, some (some r) => some (some r)
  | some none, some none => match smallerM ns, lowerM ns with
    | some (some p), some _ => some p.2
    | some none, some (some p) => some p.2
    | some none, some none => some none
    | _, _ => none
  | _, _ => none
/-- what is known of a ring told at once -/
def chk (ns : List Nat) : Bool := match atOnceM ns with
  | none => false
  | some none => !ns.isEmpty
  | some (some r) => !r.isEmpty && decide (r.length ≤ 100) && r.all (fun o => match o with | none => true | some i => decide (i < ns.length)) && keepsB ns r
def els : List Nat := [2, 3, 4, 5, 6, 7, 8]
def dom : List (List Nat) := [[]] ++ els.map (fun a => [a]) ++ (els.flatMap fun a => els.map fun b => [a, b]) ++ (els.flatMap fun a => els.flatMap fun b => els.map fun c => [a, b, c])
theorem dom_chk : dom.all chk = true := by decide +kernel
theorem mem_dom {ns : List Nat} (hl : ns.length ≤ 3) (h : ∀ n ∈ ns, 2 ≤ n ∧ n ≤ 8) : ns ∈ dom := by
  have el : ∀ n, 2 ≤ n ∧ n ≤ 8 → n ∈ els := fun n hn => by
    unfold els
    simp only [List.mem_cons, List.not_mem_nil, or_false]
    omega
  unfold dom
  match ns, hl, h with
  | [], _, _ => simp
  | [a], _, h =>
    have ha := el a (h a (by simp))
    simp [ha]
  | [a, b], _, h =>
    have ha := el a (h a (by simp))
    have hb := el b (h b (by simp))
    simp [ha, hb]
  | [a, b, c], _, h =>
    have ha := el a (h a (by simp))
    have hb := el b (h b (by simp))
    have hc := el c (h c (by simp))
    simp [ha, hb, hc]
    exact ⟨a, ha, b, hb, c, hc, rfl, rfl, rfl⟩
theorem at_chk {ns : List Nat} (hl : ns.length ≤ 3) (h : ∀ n ∈ ns, 2 ≤ n ∧ n ≤ 8) : chk ns = true := List.all_eq_true.mp dom_chk ns (mem_dom hl h)
structure Good (ns : List Nat) (r : Ring) : Prop where
  ne : r ≠ []
  len : r.length ≤ 100
  ins : ∀ i, some i ∈ r → i < ns.length
  keep : Keeps ns r
theorem at_good {ns : List Nat} (hl : ns.length ≤ 3) (h : ∀ n ∈ ns, 2 ≤ n ∧ n ≤ 8) : ∃ res, atOnceM ns = some res ∧ (res = none → ns ≠ []) ∧ ∀ r, res = some r → Good ns r := by
  have hc := at_chk hl h
  unfold chk at hc
  cases e : atOnceM ns with
  | none => rw [e] at hc; cases hc
  | some res =>
    rw [e] at hc
    refine ⟨res, rfl, fun e2 => ?_, fun r e2 => ?_⟩
    · subst e2
      intro z
      subst z
      simp at hc
    · subst e2
      simp only [Bool.and_eq_true, List.all_eq_true, decide_eq_true_eq] at hc
      obtain ⟨⟨⟨h1, h2⟩, h3⟩, h4⟩ := hc
      refine ⟨fun z => by subst z; simp at h1, h2, fun i hi => ?_, keeps_of h4⟩
      have := h3 _ hi
      simpa using this
end WM

namespace WD
open PySem PySem.Spec PyProof.Rows L2 WM

/-! ### the text by places; what is never come to -/
def topS (i : Nat) : Stmt := PySem.Challenge.pw_withindays_k84_whole_put_together.main.body.getD i (.Pass ⟨0, 0, 0, 0⟩)
theorem pe_never {X : Cx} {e : Expr} : PE X e (fun _ _ _ => False) := ⟨fun _ _ _ _ _ _ h => h.elim⟩
theorem pt_never {X : Cx} {e : Expr} : PT X e (fun _ _ _ => False) := ⟨fun _ _ _ _ _ _ h => h.elim⟩
/-- a module's constant -/
theorem pe_kc {X : Cx} {x : Str} {v : V} {pos : Pos} (h : ∃ u, X.mg x = some u ∧ RelV v u) (hg : Gl X x) (hd : (x == ("__debug__" : Str)) = false := by decide) : PE X (.Name x pos) (tC v) := by
  obtain ⟨u, h1, h2⟩ := h
  exact pe_glob hg h1 h2 hd
theorem bt_len : bootBuiltins "len" = some (.builtin "len") := by decide +kernel
theorem bt_isinstance : bootBuiltins "isinstance" = some (.builtin "isinstance") := by decide +kernel
theorem bt_tuple : bootBuiltins "tuple" = some (.type "tuple") := by decide +kernel
theorem bt_list : bootBuiltins "list" = some (.type "list") := by decide +kernel
theorem bt_int : bootBuiltins "int" = some (.type "int") := by decide +kernel
theorem bt_bool : bootBuiltins "bool" = some (.type "bool") := by decide +kernel
theorem bt_str : bootBuiltins "str" = some (.type "str") := by decide +kernel
theorem bt_sum : bootBuiltins "sum" = some (.builtin "sum") := by decide +kernel
theorem bt_min : bootBuiltins "min" = some (.builtin "min") := by decide +kernel
theorem bt_max : bootBuiltins "max" = some (.builtin "max") := by decide +kernel
theorem bt_sorted : bootBuiltins "sorted" = some (.builtin "sorted") := by decide +kernel
theorem bt_set : bootBuiltins "set" = some (.type "set") := by decide +kernel
theorem bt_all : bootBuiltins "all" = some (.builtin "all") := by decide +kernel
/-- the names that the top leaves to the built-ins; its constants -/
structure Bl (mg : Str → Option Value) : Prop where
  len : mg "len" = none
  isinstance : mg "isinstance" = none
  tuple : mg "tuple" = none
  list : mg "list" = none
  int : mg "int" = none
  bool : mg "bool" = none
  str : mg "str" = none
  range : mg "range" = none
  sum : mg "sum" = none
  min : mg "min" = none
  max : mg "max" = none
  sorted : mg "sorted" = none
  set : mg "set" = none
  enumerate : mg "enumerate" = none
  all : mg "all" = none
  c_MOST_ON_A_DAY : ∃ u, mg "MOST_ON_A_DAY" = some u ∧ RelV (.int 2) u
  c_LONGEST : ∃ u, mg "LONGEST" = some u ∧ RelV (.int 4000) u
  c_MOST_THINGS_numbers : ∃ u, mg "MOST_THINGS_numbers" = some u ∧ RelV (.int 8) u
  c_GREATEST_numbers : ∃ u, mg "GREATEST_numbers" = some u ∧ RelV (.int 40) u
  c_MOST_THINGS_turning : ∃ u, mg "MOST_THINGS_turning" = some u ∧ RelV (.int 8) u
  c_MOST_OFF : ∃ u, mg "MOST_OFF" = some u ∧ RelV (.int 7) u
  c_MOST_HANDS : ∃ u, mg "MOST_HANDS" = some u ∧ RelV (.int 2) u
  c_PARTS : ∃ u, mg "PARTS" = some u ∧ RelV (.int 5) u
  c_MOST_LEAD : ∃ u, mg "MOST_LEAD" = some u ∧ RelV (.int 4000) u
  c_MOST_THINGS_fitting : ∃ u, mg "MOST_THINGS_fitting" = some u ∧ RelV (.int 8) u
  c_GREATEST_fitting : ∃ u, mg "GREATEST_fitting" = some u ∧ RelV (.int 40) u
  c_MOST_SHORT : ∃ u, mg "MOST_SHORT" = some u ∧ RelV (.int 100) u
theorem kb_ii : kitB "int" "int" = some true := by decide +kernel
theorem kb_ib : kitB "int" "bool" = some false := by decide +kernel
theorem kb_ll : kitB "list" "list" = some true := by decide +kernel
theorem kb_lt : kitB "list" "tuple" = some false := by decide +kernel
theorem kb_tl : kitB "tuple" "list" = some false := by decide +kernel
theorem kb_tt : kitB "tuple" "tuple" = some true := by decide +kernel
theorem kb_il : kitB "int" "list" = some false := by decide +kernel
theorem kb_it : kitB "int" "tuple" = some false := by decide +kernel
theorem kb_sl : kitB "str" "list" = some false := by decide +kernel
theorem kb_st : kitB "str" "tuple" = some false := by decide +kernel
theorem kb_ss : kitB "str" "str" = some true := by decide +kernel

/-! ### the data of this program -/
def dayD : Option Nat → PyData
  | none => .tuple []
  | some i => .tuple [.int (i : Int)]
def ringD (r : Ring) : PyData := .tuple (r.map dayD)
def nI (ns : List Nat) : List Int := ns.map fun n : Nat => (n : Int)
def numD (ns : List Nat) : PyData := .tuple ((nI ns).map .int)
def taskD (ns : List Nat) : PyData := .tuple [numD ns, .int 1, .tuple [.int 0], .tuple [], .tuple []]
def standD (ws : List Nat) : PyData := .tuple [.int 0, numD ws, .tuple [], .tuple []]
def onD (r : Ring) : PyData := .tuple [.str ("on" : Str), .tuple [], ringD r]
def dayI (o : Option Nat) : List Int := o.toList.map fun i : Nat => (i : Int)
theorem dayD_eq (o : Option Nat) : dayD o = .tuple ((dayI o).map .int) := by cases o <;> rfl
theorem dayD_ints (o : Option Nat) : Ints (dayD o) (dayI o) := .inl (dayD_eq o)
theorem lf_ints (ns : List Int) : lf (.tuple (ns.map .int)) = true := by unfold lf; exact lfAll_ints ns
theorem lf_day (o : Option Nat) : lf (dayD o) = true := by rw [dayD_eq]; exact lf_ints _
theorem lfAll_map {α : Type} {f : α → PyData} (h : ∀ x, lf (f x) = true) : ∀ xs : List α, lfAll (xs.map f) = true
  | [] => rfl
  | x :: xs => by
    show (lf (f x) && lfAll (xs.map f)) = true
    rw [h x, lfAll_map h xs]; rfl
theorem lf_tup {ds : List PyData} (h : lfAll ds = true) : lf (.tuple ds) = true := by unfold lf; exact h
theorem lf_ring (r : Ring) : lf (ringD r) = true := lf_tup (lfAll_map lf_day r)
theorem lf_num (ns : List Nat) : lf (numD ns) = true := lf_ints _
theorem lf_stand (ws : List Nat) : lf (standD ws) = true := by
  show (true && (lf (numD ws) && (true && (true && true)))) = true
  rw [lf_num]; rfl
theorem lf_task (ns : List Nat) : lf (taskD ns) = true := by
  show (lf (numD ns) && true) = true
  rw [lf_num]; rfl
theorem sh_day (o : Option Nat) : Sh 1 (dayD o) := by rw [dayD_eq]; exact sh_tup (sh_ints _)
theorem sh_map {α : Type} {f : α → PyData} {n : Nat} (h : ∀ x, Sh n (f x)) (xs : List α) : ∀ d ∈ xs.map f, Sh n d := fun d hd => by
  obtain ⟨x, _, rfl⟩ := List.mem_map.mp hd
  exact h x
theorem sh_ring (r : Ring) : Sh 2 (ringD r) := sh_tup (sh_map sh_day r)
theorem shaped_day (o : Option Nat) : SeqAt.shaped (dayD o) = true := (sh_day o).ok (by decide)
theorem shaped_ring (r : Ring) : SeqAt.shaped (ringD r) = true := (sh_ring r).ok (by decide)
theorem ring_len (r : Ring) : (r.map dayD).length = r.length := List.length_map _
theorem nI_len (ns : List Nat) : ((nI ns).map PyData.int).length = ns.length := by simp [nI]
def isRow : PyData → Bool
  | .list _ => true
  | .tuple _ => true
  | _ => false
end WD

namespace WD
open PySem PySem.Spec PyProof.Rows L2 WM
local macro_rules | `(tactic| walk_at "ed") => `(tactic| repeat' (first
  | exact ed_int | exact ed_bl | exact ed_non | exact ed_str
  | exact ed_var rfl | exact ed_varm rfl
  | refine' ed_add ?_ ?_ | refine' ed_sub ?_ ?_ | refine' ed_lt ?_ ?_ | refine' ed_le ?_ ?_ | refine' ed_gt ?_ ?_ | refine' ed_ge ?_ ?_
  | refine' ed_mul ?_ ?_ ?_ | refine' ed_fdiv ?_ ?_ ?_ | refine' ed_mod ?_ ?_ ?_
  | refine' ed_eq ?_ ?_ ?_ ?_ | refine' ed_ne ?_ ?_ ?_ ?_ | refine' ed_isN ?_ ?_ | refine' ed_notN ?_ ?_ | refine' ed_isB ?_ ?_
  | refine' ed_in ?_ ?_ ?_ | refine' ed_notIn ?_ ?_ ?_ | refine' ed_ix ?_ ?_ ?_ ?_
  | refine' ed_catT ?_ ?_ ?_ | refine' ed_repT ?_ ?_ ?_ ?_ ?_ ?_
  | refine' td_test ?_ | refine' td_B ?_ | refine' td_not ?_ | refine' td_and ?_ (fun _ => ?_) | refine' td_or ?_ (fun _ => ?_)
  | refine' ed_andV ?_ (fun _ => ?_) | refine' ed_orV ?_ (fun _ => ?_) | refine' ed_notV ?_
  | refine' ed_chain ?_ ?_ ?_
  | exact ea_nil | refine' ea_cons ?_ ?_ | refine' ed_tup ?_ ?_
  | refine' ed_lenT ?_ | refine' ed_lenL ?_ | refine' ed_tupL ?_ | refine' ed_intB ?_ | refine' ed_min2 ?_ ?_
  | refine' ed_isi2 ?_ ?_ ?_ | refine' ed_isi ?_ ?_
  | exact kb_ii | exact kb_ib | exact kb_ll | exact kb_lt | exact kb_tl | exact kb_tt | exact kb_il | exact kb_it | exact kb_sl | exact kb_st | exact kb_ss
  | exact eo_none | refine' eo_some ?_ | refine' ed_slT ?_ ?_ ?_
  | exact shaped_nilL | exact shaped_nilT | exact shaped_int _ | exact shaped_ints _ | exact shaped_intsL _))


/-! ### rows -/
def G_is_whole : List PyData → Res → Prop := fun ds r => ∃ i a b : Int, ds = [.int i, .int a, .int b] ∧ r = .d (.bool (decide (a ≤ i) && decide (i ≤ b)))
def G_is_row : List PyData → Res → Prop := fun ds r => ∃ d, ds = [d] ∧ (∀ kvs, d ≠ .dict kvs) ∧ r = .d (.bool (isRow d))
def G_is_rising : List PyData → Res → Prop := fun ds r => ∃ (o : Option Nat) (a b : Int), ds = [dayD o, .int a, .int b] ∧ (∀ i : Nat, o = some i → a ≤ (i : Int) ∧ (i : Int) ≤ b) ∧ r = .d (.bool true)
section
variable {P : Program} {w : World} {K : PySem.W.Frag} {mg : Str → Option Value} {base : Heap} {f : Addr} {fd : FuncData}
abbrev st_is_whole : Stmt := topS 9
theorem sc_is_whole : FnScope ["thing", "least", "most"] ["thing", "least", "most"] (defScope st_is_whole) := ⟨rfl, rfl, rfl, by decide +kernel, rfl, by decide +kernel, by decide +kernel⟩
theorem ok_is_whole (F : Fun K "is_whole" "is_whole" st_is_whole f fd) (T : Bl mg) : FnOk P w K mg base CX0 1 f fd ["thing", "least", "most"] (spG K G_is_whole) := by
  refine okG F sc_is_whole (fun ds r ⟨_, _, _, h, _⟩ => by rw [h]; rfl) fun cdv A outer s H E hr => ⟨_, (pss_one (ps_ret (pe_and (pe_callB call_isi (by rfl) T.isinstance bt_isinstance (pa_cons (pv 0) (pa_cons (pe_bltn (v := .ty "int") (by rfl) T.int bt_int rfl) pa_nil))) (pe_and (pe_not (pe_callB call_isi (by rfl) T.isinstance bt_isinstance (pa_cons (pv 0) (pa_cons (pe_bltn (v := .ty "bool") (by rfl) T.bool bt_bool rfl) pa_nil)))) (pe_one (pe_chain op_le op_le (pv 1) (pv 0) (pv 2))))))), fun ds r h => ?_⟩
  obtain ⟨i, a, b, rfl, rfl⟩ := h
  exact sd_ret (d := .bool (decide (a ≤ i) && decide (i ≤ b))) (Ed.is (by walk_at "ed") (by rfl)) rfl
abbrev st_is_row : Stmt := topS 10
theorem sc_is_row : FnScope ["thing"] ["thing"] (defScope st_is_row) := ⟨rfl, rfl, rfl, by decide +kernel, rfl, by decide +kernel, by decide +kernel⟩
theorem kb_nl : kitB "NoneType" "list" = some false := by decide +kernel
theorem kb_nt : kitB "NoneType" "tuple" = some false := by decide +kernel
theorem kb_bl : kitB "bool" "list" = some false := by decide +kernel
theorem kb_bt : kitB "bool" "tuple" = some false := by decide +kernel
theorem isRow_or (d : PyData) (h : ∀ kvs, d ≠ .dict kvs) : ∃ b c, kitB (tyN d) "list" = some b ∧ kitB (tyN d) "tuple" = some c ∧ (b || c) = isRow d := by
  cases d with
  | none => exact ⟨false, false, kb_nl, kb_nt, rfl⟩
  | bool b => exact ⟨false, false, kb_bl, kb_bt, rfl⟩
  | int i => exact ⟨false, false, kb_il, kb_it, rfl⟩
  | str s => exact ⟨false, false, kb_sl, kb_st, rfl⟩
  | list xs => exact ⟨true, false, kb_ll, kb_lt, rfl⟩
  | tuple xs => exact ⟨false, true, kb_tl, kb_tt, rfl⟩
  | dict kvs => exact absurd rfl (h kvs)
theorem ok_is_row (F : Fun K "is_row" "is_row" st_is_row f fd) (T : Bl mg) : FnOk P w K mg base CX0 1 f fd ["thing"] (spG K G_is_row) := by
  refine okG F sc_is_row (fun ds r ⟨_, h, _⟩ => by rw [h]; rfl) fun cdv A outer s H E hr => ⟨_, (pss_one (ps_ret (pe_callB call_isiT (by rfl) T.isinstance bt_isinstance (pa_cons (pv 0) (pa_cons (pe_tup (pa_cons (pe_bltn (v := .ty "list") (by rfl) T.list bt_list rfl) (pa_cons (pe_bltn (v := .ty "tuple") (by rfl) T.tuple bt_tuple rfl) pa_nil))) pa_nil))))), fun ds r h => ?_⟩
  obtain ⟨d, rfl, hd, rfl⟩ := h
  obtain ⟨b, c, h1, h2, h3⟩ := isRow_or d hd
  exact sd_ret (d := .bool (isRow d)) (Ed.is (ed_isi2 (ed_var rfl) h1 h2) (by rw [h3])) rfl
end
section
variable {K : PySem.W.Frag} {δ : List Cell} {ta tb tc : TE} {d : PyData}
theorem ed_is_whole {i a b : Int} (h1 : Ed K ta δ (.int i)) (h2 : Ed K tb δ (.int a)) (h3 : Ed K tc δ (.int b)) : Ed K (tCall (spG K G_is_whole) [] E0 (tCons ta (tCons tb (tCons tc tNil)))) δ (.bool (decide (a ≤ i) && decide (i ≤ b))) :=
  ed_call (ea_cons h1 (ea_cons h2 (ea_cons h3 ea_nil))) ⟨i, a, b, rfl, rfl⟩
theorem ed_is_rowT {ds : List PyData} (h1 : Ed K ta δ (.tuple ds)) : Ed K (tCall (spG K G_is_row) [] E0 (tCons ta tNil)) δ (.bool true) :=
  ed_call (ea_cons h1 ea_nil) ⟨_, rfl, (fun _ z => by cases z), rfl⟩
theorem ed_is_rowL {ds : List PyData} (h1 : Ed K ta δ (.list ds)) : Ed K (tCall (spG K G_is_row) [] E0 (tCons ta tNil)) δ (.bool true) :=
  ed_call (ea_cons h1 ea_nil) ⟨_, rfl, (fun _ z => by cases z), rfl⟩
end
section
variable {P : Program} {w : World} {K : PySem.W.Frag} {mg : Str → Option Value} {base : Heap} {f : Addr} {fd : FuncData}
abbrev st_is_rising : Stmt := topS 11
theorem sc_is_rising : FnScope ["thing", "least", "most", "last", "one"] ["thing", "least", "most"] (defScope st_is_rising) := ⟨rfl, rfl, rfl, by decide +kernel, rfl, by decide +kernel, by decide +kernel⟩
theorem ok_is_rising (F : Fun K "is_rising" "is_rising" st_is_rising f fd) (T : Bl mg) (c_is_row : Cal P w K mg base 1 "is_row" (spG K G_is_row)) (c_is_whole : Cal P w K mg base 1 "is_whole" (spG K G_is_whole)) : FnOk P w K mg base CX0 2 f fd ["thing", "least", "most"] (spG K G_is_rising) := by
  refine okG F sc_is_rising (fun ds r ⟨_, _, _, h, _⟩ => by rw [h]; rfl) fun cdv A outer s H E hr => ⟨_, (pss_cons (ps_if (pt_not (pt_val (pe_cl c_is_row hr (by decide) (by rfl) (pa_cons (pv 0) pa_nil)))) (pss_one (ps_ret pe_bl)) pss_nil) (pss_cons (ps_set (i := 3) sc_is_rising.nd rfl (Or.inl rfl) (pe_op op_sub (pv 1) pe_int)) (pss_cons (ps_for PassesOwn.never rfl (pi_seq (pv 0)) (pg_name (i := 4) sc_is_rising.nd rfl (Or.inl rfl)) (pss_cons (ps_if (pt_not (pt_val (pe_cl c_is_whole hr (by decide) (by rfl) (pa_cons (pv 4) (pa_cons (pe_op op_add (pv 3) pe_int) (pa_cons (pv 2) pa_nil)))))) (pss_one (ps_ret pe_bl)) pss_nil) (pss_one (ps_set (i := 3) sc_is_rising.nd rfl (Or.inl rfl) (pv 4))))) (pss_one (ps_ret pe_bl))))), fun ds r h => ?_⟩
  obtain ⟨o, a, b, rfl, hb, rfl⟩ := h
  show Sd K _ [.d (dayD o), .d (.int a), .d (.int b), .u, .u] _ _
  refine sq_guard (Td.is (td_not (td_B (ed_is_rowT (ds := (dayI o).map .int) ((ed_var rfl).is (dayD_eq o))))) rfl) ?_
  refine sq_asg (by walk_at "ed") (.inl rfl) ?_
  refine sd_seq (sd_for (ds := (dayI o).map .int) ((ed_var rfl).is (dayD_eq o)) (.inl rfl) (.inl rfl) (fun k δ' => ∃ l : Int, (k = 0 → l = a - 1) ∧ ∃ c, δ' = [.d (dayD o), .d (.int a), .d (.int b), .d (.int l), c] ∧ muts [c] = []) ⟨a - 1, fun _ => rfl, .u, rfl, rfl⟩ ?_ (N := fun δ' => ∃ l : Int, ∃ c, δ' = [.d (dayD o), .d (.int a), .d (.int b), .d (.int l), c] ∧ muts [c] = []) ?_) ?_
  · rintro k d δ' hk ⟨l, hl, c, rfl, hc⟩
    cases o with
    | none => simp [dayI] at hk
    | some i =>
      have hk0 : k = 0 := by
        have := (List.getElem?_eq_some_iff.mp hk).1
        simp [dayI] at this
        exact this
      subst hk0
      have e : d = .int (i : Int) := by simpa [dayI] using hk.symm
      subst e
      have el := hl rfl
      subst el
      have hi := hb i rfl
      refine ⟨.inr rfl, ?_⟩
      refine sq_guard (Td.is (td_not (td_B (ed_is_whole (ed_var rfl) (ed_add (ed_var rfl) ed_int) (ed_var rfl)))) ?_) ?_
      · rw [decide_eq_true (by omega), decide_eq_true (by omega)]; rfl
      · exact sd_asg (ed_var rfl) (.inr rfl) ⟨(i : Int), fun z => by omega, .d (.int (i : Int)), rfl, rfl⟩
  · rintro δ' ⟨l, _, c, e, hc⟩
    exact ⟨l, c, e, hc⟩
  · rintro δ' ⟨l, c, rfl, hc⟩
    exact sd_ret ed_bl rfl
end
section
variable {K : PySem.W.Frag} {δ : List Cell} {ta tb tc : TE} {d : PyData}
theorem ed_is_rising {a b : Int} (o : Option Nat) (h1 : Ed K ta δ d) (hd : d = dayD o) (h2 : Ed K tb δ (.int a)) (h3 : Ed K tc δ (.int b)) (hb : ∀ i : Nat, o = some i → a ≤ (i : Int) ∧ (i : Int) ≤ b) : Ed K (tCall (spG K G_is_rising) [] E0 (tCons ta (tCons tb (tCons tc tNil)))) δ (.bool true) :=
  ed_call (ea_cons h1 (ea_cons h2 (ea_cons h3 ea_nil))) ⟨o, a, b, by rw [hd], hb, rfl⟩
end

end WD

namespace WD
open PySem PySem.Spec PyProof.Rows L2 WM

/-! ### comprehensions of the usual kinds -/
theorem outs_none {f : Nat → Option PyData} : ∀ n, (∀ k, k < n → f k = none) → outs f n = []
  | 0, _ => rfl
  | n + 1, h => by
    unfold outs
    rw [outs_none n fun k hk => h k (by omega), h n (by omega)]
    rfl
theorem outs_get (out : List PyData) : ∀ n, n ≤ out.length → outs (fun k => out[k]?) n = out.take n
  | 0, _ => by simp [outs]
  | n + 1, h => by
    unfold outs
    rw [outs_get out n (by omega), List.getElem?_eq_getElem (by omega), List.take_add_one, List.getElem?_eq_getElem (by omega)]
theorem outs_all (out : List PyData) : outs (fun k => out[k]?) out.length = out := by rw [outs_get out _ (Nat.le_refl _), List.take_length]
theorem outs_filterMap (ds : List PyData) (g : PyData → Option PyData) : ∀ n, n ≤ ds.length → outs (fun k => (ds[k]?).bind g) n = (ds.take n).filterMap g
  | 0, _ => by simp [outs]
  | n + 1, h => by
    unfold outs
    rw [outs_filterMap ds g n (by omega), List.take_add_one, List.filterMap_append]
    cases e : ds[n]? with
    | none => simp
    | some d => cases e2 : g d <;> simp [e2]
theorem outs_range (g : Nat → Option PyData) : ∀ n, outs g n = (List.range n).filterMap g
  | 0 => rfl
  | n + 1 => by
    unfold outs
    rw [outs_range g n, List.range_succ, List.filterMap_append]
    cases e : g n <;> simp [e]
section
variable {K : PySem.W.Frag} {δ : List Cell} {x d : PyData} {tl te : TE} {tt : TT} {i j : Nat} {ds : List PyData}
theorem td_yes : Td K tYes δ true := fun B σ H e Q q => q H (Same.refl H)
/-- none goes in -/
theorem el_none (h : Ed K tl δ x) (hx : x = .tuple ds ∨ x = .list ds) (hf : FzA δ ds) (hz : ds.length ≤ 50000) (ht : ∀ (k : Nat) d, ds[k]? = some d → Td K tt (δ.set j (.d d)) false) : EdL K (tLc (iSeq K tl) (gName j) tt te [j]) δ [] := by
  have := el_lc (te := te) (tt := tt) (j := j) h hx hf hz (fun _ => none) fun k d hk => ⟨false, ht k d hk, (fun z => by cases z), fun _ => rfl⟩
  rw [outs_none _ fun _ _ => rfl] at this
  exact this
theorem el_noneR {ts : TA} {n : Int} (h : EdA K ts δ [.int n]) (hn : -100000 ≤ n ∧ n ≤ 50000) (ht : ∀ k : Nat, (k : Int) < n → Td K tt (δ.set j (.d (.int (k : Int)))) false) : EdL K (tLc (iRng1 ts) (gName j) tt te [j]) δ [] := by
  have := el_lcR (te := te) (tt := tt) (j := j) h hn (fun _ => none) fun k hk => ⟨false, ht k hk, (fun z => by cases z), fun _ => rfl⟩
  rw [outs_none _ fun _ _ => rfl] at this
  exact this
theorem el_noneR2 {ts : TA} {m n : Int} (h : EdA K ts δ [.int m, .int n]) (hn : -100000 ≤ m ∧ m ≤ 100000 ∧ -100000 ≤ n ∧ n ≤ 50000 ∧ n - m ≤ 50000) (ht : ∀ k : Nat, m + (k : Int) < n → Td K tt (δ.set j (.d (.int (m + (k : Int))))) false) : EdL K (tLc (iRng2 ts) (gName j) tt te [j]) δ [] := by
  have := el_lcR2 (te := te) (tt := tt) (j := j) h hn (fun _ => none) fun k hk => ⟨false, ht k hk, (fun z => by cases z), fun _ => rfl⟩
  rw [outs_none _ fun _ _ => rfl] at this
  exact this
/-- each gives one -/
theorem el_map (out : List PyData) (h : Ed K tl δ x) (hx : x = .tuple ds ∨ x = .list ds) (hf : FzA δ ds) (hz : ds.length ≤ 50000) (hl : out.length = ds.length) (ho : lfAll out = true) (he : ∀ (k : Nat) d y, ds[k]? = some d → out[k]? = some y → Ed K te (δ.set j (.d d)) y) :
    EdL K (tLc (iSeq K tl) (gName j) tYes te [j]) δ out := by
  have := el_lc (te := te) (tt := tYes) (j := j) h hx hf hz (fun k => out[k]?) fun k d hk => ⟨true, td_yes, fun _ => by
    have hlt := (List.getElem?_eq_some_iff.mp hk).1
    have e : out[k]? = some out[k] := List.getElem?_eq_getElem (by omega)
    exact ⟨out[k], e, pop_at.lf_get out k ho e, he k d _ hk e⟩, fun z => by cases z⟩
  rw [← hl, outs_all] at this
  exact this
theorem el_mapR {ts : TA} {n : Int} (out : List PyData) (h : EdA K ts δ [.int n]) (hn : -100000 ≤ n ∧ n ≤ 50000) (hl : out.length = n.toNat) (ho : lfAll out = true) (he : ∀ (k : Nat) y, out[k]? = some y → Ed K te (δ.set j (.d (.int (k : Int)))) y) :
    EdL K (tLc (iRng1 ts) (gName j) tYes te [j]) δ out := by
  have := el_lcR (te := te) (tt := tYes) (j := j) h hn (fun k => out[k]?) fun k hk => ⟨true, td_yes, fun _ => by
    have e : out[k]? = some out[k] := List.getElem?_eq_getElem (by omega)
    exact ⟨out[k], e, pop_at.lf_get out k ho e, he k _ e⟩, fun z => by cases z⟩
  rw [← hl, outs_all] at this
  exact this
theorem filterMap_if (p : PyData → Bool) : ∀ ds : List PyData, ds.filterMap (fun d => if p d then some d else none) = ds.filter p
  | [] => rfl
  | a :: r => by
    have ih := filterMap_if p r
    cases hp : p a <;> simp [List.filterMap_cons, List.filter_cons, hp, ih]
/-- those that pass a test, as they stand -/
theorem lf_of_all (h : lfAll ds = true) {k : Nat} (hk : ds[k]? = some d) : lf d = true := pop_at.lf_get ds k h hk
theorem el_filter (p : PyData → Bool) (h : Ed K tl δ x) (hx : x = .tuple ds ∨ x = .list ds) (hl : lfAll ds = true) (hz : ds.length ≤ 50000) (hj : j < δ.length) (ht : ∀ (k : Nat) d, ds[k]? = some d → Td K tt (δ.set j (.d d)) (p d)) :
    EdL K (tLc (iSeq K tl) (gName j) tt (tVar j) [j]) δ (ds.filter p) := by
  have := el_lc (te := tVar j) (tt := tt) (j := j) h hx (.inr hl) hz (fun k => (ds[k]?).bind fun d => if p d then some d else none) fun k d hk => ⟨p d, ht k d hk, fun hp => ⟨d, by rw [hk]; simp [hp], lf_of_all hl hk, ed_var (by rw [List.getElem?_set_self hj])⟩, fun hp => by rw [hk]; simp [hp]⟩
  rw [outs_filterMap _ _ _ (Nat.le_refl _), List.take_length] at this
  rw [filterMap_if] at this
  exact this
/-- [..] == [] -/
theorem ed_eqNil {xs : List PyData} {n : Nat} (h : EdL K te δ xs) (hs : ∀ d ∈ xs, Sh n d) (hn : n ≤ 60) : Ed K (tOp (rEqD K) te (tLst tNil)) δ (.bool xs.isEmpty) := by
  have := ed_eq (Ed.of_l h) (Ed.of_l (el_lst ea_nil)) ((sh_lst hs).ok (by omega)) shaped_nilL
  rw [eqv_nilL] at this
  exact this
theorem ed_neNil {xs : List PyData} {n : Nat} (h : EdL K te δ xs) (hs : ∀ d ∈ xs, Sh n d) (hn : n ≤ 60) : Ed K (tOp (rNeD K) te (tLst tNil)) δ (.bool (!xs.isEmpty)) := by
  have := ed_ne (Ed.of_l h) (Ed.of_l (el_lst ea_nil)) ((sh_lst hs).ok (by omega)) shaped_nilL
  rw [eqv_nilL] at this
  exact this
theorem ed_eqNil0 (h : EdL K te δ []) : Ed K (tOp (rEqD K) te (tLst tNil)) δ (.bool true) := ed_eqNil (n := 0) h (fun d hd => by simp at hd) (by omega)
theorem ed_neNil0 (h : EdL K te δ []) : Ed K (tOp (rNeD K) te (tLst tNil)) δ (.bool false) := ed_neNil (n := 0) h (fun d hd => by simp at hd) (by omega)
/-- over nothing at all -/
theorem sd_for0 {g : TG} {t : TS} {N : List Cell → Prop} {R : Res → List Cell → Prop} (h : Ed K tl δ (.tuple [])) (k : N δ) : Sd K (tFor (iSeq K tl) g t) δ N R := fun B σ H D e hn hr =>
  h B σ H e _ fun v H1 s hv => by
    have e1 := e.mono s
    cases hv with
    | @tup a xs _ hs ha =>
      have ex := dpAll_nil ha
      subst ex
      exact ⟨a, rfl, .inr ⟨[], hs, for_tup (fun _ σ' H' => Env K B H' δ σ' ∧ Same H1 H') ⟨e1, Same.refl H1⟩ (fun k σ' H' _ ⟨_, s'⟩ => sqt_same s' hs) (fun k x σ' H' hk _ => by simp at hk) (fun σ' H' ⟨e', _⟩ => hn _ _ _ k e')⟩⟩
end

/-! ### rules with the fragment told: within a comprehension it cannot be found by unification -/
section
variable {X : Cx} {K : PySem.W.Frag}
theorem kx_ix (h : X.K = K) : IxR X (rIx K) := h ▸ ix_seq
theorem kx_in (h : X.K = K) : OpR X (compareOp .In) (rIn K false) := h ▸ op_in_seq
theorem kx_notIn (h : X.K = K) : OpR X (compareOp .NotIn) (rIn K true) := h ▸ op_notIn_seq
theorem kx_eqD (h : X.K = K) (hu : X.A.units + 64 < cLine) : OpR X (compareOp .Eq) (rEqD K) := h ▸ op_eqD hu
theorem kx_neD (h : X.K = K) (hu : X.A.units + 64 < cLine) : OpR X (compareOp .NotEq) (rNeD K) := h ▸ op_neD hu
theorem kx_cat (h : X.K = K) : OpR X (binaryOp .Add) (rCatA K) := h ▸ op_catA
theorem kx_rep (h : X.K = K) : OpR X (binaryOp .Mult) (rRepA K) := h ▸ op_repA
theorem kx_slT (h : X.K = K) : SlR X (rSlA K) := h ▸ sl_tupA
theorem kx_slL (h : X.K = K) : SlR X (rSlL K) := h ▸ sl_list
theorem kx_len (h : X.K = K) : CallR X (.builtin "len") (rLen K) := h ▸ cw_len
theorem kx_tup (h : X.K = K) : CallR X (.type "tuple") (rTupOf K) := h ▸ cw_tup
theorem kx_lst (h : X.K = K) : CallR X (.type "list") (rLstOf K) := h ▸ cw_lst
theorem kx_minT (h : X.K = K) (hc : X.calm = true) (hu : X.A.units + 64 < cLine) : CallR X (.builtin "min") (rMinT K) := h ▸ cr_minT hc hu
theorem kx_maxT (h : X.K = K) (hc : X.calm = true) (hu : X.A.units + 64 < cLine) : CallR X (.builtin "max") (rMaxT K) := h ▸ cr_maxT hc hu
theorem kx_sortedT (h : X.K = K) : CallR X (.builtin "sorted") (rSortedT K) := h ▸ cr_sortedT
theorem kx_pi {tg l : Expr} {tl : TE} (h : X.K = K) (hl : PE X l tl) : PI X tg l (iSeq K tl) := h ▸ pi_seq hl
end
end WD

namespace WD
open PySem PySem.Spec PyProof.Rows L2 WM
local macro_rules | `(tactic| walk_at "ed") => `(tactic| repeat' (first
  | exact ed_int | exact ed_bl | exact ed_non | exact ed_str
  | exact ed_var rfl | exact ed_varm rfl
  | refine' ed_add ?_ ?_ | refine' ed_sub ?_ ?_ | refine' ed_lt ?_ ?_ | refine' ed_le ?_ ?_ | refine' ed_gt ?_ ?_ | refine' ed_ge ?_ ?_
  | refine' ed_mul ?_ ?_ ?_ | refine' ed_fdiv ?_ ?_ ?_ | refine' ed_mod ?_ ?_ ?_
  | refine' ed_eq ?_ ?_ ?_ ?_ | refine' ed_ne ?_ ?_ ?_ ?_ | refine' ed_isN ?_ ?_ | refine' ed_notN ?_ ?_ | refine' ed_isB ?_ ?_
  | refine' ed_in ?_ ?_ ?_ | refine' ed_notIn ?_ ?_ ?_ | refine' ed_ix ?_ ?_ ?_ ?_
  | refine' ed_catT ?_ ?_ ?_ | refine' ed_repT ?_ ?_ ?_ ?_ ?_ ?_
  | refine' td_test ?_ | refine' td_B ?_ | refine' td_not ?_ | refine' td_and ?_ (fun _ => ?_) | refine' td_or ?_ (fun _ => ?_)
  | refine' ed_andV ?_ (fun _ => ?_) | refine' ed_orV ?_ (fun _ => ?_) | refine' ed_notV ?_
  | refine' ed_chain ?_ ?_ ?_
  | exact ea_nil | refine' ea_cons ?_ ?_ | refine' ed_tup ?_ ?_
  | refine' ed_lenT ?_ | refine' ed_lenL ?_ | refine' ed_tupL ?_ | refine' ed_intB ?_ | refine' ed_min2 ?_ ?_
  | refine' ed_isi2 ?_ ?_ ?_ | refine' ed_isi ?_ ?_
  | exact kb_ii | exact kb_ib | exact kb_ll | exact kb_lt | exact kb_tl | exact kb_tt | exact kb_il | exact kb_it | exact kb_sl | exact kb_st | exact kb_ss
  | exact eo_none | refine' eo_some ?_ | refine' ed_slT ?_ ?_ ?_
  | exact shaped_nilL | exact shaped_nilT | exact shaped_int _ | exact shaped_ints _ | exact shaped_intsL _))


/-! ### told_rows: data without lists -/
mutual
/-- no row longer than that -/
def wd : PyData → Bool
  | .tuple xs => decide (xs.length ≤ 50000) && wdAll xs
  | .dict _ => false
  | _ => true
def wdAll : List PyData → Bool
  | [] => true
  | x :: xs => wd x && wdAll xs
end
/-- what told_rows hands back as it is, at most n deep -/
def Tr (n : Nat) (d : PyData) : Prop := lf d = true ∧ wd d = true ∧ d.depth ≤ n
def G_told : Nat → List PyData → Res → Prop
  | 0 => fun _ _ => False
  | n + 1 => fun ds r => ∃ d, ds = [d] ∧ Tr n d ∧ r = .d d
theorem tr_all {n : Nat} : ∀ {xs : List PyData}, (∀ d ∈ xs, Tr n d) → lfAll xs = true ∧ wdAll xs = true ∧ PyData.depthAll xs ≤ n
  | [], _ => ⟨rfl, rfl, by simp [PyData.depthAll]⟩
  | x :: xs, h => by
    obtain ⟨h1, h2, h3⟩ := tr_all (xs := xs) fun d hd => h d (List.mem_cons_of_mem _ hd)
    obtain ⟨k1, k2, k3⟩ := h x List.mem_cons_self
    refine ⟨?_, ?_, ?_⟩
    · show (lf x && lfAll xs) = true
      rw [k1, h1]; rfl
    · show (wd x && wdAll xs) = true
      rw [k2, h2]; rfl
    · simp only [PyData.depthAll]; omega
theorem tr_tup {n : Nat} {xs : List PyData} (h : ∀ d ∈ xs, Tr n d) (hl : xs.length ≤ 50000) : Tr (n + 1) (.tuple xs) := by
  obtain ⟨h1, h2, h3⟩ := tr_all h
  refine ⟨lf_tup h1, ?_, by simp only [PyData.depth]; omega⟩
  show (decide (xs.length ≤ 50000) && wdAll xs) = true
  rw [h2, decide_eq_true hl]; rfl
theorem wd_of : ∀ {xs : List PyData}, wdAll xs = true → ∀ d ∈ xs, wd d = true
  | [], _, d, h => by simp at h
  | x :: xs, hw, d, h => by
    have hw' : (wd x && wdAll xs) = true := hw
    rw [Bool.and_eq_true] at hw'
    rcases List.mem_cons.1 h with e | h
    · rw [e]; exact hw'.1
    · exact wd_of hw'.2 d h
theorem depth_of : ∀ {xs : List PyData} {n : Nat}, PyData.depthAll xs ≤ n → ∀ d ∈ xs, d.depth ≤ n
  | [], _, _, d, h => by simp at h
  | x :: xs, n, hw, d, h => by
    simp only [PyData.depthAll] at hw
    rcases List.mem_cons.1 h with e | h
    · rw [e]; omega
    · exact depth_of (xs := xs) (by omega) d h
theorem tr_of {n : Nat} {xs : List PyData} (h : Tr n (.tuple xs)) : ∃ m, n = m + 1 ∧ xs.length ≤ 50000 ∧ ∀ d ∈ xs, Tr m d := by
  obtain ⟨h1, h2, h3⟩ := h
  have h2' : (decide (xs.length ≤ 50000) && wdAll xs) = true := h2
  rw [Bool.and_eq_true, decide_eq_true_eq] at h2'
  simp only [PyData.depth] at h3
  refine ⟨n - 1, by omega, h2'.1, fun d hd => ⟨?_, wd_of h2'.2 d hd, depth_of (xs := xs) (by omega) d hd⟩⟩
  obtain ⟨k, hk⟩ := List.getElem?_of_mem hd
  exact lf_of_all (show lfAll xs = true from h1) hk
theorem tr_int (i : Int) : Tr 0 (.int i) := ⟨rfl, rfl, by simp [PyData.depth]⟩
theorem tr_str (s : Str) : Tr 0 (.str s) := ⟨rfl, rfl, by simp [PyData.depth]⟩
theorem Tr.mono {n m : Nat} {d : PyData} (h : Tr n d) (e : n ≤ m) : Tr m d := ⟨h.1, h.2.1, Nat.le_trans h.2.2 e⟩
theorem tr_ints (ns : List Int) (h : ns.length ≤ 50000) : Tr 1 (.tuple (ns.map .int)) := tr_tup (fun d hd => by
  obtain ⟨i, _, rfl⟩ := List.mem_map.mp hd
  exact tr_int i) (by rw [List.length_map]; exact h)
theorem tr_day (o : Option Nat) : Tr 1 (dayD o) := by
  rw [dayD_eq]
  refine tr_ints _ ?_
  cases o <;> simp [dayI]
theorem tr_ring {r : Ring} (h : r.length ≤ 50000) : Tr 2 (ringD r) := tr_tup (fun d hd => by
  obtain ⟨o, _, rfl⟩ := List.mem_map.mp hd
  exact tr_day o) (by rw [List.length_map]; exact h)
theorem tr_nil : Tr 1 (.tuple []) := tr_tup (fun d hd => by simp at hd) (by decide)
theorem tr_num {ns : List Nat} (h : ns.length ≤ 50000) : Tr 1 (numD ns) := tr_ints _ (by unfold nI; rw [List.length_map]; exact h)
theorem tr_task {ns : List Nat} (h : ns.length ≤ 50000) : Tr 2 (taskD ns) := tr_tup (fun d hd => by
  simp only [List.mem_cons, List.not_mem_nil, or_false] at hd
  rcases hd with rfl | rfl | rfl | rfl | rfl
  · exact tr_num h
  · exact (tr_int 1).mono (by omega)
  · exact tr_ints [0] (by decide)
  · exact tr_nil
  · exact tr_nil) (by simp)
theorem tr_stand {ns : List Nat} (h : ns.length ≤ 50000) : Tr 2 (standD ns) := tr_tup (fun d hd => by
  simp only [List.mem_cons, List.not_mem_nil, or_false] at hd
  rcases hd with rfl | rfl | rfl | rfl
  · exact (tr_int 0).mono (by omega)
  · exact tr_num h
  · exact tr_nil
  · exact tr_nil) (by simp)
theorem tr_on {r : Ring} (h : r.length ≤ 50000) : Tr 3 (onD r) := tr_tup (fun d hd => by
  simp only [List.mem_cons, List.not_mem_nil, or_false] at hd
  rcases hd with rfl | rfl | rfl
  · exact (tr_str _).mono (by omega)
  · exact tr_nil.mono (by omega)
  · exact tr_ring h) (by simp)
section
variable {P : Program} {w : World} {K : PySem.W.Frag} {mg : Str → Option Value} {base : Heap} {f : Addr} {fd : FuncData}
abbrev st_told_rows : Stmt := topS 12
theorem sc_told_rows : FnScope ["thing", "one"] ["thing"] (defScope st_told_rows) := ⟨rfl, rfl, rfl, by decide +kernel, rfl, by decide +kernel, by decide +kernel⟩
theorem ok_told (n : Nat) (F : Fun K "told_rows" "told_rows" st_told_rows f fd) (T : Bl mg) (c_is_row : Cal P w K mg base 1 "is_row" (spG K G_is_row)) (c_told_rows : Cal P w K mg base (n + 1) "told_rows" (spG K (G_told n))) : FnOk P w K mg base CX0 (n + 2) f fd ["thing"] (spG K (G_told (n + 1))) := by
  refine okG (k := n + 1) F sc_told_rows (fun ds r ⟨_, h, _⟩ => by rw [h]; rfl) fun cdv A outer s H E hr => ⟨_, (pss_cons (ps_if (pt_val (pe_cl c_is_row hr (by omega) (by rfl) (pa_cons (pv 0) pa_nil))) (pss_one (ps_ret (pe_callTy cw_tup (by rfl) T.tuple bt_tuple (pa_cons (pe_lc (own := [("one", 1)]) (g := gName 1) (tt := tYes) rfl sc_told_rows.nd  (pi_seq (pv 0)) (blkOk_by (own := [("one", 1)]) (N := ["thing", "one"]) (sc := defScope st_told_rows) (by decide +kernel)) (fun _ _ _ _ _ => pg_name (i := 1) sc_told_rows.nd rfl (Or.inl rfl)) (fun _ _ _ _ _ => pts_nil) (fun _ _ _ _ _ => (pe_cl c_told_rows hr (by omega) (by rfl) (pa_cons (pv 1) pa_nil)))) pa_nil)))) pss_nil) (pss_one (ps_ret (pv 0)))), fun ds r h => ?_⟩
  obtain ⟨d, rfl, hd, rfl⟩ := h
  show Sd K _ [.d d, .u] _ _
  have plainD : (∀ kvs, d ≠ .dict kvs) → isRow d = false → Sd K (tSeq (tIfS (tB (tCall (spG K G_is_row) [] E0 (tCons (tVar 0) tNil))) (tRet (tCB (rTupOf K) (tCons (tLc (iSeq K (tVar 0)) (gName 1) tYes (tCall (spG K (G_told n)) [] E0 (tCons (tVar 1) tNil)) [1]) tNil))) tNext) (tRet (tVar 0))) [.d d, .u] (fun _ => Res.d d = Res.d PyData.none) (fun r' _ => r' = Res.d d) := fun h1 h2 => by
    refine sq_when (b := false) (td_B (ed_call (ea_cons (ed_var rfl) ea_nil) ⟨d, rfl, h1, by rw [h2]⟩)) (fun z => by cases z) (fun _ => ?_)
    exact sd_ret (ed_var rfl) rfl
  cases d with
  | none => exact plainD (fun _ z => by cases z) rfl
  | bool b => exact plainD (fun _ z => by cases z) rfl
  | int i => exact plainD (fun _ z => by cases z) rfl
  | str x => exact plainD (fun _ z => by cases z) rfl
  | list xs => exact absurd hd.1 (by simp [lf])
  | dict kvs => exact absurd hd.2.1 (by simp [wd])
  | tuple xs =>
    obtain ⟨m, rfl, hl, ha⟩ := tr_of hd
    refine sq_when (b := true) (td_B (ed_is_rowT (ed_var rfl))) (fun _ => ?_) (fun z => by cases z)
    refine sd_ret (ed_tupL (el_map xs (ed_var rfl) (.inl rfl) (.inl rfl) hl rfl (show lfAll xs = true from hd.1) fun k d y h1 h2 => ?_)) rfl
    rw [h1] at h2
    cases h2
    exact ed_call (ea_cons (ed_var rfl) ea_nil) ⟨d, rfl, ha d (List.mem_of_getElem? h1), rfl⟩
theorem none_left {x : Str} {ps : List Str} (mgf : mg x = some (.ref f)) (kp : PySem.W.keepIn K (.ref f) = true) (b : Binds K fd ps []) : Cal P w K mg base 1 x (spG K (fun _ _ => False)) :=
  ⟨f, fd, ps, ⟨fun vs H Q E ⟨_, _, _, h, _⟩ => h.elim, fun A outer s H args us vs Q E _ _ _ _ ⟨_, _, _, h, _⟩ => h.elim⟩, mgf, kp, b⟩
theorem cal_told (F : Fun K "told_rows" "told_rows" st_told_rows f fd) (T : Bl mg) (c_is_row : Cal P w K mg base 1 "is_row" (spG K G_is_row)) (mgf : mg "told_rows" = some (.ref f)) (b : Binds K fd ["thing"] []) : ∀ n, Cal P w K mg base (n + 1) "told_rows" (spG K (G_told n))
  | 0 => none_left mgf F.kp b
  | n + 1 => ⟨f, fd, _, ok_told n F T c_is_row (cal_told F T c_is_row mgf b n), mgf, F.kp, b⟩
end
abbrev G_told_rows := G_told 4
section
variable {K : PySem.W.Frag} {δ : List Cell} {ta tb tc : TE} {d : PyData}
theorem ed_told_rows (h1 : Ed K ta δ d) (hd : Tr 3 d) : Ed K (tCall (spG K G_told_rows) [] E0 (tCons ta tNil)) δ d := ed_call (ea_cons h1 ea_nil) ⟨d, rfl, hd, rfl⟩
end

/-! ### days, rings -/
/-- each thing below many -/
def In (many : Int) (r : Ring) : Prop := ∀ i : Nat, some i ∈ r → (i : Int) < many
def G_is_day : List PyData → Res → Prop := fun ds r => ∃ (many : Int) (o : Option Nat), ds = [.int many, dayD o] ∧ (∀ i : Nat, o = some i → (i : Int) < many) ∧ r = .d (.bool true)
def G_are_days : List PyData → Res → Prop := fun ds r => ∃ (many : Int) (q : Ring), ds = [.int many, ringD q] ∧ In many q ∧ q.length ≤ 4000 ∧ r = .d (.bool true)
def G_is_ring : List PyData → Res → Prop := fun ds r => ∃ (many : Int) (q : Ring), ds = [.int many, ringD q] ∧ In many q ∧ q.length ≤ 4000 ∧ q ≠ [] ∧ r = .d (.bool true)
def G_asked_ring : List PyData → Res → Prop := fun ds r => ∃ (many : Int) (q : Ring), ds = [.int many, ringD q] ∧ In many q ∧ q.length ≤ 4000 ∧ q ≠ [] ∧ r = .d (ringD q)
section
variable {P : Program} {w : World} {K : PySem.W.Frag} {mg : Str → Option Value} {base : Heap} {f : Addr} {fd : FuncData}
abbrev st_is_day : Stmt := topS 16
theorem sc_is_day : FnScope ["many", "thing"] ["many", "thing"] (defScope st_is_day) := ⟨rfl, rfl, rfl, by decide +kernel, rfl, by decide +kernel, by decide +kernel⟩
theorem ok_is_day (F : Fun K "is_day" "is_day" st_is_day f fd) (T : Bl mg) (c_is_rising : Cal P w K mg base 2 "is_rising" (spG K G_is_rising)) : FnOk P w K mg base CX0 3 f fd ["many", "thing"] (spG K G_is_day) := by
  refine okG F sc_is_day (fun ds r ⟨_, _, h, _⟩ => by rw [h]; rfl) fun cdv A outer s H E hr => ⟨_, (pss_one (ps_ret (pe_and (pe_cl c_is_rising hr (by decide) (by rfl) (pa_cons (pv 1) (pa_cons pe_int (pa_cons (pe_op op_sub (pv 0) pe_int) pa_nil)))) (pe_one (pe_cmpR op_le (pe_callB cw_len (by rfl) T.len bt_len (pa_cons (pv 1) pa_nil)) (pe_kc T.c_MOST_ON_A_DAY (by rfl)) (nomark _)))))), fun ds r h => ?_⟩
  obtain ⟨many, o, rfl, hb, rfl⟩ := h
  refine sd_ret (d := .bool true) (Ed.is (ed_andV (ed_is_rising o (ed_var rfl) rfl ed_int (ed_sub (ed_var rfl) ed_int) fun i hi => ?_) (fun _ => ed_le (ed_len (ds := (dayI o).map .int) (ed_var rfl) (.inl (dayD_eq o))) ed_int)) ?_) rfl
  · have := hb i hi
    omega
  · rw [decide_eq_true]
    · rfl
    · cases o <;> simp [dayI]
abbrev st_are_days : Stmt := topS 17
theorem sc_are_days : FnScope ["many", "thing", "day"] ["many", "thing"] (defScope st_are_days) := ⟨rfl, rfl, rfl, by decide +kernel, rfl, by decide +kernel, by decide +kernel⟩
theorem ok_are_days (F : Fun K "are_days" "are_days" st_are_days f fd) (T : Bl mg) (c_is_row : Cal P w K mg base 1 "is_row" (spG K G_is_row)) (c_is_day : Cal P w K mg base 3 "is_day" (spG K G_is_day)) : FnOk P w K mg base CX0 4 f fd ["many", "thing"] (spG K G_are_days) := by
  refine okG F sc_are_days (fun ds r ⟨_, _, h, _⟩ => by rw [h]; rfl) fun cdv A outer s H E hr => ⟨_, (pss_cons (ps_if (PW.pt (pw_or (pt_not (pt_val (pe_cl c_is_row hr (by decide) (by rfl) (pa_cons (pv 1) pa_nil)))) (pw_or1 (pt_cmpR op_gt (pe_callB cw_len (by rfl) T.len bt_len (pa_cons (pv 1) pa_nil)) (pe_kc T.c_LONGEST (by rfl)) (nomark _))))) (pss_one (ps_ret pe_bl)) pss_nil) (pss_one (ps_ret (pe_cmpR (op_eqD hr.units) (pe_lc (own := [("day", 2)]) (g := gName 2) rfl sc_are_days.nd  (pi_seq (pv 1)) (blkOk_by (own := [("day", 2)]) (N := ["many", "thing", "day"]) (sc := defScope st_are_days) (by decide +kernel)) (fun _ _ _ _ _ => pg_name (i := 2) sc_are_days.nd rfl (Or.inl rfl)) (fun _ _ _ _ _ => pts_one (pt_not (pt_val (pe_cl c_is_day hr (by decide) (by rfl) (pa_cons (pv 0) (pa_cons (pv 2) pa_nil)))))) (fun _ _ _ _ _ => (pv 2))) (pe_lst pa_nil) (nomark _))))), fun ds r h => ?_⟩
  obtain ⟨many, q, rfl, hb, hl, rfl⟩ := h
  show Sd K _ [.d (.int many), .d (ringD q), .u] _ _
  refine sq_guard (Td.is (td_or (td_not (td_B (ed_is_rowT (ed_var rfl)))) (fun _ => td_test (ed_gt (ed_lenT (ed_var rfl)) ed_int))) ?_) ?_
  · rw [ring_len, decide_eq_false (by omega)]; rfl
  refine sd_ret (d := .bool true) (ed_eqNil0 (el_none (ds := q.map dayD) (ed_var rfl) (.inl rfl) (.inl rfl) (by rw [ring_len]; omega) fun k d hk => ?_)) rfl
  obtain ⟨o, ho, rfl⟩ := List.mem_map.mp (List.mem_of_getElem? hk)
  exact Td.is (td_not (td_B (ed_call (ea_cons (ed_var rfl) (ea_cons (ed_var rfl) ea_nil)) ⟨many, o, rfl, fun i e => hb i (e ▸ ho), rfl⟩))) rfl
abbrev st_is_ring : Stmt := topS 18
theorem sc_is_ring : FnScope ["many", "thing"] ["many", "thing"] (defScope st_is_ring) := ⟨rfl, rfl, rfl, by decide +kernel, rfl, by decide +kernel, by decide +kernel⟩
theorem ok_is_ring (F : Fun K "is_ring" "is_ring" st_is_ring f fd) (T : Bl mg) (c_are_days : Cal P w K mg base 4 "are_days" (spG K G_are_days)) : FnOk P w K mg base CX0 5 f fd ["many", "thing"] (spG K G_is_ring) := by
  refine okG F sc_is_ring (fun ds r ⟨_, _, h, _⟩ => by rw [h]; rfl) fun cdv A outer s H E hr => ⟨_, (pss_one (ps_ret (pe_and (pe_cl c_are_days hr (by decide) (by rfl) (pa_cons (pv 0) (pa_cons (pv 1) pa_nil))) (pe_one (pe_cmpR op_gt (pe_callB cw_len (by rfl) T.len bt_len (pa_cons (pv 1) pa_nil)) pe_int (nomark _)))))), fun ds r h => ?_⟩
  obtain ⟨many, q, rfl, hb, hl, hne, rfl⟩ := h
  refine sd_ret (d := .bool true) (Ed.is (ed_andV (ed_call (d := .bool true) (ea_cons (ed_var rfl) (ea_cons (ed_var rfl) ea_nil)) ⟨many, q, rfl, hb, hl, rfl⟩) (fun _ => ed_gt (ed_lenT (ds := q.map dayD) (ed_var rfl)) ed_int)) ?_) rfl
  have := List.length_pos_iff.mpr hne
  rw [ring_len, decide_eq_true (by omega)]; rfl
abbrev st_asked_ring : Stmt := topS 19
theorem sc_asked_ring : FnScope ["many", "thing"] ["many", "thing"] (defScope st_asked_ring) := ⟨rfl, rfl, rfl, by decide +kernel, rfl, by decide +kernel, by decide +kernel⟩
theorem ok_asked_ring (F : Fun K "asked_ring" "asked_ring" st_asked_ring f fd) (T : Bl mg) (c_is_ring : Cal P w K mg base 5 "is_ring" (spG K G_is_ring)) (c_told_rows : Cal P w K mg base 5 "told_rows" (spG K G_told_rows)) : FnOk P w K mg base CX0 6 f fd ["many", "thing"] (spG K G_asked_ring) := by
  refine okG F sc_asked_ring (fun ds r ⟨_, _, h, _⟩ => by rw [h]; rfl) fun cdv A outer s H E hr => ⟨_, (pss_cons (ps_if (pt_not (pt_val (pe_cl c_is_ring hr (by decide) (by rfl) (pa_cons (pv 0) (pa_cons (pv 1) pa_nil))))) (pss_one ps_never) pss_nil) (pss_one (ps_ret (pe_cl c_told_rows hr (by decide) (by rfl) (pa_cons (pv 1) pa_nil))))), fun ds r h => ?_⟩
  obtain ⟨many, q, rfl, hb, hl, hne, rfl⟩ := h
  show Sd K _ [.d (.int many), .d (ringD q)] _ _
  refine sq_guard (Td.is (td_not (td_B (ed_call (d := .bool true) (ea_cons (ed_var rfl) (ea_cons (ed_var rfl) ea_nil)) ⟨many, q, rfl, hb, hl, hne, rfl⟩))) rfl) ?_
  exact sd_ret (ed_told_rows (ed_var rfl) ((tr_ring (by omega)).mono (by omega))) rfl
end
section
variable {K : PySem.W.Frag} {δ : List Cell} {ta tb tc : TE} {d : PyData}
theorem ed_asked_ring {many : Int} {q : Ring} (h1 : Ed K ta δ (.int many)) (h2 : Ed K tb δ (ringD q)) (hb : In many q) (hl : q.length ≤ 4000) (hne : q ≠ []) : Ed K (tCall (spG K G_asked_ring) [] E0 (tCons ta (tCons tb tNil))) δ (ringD q) :=
  ed_call (ea_cons h1 (ea_cons h2 ea_nil)) ⟨many, q, rfl, hb, hl, hne, rfl⟩
theorem ed_is_ring {many : Int} {q : Ring} (h1 : Ed K ta δ (.int many)) (h2 : Ed K tb δ (ringD q)) (hb : In many q) (hl : q.length ≤ 4000) (hne : q ≠ []) : Ed K (tCall (spG K G_is_ring) [] E0 (tCons ta (tCons tb tNil))) δ (.bool true) :=
  ed_call (ea_cons h1 (ea_cons h2 ea_nil)) ⟨many, q, rfl, hb, hl, hne, rfl⟩
end
end WD

namespace WD
open PySem PySem.Spec PyProof.Rows L2 WM
local macro_rules | `(tactic| walk_at "ed") => `(tactic| repeat' (first
  | exact ed_int | exact ed_bl | exact ed_non | exact ed_str
  | exact ed_var rfl | exact ed_varm rfl
  | refine' ed_add ?_ ?_ | refine' ed_sub ?_ ?_ | refine' ed_lt ?_ ?_ | refine' ed_le ?_ ?_ | refine' ed_gt ?_ ?_ | refine' ed_ge ?_ ?_
  | refine' ed_mul ?_ ?_ ?_ | refine' ed_fdiv ?_ ?_ ?_ | refine' ed_mod ?_ ?_ ?_
  | refine' ed_eq ?_ ?_ ?_ ?_ | refine' ed_ne ?_ ?_ ?_ ?_ | refine' ed_isN ?_ ?_ | refine' ed_notN ?_ ?_ | refine' ed_isB ?_ ?_
  | refine' ed_in ?_ ?_ ?_ | refine' ed_notIn ?_ ?_ ?_ | refine' ed_ix ?_ ?_ ?_ ?_
  | refine' ed_catT ?_ ?_ ?_ | refine' ed_repT ?_ ?_ ?_ ?_ ?_ ?_
  | refine' td_test ?_ | refine' td_B ?_ | refine' td_not ?_ | refine' td_and ?_ (fun _ => ?_) | refine' td_or ?_ (fun _ => ?_)
  | refine' ed_andV ?_ (fun _ => ?_) | refine' ed_orV ?_ (fun _ => ?_) | refine' ed_notV ?_
  | refine' ed_chain ?_ ?_ ?_
  | exact ea_nil | refine' ea_cons ?_ ?_ | refine' ed_tup ?_ ?_
  | refine' ed_lenT ?_ | refine' ed_lenL ?_ | refine' ed_tupL ?_ | refine' ed_intB ?_ | refine' ed_min2 ?_ ?_
  | refine' ed_isi2 ?_ ?_ ?_ | refine' ed_isi ?_ ?_
  | exact kb_ii | exact kb_ib | exact kb_ll | exact kb_lt | exact kb_tl | exact kb_tt | exact kb_il | exact kb_it | exact kb_sl | exact kb_st | exact kb_ss
  | exact eo_none | refine' eo_some ?_ | refine' ed_slT ?_ ?_ ?_
  | exact shaped_nilL | exact shaped_nilT | exact shaped_int _ | exact shaped_ints _ | exact shaped_intsL _))


/-! ### numbers -/
structure NOk (ns : List Nat) : Prop where
  len : ns.length ≤ 8
  b : ∀ n ∈ ns, 1 ≤ n ∧ n ≤ 40
theorem NOk.pos {ns : List Nat} (h : NOk ns) : ∀ n ∈ ns, 0 < n := fun n hn => (h.b n hn).1
def G_is_numbers : List PyData → Res → Prop := fun ds r => ∃ d ns, ds = [d] ∧ Ints d (nI ns) ∧ NOk ns ∧ r = .d (.bool true)
def G_asked_numbers : List PyData → Res → Prop := fun ds r => ∃ d ns, ds = [d] ∧ Ints d (nI ns) ∧ NOk ns ∧ r = .d (numD ns)
def G_divisor : List PyData → Res → Prop := fun ds r => ∃ a b : Nat, ds = [.int a, .int b] ∧ r = .d (.int (Nat.gcd a b : Nat))
def G_common_of : List PyData → Res → Prop := fun ds r => ∃ d ns, ds = [d] ∧ Ints d (nI ns) ∧ (∀ n ∈ ns, 0 < n ∧ n ≤ 1000000) ∧ r = .d (.int (lcmL ns : Nat))
theorem mem_nI {ns : List Nat} {k : Nat} {d : PyData} (h : ((nI ns).map PyData.int)[k]? = some d) : ∃ n, ns[k]? = some n ∧ d = .int (n : Int) := by
  unfold nI at h
  rw [List.getElem?_map, List.getElem?_map] at h
  cases e : ns[k]? with
  | none => rw [e] at h <;> cases h
  | some n => rw [e] at h; exact ⟨n, rfl, (Option.some.inj h).symm⟩
theorem Ints.row {d : PyData} {ns : List Int} (h : Ints d ns) : d = .tuple (ns.map .int) ∨ d = .list (ns.map .int) := h
section
variable {K : PySem.W.Frag} {δ : List Cell} {ta tb tc : TE} {d : PyData}
theorem ed_is_row {xs : List PyData} (h1 : Ed K ta δ d) (hd : d = .tuple xs ∨ d = .list xs) : Ed K (tCall (spG K G_is_row) [] E0 (tCons ta tNil)) δ (.bool true) := by
  rcases hd with rfl | rfl
  · exact ed_is_rowT h1
  · exact ed_is_rowL h1
end
section
variable {P : Program} {w : World} {K : PySem.W.Frag} {mg : Str → Option Value} {base : Heap} {f : Addr} {fd : FuncData}
abbrev st_is_numbers : Stmt := topS 23
theorem sc_is_numbers : FnScope ["thing", "one"] ["thing"] (defScope st_is_numbers) := ⟨rfl, rfl, rfl, by decide +kernel, rfl, by decide +kernel, by decide +kernel⟩
theorem ok_is_numbers (F : Fun K "is_numbers" "is_numbers" st_is_numbers f fd) (T : Bl mg) (c_is_row : Cal P w K mg base 1 "is_row" (spG K G_is_row)) (c_is_whole : Cal P w K mg base 1 "is_whole" (spG K G_is_whole)) : FnOk P w K mg base CX0 2 f fd ["thing"] (spG K G_is_numbers) := by
  refine okG F sc_is_numbers (fun ds r ⟨_, _, h, _⟩ => by rw [h]; rfl) fun cdv A outer s H E hr => ⟨_, (pss_cons (ps_if (PW.pt (pw_or (pt_not (pt_val (pe_cl c_is_row hr (by decide) (by rfl) (pa_cons (pv 0) pa_nil)))) (pw_or1 (pt_cmpR op_gt (pe_callB cw_len (by rfl) T.len bt_len (pa_cons (pv 0) pa_nil)) (pe_kc T.c_MOST_THINGS_numbers (by rfl)) (nomark _))))) (pss_one (ps_ret pe_bl)) pss_nil) (pss_one (ps_ret (pe_cmpR (op_eqD hr.units) (pe_lc (own := [("one", 1)]) (g := gName 1) rfl sc_is_numbers.nd  (pi_seq (pv 0)) (blkOk_by (own := [("one", 1)]) (N := ["thing", "one"]) (sc := defScope st_is_numbers) (by decide +kernel)) (fun _ _ _ _ _ => pg_name (i := 1) sc_is_numbers.nd rfl (Or.inl rfl)) (fun _ _ _ _ _ => pts_one (pt_not (pt_val (pe_cl c_is_whole hr (by decide) (by rfl) (pa_cons (pv 1) (pa_cons pe_int (pa_cons (pe_kc T.c_GREATEST_numbers (by rfl)) pa_nil))))))) (fun _ _ _ _ _ => (pv 1))) (pe_lst pa_nil) (nomark _))))), fun ds r h => ?_⟩
  obtain ⟨d, ns, rfl, hd, hn, rfl⟩ := h
  show Sd K _ [.d d, .u] _ _
  have hl := hn.len
  refine sq_guard (Td.is (td_or (td_not (td_B (ed_is_row (ed_var rfl) hd))) (fun _ => td_test (ed_gt (ed_len (ed_var rfl) hd) ed_int))) ?_) ?_
  · rw [nI_len, decide_eq_false (by omega)]; rfl
  refine sd_ret (d := .bool true) (ed_eqNil0 (el_none (ds := (nI ns).map .int) (ed_var rfl) hd (.inl rfl) (by rw [nI_len]; omega) fun k d hk => ?_)) rfl
  obtain ⟨n, hk', rfl⟩ := mem_nI hk
  have hb := hn.b n (List.mem_of_getElem? hk')
  refine Td.is (td_not (td_B (ed_is_whole (ed_var rfl) ed_int ed_int))) ?_
  rw [decide_eq_true (by omega), decide_eq_true (by omega)]; rfl
abbrev st_asked_numbers : Stmt := topS 24
theorem sc_asked_numbers : FnScope ["thing"] ["thing"] (defScope st_asked_numbers) := ⟨rfl, rfl, rfl, by decide +kernel, rfl, by decide +kernel, by decide +kernel⟩
theorem ok_asked_numbers (F : Fun K "asked_numbers" "asked_numbers" st_asked_numbers f fd) (T : Bl mg) (c_is_numbers : Cal P w K mg base 2 "is_numbers" (spG K G_is_numbers)) : FnOk P w K mg base CX0 3 f fd ["thing"] (spG K G_asked_numbers) := by
  refine okG F sc_asked_numbers (fun ds r ⟨_, _, h, _⟩ => by rw [h]; rfl) fun cdv A outer s H E hr => ⟨_, (pss_cons (ps_if (pt_not (pt_val (pe_cl c_is_numbers hr (by decide) (by rfl) (pa_cons (pv 0) pa_nil)))) (pss_one ps_never) pss_nil) (pss_one (ps_ret (pe_callTy cw_tup (by rfl) T.tuple bt_tuple (pa_cons (pv 0) pa_nil))))), fun ds r h => ?_⟩
  obtain ⟨d, ns, rfl, hd, hn, rfl⟩ := h
  show Sd K _ [.d d] _ _
  refine sq_guard (Td.is (td_not (td_B (ed_call (d := .bool true) (ea_cons (ed_var rfl) ea_nil) ⟨d, ns, rfl, hd, hn, rfl⟩))) rfl) ?_
  exact sd_ret (ed_tupOf (ed_var rfl) hd) rfl
abbrev st_divisor : Stmt := topS 25
theorem sc_divisor : FnScope ["one", "other"] ["one", "other"] (defScope st_divisor) := ⟨rfl, rfl, rfl, by decide +kernel, rfl, by decide +kernel, by decide +kernel⟩
theorem ok_divisor (F : Fun K "divisor" "divisor" st_divisor f fd) (T : Bl mg) : FnOk P w K mg base CX0 1 f fd ["one", "other"] (spG K G_divisor) := by
  refine okG F sc_divisor (fun ds r ⟨_, _, h, _⟩ => by rw [h]; rfl) fun cdv A outer s H E hr => ⟨_, (pss_cons (ps_while PassesOwn.never (pt_cmpR op_gt (pv 1) pe_int (nomark _)) (pss_one (ps_par (i := 0) (j := 1) rfl sc_divisor.nd rfl rfl (by decide) rfl rfl (pa_cons (pv 1) (pa_cons (pe_op op_mod (pv 0) (pv 1)) pa_nil)) (by rfl)))) (pss_one (ps_ret (pv 0)))), fun ds r h => ?_⟩
  obtain ⟨a, b, rfl, rfl⟩ := h
  show Sd K _ [.d (.int a), .d (.int b)] _ _
  refine sd_seq (sd_while (fun m δ' => ∃ x : Nat, δ' = [.d (.int x), .d (.int (m : Nat))] ∧ Nat.gcd x m = Nat.gcd a b) b ⟨a, rfl, rfl⟩ ?_ (N := fun δ' => δ' = [.d (.int (Nat.gcd a b : Nat)), .d (.int 0)])) ?_
  · rintro m δ' ⟨x, rfl, hg⟩
    refine ⟨decide ((0 : Int) < (m : Int)), td_test (ed_gt (ed_var rfl) ed_int), fun hm => ?_, fun hm => ?_⟩
    · have hm' : 0 < m := by have := of_decide_eq_true hm; omega
      refine sd_par (x := .int (m : Int)) (y := .int ((x % m : Nat) : Int)) (ed_var rfl) (Ed.is (ed_mod (ed_var rfl) (ed_var rfl) (by omega)) (by rw [Int.natCast_emod])) (.inl rfl) (.inl rfl) ?_
      exact ⟨x % m, Nat.mod_lt _ hm', m, rfl, by rw [← hg, Nat.gcd_comm, ← Nat.gcd_rec, Nat.gcd_comm]⟩
    · have hm' : m = 0 := by have := of_decide_eq_false hm; omega
      subst hm'
      rw [← hg, Nat.gcd_zero_right]; rfl
  · rintro δ' rfl
    exact sd_ret (ed_var rfl) rfl
abbrev st_common_of : Stmt := topS 26
theorem sc_common_of : FnScope ["numbers", "found", "number"] ["numbers"] (defScope st_common_of) := ⟨rfl, rfl, rfl, by decide +kernel, rfl, by decide +kernel, by decide +kernel⟩
theorem lcm_step (f n : Nat) (hf : 0 < f) (hn : 0 < n) : f / Nat.gcd f n * n = Nat.lcm f n := by
  unfold Nat.lcm
  exact Nat.div_mul_right_comm (Nat.gcd_dvd_left f n) n
theorem lcm_take {ns : List Nat} {k n : Nat} (h : ns[k]? = some n) : Nat.lcm (lcmL (ns.take k)) n = lcmL (ns.take (k + 1)) := by
  unfold lcmL
  rw [List.take_add_one, h]; rw [List.foldl_append]
  rfl
theorem lcm_pos : ∀ (ns : List Nat) (f : Nat), 0 < f → (∀ n ∈ ns, 0 < n) → 0 < ns.foldl Nat.lcm f
  | [], f, h, _ => h
  | n :: ns, f, h, hb => lcm_pos ns (Nat.lcm f n) (Nat.lcm_pos h (hb n List.mem_cons_self)) fun x hx => hb x (List.mem_cons_of_mem _ hx)
theorem lcmL_pos {ns : List Nat} (h : ∀ n ∈ ns, 0 < n) : 0 < lcmL ns := lcm_pos ns 1 (by decide) h
theorem ok_common_of (F : Fun K "common_of" "common_of" st_common_of f fd) (T : Bl mg) (c_divisor : Cal P w K mg base 1 "divisor" (spG K G_divisor)) : FnOk P w K mg base CX0 2 f fd ["numbers"] (spG K G_common_of) := by
  refine okG F sc_common_of (fun ds r ⟨_, _, h, _⟩ => by rw [h]; rfl) fun cdv A outer s H E hr => ⟨_, (pss_cons (ps_set (i := 1) sc_common_of.nd rfl (Or.inl rfl) pe_int) (pss_cons (ps_for PassesOwn.never rfl (pi_seq (pv 0)) (pg_name (i := 2) sc_common_of.nd rfl (Or.inl rfl)) (pss_one (ps_set (i := 1) sc_common_of.nd rfl (Or.inl rfl) (pe_op op_mul (pe_op op_fdiv (pv 1) (pe_cl c_divisor hr (by decide) (by rfl) (pa_cons (pv 1) (pa_cons (pv 2) pa_nil)))) (pv 2))))) (pss_one (ps_ret (pv 1))))), fun ds r h => ?_⟩
  obtain ⟨d, ns, rfl, hd, hb, rfl⟩ := h
  show Sd K _ [.d d, .u, .u] _ _
  refine sq_asg (d := .int 1) ed_int (.inl rfl) ?_
  refine sd_seq (sd_for (ds := (nI ns).map .int) (ed_var rfl) (hd.imp id fun e => ⟨e, rfl⟩) (.inl rfl) (fun k δ' => ∃ c, δ' = [.d d, .d (.int (lcmL (ns.take k) : Nat)), c] ∧ muts [c] = []) ⟨.u, rfl, rfl⟩ ?_ (N := fun δ' => ∃ c, δ' = [.d d, .d (.int (lcmL ns : Nat)), c]) ?_) ?_
  · rintro k e δ' hk ⟨c, rfl, hc⟩
    obtain ⟨n, hk', rfl⟩ := mem_nI hk
    have hn := hb n (List.mem_of_getElem? hk')
    have hl : 0 < lcmL (ns.take k) := lcmL_pos fun x hx => (hb x (List.mem_of_mem_take hx)).1
    refine ⟨.inr rfl, ?_⟩
    have hg := Nat.gcd_pos_of_pos_right (lcmL (ns.take k)) hn.1
    have hg2 := Nat.gcd_le_right (lcmL (ns.take k)) hn.1
    refine sd_asg (d := .int (lcmL (ns.take (k + 1)) : Nat)) (Ed.is (ed_mul (ed_fdiv (ed_var rfl) (ed_call (d := .int (Nat.gcd (lcmL (ns.take k)) n : Nat)) (ea_cons (ed_var rfl) (ea_cons (ed_var rfl) ea_nil)) ⟨_, n, rfl, rfl⟩) ⟨by omega, by omega⟩) (ed_var rfl) (.inr ⟨by omega, by omega⟩)) ?_) (.inr rfl) ⟨_, rfl, rfl⟩
    rw [← lcm_take hk', ← lcm_step _ _ hl hn.1]
    congr 1
  · rintro δ' ⟨c, rfl, hc⟩
    rw [nI_len, List.take_length]
    exact ⟨c, rfl⟩
  · rintro δ' ⟨c, rfl⟩
    exact sd_ret (ed_var rfl) rfl
end
section
variable {K : PySem.W.Frag} {δ : List Cell} {ta tb tc : TE} {d : PyData}
theorem ed_is_numbers {ns : List Nat} (h1 : Ed K ta δ d) (hd : Ints d (nI ns)) (hn : NOk ns) : Ed K (tCall (spG K G_is_numbers) [] E0 (tCons ta tNil)) δ (.bool true) := ed_call (ea_cons h1 ea_nil) ⟨d, ns, rfl, hd, hn, rfl⟩
theorem ed_asked_numbers {ns : List Nat} (h1 : Ed K ta δ d) (hd : Ints d (nI ns)) (hn : NOk ns) : Ed K (tCall (spG K G_asked_numbers) [] E0 (tCons ta tNil)) δ (numD ns) := ed_call (ea_cons h1 ea_nil) ⟨d, ns, rfl, hd, hn, rfl⟩
theorem ed_divisor {a b : Nat} (h1 : Ed K ta δ (.int a)) (h2 : Ed K tb δ (.int b)) : Ed K (tCall (spG K G_divisor) [] E0 (tCons ta (tCons tb tNil))) δ (.int (Nat.gcd a b : Nat)) := ed_call (ea_cons h1 (ea_cons h2 ea_nil)) ⟨a, b, rfl, rfl⟩
theorem ed_common_of {ns : List Nat} (h1 : Ed K ta δ d) (hd : Ints d (nI ns)) (hb : ∀ n ∈ ns, 0 < n ∧ n ≤ 1000000) : Ed K (tCall (spG K G_common_of) [] E0 (tCons ta tNil)) δ (.int (lcmL ns : Nat)) := ed_call (ea_cons h1 ea_nil) ⟨d, ns, rfl, hd, hb, rfl⟩
end
end WD

namespace WD
open PySem PySem.Spec PyProof.Rows L2 WM
local macro_rules | `(tactic| walk_at "ed") => `(tactic| repeat' (first
  | exact ed_int | exact ed_bl | exact ed_non | exact ed_str
  | exact ed_var rfl | exact ed_varm rfl
  | refine' ed_add ?_ ?_ | refine' ed_sub ?_ ?_ | refine' ed_lt ?_ ?_ | refine' ed_le ?_ ?_ | refine' ed_gt ?_ ?_ | refine' ed_ge ?_ ?_
  | refine' ed_mul ?_ ?_ ?_ | refine' ed_fdiv ?_ ?_ ?_ | refine' ed_mod ?_ ?_ ?_
  | refine' ed_eq ?_ ?_ ?_ ?_ | refine' ed_ne ?_ ?_ ?_ ?_ | refine' ed_isN ?_ ?_ | refine' ed_notN ?_ ?_ | refine' ed_isB ?_ ?_
  | refine' ed_in ?_ ?_ ?_ | refine' ed_notIn ?_ ?_ ?_ | refine' ed_ix ?_ ?_ ?_ ?_
  | refine' ed_catT ?_ ?_ ?_ | refine' ed_repT ?_ ?_ ?_ ?_ ?_ ?_
  | refine' td_test ?_ | refine' td_B ?_ | refine' td_not ?_ | refine' td_and ?_ (fun _ => ?_) | refine' td_or ?_ (fun _ => ?_)
  | refine' ed_andV ?_ (fun _ => ?_) | refine' ed_orV ?_ (fun _ => ?_) | refine' ed_notV ?_
  | refine' ed_chain ?_ ?_ ?_
  | exact ea_nil | refine' ea_cons ?_ ?_ | refine' ed_tup ?_ ?_
  | refine' ed_lenT ?_ | refine' ed_lenL ?_ | refine' ed_tupL ?_ | refine' ed_intB ?_ | refine' ed_min2 ?_ ?_
  | refine' ed_isi2 ?_ ?_ ?_ | refine' ed_isi ?_ ?_
  | exact kb_ii | exact kb_ib | exact kb_ll | exact kb_lt | exact kb_tl | exact kb_tt | exact kb_il | exact kb_it | exact kb_sl | exact kb_st | exact kb_ss
  | exact eo_none | refine' eo_some ?_ | refine' ed_slT ?_ ?_ ?_
  | exact shaped_nilL | exact shaped_nilT | exact shaped_int _ | exact shaped_ints _ | exact shaped_intsL _))


/-! ### rings turned about: short, slowed, renumbered, paired -/
def G_short : List PyData → (Res → Prop) → Prop := fun ds W => ∃ q : Ring, ds = [ringD q] ∧ In 8 q ∧ q.length ≤ 1000 ∧ q ≠ [] ∧ ∀ s m, s ≠ [] → 0 < m → q = (List.replicate m s).flatten → W (.d (ringD s))
def G_slowed : List PyData → Res → Prop := fun ds r => ∃ (q : Ring) (t : Nat), ds = [ringD q, .int (t : Int)] ∧ In 8 q ∧ q ≠ [] ∧ 0 < t ∧ t ≤ 40 ∧ t * q.length ≤ 4000 ∧ r = .d (ringD (slow t q))
def G_renumbered : List PyData → Res → Prop := fun ds r => ∃ (q : Ring) (m : Nat), ds = [ringD q, .int (m : Int)] ∧ q.length ≤ 4000 ∧ r = .l (q.map fun o => dayD (o.map (· + m)))
def G_paired : List PyData → Res → Prop := fun ds r => ∃ (a b : Ring) (m : Nat), ds = [ringD a, ringD b, .int (m : Int)] ∧ In 8 a ∧ a ≠ [] ∧ In (8 - (m : Int)) b ∧ b ≠ [] ∧ a.length ≤ 4000 ∧ b.length ≤ 4000 ∧ 2 * Nat.lcm a.length b.length ≤ 4000 ∧ r = .d (ringD (pr a b m (Nat.lcm a.length b.length)))
theorem dayD_inj {o o' : Option Nat} (h : dayD o = dayD o') : o = o' := by
  cases o <;> cases o' <;> simp [dayD] at h ⊢
  exact Int.ofNat.inj h
theorem eqv_day (o o' : Option Nat) : PyData.eqv (dayD o) (dayD o') = decide (o = o') := by
  cases o <;> cases o' <;> simp [dayD, PyData.eqv, PyData.eqvAll]
  rename_i a b
  rw [Bool.beq_eq_decide_eq]
  by_cases h : a = b
  · rw [decide_eq_true h, decide_eq_true (by rw [h])]
  · rw [decide_eq_false h, decide_eq_false (p := (a : Int) = (b : Int)) (fun z => h (by omega))]
theorem eqvAll_days : ∀ (q r : Ring), PyData.eqvAll (q.map dayD) (r.map dayD) = decide (q = r)
  | [], [] => by simp [PyData.eqvAll, List.map_nil]
  | [], _ :: _ => by simp [PyData.eqvAll, List.map_nil]
  | _ :: _, [] => by simp [PyData.eqvAll, List.map_nil]
  | o :: q, o' :: r => by
    simp only [List.map_cons, PyData.eqvAll]
    rw [eqv_day, eqvAll_days q r]
    by_cases h1 : o = o' <;> by_cases h2 : q = r <;> simp [h1, h2]
theorem eqv_ring (q r : Ring) : PyData.eqv (ringD q) (ringD r) = decide (q = r) := by
  unfold ringD
  simp only [PyData.eqv]
  exact eqvAll_days q r
theorem sIx_zero (n : Nat) : HT.sIx n 0 none = 0 := HT.sIx_none n 0
theorem cut_take {ds : List PyData} (k : Nat) (h : k ≤ ds.length) : cutD ds none (some (k : Int)) = ds.take k := by
  unfold cutD
  rw [HT.sIx_none, HT.sIx_nat, Nat.min_eq_left h]
  simp
theorem ring_take (q : Ring) (k : Nat) : (q.map dayD).take k = (q.take k).map dayD := by rw [List.map_take]
theorem rep_map (s : Ring) (m : Nat) : (List.replicate m (s.map dayD)).flatten = ((List.replicate m s).flatten).map dayD := by
  simp only [List.map_flatten, List.map_replicate]
section
variable {P : Program} {w : World} {K : PySem.W.Frag} {mg : Str → Option Value} {base : Heap} {f : Addr} {fd : FuncData}
abbrev st_short : Stmt := topS 29
theorem sc_short : FnScope ["ring", "size"] ["ring"] (defScope st_short) := ⟨rfl, rfl, rfl, by decide +kernel, rfl, by decide +kernel, by decide +kernel⟩
theorem ok_short (F : Fun K "short" "short" st_short f fd) (T : Bl mg) (c_asked_ring : Cal P w K mg base 6 "asked_ring" (spG K G_asked_ring)) : FnOk P w K mg base CX0 7 f fd ["ring"] (spW K G_short) := by
  refine okW F sc_short (fun ds r ⟨_, h, _⟩ => by rw [h]; rfl) fun cdv A outer s H E hr => ⟨_, (pss_cons (ps_set (i := 0) sc_short.nd rfl (Or.inl rfl) (pe_cl c_asked_ring hr (by decide) (by rfl) (pa_cons (pe_kc T.c_MOST_THINGS_turning (by rfl)) (pa_cons (pv 0) pa_nil)))) (pss_cons (ps_set (i := 1) sc_short.nd rfl (Or.inl rfl) pe_int) (pss_cons (ps_while PassesOwn.never (PW.pt (pw_or (pt_cmpR op_gt (pe_op op_mod (pe_callB cw_len (by rfl) T.len bt_len (pa_cons (pv 0) pa_nil)) (pv 1)) pe_int (nomark _)) (pw_or1 (pt_cmpR (op_neD hr.units) (pe_op op_repA (pe_slice sl_tupA (pv 0) po_none (po_some (pv 1))) (pe_op op_fdiv (pe_callB cw_len (by rfl) T.len bt_len (pa_cons (pv 0) pa_nil)) (pv 1))) (pv 0) (nomark _))))) (pss_one (ps_aug (i := 1) sc_short.nd rfl (Or.inl rfl) pe_int ip_add))) (pss_one (ps_ret (pe_slice sl_tupA (pv 0) po_none (po_some (pv 1)))))))), fun ds W h => ?_⟩
  obtain ⟨q, rfl, hb, hl, hne, hW⟩ := h
  show Sd K _ [.d (ringD q), .u] _ _
  have hq := List.length_pos_iff.mpr hne
  refine sq_asg (d := ringD q) (ed_asked_ring ed_int (ed_var rfl) hb (by omega) hne) (.inl rfl) ?_
  refine sq_asg (d := .int 1) ed_int (.inl rfl) ?_
  refine sd_seq (sd_while (fun n δ' => ∃ k : Nat, n = q.length - k ∧ 0 < k ∧ k ≤ q.length ∧ δ' = [.d (ringD q), .d (.int (k : Int))]) (q.length - 1) ⟨1, rfl, by omega, hq, rfl⟩ ?_ (N := fun δ' => ∃ k : Nat, 0 < k ∧ k ≤ q.length ∧ q = (List.replicate (q.length / k) (q.take k)).flatten ∧ δ' = [.d (ringD q), .d (.int (k : Int))])) ?_
  · rintro n δ' ⟨k, rfl, hk0, hkl, rfl⟩
    have ht : (q.take k).length = k := by rw [List.length_take]; omega
    have hmod : decide ((0 : Int) < ((q.map dayD).length : Int) % (k : Int)) = decide (0 < q.length % k) := by
      rw [ring_len]
      congr 1
      rw [← Int.natCast_emod]
      exact propext ⟨fun h => by omega, fun h => by omega⟩
    refine ⟨decide (0 < q.length % k) || !decide ((List.replicate (q.length / k) (q.take k)).flatten = q), ?_, fun hc => ?_, fun hc => ?_⟩
    · refine td_or (Td.is (td_test (ed_gt (ed_mod (ed_lenT (ds := q.map dayD) (ed_var rfl)) (ed_var rfl) (by omega)) ed_int)) hmod) (fun hd => ?_)
      refine td_test (Ed.is (ed_ne (x := ringD ((List.replicate (q.length / k) (q.take k)).flatten)) (Ed.is (ed_repT (xs := (q.take k).map dayD) (k := ((q.length / k : Nat) : Int)) (Ed.is (ed_slT (ds := q.map dayD) (hi := some (k : Int)) (lo := none) (ed_var rfl) eo_none (eo_some (ed_var rfl))) ?_) (Ed.is (ed_fdiv (ed_lenT (ds := q.map dayD) (ed_var rfl)) (ed_var rfl) ⟨by omega, by omega⟩) ?_) ?_ (Int.natCast_nonneg _) ?_ ?_) ?_) (ed_var rfl) (shaped_ring _) (shaped_ring _)) ?_)
      · rw [cut_take k (by rw [ring_len]; exact hkl), ring_take]
      · rw [ring_len, Int.natCast_ediv]
      · intro e
        have := congrArg List.length e
        rw [ring_len, ht] at this
        simp at this
        omega
      · have : q.length / k ≤ q.length := Nat.div_le_self _ _
        omega
      · rw [ring_len, ht]; omega
      · rw [Int.toNat_natCast, rep_map]; rfl
      · rw [eqv_ring]
    · have hk1 : k < q.length := by
        by_cases h : k < q.length
        · exact h
        · exfalso
          have e : k = q.length := by omega
          subst e
          rw [Nat.mod_self, Nat.div_self hq, List.take_length] at hc
          simp at hc
      exact sd_aug rfl ed_int ⟨q.length - (k + 1), by omega, k + 1, rfl, by omega, by omega, rfl⟩
    · rw [Bool.or_eq_false_iff] at hc
      refine ⟨k, hk0, hkl, ?_, rfl⟩
      have := hc.2
      simp at this
      exact this.symm
  · rintro δ' ⟨k, hk0, hkl, hq2, rfl⟩
    refine sd_ret (d := ringD (q.take k)) (Ed.is (ed_slT (ds := q.map dayD) (hi := some (k : Int)) (lo := none) (ed_var rfl) eo_none (eo_some (ed_var rfl))) ?_) ?_
    · rw [cut_take k (by rw [ring_len]; exact hkl), ring_take]; rfl
    · refine hW _ (q.length / k) (fun e => ?_) (Nat.div_pos hkl hk0) hq2
      have ht : (q.take k).length = k := by rw [List.length_take]; omega
      rw [e] at ht
      simp at ht
      omega
abbrev st_slowed : Stmt := topS 30
theorem sc_slowed : FnScope ["ring", "times", "found", "day"] ["ring", "times"] (defScope st_slowed) := ⟨rfl, rfl, rfl, by decide +kernel, rfl, by decide +kernel, by decide +kernel⟩
theorem slow_take {t : Nat} {q : Ring} {k : Nat} {o : Option Nat} (h : q[k]? = some o) : slow t (q.take (k + 1)) = slow t (q.take k) ++ (o :: List.replicate (t - 1) none) := by
  unfold slow
  rw [List.take_add_one, h, List.flatMap_append]
  simp
theorem rep_none (n : Nat) : (List.replicate n [PyData.tuple []]).flatten = (List.replicate n (none : Option Nat)).map dayD := by
  induction n with
  | zero => rfl
  | succ n ih => rw [List.replicate_succ, List.flatten_cons, ih, List.replicate_succ, List.map_cons]; rfl
theorem ok_slowed (F : Fun K "slowed" "slowed" st_slowed f fd) (T : Bl mg) (c_asked_ring : Cal P w K mg base 6 "asked_ring" (spG K G_asked_ring)) : FnOk P w K mg base CX0 7 f fd ["ring", "times"] (spG K G_slowed) := by
  refine okG F sc_slowed (fun ds r ⟨_, _, h, _⟩ => by rw [h]; rfl) fun cdv A outer s H E hr => ⟨_, (pss_cons (ps_set (i := 0) sc_slowed.nd rfl (Or.inl rfl) (pe_cl c_asked_ring hr (by decide) (by rfl) (pa_cons (pe_kc T.c_MOST_THINGS_turning (by rfl)) (pa_cons (pv 0) pa_nil)))) (pss_cons (ps_if (pt_cmpR op_gt (pe_op op_mul (pe_callB cw_len (by rfl) T.len bt_len (pa_cons (pv 0) pa_nil)) (pv 1)) (pe_kc T.c_LONGEST (by rfl)) (nomark _)) (pss_one ps_never) pss_nil) (pss_cons (ps_set (i := 2) sc_slowed.nd rfl (Or.inl rfl) (pe_lst pa_nil)) (pss_cons (ps_for PassesOwn.never rfl (pi_seq (pv 0)) (pg_name (i := 3) sc_slowed.nd rfl (Or.inl rfl)) (pss_cons (ps_expr (pe_bm PySem.F.plainAttrs_list PySem.F.slot_list_append PySem.F.type_list_append mt_append (pv 2) (pa_cons (pv 3) pa_nil))) (pss_one (ps_expr (pe_bm PySem.F.plainAttrs_list PySem.F.slot_list_extend PySem.F.type_list_extend mt_extend (pv 2) (pa_cons (pe_op op_rep (pe_lst (pa_cons (pe_tup pa_nil) pa_nil)) (pe_op op_sub (pv 1) pe_int)) pa_nil)))))) (pss_one (ps_ret (pe_callTy cw_tup (by rfl) T.tuple bt_tuple (pa_cons (pv 2) pa_nil)))))))), fun ds r h => ?_⟩
  obtain ⟨q, t, rfl, hb, hne, ht0, ht, hl, rfl⟩ := h
  show Sd K _ [.d (ringD q), .d (.int (t : Int)), .u, .u] _ _
  have hq : q.length ≤ 4000 := by
    have : 1 * q.length ≤ t * q.length := Nat.mul_le_mul_right _ ht0
    omega
  refine sq_asg (d := ringD q) (ed_asked_ring ed_int (ed_var rfl) hb hq hne) (.inl rfl) ?_
  refine sq_guard (Td.is (td_test (ed_gt (ed_mul (ed_lenT (ds := q.map dayD) (ed_var rfl)) (ed_var rfl) (.inr ⟨by omega, by omega⟩)) ed_int)) ?_) ?_
  · rw [ring_len]
    refine decide_eq_false ?_
    have e : (q.length : Int) * (t : Int) = ((t * q.length : Nat) : Int) := by rw [Int.natCast_mul, Int.mul_comm]
    rw [e]
    omega
  refine sq_asgL (xs := []) (el_lst ea_nil) rfl fun p => ?_
  refine sd_seq (sd_for (ds := q.map dayD) (ed_var rfl) (.inl rfl) (.inr (lfAll_map lf_day q)) (fun k δ' => ∃ c, δ' = [.d (ringD q), .d (.int (t : Int)), .m p ((slow t (q.take k)).map dayD), c] ∧ muts [c] = []) ⟨.u, rfl, rfl⟩ ?_ (N := fun δ' => ∃ c, δ' = [.d (ringD q), .d (.int (t : Int)), .m p ((slow t q).map dayD), c]) ?_) ?_
  · rintro k d δ' hk ⟨c, rfl, hc⟩
    rw [List.getElem?_map] at hk
    cases ho : q[k]? with
    | none => rw [ho] at hk; cases hk
    | some o =>
      rw [ho] at hk
      have ed : d = dayD o := (Option.some.inj hk).symm
      subst ed
      refine ⟨.inr (lf_day o), ?_⟩
      have hkl := (List.getElem?_eq_some_iff.mp ho).1
      have hsl : (slow t (q.take k)).length ≤ 4000 := by
        rw [slow_len t ht0, List.length_take]
        have : t * min k q.length ≤ t * q.length := Nat.mul_le_mul_left t (Nat.min_le_right _ _)
        omega
      refine sd_seq (sd_app (i := 2) (p := p) (xs := (slow t (q.take k)).map dayD) rfl (ed_var rfl) (lf_day o) (lfAll_map lf_day _) (by rw [List.length_map]; omega) (N := fun δ'' => δ'' = [.d (ringD q), .d (.int (t : Int)), .m p ((slow t (q.take k)).map dayD ++ [dayD o]), .d (dayD o)]) rfl) ?_
      rintro δ'' rfl
      refine sd_ext (i := 2) (p := p) (xs := (slow t (q.take k)).map dayD ++ [dayD o]) (ys := (List.replicate (t - 1) (none : Option Nat)).map dayD) rfl ?_ (lfAll_map lf_day _) ?_ ?_ ⟨.d (dayD o), ?_, rfl⟩
      · have := el_rep (δ := [.d (ringD q), .d (.int (t : Int)), .m p ((slow t (q.take k)).map dayD ++ [dayD o]), .d (dayD o)]) (K := K) (el_lst (ea_cons (ed_tup (ds := []) ea_nil (by decide)) ea_nil) (by decide)) (ed_sub (i := (t : Int)) (j := 1) (ed_var (i := 1) (by rfl)) (ed_int (i := 1))) (by omega) (by omega) (by rw [sizeLine_eq]; simp; omega)
        rw [rep_none] at this
        have e : ((t : Int) - 1).toNat = t - 1 := by omega
        rw [e] at this
        exact this
      · rw [lfAll_append, lfAll_map lf_day]
        show (true && (lf (dayD o) && true)) = true
        rw [lf_day]; rfl
      · simp only [List.length_append, List.length_map, List.length_replicate, List.length_cons, List.length_nil]
        omega
      · rw [slow_take ho]
        simp [List.append_assoc]
  · rintro δ' ⟨c, rfl, hc⟩
    rw [ring_len, List.take_length]
    exact ⟨c, rfl⟩
  · rintro δ' ⟨c, rfl⟩
    exact sd_ret (ed_tupOf (ed_varm rfl) (.inr rfl)) rfl
end
end WD

namespace WD
open PySem PySem.Spec PyProof.Rows L2 WM
local macro_rules | `(tactic| walk_at "ed") => `(tactic| repeat' (first
  | exact ed_int | exact ed_bl | exact ed_non | exact ed_str
  | exact ed_var rfl | exact ed_varm rfl
  | refine' ed_add ?_ ?_ | refine' ed_sub ?_ ?_ | refine' ed_lt ?_ ?_ | refine' ed_le ?_ ?_ | refine' ed_gt ?_ ?_ | refine' ed_ge ?_ ?_
  | refine' ed_mul ?_ ?_ ?_ | refine' ed_fdiv ?_ ?_ ?_ | refine' ed_mod ?_ ?_ ?_
  | refine' ed_eq ?_ ?_ ?_ ?_ | refine' ed_ne ?_ ?_ ?_ ?_ | refine' ed_isN ?_ ?_ | refine' ed_notN ?_ ?_ | refine' ed_isB ?_ ?_
  | refine' ed_in ?_ ?_ ?_ | refine' ed_notIn ?_ ?_ ?_ | refine' ed_ix ?_ ?_ ?_ ?_
  | refine' ed_catT ?_ ?_ ?_ | refine' ed_repT ?_ ?_ ?_ ?_ ?_ ?_
  | refine' td_test ?_ | refine' td_B ?_ | refine' td_not ?_ | refine' td_and ?_ (fun _ => ?_) | refine' td_or ?_ (fun _ => ?_)
  | refine' ed_andV ?_ (fun _ => ?_) | refine' ed_orV ?_ (fun _ => ?_) | refine' ed_notV ?_
  | refine' ed_chain ?_ ?_ ?_
  | exact ea_nil | refine' ea_cons ?_ ?_ | refine' ed_tup ?_ ?_
  | refine' ed_lenT ?_ | refine' ed_lenL ?_ | refine' ed_tupL ?_ | refine' ed_intB ?_ | refine' ed_min2 ?_ ?_
  | refine' ed_isi2 ?_ ?_ ?_ | refine' ed_isi ?_ ?_
  | exact kb_ii | exact kb_ib | exact kb_ll | exact kb_lt | exact kb_tl | exact kb_tt | exact kb_il | exact kb_it | exact kb_sl | exact kb_st | exact kb_ss
  | exact eo_none | refine' eo_some ?_ | refine' ed_slT ?_ ?_ ?_
  | exact shaped_nilL | exact shaped_nilT | exact shaped_int _ | exact shaped_ints _ | exact shaped_intsL _))


section
variable {K : PySem.W.Frag} {δ : List Cell} {ta tb tc : TE} {d x : PyData}
theorem ed_neg {i : Int} (h : Ed K ta δ (.int i)) : Ed K (tUn (rU fun i => .int (-i)) ta) δ (.int (-i)) := fun B σ H e Q q =>
  h B σ H e _ fun v H1 s hv => by
    cases hv
    exact ⟨i, rfl, q _ _ s (.int _)⟩
theorem at_ring {r : Ring} {j : Nat} (h : j < r.length) : atI (r.map dayD) (j : Int) = some (dayD ((r[j]?).join)) := by
  refine atI_nat ?_
  rw [List.getElem?_map, List.getElem?_eq_getElem h]
  rfl
theorem ed_ixMod {ds : List PyData} {k n : Nat} (ha : Ed K ta δ x) (hx : x = .tuple ds ∨ x = .list ds) (hb : Ed K tb δ (.int (k : Int))) (hc : Ed K tc δ (.int (n : Int))) (hn : 0 < n) (hi : ds[k % n]? = some d) : Ed K (tOp (rIx K) ta (tOp (rI (fun _ j => 0 < j) fun i j => .int (i % j)) tb tc)) δ d :=
  ed_ix ha (Ed.is (ed_mod hb hc (by omega)) (by rw [← Int.natCast_emod])) hx (atI_nat hi)
end
/-- renumbered -/
def ren (m : Nat) (o : Option Nat) : PyData := dayD (o.map (· + m))
theorem lf_ren (m : Nat) (o : Option Nat) : lf (ren m o) = true := lf_day _
section
variable {P : Program} {w : World} {K : PySem.W.Frag} {mg : Str → Option Value} {base : Heap} {f : Addr} {fd : FuncData}
abbrev st_renumbered : Stmt := topS 31
theorem sc_renumbered : FnScope ["ring", "many", "day", "i"] ["ring", "many"] (defScope st_renumbered) := ⟨rfl, rfl, rfl, by decide +kernel, rfl, by decide +kernel, by decide +kernel⟩
theorem ok_renumbered (F : Fun K "renumbered" "renumbered" st_renumbered f fd) (T : Bl mg) : FnOk P w K mg base CX0 1 f fd ["ring", "many"] (spG K G_renumbered) := by
  refine okG F sc_renumbered (fun ds r ⟨_, _, h, _⟩ => by rw [h]; rfl) fun cdv A outer s H E hr => ⟨_, (pss_one (ps_ret (pe_lc (own := [("day", 2)]) (g := gName 2) (tt := tYes) rfl sc_renumbered.nd  (pi_seq (pv 0)) (blkOk_by (own := [("day", 2)]) (N := ["ring", "many", "day", "i"]) (sc := defScope st_renumbered) (by decide +kernel)) (fun _ _ _ _ _ => pg_name (i := 2) sc_renumbered.nd rfl (Or.inl rfl)) (fun _ _ _ _ _ => pts_nil) (fun _ _ _ _ _ => (pe_callTy (kx_tup (K := K) rfl) (by rfl) T.tuple bt_tuple (pa_cons (pe_lc (own := [("i", 3)]) (g := gName 3) (tt := tYes) rfl sc_renumbered.nd  (kx_pi (K := K) rfl (pv 2)) (blkOk_by (own := [("i", 3)]) (by rfl)) (fun _ _ _ _ _ => pg_name (i := 3) sc_renumbered.nd rfl (Or.inl rfl)) (fun _ _ _ _ _ => pts_nil) (fun _ _ _ _ _ => (pe_op op_add (pv 3) (pv 1)))) pa_nil)))))), fun ds r h => ?_⟩
  obtain ⟨q, m, rfl, hl, rfl⟩ := h
  show Sd K _ [.d (ringD q), .d (.int (m : Int)), .u, .u] _ _
  refine sd_retL (el_map (q.map (ren m)) (ds := q.map dayD) (ed_var rfl) (.inl rfl) (.inl rfl) (by rw [ring_len]; omega) (by rw [List.length_map, List.length_map]) (lfAll_map (lf_ren m) q) fun k d y hk hy => ?_) rfl
  rw [List.getElem?_map] at hk hy
  cases ho : q[k]? with
  | none => rw [ho] at hk; cases hk
  | some o =>
    rw [ho] at hk hy
    have e1 : d = dayD o := (Option.some.inj hk).symm
    have e2 : y = ren m o := (Option.some.inj hy).symm
    subst e1 e2
    have e3 : ren m o = .tuple ((dayI o).map fun i => .int (i + m)) := by
      cases o with
      | none => rfl
      | some i => show PyData.tuple [.int ((i + m : Nat) : Int)] = PyData.tuple [.int ((i : Int) + (m : Int))]; rw [Int.natCast_add]
    rw [e3]
    refine ed_tupL (el_map ((dayI o).map fun i => .int (i + m)) (ds := (dayI o).map .int) ((ed_var rfl).is (dayD_eq o)) (.inl rfl) (.inl rfl) ?_ (by rw [List.length_map, List.length_map]) ?_ fun k d y hk hy => ?_)
    · cases o <;> simp [dayI]
    · cases o <;> rfl
    · rw [List.getElem?_map] at hk hy
      cases hi : (dayI o)[k]? with
      | none => rw [hi] at hk; cases hk
      | some i =>
        rw [hi] at hk hy
        cases hk; cases hy
        exact ed_add (ed_var rfl) (ed_var rfl)
abbrev st_paired : Stmt := topS 32
theorem sc_paired : FnScope ["one", "other", "many", "size", "found", "k", "day"] ["one", "other", "many"] (defScope st_paired) := ⟨rfl, rfl, rfl, by decide +kernel, rfl, by decide +kernel, by decide +kernel⟩
theorem ok_paired (F : Fun K "paired" "paired" st_paired f fd) (T : Bl mg) (c_asked_ring : Cal P w K mg base 6 "asked_ring" (spG K G_asked_ring)) (c_renumbered : Cal P w K mg base 1 "renumbered" (spG K G_renumbered)) (c_common_of : Cal P w K mg base 2 "common_of" (spG K G_common_of)) : FnOk P w K mg base CX0 7 f fd ["one", "other", "many"] (spG K G_paired) := by
  refine okG F sc_paired (fun ds r ⟨_, _, _, h, _⟩ => by rw [h]; rfl) fun cdv A outer s H E hr => ⟨_, (pss_cons (ps_set (i := 0) sc_paired.nd rfl (Or.inl rfl) (pe_cl c_asked_ring hr (by decide) (by rfl) (pa_cons (pe_kc T.c_MOST_THINGS_turning (by rfl)) (pa_cons (pv 0) pa_nil)))) (pss_cons (ps_set (i := 1) sc_paired.nd rfl (Or.inl rfl) (pe_cl c_renumbered hr (by decide) (by rfl) (pa_cons (pe_cl c_asked_ring hr (by decide) (by rfl) (pa_cons (pe_kc T.c_MOST_THINGS_turning (by rfl)) (pa_cons (pv 1) pa_nil))) (pa_cons (pv 2) pa_nil)))) (pss_cons (ps_if (pt_cmpR (op_neD hr.units) (pe_lc (own := [("day", 6)]) (g := gName 6) rfl sc_paired.nd  (pi_seq (pv 1)) (blkOk_by (own := [("day", 6)]) (N := ["one", "other", "many", "size", "found", "k", "day"]) (sc := defScope st_paired) (by decide +kernel)) (fun _ _ _ _ _ => pg_name (i := 6) sc_paired.nd rfl (Or.inl rfl)) (fun _ _ _ _ _ => pts_one (PW.pt (pw_and (pt_cmpR (kx_neD (K := K) rfl hr.units) (pv 6) (pe_tup pa_nil) (nomark _)) (pw_and1 (pt_cmpR op_ge (pe_ix (kx_ix (K := K) rfl) (pv 6) (pe_un un_neg pe_int) (fun _ _ => rfl)) (pe_kc T.c_MOST_THINGS_turning (by rfl)) (nomark _)))))) (fun _ _ _ _ _ => (pv 6))) (pe_lst pa_nil) (nomark _)) (pss_one ps_never) pss_nil) (pss_cons (ps_set (i := 3) sc_paired.nd rfl (Or.inl rfl) (pe_cl c_common_of hr (by decide) (by rfl) (pa_cons (pe_lst (pa_cons (pe_callB cw_len (by rfl) T.len bt_len (pa_cons (pv 0) pa_nil)) (pa_cons (pe_callB cw_len (by rfl) T.len bt_len (pa_cons (pv 1) pa_nil)) pa_nil))) pa_nil))) (pss_cons (ps_if (pt_cmpR op_gt (pe_op op_mul pe_int (pv 3)) (pe_kc T.c_LONGEST (by rfl)) (nomark _)) (pss_one ps_never) pss_nil) (pss_cons (ps_set (i := 4) sc_paired.nd rfl (Or.inl rfl) (pe_lst pa_nil)) (pss_cons (ps_for PassesOwn.never rfl (pi_range1 (by rfl) T.range (pa_cons (pv 3) pa_nil)) (pg_name (i := 5) sc_paired.nd rfl (Or.inl rfl)) (pss_one (ps_expr (pe_bm PySem.F.plainAttrs_list PySem.F.slot_list_extend PySem.F.type_list_extend mt_extend (pv 4) (pa_cons (pe_lst (pa_cons (pe_ix ix_seq (pv 0) (pe_op op_mod (pv 5) (pe_callB cw_len (by rfl) T.len bt_len (pa_cons (pv 0) pa_nil))) (fun _ _ => rfl)) (pa_cons (pe_ix ix_seq (pv 1) (pe_op op_mod (pv 5) (pe_callB cw_len (by rfl) T.len bt_len (pa_cons (pv 1) pa_nil))) (fun _ _ => rfl)) pa_nil))) pa_nil))))) (pss_one (ps_ret (pe_callTy cw_tup (by rfl) T.tuple bt_tuple (pa_cons (pv 4) pa_nil))))))))))), fun ds r h => ?_⟩
  obtain ⟨a, b, m, rfl, ha, hane, hb, hbne, hla, hlb, hc, rfl⟩ := h
  have hpa := List.length_pos_iff.mpr hane
  have hpb := List.length_pos_iff.mpr hbne
  show Sd K _ [.d (ringD a), .d (ringD b), .d (.int (m : Int)), .u, .u, .u, .u] _ _
  have hb8 : In 8 b := fun i hi => by have := hb i hi; omega
  refine sq_asg (d := ringD a) (ed_asked_ring ed_int (ed_var rfl) ha hla hane) (.inl rfl) ?_
  refine sq_asgL (xs := b.map (ren m)) (el_call (ea_cons (ed_asked_ring ed_int (ed_var rfl) hb8 hlb hbne) (ea_cons (ed_var rfl) ea_nil)) ⟨b, m, rfl, hlb, rfl⟩) (lfAll_map (lf_ren m) b) fun p => ?_
  refine sq_guard (td_test (ed_neNil0 (el_none (ds := b.map (ren m)) (ed_varm rfl) (.inr rfl) (.inr (lfAll_map (lf_ren m) b)) (by rw [List.length_map]; omega) fun k d hk => ?_))) ?_
  · simp only [List.getElem?_map] at hk
    cases ho : b[k]? with
    | none => rw [ho] at hk; cases hk
    | some o =>
      rw [ho] at hk
      have e1 : d = ren m o := (Option.some.inj hk).symm
      subst e1
      have hn := ed_ne (K := K) (δ := [.d (ringD a), .m p (b.map (ren m)), .d (.int (m : Int)), .u, .u, .u, .d (ren m o)]) (ed_var (i := 6) (x := ren m o) rfl) (ed_tup (ds := []) ea_nil (by decide)) (shaped_day _) shaped_nilT
      cases o with
      | none => exact Td.is (td_and (b := false) (td_test hn) (fun z => by
        have e : ren m none = .tuple [] := rfl
        rw [e, eqv_nilT] at z
        cases z)) rfl
      | some i =>
        have hi := hb i (List.mem_of_getElem? ho)
        refine Td.is (td_and (td_test hn) (fun _ => td_test (ed_ge (ed_ix (i := -1) (d := .int ((i + m : Nat) : Int)) (ds := [.int ((i + m : Nat) : Int)]) (ed_var rfl) (ed_neg ed_int) (.inl rfl) (by rfl)) ed_int))) ?_
        rw [decide_eq_false (by omega)]; exact Bool.and_false _
  refine sq_asg (d := .int (Nat.lcm a.length b.length : Nat)) (Ed.is (ed_common_of (ns := [a.length, b.length]) (Ed.of_l (el_lst (ea_cons (ed_lenT (ds := a.map dayD) (ed_var rfl)) (ea_cons (ed_lenL (ds := b.map (ren m)) (ed_varm rfl)) ea_nil)) (by simp))) (.inr ?_) ?_) ?_) (.inr rfl) ?_
  · simp [nI]
  · intro n hn
    simp only [List.mem_cons, List.not_mem_nil, or_false] at hn
    rcases hn with rfl | rfl <;> omega
  · simp [lcmL]
  refine sq_guard (Td.is (td_test (ed_gt (ed_mul ed_int (ed_var rfl) (.inr ⟨by omega, by omega⟩)) ed_int)) (decide_eq_false (by omega))) ?_
  refine sq_asgL (xs := []) (el_lst ea_nil) rfl fun p' => ?_
  refine sd_seq (sd_range1 (n := (Nat.lcm a.length b.length : Nat)) (ea_cons (ed_var rfl) ea_nil) (by omega) (by omega) (fun k δ' => ∃ c, δ' = [.d (ringD a), .m p (b.map (ren m)), .d (.int (m : Int)), .d (.int (Nat.lcm a.length b.length : Nat)), .m p' ((pr a b m k).map dayD), c, .u] ∧ muts [c] = []) ⟨.u, rfl, rfl⟩ ?_ (N := fun δ' => ∃ c, δ' = [.d (ringD a), .m p (b.map (ren m)), .d (.int (m : Int)), .d (.int (Nat.lcm a.length b.length : Nat)), .m p' ((pr a b m (Nat.lcm a.length b.length)).map dayD), c, .u]) ?_) ?_
  · rintro k δ' hk ⟨c, rfl, hc⟩
    refine sd_ext (i := 4) (p := p') (xs := (pr a b m k).map dayD) (ys := [dayD ((a[k % a.length]?).join), ren m ((b[k % b.length]?).join)]) rfl (el_lst (ea_cons (ed_ixMod (n := a.length) (ds := a.map dayD) (ed_var rfl) (.inl rfl) (ed_var rfl) (Ed.is (ed_lenT (ds := a.map dayD) (ed_var rfl)) (by rw [ring_len])) hpa ?_) (ea_cons (ed_ixMod (n := b.length) (ds := b.map (ren m)) (ed_varm rfl) (.inr rfl) (ed_var rfl) (Ed.is (ed_lenL (ds := b.map (ren m)) (ed_varm rfl)) (by rw [List.length_map])) hpb ?_) ea_nil)) (by simp)) ?_ (lfAll_map lf_day _) ?_ ⟨.d (.int (k : Int)), ?_, rfl⟩
    · rw [List.getElem?_map, List.getElem?_eq_getElem (Nat.mod_lt _ hpa)]; rfl
    · rw [List.getElem?_map, List.getElem?_eq_getElem (Nat.mod_lt _ hpb)]; rfl
    · show (lf _ && (lf _ && true)) = true
      rw [lf_day, lf_ren]; rfl
    · rw [List.length_map, pr_len]; simp; omega
    · simp only [pr, List.map_append]
      rfl
  · rintro δ' ⟨c, rfl, hc⟩
    exact ⟨c, rfl⟩
  · rintro δ' ⟨c, rfl⟩
    exact sd_ret (ed_tupOf (ed_varm rfl) (.inr rfl)) rfl
end
section
variable {K : PySem.W.Frag} {δ : List Cell} {ta tb tc : TE} {d : PyData}
end
end WD

namespace WD
open PySem PySem.Spec PyProof.Rows L2 WM
local macro_rules | `(tactic| walk_at "ed") => `(tactic| repeat' (first
  | exact ed_int | exact ed_bl | exact ed_non | exact ed_str
  | exact ed_var rfl | exact ed_varm rfl
  | refine' ed_add ?_ ?_ | refine' ed_sub ?_ ?_ | refine' ed_lt ?_ ?_ | refine' ed_le ?_ ?_ | refine' ed_gt ?_ ?_ | refine' ed_ge ?_ ?_
  | refine' ed_mul ?_ ?_ ?_ | refine' ed_fdiv ?_ ?_ ?_ | refine' ed_mod ?_ ?_ ?_
  | refine' ed_eq ?_ ?_ ?_ ?_ | refine' ed_ne ?_ ?_ ?_ ?_ | refine' ed_isN ?_ ?_ | refine' ed_notN ?_ ?_ | refine' ed_isB ?_ ?_
  | refine' ed_in ?_ ?_ ?_ | refine' ed_notIn ?_ ?_ ?_ | refine' ed_ix ?_ ?_ ?_ ?_
  | refine' ed_catT ?_ ?_ ?_ | refine' ed_repT ?_ ?_ ?_ ?_ ?_ ?_
  | refine' td_test ?_ | refine' td_B ?_ | refine' td_not ?_ | refine' td_and ?_ (fun _ => ?_) | refine' td_or ?_ (fun _ => ?_)
  | refine' ed_andV ?_ (fun _ => ?_) | refine' ed_orV ?_ (fun _ => ?_) | refine' ed_notV ?_
  | refine' ed_chain ?_ ?_ ?_
  | exact ea_nil | refine' ea_cons ?_ ?_ | refine' ed_tup ?_ ?_
  | refine' ed_lenT ?_ | refine' ed_lenL ?_ | refine' ed_tupL ?_ | refine' ed_intB ?_ | refine' ed_min2 ?_ ?_
  | refine' ed_isi2 ?_ ?_ ?_ | refine' ed_isi ?_ ?_
  | exact kb_ii | exact kb_ib | exact kb_ll | exact kb_lt | exact kb_tl | exact kb_tt | exact kb_il | exact kb_it | exact kb_sl | exact kb_st | exact kb_ss
  | exact eo_none | refine' eo_some ?_ | refine' ed_slT ?_ ?_ ?_
  | exact shaped_nilL | exact shaped_nilT | exact shaped_int _ | exact shaped_ints _ | exact shaped_intsL _))


section
variable {K : PySem.W.Frag} {δ : List Cell} {ta tb tc : TE} {d x : PyData}
theorem ed_at {ds : List PyData} {i : Int} (ha : Ed K ta δ (.tuple ds)) (hi : atI ds i = some d) : Ed K (tOp (rIx K) ta (tC (.int i))) δ d := ed_ix ha ed_int (.inl rfl) hi
theorem at_num {ns : List Nat} {i : Nat} (h : i < ns.length) : atI ((nI ns).map PyData.int) (i : Int) = some (.int (ns.getD i 0 : Nat)) := by
  refine atI_nat ?_
  unfold nI
  rw [List.getElem?_map, List.getElem?_map, List.getElem?_eq_getElem h, List.getD_eq_getElem?_getD, List.getElem?_eq_getElem h]
  rfl
theorem ed_num {ns : List Nat} {i : Nat} (ha : Ed K ta δ (numD ns)) (hb : Ed K tb δ (.int (i : Int))) (h : i < ns.length) : Ed K (tOp (rIx K) ta tb) δ (.int (ns.getD i 0 : Nat)) := ed_ix ha hb (.inl rfl) (at_num h)
theorem ed_nlen {ns : List Nat} (h : Ed K ta δ (numD ns)) : Ed K (tCB (rLen K) (tCons ta tNil)) δ (.int (ns.length : Int)) := Ed.is (ed_lenT h) (by rw [nI_len])
theorem ed_rlen {r : Ring} (h : Ed K ta δ (ringD r)) : Ed K (tCB (rLen K) (tCons ta tNil)) δ (.int (r.length : Int)) := Ed.is (ed_lenT h) (by rw [ring_len])
abbrev tk (ns : List Nat) : List PyData := [numD ns, .int 1, .tuple [.int 0], .tuple [], .tuple []]
abbrev sk (ws : List Nat) : List PyData := [.int 0, numD ws, .tuple [], .tuple []]
theorem ed_tk {i : Int} {ns : List Nat} (ha : Ed K ta δ (taskD ns)) (hi : atI (tk ns) i = some d) : Ed K (tOp (rIx K) ta (tC (.int i))) δ d := ed_at ha hi
theorem ed_sk {i : Int} {ws : List Nat} (ha : Ed K ta δ (standD ws)) (hi : atI (sk ws) i = some d) : Ed K (tOp (rIx K) ta (tC (.int i))) δ d := ed_at ha hi
theorem getD_b {ns : List Nat} (h : NOk ns) {i : Nat} (hi : i < ns.length) : 1 ≤ ns.getD i 0 ∧ ns.getD i 0 ≤ 40 := by
  rw [List.getD_eq_getElem?_getD, List.getElem?_eq_getElem (by omega)]
  exact h.b _ (List.getElem_mem hi)
end
def G_is_off : List PyData → Res → Prop := fun ds r => ds = [.tuple [.int 0]] ∧ r = .d (.bool true)
def G_are_pairs : List PyData → Res → Prop := fun ds r => ∃ m : Int, ds = [.tuple [], .int m] ∧ r = .d (.bool true)
def G_is_task : List PyData → Res → Prop := fun ds r => ∃ ns, ds = [taskD ns] ∧ NOk ns ∧ r = .d (.bool true)
def G_asked_task : List PyData → Res → Prop := fun ds r => ∃ ns, ds = [taskD ns] ∧ NOk ns ∧ r = .d (taskD ns)
def G_plain : List PyData → Res → Prop := fun ds r => ∃ ns, ds = [numD ns] ∧ NOk ns ∧ r = .d (taskD ns)
section
variable {P : Program} {w : World} {K : PySem.W.Frag} {mg : Str → Option Value} {base : Heap} {f : Addr} {fd : FuncData}
abbrev st_is_off : Stmt := topS 37
theorem sc_is_off : FnScope ["thing", "one"] ["thing"] (defScope st_is_off) := ⟨rfl, rfl, rfl, by decide +kernel, rfl, by decide +kernel, by decide +kernel⟩
theorem ok_is_off (F : Fun K "is_off" "is_off" st_is_off f fd) (T : Bl mg) (c_is_row : Cal P w K mg base 1 "is_row" (spG K G_is_row)) (c_is_whole : Cal P w K mg base 1 "is_whole" (spG K G_is_whole)) : FnOk P w K mg base CX0 2 f fd ["thing"] (spG K G_is_off) := by
  refine okG F sc_is_off (fun ds r ⟨h, _⟩ => by rw [h]; rfl) fun cdv A outer s H E hr => ⟨_, (pss_cons (ps_if (PW.pt (pw_or (pt_not (pt_val (pe_cl c_is_row hr (by decide) (by rfl) (pa_cons (pv 0) pa_nil)))) (pw_or (pt_cmpR op_lt (pe_callB cw_len (by rfl) T.len bt_len (pa_cons (pv 0) pa_nil)) pe_int (nomark _)) (pw_or1 (pt_cmpR op_gt (pe_callB cw_len (by rfl) T.len bt_len (pa_cons (pv 0) pa_nil)) (pe_kc T.c_MOST_OFF (by rfl)) (nomark _)))))) (pss_one (ps_ret pe_bl)) pss_nil) (pss_one (ps_ret (pe_cmpR (op_eqD hr.units) (pe_lc (own := [("one", 1)]) (g := gName 1) rfl sc_is_off.nd  (pi_seq (pv 0)) (blkOk_by (own := [("one", 1)]) (N := ["thing", "one"]) (sc := defScope st_is_off) (by decide +kernel)) (fun _ _ _ _ _ => pg_name (i := 1) sc_is_off.nd rfl (Or.inl rfl)) (fun _ _ _ _ _ => pts_one (pt_not (pt_val (pe_cl c_is_whole hr (by decide) (by rfl) (pa_cons (pv 1) (pa_cons pe_int (pa_cons pe_int pa_nil))))))) (fun _ _ _ _ _ => (pv 1))) (pe_lst pa_nil) (nomark _))))), fun ds r h => ?_⟩
  obtain ⟨rfl, rfl⟩ := h
  show Sd K _ [.d (.tuple [.int 0]), .u] _ _
  refine sq_guard (Td.is (td_or (td_not (td_B (ed_is_rowT (ed_var rfl)))) (fun _ => td_or (td_test (ed_lt (ed_lenT (ed_var rfl)) ed_int)) (fun _ => td_test (ed_gt (ed_lenT (ed_var rfl)) ed_int)))) (by decide)) ?_
  refine sd_ret (d := .bool true) (ed_eqNil0 (el_none (ds := [.int 0]) (ed_var rfl) (.inl rfl) (.inl rfl) (by decide) fun k d hk => ?_)) rfl
  cases k with
  | succ k => simp at hk
  | zero =>
    have e : d = .int 0 := (Option.some.inj hk).symm
    subst e
    exact Td.is (td_not (td_B (ed_is_whole (ed_var rfl) ed_int ed_int))) (by decide)
abbrev st_are_pairs : Stmt := topS 39
theorem sc_are_pairs : FnScope ["thing", "many", "pairs", "one", "k"] ["thing", "many"] (defScope st_are_pairs) := ⟨rfl, rfl, rfl, by decide +kernel, rfl, by decide +kernel, by decide +kernel⟩
theorem ok_are_pairs (F : Fun K "are_pairs" "are_pairs" st_are_pairs f fd) (T : Bl mg) (c_is_row : Cal P w K mg base 1 "is_row" (spG K G_is_row)) (c_told_rows : Cal P w K mg base 5 "told_rows" (spG K G_told_rows)) : FnOk P w K mg base CX0 6 f fd ["thing", "many"] (spG K G_are_pairs) := by
  refine okG F sc_are_pairs (fun ds r ⟨_, h, _⟩ => by rw [h]; rfl) fun cdv A outer s H E hr => ⟨_, (pss_cons (ps_if (PW.pt (pw_or (pt_not (pt_val (pe_cl c_is_row hr (by decide) (by rfl) (pa_cons (pv 0) pa_nil)))) (pw_or1 (pt_cmpR (op_neD hr.units) (pe_lc (own := [("one", 3)]) (g := gName 3) rfl sc_are_pairs.nd  (pi_seq (pv 0)) (blkOk_by (own := [("one", 3)]) (N := ["thing", "many", "pairs", "one", "k"]) (sc := defScope st_are_pairs) (by decide +kernel)) (fun _ _ _ _ _ => pg_name (i := 3) sc_are_pairs.nd rfl (Or.inl rfl)) (fun _ _ _ _ _ => pts_one pt_never) (fun _ _ _ _ _ => pe_never)) (pe_lst pa_nil) (nomark _))))) (pss_one (ps_ret pe_bl)) pss_nil) (pss_cons (ps_set (i := 2) sc_are_pairs.nd rfl (Or.inr rfl) (pe_cl c_told_rows hr (by decide) (by rfl) (pa_cons (pv 0) pa_nil))) (pss_one (ps_ret (pe_cmpR (op_eqD hr.units) (pe_lc (own := [("k", 4)]) (g := gName 4) rfl sc_are_pairs.nd  (pi_range2 (by rfl) T.range (pa_cons pe_int (pa_cons (pe_callB cw_len (by rfl) T.len bt_len (pa_cons (pv 2) pa_nil)) pa_nil))) (blkOk_by (own := [("k", 4)]) (N := ["thing", "many", "pairs", "one", "k"]) (sc := defScope st_are_pairs) (by decide +kernel)) (fun _ _ _ _ _ => pg_name (i := 4) sc_are_pairs.nd rfl (Or.inl rfl)) (fun _ _ _ _ _ => pts_one pt_never) (fun _ _ _ _ _ => pe_never)) (pe_lst pa_nil) (nomark _)))))), fun ds r h => ?_⟩
  obtain ⟨m, rfl, rfl⟩ := h
  show Sd K _ [.d (.tuple []), .d (.int m), .u, .u, .u] _ _
  refine sq_guard (Td.is (td_or (td_not (td_B (ed_is_rowT (ed_var rfl)))) (fun _ => td_test (ed_neNil0 (el_none (ds := []) (ed_var rfl) (.inl rfl) (.inl rfl) (by decide) fun k d hk => by simp at hk)))) rfl) ?_
  refine sq_asg (d := .tuple []) (ed_told_rows (ed_var rfl) (tr_nil.mono (by omega))) (.inl rfl) ?_
  exact sd_ret (d := .bool true) (ed_eqNil0 (el_noneR2 (m := 1) (n := 0) (ea_cons ed_int (ea_cons (Ed.is (ed_lenT (ds := []) (ed_var rfl)) rfl) ea_nil)) (by omega) fun k hk => by omega)) rfl
abbrev st_is_task : Stmt := topS 40
theorem sc_is_task : FnScope ["thing", "numbers", "hands", "off", "long", "tied"] ["thing"] (defScope st_is_task) := ⟨rfl, rfl, rfl, by decide +kernel, rfl, by decide +kernel, by decide +kernel⟩
theorem ok_is_task (F : Fun K "is_task" "is_task" st_is_task f fd) (T : Bl mg) (c_is_row : Cal P w K mg base 1 "is_row" (spG K G_is_row)) (c_is_off : Cal P w K mg base 2 "is_off" (spG K G_is_off)) (c_is_whole : Cal P w K mg base 1 "is_whole" (spG K G_is_whole)) (c_is_numbers : Cal P w K mg base 2 "is_numbers" (spG K G_is_numbers)) (c_are_pairs : Cal P w K mg base 6 "are_pairs" (spG K G_are_pairs)) (c_is_rising : Cal P w K mg base 2 "is_rising" (spG K G_is_rising)) : FnOk P w K mg base CX0 7 f fd ["thing"] (spG K G_is_task) := by
  refine okG F sc_is_task (fun ds r ⟨_, h, _⟩ => by rw [h]; rfl) fun cdv A outer s H E hr => ⟨_, (pss_cons (ps_if (PW.pt (pw_or (pt_not (pt_val (pe_cl c_is_row hr (by decide) (by rfl) (pa_cons (pv 0) pa_nil)))) (pw_or1 (pt_cmpR (op_neD hr.units) (pe_callB cw_len (by rfl) T.len bt_len (pa_cons (pv 0) pa_nil)) (pe_kc T.c_PARTS (by rfl)) (nomark _))))) (pss_one (ps_ret pe_bl)) pss_nil) (pss_cons (ps_asg (pv 0) (pg_tup rfl (pgs_cons (pg_name (i := 1) sc_is_task.nd rfl (Or.inl rfl)) (pgs_cons (pg_name (i := 2) sc_is_task.nd rfl (Or.inl rfl)) (pgs_cons (pg_name (i := 3) sc_is_task.nd rfl (Or.inl rfl)) (pgs_cons (pg_name (i := 4) sc_is_task.nd rfl (Or.inl rfl)) (pgs_cons (pg_name (i := 5) sc_is_task.nd rfl (Or.inl rfl)) pgs_nil))))))) (pss_cons (ps_if (PW.pt (pw_or (pt_not (pt_val (pe_cl c_is_numbers hr (by decide) (by rfl) (pa_cons (pv 1) pa_nil)))) (pw_or (pt_not (pt_val (pe_cl c_is_whole hr (by decide) (by rfl) (pa_cons (pv 2) (pa_cons pe_int (pa_cons (pe_kc T.c_MOST_HANDS (by rfl)) pa_nil)))))) (pw_or1 (pt_not (pt_val (pe_cl c_is_off hr (by decide) (by rfl) (pa_cons (pv 3) pa_nil)))))))) (pss_one (ps_ret pe_bl)) pss_nil) (pss_one (ps_ret (pe_and (pe_cl c_is_rising hr (by decide) (by rfl) (pa_cons (pv 4) (pa_cons pe_int (pa_cons (pe_op op_sub (pe_callB cw_len (by rfl) T.len bt_len (pa_cons (pv 1) pa_nil)) pe_int) pa_nil)))) (pe_one (pe_cl c_are_pairs hr (by decide) (by rfl) (pa_cons (pv 5) (pa_cons (pe_callB cw_len (by rfl) T.len bt_len (pa_cons (pv 1) pa_nil)) pa_nil)))))))))), fun ds r h => ?_⟩
  obtain ⟨ns, rfl, hn, rfl⟩ := h
  show Sd K _ [.d (taskD ns), .u, .u, .u, .u, .u] _ _
  refine sq_guard (Td.is (td_or (td_not (td_B (ed_is_rowT (ds := tk ns) (ed_var rfl)))) (fun _ => td_test (ed_ne (ed_lenT (ds := tk ns) (ed_var rfl)) ed_int (shaped_int _) (shaped_int _)))) (by rw [eqv_int]; rfl)) ?_
  refine sq_unp (ds := tk ns) (gs_cons (gs_cons (gs_cons (gs_cons (gs_cons gs_nil))))) (ed_var rfl) rfl rfl (.inl rfl) ?_
  show Sd K _ [.d (taskD ns), .d (numD ns), .d (.int 1), .d (.tuple [.int 0]), .d (.tuple []), .d (.tuple [])] _ _
  refine sq_guard (Td.is (td_or (td_not (td_B (ed_is_numbers (ns := ns) (ed_var rfl) (.inl rfl) hn))) (fun _ => td_or (td_not (td_B (ed_is_whole (ed_var rfl) ed_int ed_int))) (fun _ => td_not (td_B (ed_call (d := .bool true) (ea_cons (ed_var rfl) ea_nil) ⟨rfl, rfl⟩))))) (by decide)) ?_
  exact sd_ret (d := .bool true) (Ed.is (ed_andV (ed_is_rising none (ed_var rfl) rfl ed_int (ed_sub (ed_nlen (ed_var rfl)) ed_int) fun i z => by cases z) (fun _ => ed_call (d := .bool true) (ea_cons (ed_var rfl) (ea_cons (ed_nlen (ns := ns) (ed_var rfl)) ea_nil)) ⟨_, rfl, rfl⟩)) rfl) rfl
abbrev st_asked_task : Stmt := topS 41
theorem sc_asked_task : FnScope ["thing"] ["thing"] (defScope st_asked_task) := ⟨rfl, rfl, rfl, by decide +kernel, rfl, by decide +kernel, by decide +kernel⟩
theorem ok_asked_task (F : Fun K "asked_task" "asked_task" st_asked_task f fd) (T : Bl mg) (c_is_task : Cal P w K mg base 7 "is_task" (spG K G_is_task)) (c_told_rows : Cal P w K mg base 5 "told_rows" (spG K G_told_rows)) : FnOk P w K mg base CX0 8 f fd ["thing"] (spG K G_asked_task) := by
  refine okG F sc_asked_task (fun ds r ⟨_, h, _⟩ => by rw [h]; rfl) fun cdv A outer s H E hr => ⟨_, (pss_cons (ps_if (pt_not (pt_val (pe_cl c_is_task hr (by decide) (by rfl) (pa_cons (pv 0) pa_nil)))) (pss_one ps_never) pss_nil) (pss_one (ps_ret (pe_cl c_told_rows hr (by decide) (by rfl) (pa_cons (pv 0) pa_nil))))), fun ds r h => ?_⟩
  obtain ⟨ns, rfl, hn, rfl⟩ := h
  show Sd K _ [.d (taskD ns)] _ _
  have hl := hn.len
  refine sq_guard (Td.is (td_not (td_B (ed_call (d := .bool true) (ea_cons (ed_var rfl) ea_nil) ⟨ns, rfl, hn, rfl⟩))) rfl) ?_
  exact sd_ret (ed_told_rows (ed_var rfl) ((tr_task (by omega)).mono (by omega))) rfl
abbrev st_plain : Stmt := topS 42
theorem sc_plain : FnScope ["numbers"] ["numbers"] (defScope st_plain) := ⟨rfl, rfl, rfl, by decide +kernel, rfl, by decide +kernel, by decide +kernel⟩
theorem ok_plain (F : Fun K "plain" "plain" st_plain f fd) (T : Bl mg) (c_asked_numbers : Cal P w K mg base 3 "asked_numbers" (spG K G_asked_numbers)) : FnOk P w K mg base CX0 4 f fd ["numbers"] (spG K G_plain) := by
  refine okG F sc_plain (fun ds r ⟨_, h, _⟩ => by rw [h]; rfl) fun cdv A outer s H E hr => ⟨_, (pss_one (ps_ret (pe_tup (pa_cons (pe_cl c_asked_numbers hr (by decide) (by rfl) (pa_cons (pv 0) pa_nil)) (pa_cons pe_int (pa_cons (pe_tup (pa_cons pe_int pa_nil)) (pa_cons (pe_tup pa_nil) (pa_cons (pe_tup pa_nil) pa_nil)))))))), fun ds r h => ?_⟩
  obtain ⟨ns, rfl, hn, rfl⟩ := h
  show Sd K _ [.d (numD ns)] _ _
  exact sd_ret (ed_tup (ds := tk ns) (ea_cons (ed_asked_numbers (ns := ns) (ed_var rfl) (.inl rfl) hn) (ea_cons ed_int (ea_cons (ed_tup (ea_cons ed_int ea_nil)) (ea_cons (ed_tup ea_nil) (ea_cons (ed_tup ea_nil) ea_nil))))) (by simp)) rfl
end
section
variable {K : PySem.W.Frag} {δ : List Cell} {ta tb tc : TE} {d : PyData}
theorem ed_asked_task {ns : List Nat} (h1 : Ed K ta δ (taskD ns)) (hn : NOk ns) : Ed K (tCall (spG K G_asked_task) [] E0 (tCons ta tNil)) δ (taskD ns) := ed_call (ea_cons h1 ea_nil) ⟨ns, rfl, hn, rfl⟩
theorem ed_plain {ns : List Nat} (h1 : Ed K ta δ (numD ns)) (hn : NOk ns) : Ed K (tCall (spG K G_plain) [] E0 (tCons ta tNil)) δ (taskD ns) := ed_call (ea_cons h1 ea_nil) ⟨ns, rfl, hn, rfl⟩
end

/-! ### stands -/
def G_in_ties : List PyData → Res → Prop := fun ds r => ∃ ns, ds = [taskD ns] ∧ r = .l []
def G_are_waits : List PyData → Res → Prop := fun ds r => ∃ ns, ds = [numD ns, numD ns] ∧ NOk ns ∧ r = .d (.bool true)
def G_is_some_of : List PyData → Res → Prop := fun ds r => ∃ x m, ds = [x, .tuple [], .int m] ∧ 0 ≤ m ∧ r = .d (.bool true)
def G_is_stand_of : List PyData → Res → Prop := fun ds r => ∃ ns, ds = [taskD ns, standD ns] ∧ NOk ns ∧ r = .d (.bool true)
def G_asked_stand : List PyData → Res → Prop := fun ds r => ∃ ns, ds = [taskD ns, standD ns] ∧ NOk ns ∧ r = .d (standD ns)
def G_first_of : List PyData → Res → Prop := fun ds r => ∃ ns, ds = [taskD ns] ∧ r = .d (standD ns)
def G_first_stand : List PyData → Res → Prop := fun ds r => ∃ ns, ds = [taskD ns] ∧ NOk ns ∧ r = .d (standD ns)
def G_lies_under : List PyData → Res → Prop := fun ds r => ∃ a b, ds = [standD a, standD b] ∧ a.length = b.length ∧ a.length ≤ 40 ∧ r = .d (.bool (leB a b))
section
variable {P : Program} {w : World} {K : PySem.W.Frag} {mg : Str → Option Value} {base : Heap} {f : Addr} {fd : FuncData}
abbrev st_in_ties : Stmt := topS 48
theorem sc_in_ties : FnScope ["task", "found", "pair", "i"] ["task"] (defScope st_in_ties) := ⟨rfl, rfl, rfl, by decide +kernel, rfl, by decide +kernel, by decide +kernel⟩
theorem ok_in_ties (F : Fun K "in_ties" "in_ties" st_in_ties f fd) (T : Bl mg) : FnOk P w K mg base CX0 1 f fd ["task"] (spG K G_in_ties) := by
  refine okG F sc_in_ties (fun ds r ⟨_, h, _⟩ => by rw [h]; rfl) fun cdv A outer s H E hr => ⟨_, (pss_cons (ps_set (i := 1) sc_in_ties.nd rfl (Or.inr rfl) (pe_lst pa_nil)) (pss_cons (ps_for PassesOwn.never rfl (pi_seq (pe_ix ix_seq (pv 0) pe_int (fun _ _ => rfl))) (pg_name (i := 2) sc_in_ties.nd rfl (Or.inl rfl)) pss_never) (pss_one (ps_ret (pv 1))))), fun ds r h => ?_⟩
  obtain ⟨ns, rfl, rfl⟩ := h
  show Sd K _ [.d (taskD ns), .u, .u, .u] _ _
  refine sq_asgL (xs := []) (el_lst ea_nil) rfl fun p => ?_
  exact sd_seq (sd_for0 (ed_tk (ns := ns) (ed_var rfl) (by rfl)) (N := fun δ' => δ' = [.d (taskD ns), .m p [], .u, .u]) rfl) fun δ' e => by
    subst e
    exact sd_retm (p := p) rfl rfl
abbrev st_are_waits : Stmt := topS 49
theorem sc_are_waits : FnScope ["numbers", "waits", "i"] ["numbers", "waits"] (defScope st_are_waits) := ⟨rfl, rfl, rfl, by decide +kernel, rfl, by decide +kernel, by decide +kernel⟩
theorem ok_are_waits (F : Fun K "are_waits" "are_waits" st_are_waits f fd) (T : Bl mg) (c_is_row : Cal P w K mg base 1 "is_row" (spG K G_is_row)) (c_is_whole : Cal P w K mg base 1 "is_whole" (spG K G_is_whole)) : FnOk P w K mg base CX0 2 f fd ["numbers", "waits"] (spG K G_are_waits) := by
  refine okG F sc_are_waits (fun ds r ⟨_, h, _⟩ => by rw [h]; rfl) fun cdv A outer s H E hr => ⟨_, (pss_cons (ps_if (PW.pt (pw_or (pt_not (pt_val (pe_cl c_is_row hr (by decide) (by rfl) (pa_cons (pv 1) pa_nil)))) (pw_or1 (pt_cmpR (op_neD hr.units) (pe_callB cw_len (by rfl) T.len bt_len (pa_cons (pv 1) pa_nil)) (pe_callB cw_len (by rfl) T.len bt_len (pa_cons (pv 0) pa_nil)) (nomark _))))) (pss_one (ps_ret pe_bl)) pss_nil) (pss_one (ps_ret (pe_cmpR (op_eqD hr.units) (pe_lc (own := [("i", 2)]) (g := gName 2) rfl sc_are_waits.nd  (pi_range1 (by rfl) T.range (pa_cons (pe_callB cw_len (by rfl) T.len bt_len (pa_cons (pv 0) pa_nil)) pa_nil)) (blkOk_by (own := [("i", 2)]) (N := ["numbers", "waits", "i"]) (sc := defScope st_are_waits) (by decide +kernel)) (fun _ _ _ _ _ => pg_name (i := 2) sc_are_waits.nd rfl (Or.inl rfl)) (fun _ _ _ _ _ => pts_one (pt_not (pt_val (pe_cl c_is_whole hr (by decide) (by rfl) (pa_cons (pe_ix (kx_ix (K := K) rfl) (pv 1) (pv 2) (fun _ _ => rfl)) (pa_cons pe_int (pa_cons (pe_ix (kx_ix (K := K) rfl) (pv 0) (pv 2) (fun _ _ => rfl)) pa_nil))))))) (fun _ _ _ _ _ => (pv 2))) (pe_lst pa_nil) (nomark _))))), fun ds r h => ?_⟩
  obtain ⟨ns, rfl, hn, rfl⟩ := h
  have hl := hn.len
  show Sd K _ [.d (numD ns), .d (numD ns), .u] _ _
  refine sq_guard (Td.is (td_or (td_not (td_B (ed_is_rowT (ed_var rfl)))) (fun _ => td_test (ed_ne (ed_nlen (ns := ns) (ed_var rfl)) (ed_nlen (ns := ns) (ed_var rfl)) (shaped_int _) (shaped_int _)))) (by rw [eqv_int]; simp)) ?_
  refine sd_ret (d := .bool true) (ed_eqNil0 (el_noneR (n := (ns.length : Int)) (ea_cons (ed_nlen (ed_var rfl)) ea_nil) (by omega) fun k hk => ?_)) rfl
  have hb := getD_b hn (i := k) (by omega)
  refine Td.is (td_not (td_B (ed_is_whole (ed_num (ns := ns) (i := k) (ed_var rfl) (ed_var rfl) (by omega)) ed_int (ed_num (ns := ns) (i := k) (ed_var rfl) (ed_var rfl) (by omega))))) ?_
  rw [decide_eq_true (by omega), decide_eq_true (by omega)]; rfl
abbrev st_is_some_of : Stmt := topS 50
theorem sc_is_some_of : FnScope ["things", "row", "most", "i"] ["things", "row", "most"] (defScope st_is_some_of) := ⟨rfl, rfl, rfl, by decide +kernel, rfl, by decide +kernel, by decide +kernel⟩
theorem ok_is_some_of (F : Fun K "is_some_of" "is_some_of" st_is_some_of f fd) (T : Bl mg) (c_is_rising : Cal P w K mg base 2 "is_rising" (spG K G_is_rising)) : FnOk P w K mg base CX0 3 f fd ["things", "row", "most"] (spG K G_is_some_of) := by
  refine okG F sc_is_some_of (fun ds r ⟨_, _, h, _⟩ => by rw [h]; rfl) fun cdv A outer s H E hr => ⟨_, (pss_cons (ps_if (PW.pt (pw_or (pt_not (pt_val (pe_cl c_is_rising hr (by decide) (by rfl) (pa_cons (pv 1) (pa_cons pe_int (pa_cons pe_int pa_nil)))))) (pw_or1 (pt_cmpR op_gt (pe_callB cw_len (by rfl) T.len bt_len (pa_cons (pv 1) pa_nil)) (pv 2) (nomark _))))) (pss_one (ps_ret pe_bl)) pss_nil) (pss_one (ps_ret (pe_cmpR (op_eqD hr.units) (pe_lc (own := [("i", 3)]) (g := gName 3) rfl sc_is_some_of.nd  (pi_seq (pv 1)) (blkOk_by (own := [("i", 3)]) (N := ["things", "row", "most", "i"]) (sc := defScope st_is_some_of) (by decide +kernel)) (fun _ _ _ _ _ => pg_name (i := 3) sc_is_some_of.nd rfl (Or.inl rfl)) (fun _ _ _ _ _ => pts_one pt_never) (fun _ _ _ _ _ => pe_never)) (pe_lst pa_nil) (nomark _))))), fun ds r h => ?_⟩
  obtain ⟨x, m, rfl, hm, rfl⟩ := h
  show Sd K _ [.d x, .d (.tuple []), .d (.int m), .u] _ _
  refine sq_guard (Td.is (td_or (td_not (td_B (ed_is_rising none (ed_var rfl) rfl ed_int ed_int fun i z => by cases z))) (fun _ => td_test (ed_gt (ed_lenT (ds := []) (ed_var rfl)) (ed_var rfl)))) ?_) ?_
  · rw [decide_eq_false (by simp; omega)]; rfl
  exact sd_ret (d := .bool true) (ed_eqNil0 (el_none (ds := []) (ed_var rfl) (.inl rfl) (.inl rfl) (by decide) fun k d hk => by simp at hk)) rfl
abbrev st_is_stand_of : Stmt := topS 51
theorem sc_is_stand_of : FnScope ["task", "thing", "phase", "waits", "busy", "last", "ends", "i"] ["task", "thing"] (defScope st_is_stand_of) := ⟨rfl, rfl, rfl, by decide +kernel, rfl, by decide +kernel, by decide +kernel⟩
theorem ok_is_stand_of (F : Fun K "is_stand_of" "is_stand_of" st_is_stand_of f fd) (T : Bl mg) (c_is_row : Cal P w K mg base 1 "is_row" (spG K G_is_row)) (c_are_waits : Cal P w K mg base 2 "are_waits" (spG K G_are_waits)) (c_is_whole : Cal P w K mg base 1 "is_whole" (spG K G_is_whole)) (c_in_ties : Cal P w K mg base 1 "in_ties" (spG K G_in_ties)) (c_is_some_of : Cal P w K mg base 3 "is_some_of" (spG K G_is_some_of)) : FnOk P w K mg base CX0 4 f fd ["task", "thing"] (spG K G_is_stand_of) := by
  refine okG F sc_is_stand_of (fun ds r ⟨_, h, _⟩ => by rw [h]; rfl) fun cdv A outer s H E hr => ⟨_, (pss_cons (ps_if (PW.pt (pw_or (pt_not (pt_val (pe_cl c_is_row hr (by decide) (by rfl) (pa_cons (pv 1) pa_nil)))) (pw_or1 (pt_cmpR (op_neD hr.units) (pe_callB cw_len (by rfl) T.len bt_len (pa_cons (pv 1) pa_nil)) pe_int (nomark _))))) (pss_one (ps_ret pe_bl)) pss_nil) (pss_cons (ps_asg (pv 1) (pg_tup rfl (pgs_cons (pg_name (i := 2) sc_is_stand_of.nd rfl (Or.inl rfl)) (pgs_cons (pg_name (i := 3) sc_is_stand_of.nd rfl (Or.inl rfl)) (pgs_cons (pg_name (i := 4) sc_is_stand_of.nd rfl (Or.inr rfl)) (pgs_cons (pg_name (i := 5) sc_is_stand_of.nd rfl (Or.inr rfl)) pgs_nil)))))) (pss_cons (ps_if (PW.pt (pw_or (pt_not (pt_val (pe_cl c_is_whole hr (by decide) (by rfl) (pa_cons (pv 2) (pa_cons pe_int (pa_cons (pe_op op_sub (pe_callB cw_len (by rfl) T.len bt_len (pa_cons (pe_ix ix_seq (pv 0) pe_int (fun _ _ => rfl)) pa_nil)) pe_int) pa_nil)))))) (pw_or1 (pt_not (pt_val (pe_cl c_are_waits hr (by decide) (by rfl) (pa_cons (pe_ix ix_seq (pv 0) pe_int (fun _ _ => rfl)) (pa_cons (pv 3) pa_nil)))))))) (pss_one (ps_ret pe_bl)) pss_nil) (pss_cons (ps_set (i := 6) sc_is_stand_of.nd rfl (Or.inr rfl) (pe_cl c_in_ties hr (by decide) (by rfl) (pa_cons (pv 0) pa_nil))) (pss_cons (ps_if (PW.pt (pw_or (pt_not (pt_val (pe_cl c_is_some_of hr (by decide) (by rfl) (pa_cons (pe_ix ix_seq (pv 0) pe_int (fun _ _ => rfl)) (pa_cons (pv 4) (pa_cons (pe_ix ix_seq (pv 0) pe_int (fun _ _ => rfl)) pa_nil)))))) (pw_or1 (pt_not (pt_val (pe_cl c_is_some_of hr (by decide) (by rfl) (pa_cons (pv 6) (pa_cons (pv 5) (pa_cons (pe_ix ix_seq (pv 0) pe_int (fun _ _ => rfl)) pa_nil))))))))) (pss_one (ps_ret pe_bl)) pss_nil) (pss_cons (ps_if (pt_cmpR op_gt (pe_op op_add (pe_callB cw_len (by rfl) T.len bt_len (pa_cons (pv 4) pa_nil)) (pe_callB cw_len (by rfl) T.len bt_len (pa_cons (pe_lc (own := [("i", 7)]) (g := gName 7) rfl sc_is_stand_of.nd  (pi_seq (pv 5)) (blkOk_by (own := [("i", 7)]) (N := ["task", "thing", "phase", "waits", "busy", "last", "ends", "i"]) (sc := defScope st_is_stand_of) (by decide +kernel)) (fun _ _ _ _ _ => pg_name (i := 7) sc_is_stand_of.nd rfl (Or.inl rfl)) (fun _ _ _ _ _ => pts_one pt_never) (fun _ _ _ _ _ => pe_never)) pa_nil))) (pe_ix ix_seq (pv 0) pe_int (fun _ _ => rfl)) (nomark _)) (pss_one (ps_ret pe_bl)) pss_nil) (pss_one (ps_ret (pe_cmpR (op_eqD hr.units) (pe_lc (own := [("i", 7)]) (g := gName 7) rfl sc_is_stand_of.nd  (pi_seq (pv 4)) (blkOk_by (own := [("i", 7)]) (N := ["task", "thing", "phase", "waits", "busy", "last", "ends", "i"]) (sc := defScope st_is_stand_of) (by decide +kernel)) (fun _ _ _ _ _ => pg_name (i := 7) sc_is_stand_of.nd rfl (Or.inl rfl)) (fun _ _ _ _ _ => pts_one pt_never) (fun _ _ _ _ _ => pe_never)) (pe_lst pa_nil) (nomark _)))))))))), fun ds r h => ?_⟩
  obtain ⟨ns, rfl, hn, rfl⟩ := h
  show Sd K _ [.d (taskD ns), .d (standD ns), .u, .u, .u, .u, .u, .u] _ _
  refine sq_guard (Td.is (td_or (td_not (td_B (ed_is_rowT (ds := sk ns) (ed_var rfl)))) (fun _ => td_test (ed_ne (ed_lenT (ds := sk ns) (ed_var rfl)) ed_int (shaped_int _) (shaped_int _)))) (by rw [eqv_int]; rfl)) ?_
  refine sq_unp (ds := sk ns) (gs_cons (gs_cons (gs_cons (gs_cons gs_nil)))) (ed_var rfl) rfl rfl (.inl rfl) ?_
  show Sd K _ [.d (taskD ns), .d (standD ns), .d (.int 0), .d (numD ns), .d (.tuple []), .d (.tuple []), .u, .u] _ _
  refine sq_guard (Td.is (td_or (td_not (td_B (ed_is_whole (ed_var rfl) ed_int (ed_sub (ed_lenT (ed_tk (ns := ns) (ed_var rfl) (by rfl))) ed_int)))) (fun _ => td_not (td_B (ed_call (d := .bool true) (ea_cons (ed_tk (ns := ns) (ed_var rfl) (by rfl)) (ea_cons (ed_var rfl) ea_nil)) ⟨ns, rfl, hn, rfl⟩)))) (by rfl)) ?_
  refine sq_asgL (xs := []) (el_call (ea_cons (ed_var rfl) ea_nil) ⟨ns, rfl, rfl⟩) rfl fun p => ?_
  refine sq_guard (Td.is (td_or (td_not (td_B (ed_call (d := .bool true) (ea_cons (ed_tk (ns := ns) (ed_var rfl) (by rfl)) (ea_cons (ed_var rfl) (ea_cons (ed_tk (ns := ns) (ed_var rfl) (by rfl)) ea_nil))) ⟨_, _, rfl, by decide, rfl⟩))) (fun _ => td_not (td_B (ed_call (d := .bool true) (ea_cons (ed_varm rfl) (ea_cons (ed_var rfl) (ea_cons (ed_tk (ns := ns) (ed_var rfl) (by rfl)) ea_nil))) ⟨_, _, rfl, by decide, rfl⟩)))) (by rfl)) ?_
  refine sq_guard (Td.is (td_test (ed_gt (ed_add (ed_lenT (ds := []) (ed_var rfl)) (ed_lenL (ds := []) (Ed.of_l (el_none (ds := []) (ed_var rfl) (.inl rfl) (.inr rfl) (by decide) fun k d hk => by simp at hk)))) (ed_tk (ns := ns) (ed_var rfl) (by rfl)))) (by decide)) ?_
  exact sd_ret (d := .bool true) (ed_eqNil0 (el_none (ds := []) (ed_var rfl) (.inl rfl) (.inr rfl) (by decide) fun k d hk => by simp at hk)) rfl
abbrev st_asked_stand : Stmt := topS 52
theorem sc_asked_stand : FnScope ["task", "thing"] ["task", "thing"] (defScope st_asked_stand) := ⟨rfl, rfl, rfl, by decide +kernel, rfl, by decide +kernel, by decide +kernel⟩
theorem ok_asked_stand (F : Fun K "asked_stand" "asked_stand" st_asked_stand f fd) (T : Bl mg) (c_is_stand_of : Cal P w K mg base 4 "is_stand_of" (spG K G_is_stand_of)) (c_told_rows : Cal P w K mg base 5 "told_rows" (spG K G_told_rows)) : FnOk P w K mg base CX0 6 f fd ["task", "thing"] (spG K G_asked_stand) := by
  refine okG F sc_asked_stand (fun ds r ⟨_, h, _⟩ => by rw [h]; rfl) fun cdv A outer s H E hr => ⟨_, (pss_cons (ps_if (pt_not (pt_val (pe_cl c_is_stand_of hr (by decide) (by rfl) (pa_cons (pv 0) (pa_cons (pv 1) pa_nil))))) (pss_one ps_never) pss_nil) (pss_one (ps_ret (pe_cl c_told_rows hr (by decide) (by rfl) (pa_cons (pv 1) pa_nil))))), fun ds r h => ?_⟩
  obtain ⟨ns, rfl, hn, rfl⟩ := h
  show Sd K _ [.d (taskD ns), .d (standD ns)] _ _
  have hl := hn.len
  refine sq_guard (Td.is (td_not (td_B (ed_call (d := .bool true) (ea_cons (ed_var rfl) (ea_cons (ed_var rfl) ea_nil)) ⟨ns, rfl, hn, rfl⟩))) rfl) ?_
  exact sd_ret (ed_told_rows (ed_var rfl) ((tr_stand (by omega)).mono (by omega))) rfl
abbrev st_first_of : Stmt := topS 53
theorem sc_first_of : FnScope ["task"] ["task"] (defScope st_first_of) := ⟨rfl, rfl, rfl, by decide +kernel, rfl, by decide +kernel, by decide +kernel⟩
theorem ok_first_of (F : Fun K "first_of" "first_of" st_first_of f fd) (T : Bl mg) : FnOk P w K mg base CX0 1 f fd ["task"] (spG K G_first_of) := by
  refine okG F sc_first_of (fun ds r ⟨_, h, _⟩ => by rw [h]; rfl) fun cdv A outer s H E hr => ⟨_, (pss_one (ps_ret (pe_tup (pa_cons pe_int (pa_cons (pe_ix ix_seq (pv 0) pe_int (fun _ _ => rfl)) (pa_cons (pe_tup pa_nil) (pa_cons (pe_tup pa_nil) pa_nil))))))), fun ds r h => ?_⟩
  obtain ⟨ns, rfl, rfl⟩ := h
  show Sd K _ [.d (taskD ns)] _ _
  exact sd_ret (ed_tup (ds := sk ns) (ea_cons ed_int (ea_cons (ed_tk (ns := ns) (ed_var rfl) (by rfl)) (ea_cons (ed_tup ea_nil) (ea_cons (ed_tup ea_nil) ea_nil)))) (by simp)) rfl
abbrev st_first_stand : Stmt := topS 54
theorem sc_first_stand : FnScope ["task"] ["task"] (defScope st_first_stand) := ⟨rfl, rfl, rfl, by decide +kernel, rfl, by decide +kernel, by decide +kernel⟩
theorem ok_first_stand (F : Fun K "first_stand" "first_stand" st_first_stand f fd) (T : Bl mg) (c_first_of : Cal P w K mg base 1 "first_of" (spG K G_first_of)) (c_asked_task : Cal P w K mg base 8 "asked_task" (spG K G_asked_task)) : FnOk P w K mg base CX0 9 f fd ["task"] (spG K G_first_stand) := by
  refine okG F sc_first_stand (fun ds r ⟨_, h, _⟩ => by rw [h]; rfl) fun cdv A outer s H E hr => ⟨_, (pss_one (ps_ret (pe_cl c_first_of hr (by decide) (by rfl) (pa_cons (pe_cl c_asked_task hr (by decide) (by rfl) (pa_cons (pv 0) pa_nil)) pa_nil)))), fun ds r h => ?_⟩
  obtain ⟨ns, rfl, hn, rfl⟩ := h
  show Sd K _ [.d (taskD ns)] _ _
  exact sd_ret (ed_call (d := standD ns) (ea_cons (ed_asked_task (ed_var rfl) hn) ea_nil) ⟨ns, rfl, rfl⟩) rfl
abbrev st_lies_under : Stmt := topS 55
theorem sc_lies_under : FnScope ["one", "other", "i"] ["one", "other"] (defScope st_lies_under) := ⟨rfl, rfl, rfl, by decide +kernel, rfl, by decide +kernel, by decide +kernel⟩
theorem ok_lies_under (F : Fun K "lies_under" "lies_under" st_lies_under f fd) (T : Bl mg) : FnOk P w K mg base CX0 1 f fd ["one", "other"] (spG K G_lies_under) := by
  refine okG F sc_lies_under (fun ds r ⟨_, _, h, _⟩ => by rw [h]; rfl) fun cdv A outer s H E hr => ⟨_, (pss_cons (ps_if (PW.pt (pw_or (pt_cmpR (op_neD hr.units) (pe_ix ix_seq (pv 0) pe_int (fun _ _ => rfl)) (pe_ix ix_seq (pv 1) pe_int (fun _ _ => rfl)) (nomark _)) (pw_or1 (pt_cmpR (op_neD hr.units) (pe_ix ix_seq (pv 0) pe_int (fun _ _ => rfl)) (pe_ix ix_seq (pv 1) pe_int (fun _ _ => rfl)) (nomark _))))) (pss_one (ps_ret pe_bl)) pss_nil) (pss_cons (ps_if (pt_cmpR (op_neD hr.units) (pe_lc (own := [("i", 2)]) (g := gName 2) rfl sc_lies_under.nd  (pi_range1 (by rfl) T.range (pa_cons (pe_callB cw_len (by rfl) T.len bt_len (pa_cons (pe_ix ix_seq (pv 0) pe_int (fun _ _ => rfl)) pa_nil)) pa_nil)) (blkOk_by (own := [("i", 2)]) (N := ["one", "other", "i"]) (sc := defScope st_lies_under) (by decide +kernel)) (fun _ _ _ _ _ => pg_name (i := 2) sc_lies_under.nd rfl (Or.inl rfl)) (fun _ _ _ _ _ => pts_one (pt_cmpR op_gt (pe_ix (kx_ix (K := K) rfl) (pe_ix (kx_ix (K := K) rfl) (pv 0) pe_int (fun _ _ => rfl)) (pv 2) (fun _ _ => rfl)) (pe_ix (kx_ix (K := K) rfl) (pe_ix (kx_ix (K := K) rfl) (pv 1) pe_int (fun _ _ => rfl)) (pv 2) (fun _ _ => rfl)) (nomark _))) (fun _ _ _ _ _ => (pv 2))) (pe_lst pa_nil) (nomark _)) (pss_one (ps_ret pe_bl)) pss_nil) (pss_one (ps_ret (pe_cmpR (op_eqD hr.units) (pe_lc (own := [("i", 2)]) (g := gName 2) rfl sc_lies_under.nd  (pi_seq (pe_ix ix_seq (pv 1) pe_int (fun _ _ => rfl))) (blkOk_by (own := [("i", 2)]) (N := ["one", "other", "i"]) (sc := defScope st_lies_under) (by decide +kernel)) (fun _ _ _ _ _ => pg_name (i := 2) sc_lies_under.nd rfl (Or.inl rfl)) (fun _ _ _ _ _ => pts_one pt_never) (fun _ _ _ _ _ => (pv 2))) (pe_lst pa_nil) (nomark _)))))), fun ds r h => ?_⟩
  obtain ⟨a, b, rfl, hab, hl, rfl⟩ := h
  show Sd K _ [.d (standD a), .d (standD b), .u] _ _
  refine sq_guard (Td.is (td_or (td_test (ed_ne (ed_sk (ws := a) (ed_var rfl) (by rfl)) (ed_sk (ws := b) (ed_var rfl) (by rfl)) (shaped_int _) (shaped_int _))) (fun _ => td_test (ed_ne (ed_sk (ws := a) (ed_var rfl) (by rfl)) (ed_sk (ws := b) (ed_var rfl) (by rfl)) shaped_nilT shaped_nilT))) (by rw [eqv_int, eqv_nilT]; rfl)) ?_
  have hf := el_lcR (K := K) (δ := [.d (standD a), .d (standD b), .u]) (j := 2) (te := tVar 2) (tt := _) (ts := _) (n := (a.length : Int)) (ea_cons (ed_nlen (ed_sk (ws := a) (ed_var (i := 0) rfl) (i := 1) (by rfl))) ea_nil) (by omega) (fun k => if a.getD k 0 ≤ b.getD k 0 then none else some (.int (k : Int))) fun k hk => ⟨_, td_test (ed_gt (ed_num (ns := a) (i := k) (ed_sk (ws := a) (ed_var (i := 0) rfl) (i := 1) (by rfl)) (ed_var (i := 2) rfl) (by omega)) (ed_num (ns := b) (i := k) (ed_sk (ws := b) (ed_var (i := 1) rfl) (i := 1) (by rfl)) (ed_var (i := 2) rfl) (by omega))), fun hb => ?_, fun hb => ?_⟩
  · refine sq_when (b := !leB a b) (Td.is (td_test (ed_neNil (n := 0) hf ?_ (by omega))) ?_) (fun hb => ?_) (fun hb => ?_)
    · intro d hd
      rw [outs_range] at hd
      obtain ⟨k, _, hk⟩ := List.mem_filterMap.mp hd
      by_cases h : a.getD k 0 ≤ b.getD k 0
      · rw [if_pos h] at hk; cases hk
      · rw [if_neg h] at hk; cases hk; exact sh_int _
    · congr 1
      rw [outs_range, Int.toNat_natCast]
      unfold leB
      cases hA : (List.range a.length).all fun i => decide (a.getD i 0 ≤ b.getD i 0) with
      | true =>
        rw [List.isEmpty_iff, List.filterMap_eq_nil_iff]
        intro k hk
        rw [if_pos (of_decide_eq_true (List.all_eq_true.mp hA k hk))]
      | false =>
        rw [List.isEmpty_eq_false_iff]
        intro e
        rw [List.filterMap_eq_nil_iff] at e
        have : ((List.range a.length).all fun i => decide (a.getD i 0 ≤ b.getD i 0)) = true := List.all_eq_true.mpr fun k hk => by
          have := e k hk
          by_cases h : a.getD k 0 ≤ b.getD k 0
          · exact decide_eq_true h
          · rw [if_neg h] at this; cases this
        rw [hA] at this; cases this
    · have e : leB a b = false := by simpa using hb
      rw [e]
      exact sd_ret ed_bl rfl
    · have e : leB a b = true := by simpa using hb
      rw [e]
      exact sd_ret (d := .bool true) (ed_eqNil0 (el_none (ds := []) (ed_sk (ws := b) (ed_var rfl) (by rfl)) (.inl rfl) (.inl rfl) (by decide) fun k d hk => by simp at hk)) rfl
  · have := of_decide_eq_true hb
    exact ⟨.int (k : Int), by rw [if_neg (by omega)], rfl, ed_var rfl⟩
  · have := of_decide_eq_false hb
    show (if a.getD k 0 ≤ b.getD k 0 then none else some (PyData.int (k : Int))) = none
    rw [if_pos (by omega)]
end
section
variable {K : PySem.W.Frag} {δ : List Cell} {ta tb tc : TE} {d : PyData}
theorem el_in_ties {ns : List Nat} (h1 : Ed K ta δ (taskD ns)) : EdL K (tCall (spG K G_in_ties) [] E0 (tCons ta tNil)) δ [] := el_call (ea_cons h1 ea_nil) ⟨ns, rfl, rfl⟩
theorem ed_asked_stand {ns : List Nat} (h1 : Ed K ta δ (taskD ns)) (h2 : Ed K tb δ (standD ns)) (hn : NOk ns) : Ed K (tCall (spG K G_asked_stand) [] E0 (tCons ta (tCons tb tNil))) δ (standD ns) := ed_call (ea_cons h1 (ea_cons h2 ea_nil)) ⟨ns, rfl, hn, rfl⟩
theorem ed_first_of {ns : List Nat} (h1 : Ed K ta δ (taskD ns)) : Ed K (tCall (spG K G_first_of) [] E0 (tCons ta tNil)) δ (standD ns) := ed_call (ea_cons h1 ea_nil) ⟨ns, rfl, rfl⟩
theorem ed_first_stand {ns : List Nat} (h1 : Ed K ta δ (taskD ns)) (hn : NOk ns) : Ed K (tCall (spG K G_first_stand) [] E0 (tCons ta tNil)) δ (standD ns) := ed_call (ea_cons h1 ea_nil) ⟨ns, rfl, hn, rfl⟩
theorem ed_lies_under {a b : List Nat} (h1 : Ed K ta δ (standD a)) (h2 : Ed K tb δ (standD b)) (e : a.length = b.length) (hl : a.length ≤ 40) : Ed K (tCall (spG K G_lies_under) [] E0 (tCons ta (tCons tb tNil))) δ (.bool (leB a b)) := ed_call (ea_cons h1 (ea_cons h2 ea_nil)) ⟨a, b, rfl, e, hl, rfl⟩
end
end WD

namespace WD
open PySem PySem.Spec PyProof.Rows L2 WM
local macro_rules | `(tactic| walk_at "ed") => `(tactic| repeat' (first
  | exact ed_int | exact ed_bl | exact ed_non | exact ed_str
  | exact ed_var rfl | exact ed_varm rfl
  | refine' ed_add ?_ ?_ | refine' ed_sub ?_ ?_ | refine' ed_lt ?_ ?_ | refine' ed_le ?_ ?_ | refine' ed_gt ?_ ?_ | refine' ed_ge ?_ ?_
  | refine' ed_mul ?_ ?_ ?_ | refine' ed_fdiv ?_ ?_ ?_ | refine' ed_mod ?_ ?_ ?_
  | refine' ed_eq ?_ ?_ ?_ ?_ | refine' ed_ne ?_ ?_ ?_ ?_ | refine' ed_isN ?_ ?_ | refine' ed_notN ?_ ?_ | refine' ed_isB ?_ ?_
  | refine' ed_in ?_ ?_ ?_ | refine' ed_notIn ?_ ?_ ?_ | refine' ed_ix ?_ ?_ ?_ ?_
  | refine' ed_catT ?_ ?_ ?_ | refine' ed_repT ?_ ?_ ?_ ?_ ?_ ?_
  | refine' td_test ?_ | refine' td_B ?_ | refine' td_not ?_ | refine' td_and ?_ (fun _ => ?_) | refine' td_or ?_ (fun _ => ?_)
  | refine' ed_andV ?_ (fun _ => ?_) | refine' ed_orV ?_ (fun _ => ?_) | refine' ed_notV ?_
  | refine' ed_chain ?_ ?_ ?_
  | exact ea_nil | refine' ea_cons ?_ ?_ | refine' ed_tup ?_ ?_
  | refine' ed_lenT ?_ | refine' ed_lenL ?_ | refine' ed_tupL ?_ | refine' ed_intB ?_ | refine' ed_min2 ?_ ?_
  | refine' ed_isi2 ?_ ?_ ?_ | refine' ed_isi ?_ ?_
  | exact kb_ii | exact kb_ib | exact kb_ll | exact kb_lt | exact kb_tl | exact kb_tt | exact kb_il | exact kb_it | exact kb_sl | exact kb_st | exact kb_ss
  | exact eo_none | refine' eo_some ?_ | refine' ed_slT ?_ ?_ ?_
  | exact shaped_nilL | exact shaped_nilT | exact shaped_int _ | exact shaped_ints _ | exact shaped_intsL _))


/-! ### deeds -/
def optD : Option (List Nat) → PyData
  | none => .none
  | some l => standD l
def G_is_tied : List PyData → Res → Prop := fun ds r => ∃ ns o, ds = [taskD ns, dayD o, .tuple []] ∧ r = .d (.bool false)
def G_can_be_done : List PyData → Res → Prop := fun ds r => ∃ ns ws o, ds = [taskD ns, standD ws, dayD o] ∧ r = .d (.bool true)
def G_wait_behind : List PyData → Res → Prop := fun ds r => ∃ ns ws o, ∃ i : Nat, ds = [taskD ns, standD ws, dayD o, .int (i : Int)] ∧ i < ns.length ∧ Ws ns ws ∧ r = .d (.int (wb ns ws o i : Nat))
def G_later_stand : List PyData → Res → Prop := fun ds r => ∃ ns ws o, ds = [taskD ns, standD ws, dayD o] ∧ ns.length ≤ 40 ∧ Ws ns ws ∧ r = .d (optD (stepM ns ws o))
def G_led : List PyData → Res → Prop := fun ds r => ∃ ns ws q, ds = [taskD ns, standD ws, ringD q] ∧ ns.length ≤ 40 ∧ Ws ns ns ∧ Ws ns ws ∧ q.length ≤ 8000 ∧ r = .d (optD (ledM ns ws q))
def G_on_holds : List PyData → Res → Prop := fun ds r => ∃ ns ws q, ds = [taskD ns, standD ws, .tuple [], ringD q] ∧ ns.length ≤ 40 ∧ Ws ns ns ∧ Ws ns ws ∧ q.length ≤ 8000 ∧ r = .d (.bool (onM ns ws q))
theorem day_len (o : Option Nat) : ((dayI o).map PyData.int).length = (if o.isSome then 1 else 0) := by cases o <;> rfl
theorem dayI_has (o : Option Nat) (i : Nat) : (dayI o).contains (i : Int) = decide (o = some i) := by
  cases o with
  | none => rfl
  | some j =>
    show List.contains [(j : Int)] (i : Int) = _
    by_cases h : j = i
    · subst h; simp
    · have h' : ¬ (i : Int) = (j : Int) := by omega
      simp [h, h', List.contains_cons]
theorem ledM_append (ns : List Nat) : ∀ (a b : Ring) (ws : List Nat), ledM ns ws (a ++ b) = (ledM ns ws a).bind fun l => ledM ns l b
  | [], b, ws => rfl
  | o :: a, b, ws => by
    show (stepM ns ws o).bind (fun l => ledM ns l (a ++ b)) = ((stepM ns ws o).bind fun l => ledM ns l a).bind fun l => ledM ns l b
    cases stepM ns ws o with
    | none => rfl
    | some l => exact ledM_append ns a b l
section
variable {P : Program} {w : World} {K : PySem.W.Frag} {mg : Str → Option Value} {base : Heap} {f : Addr} {fd : FuncData}
abbrev st_is_tied : Stmt := topS 67
theorem sc_is_tied : FnScope ["task", "day", "last", "i", "j"] ["task", "day", "last"] (defScope st_is_tied) := ⟨rfl, rfl, rfl, by decide +kernel, rfl, by decide +kernel, by decide +kernel⟩
theorem ok_is_tied (F : Fun K "is_tied" "is_tied" st_is_tied f fd) (T : Bl mg) : FnOk P w K mg base CX0 1 f fd ["task", "day", "last"] (spG K G_is_tied) := by
  refine okG F sc_is_tied (fun ds r ⟨_, _, h, _⟩ => by rw [h]; rfl) fun cdv A outer s H E hr => ⟨_, (pss_cons (ps_for PassesOwn.never rfl (pi_seq (pe_ix ix_seq (pv 0) pe_int (fun _ _ => rfl))) (pg_tup rfl (pgs_cons (pg_name (i := 3) sc_is_tied.nd rfl (Or.inl rfl)) (pgs_cons (pg_name (i := 4) sc_is_tied.nd rfl (Or.inl rfl)) pgs_nil))) pss_never) (pss_one (ps_ret pe_bl))), fun ds r h => ?_⟩
  obtain ⟨ns, o, rfl, rfl⟩ := h
  show Sd K _ [.d (taskD ns), .d (dayD o), .d (.tuple []), .u, .u] _ _
  exact sd_seq (sd_for0 (ed_tk (ns := ns) (ed_var rfl) (by rfl)) (N := fun δ' => δ' = [.d (taskD ns), .d (dayD o), .d (.tuple []), .u, .u]) rfl) fun δ' e => by
    subst e
    exact sd_ret ed_bl rfl
abbrev st_can_be_done : Stmt := topS 68
theorem sc_can_be_done : FnScope ["task", "stand", "day", "phase", "waits", "busy", "last", "i"] ["task", "stand", "day"] (defScope st_can_be_done) := ⟨rfl, rfl, rfl, by decide +kernel, rfl, by decide +kernel, by decide +kernel⟩
theorem ok_can_be_done (F : Fun K "can_be_done" "can_be_done" st_can_be_done f fd) (T : Bl mg) (c_is_tied : Cal P w K mg base 1 "is_tied" (spG K G_is_tied)) : FnOk P w K mg base CX0 2 f fd ["task", "stand", "day"] (spG K G_can_be_done) := by
  refine okG F sc_can_be_done (fun ds r ⟨_, _, _, h, _⟩ => by rw [h]; rfl) fun cdv A outer s H E hr => ⟨_, (pss_cons (ps_asg (pv 1) (pg_tup rfl (pgs_cons (pg_name (i := 3) sc_can_be_done.nd rfl (Or.inl rfl)) (pgs_cons (pg_name (i := 4) sc_can_be_done.nd rfl (Or.inl rfl)) (pgs_cons (pg_name (i := 5) sc_can_be_done.nd rfl (Or.inl rfl)) (pgs_cons (pg_name (i := 6) sc_can_be_done.nd rfl (Or.inl rfl)) pgs_nil)))))) (pss_cons (ps_if (PW.pt (pw_or (pt_cmpR op_gt (pe_callB cw_len (by rfl) T.len bt_len (pa_cons (pv 2) pa_nil)) (pe_ix ix_seq (pv 0) pe_int (fun _ _ => rfl)) (nomark _)) (pw_or1 (PW.pt (pw_and (pt_cmpR (op_eqD hr.units) (pe_ix ix_seq (pe_ix ix_seq (pv 0) pe_int (fun _ _ => rfl)) (pv 3) (fun _ _ => rfl)) pe_int (nomark _)) (pw_and1 (pt_cmpR op_gt (pe_callB cw_len (by rfl) T.len bt_len (pa_cons (pv 2) pa_nil)) pe_int (nomark _)))))))) (pss_one (ps_ret pe_bl)) pss_nil) (pss_cons (ps_if (pt_cmpR (op_neD hr.units) (pe_lc (own := [("i", 7)]) (g := gName 7) rfl sc_can_be_done.nd  (pi_seq (pv 5)) (blkOk_by (own := [("i", 7)]) (N := ["task", "stand", "day", "phase", "waits", "busy", "last", "i"]) (sc := defScope st_can_be_done) (by decide +kernel)) (fun _ _ _ _ _ => pg_name (i := 7) sc_can_be_done.nd rfl (Or.inl rfl)) (fun _ _ _ _ _ => pts_one pt_never) (fun _ _ _ _ _ => (pv 7))) (pe_lst pa_nil) (nomark _)) (pss_one (ps_ret pe_bl)) pss_nil) (pss_one (ps_ret (pe_not (pe_cl c_is_tied hr (by decide) (by rfl) (pa_cons (pv 0) (pa_cons (pv 2) (pa_cons (pv 6) pa_nil)))))))))), fun ds r h => ?_⟩
  obtain ⟨ns, ws, o, rfl, rfl⟩ := h
  show Sd K _ [.d (taskD ns), .d (standD ws), .d (dayD o), .u, .u, .u, .u, .u] _ _
  refine sq_unp (ds := sk ws) (gs_cons (gs_cons (gs_cons (gs_cons gs_nil)))) (ed_var rfl) rfl rfl (.inl rfl) ?_
  show Sd K _ [.d (taskD ns), .d (standD ws), .d (dayD o), .d (.int 0), .d (numD ws), .d (.tuple []), .d (.tuple []), .u] _ _
  refine sq_guard (Td.is (td_or (td_test (ed_gt (ed_len (ed_var rfl) (.inl (dayD_eq o))) (ed_tk (ns := ns) (ed_var rfl) (by rfl)))) (fun _ => td_and (a := false) (b := false) (Td.is (td_test (ed_eq (x := .int 0) (ed_ix (ds := [.int 0]) (i := 0) (ed_tk (ns := ns) (ed_var rfl) (by rfl)) (ed_var rfl) (.inl rfl) (by rfl)) ed_int (shaped_int _) (shaped_int _))) (by rw [eqv_int]; rfl)) (fun z => by cases z))) ?_) ?_
  · rw [day_len]
    cases o <;> rfl
  refine sq_guard (td_test (ed_neNil0 (el_none (ds := []) (ed_var rfl) (.inl rfl) (.inl rfl) (by decide) fun k d hk => by simp at hk))) ?_
  exact sd_ret (d := .bool true) (Ed.is (ed_notV (ed_call (d := .bool false) (ea_cons (ed_var rfl) (ea_cons (ed_var rfl) (ea_cons (ed_var rfl) ea_nil))) ⟨ns, o, rfl, rfl⟩)) rfl) rfl
abbrev st_wait_behind : Stmt := topS 70
theorem sc_wait_behind : FnScope ["task", "stand", "day", "i"] ["task", "stand", "day", "i"] (defScope st_wait_behind) := ⟨rfl, rfl, rfl, by decide +kernel, rfl, by decide +kernel, by decide +kernel⟩
theorem ok_wait_behind (F : Fun K "wait_behind" "wait_behind" st_wait_behind f fd) (T : Bl mg) : FnOk P w K mg base CX0 1 f fd ["task", "stand", "day", "i"] (spG K G_wait_behind) := by
  refine okG F sc_wait_behind (fun ds r ⟨_, _, _, _, h, _⟩ => by rw [h]; rfl) fun cdv A outer s H E hr => ⟨_, (pss_cons (ps_if (PW.pt (pw_and (pt_cmpR op_in_seq (pv 3) (pv 2) (by rfl)) (pw_and1 (PW.pt (pw_or (pt_cmpR op_notIn_seq (pv 3) (pe_ix ix_seq (pv 0) pe_int (fun _ _ => rfl)) (by rfl)) (pw_or1 (pt_cmpR op_in_seq (pv 3) (pe_ix ix_seq (pv 1) pe_int (fun _ _ => rfl)) (by rfl)))))))) (pss_one (ps_ret (pe_ix ix_seq (pe_ix ix_seq (pv 0) pe_int (fun _ _ => rfl)) (pv 3) (fun _ _ => rfl)))) pss_nil) (pss_one (ps_ret (pe_op op_sub (pe_ix ix_seq (pe_ix ix_seq (pv 1) pe_int (fun _ _ => rfl)) (pv 3) (fun _ _ => rfl)) pe_int)))), fun ds r h => ?_⟩
  obtain ⟨ns, ws, o, i, rfl, hi, hw, rfl⟩ := h
  show Sd K _ [.d (taskD ns), .d (standD ws), .d (dayD o), .d (.int (i : Int))] _ _
  refine sq_when (b := decide (o = some i)) (Td.is (td_and (td_test (ed_in (ed_var rfl) (ed_var rfl) (dayD_ints o))) (fun _ => td_or (b := false) (td_test (ed_notIn (ns := []) (ed_var rfl) (ed_tk (ns := ns) (ed_var rfl) (by rfl)) (.inl rfl))) (fun z => by cases z))) ?_) (fun hb => ?_) (fun hb => ?_)
  · rw [dayI_has]
    exact Bool.and_true _
  · have e : o = some i := of_decide_eq_true hb
    refine sd_ret (d := .int (wb ns ws o i : Nat)) (Ed.is (ed_num (ns := ns) (ed_tk (ns := ns) (ed_var rfl) (by rfl)) (ed_var rfl) hi) ?_) rfl
    unfold wb
    rw [if_pos e]
  · have e : ¬ o = some i := of_decide_eq_false hb
    have hp := hw.2 i hi
    refine sd_ret (d := .int (wb ns ws o i : Nat)) (Ed.is (ed_sub (ed_num (ns := ws) (ed_sk (ws := ws) (ed_var rfl) (by rfl)) (ed_var rfl) (by rw [hw.1]; exact hi)) ed_int) ?_) rfl
    unfold wb
    rw [if_neg e]
    congr 1
    omega
abbrev st_later_stand : Stmt := topS 71
theorem sc_later_stand : FnScope ["task", "stand", "day", "waits", "busy", "ends", "i"] ["task", "stand", "day"] (defScope st_later_stand) := ⟨rfl, rfl, rfl, by decide +kernel, rfl, by decide +kernel, by decide +kernel⟩
theorem nI_has (ns : List Nat) (k : Nat) : (nI ns).contains (k : Int) = ns.contains k := by
  unfold nI
  induction ns with
  | nil => rfl
  | cons n ns ih =>
    rw [List.map_cons, List.contains_cons, List.contains_cons, ih]
    congr 1
    rw [Bool.beq_eq_decide_eq, Bool.beq_eq_decide_eq]
    by_cases h : k = n
    · subst h; simp
    · rw [decide_eq_false h, decide_eq_false (by omega)]
theorem ok_later_stand (F : Fun K "later_stand" "later_stand" st_later_stand f fd) (T : Bl mg) (c_wait_behind : Cal P w K mg base 1 "wait_behind" (spG K G_wait_behind)) (c_in_ties : Cal P w K mg base 1 "in_ties" (spG K G_in_ties)) : FnOk P w K mg base CX0 2 f fd ["task", "stand", "day"] (spG K G_later_stand) := by
  refine okG F sc_later_stand (fun ds r ⟨_, _, _, h, _⟩ => by rw [h]; rfl) fun cdv A outer s H E hr => ⟨_, (pss_cons (ps_set (i := 3) sc_later_stand.nd rfl (Or.inl rfl) (pe_callTy cw_tup (by rfl) T.tuple bt_tuple (pa_cons (pe_lc (own := [("i", 6)]) (g := gName 6) (tt := tYes) rfl sc_later_stand.nd  (pi_range1 (by rfl) T.range (pa_cons (pe_callB cw_len (by rfl) T.len bt_len (pa_cons (pe_ix ix_seq (pv 0) pe_int (fun _ _ => rfl)) pa_nil)) pa_nil)) (blkOk_by (own := [("i", 6)]) (N := ["task", "stand", "day", "waits", "busy", "ends", "i"]) (sc := defScope st_later_stand) (by decide +kernel)) (fun _ _ _ _ _ => pg_name (i := 6) sc_later_stand.nd rfl (Or.inl rfl)) (fun _ _ _ _ _ => pts_nil) (fun _ _ _ _ _ => (pe_cl c_wait_behind hr (by decide) (by rfl) (pa_cons (pv 0) (pa_cons (pv 1) (pa_cons (pv 2) (pa_cons (pv 6) pa_nil))))))) pa_nil))) (pss_cons (ps_if (pt_cmpR op_in_seq pe_int (pv 3) (by rfl)) (pss_one (ps_ret pe_non)) pss_nil) (pss_cons (ps_set (i := 4) sc_later_stand.nd rfl (Or.inl rfl) (pe_callTy cw_tup (by rfl) T.tuple bt_tuple (pa_cons (pe_lc (own := [("i", 6)]) (g := gName 6) rfl sc_later_stand.nd  (pi_seq (pv 2)) (blkOk_by (own := [("i", 6)]) (N := ["task", "stand", "day", "waits", "busy", "ends", "i"]) (sc := defScope st_later_stand) (by decide +kernel)) (fun _ _ _ _ _ => pg_name (i := 6) sc_later_stand.nd rfl (Or.inl rfl)) (fun _ _ _ _ _ => pts_one (PW.pt (pw_and (pt_cmpR (kx_in (K := K) rfl) (pv 6) (pe_ix (kx_ix (K := K) rfl) (pv 0) pe_int (fun _ _ => rfl)) (by rfl)) (pw_and1 (pt_cmpR (kx_notIn (K := K) rfl) (pv 6) (pe_ix (kx_ix (K := K) rfl) (pv 1) pe_int (fun _ _ => rfl)) (by rfl)))))) (fun _ _ _ _ _ => (pv 6))) pa_nil))) (pss_cons (ps_set (i := 5) sc_later_stand.nd rfl (Or.inr rfl) (pe_cl c_in_ties hr (by decide) (by rfl) (pa_cons (pv 0) pa_nil))) (pss_one (ps_ret (pe_tup (pa_cons (pe_op op_mod (pe_op op_add (pe_ix ix_seq (pv 1) pe_int (fun _ _ => rfl)) pe_int) (pe_callB cw_len (by rfl) T.len bt_len (pa_cons (pe_ix ix_seq (pv 0) pe_int (fun _ _ => rfl)) pa_nil))) (pa_cons (pv 3) (pa_cons (pv 4) (pa_cons (pe_callTy cw_tup (by rfl) T.tuple bt_tuple (pa_cons (pe_lc (own := [("i", 6)]) (g := gName 6) rfl sc_later_stand.nd  (pi_seq (pv 2)) (blkOk_by (own := [("i", 6)]) (N := ["task", "stand", "day", "waits", "busy", "ends", "i"]) (sc := defScope st_later_stand) (by decide +kernel)) (fun _ _ _ _ _ => pg_name (i := 6) sc_later_stand.nd rfl (Or.inl rfl)) (fun _ _ _ _ _ => pts_one (pt_cmpR (kx_in (K := K) rfl) (pv 6) (pv 5) (by rfl))) (fun _ _ _ _ _ => (pv 6))) pa_nil)) pa_nil))))))))))), fun ds r h => ?_⟩
  obtain ⟨ns, ws, o, rfl, hl, hw, rfl⟩ := h
  show Sd K _ [.d (taskD ns), .d (standD ws), .d (dayD o), .u, .u, .u, .u] _ _
  refine sq_asg (d := numD (wbs ns ws o)) (ed_tupL (el_mapR (n := (ns.length : Int)) ((nI (wbs ns ws o)).map .int) (ea_cons (ed_nlen (ed_tk (ns := ns) (ed_var rfl) (by rfl))) ea_nil) (by omega) (by rw [nI_len, wbs_len]; rfl) (lfAll_ints _) fun k y hk => ?_)) (.inl rfl) ?_
  · obtain ⟨n, hk', rfl⟩ := mem_nI hk
    have hkl : k < ns.length := by
      have := (List.getElem?_eq_some_iff.mp hk').1
      rw [wbs_len] at this
      exact this
    have e : n = wb ns ws o k := by
      have := wbs_at (ns := ns) (ws := ws) (o := o) hkl
      rw [List.getD_eq_getElem?_getD, hk'] at this
      exact this
    subst e
    exact ed_call (ea_cons (ed_var rfl) (ea_cons (ed_var rfl) (ea_cons (ed_var rfl) (ea_cons (ed_var rfl) ea_nil)))) ⟨ns, ws, o, k, rfl, hkl, hw, rfl⟩
  refine sq_when (b := (wbs ns ws o).contains 0) (Td.is (td_test (ed_in (k := 0) (ns := nI (wbs ns ws o)) ed_int (ed_var rfl) (.inl rfl))) (nI_has _ 0)) (fun hb => ?_) (fun hb => ?_)
  · have e : stepM ns ws o = none := by unfold stepM; rw [if_pos hb]
    rw [e]
    exact sd_ret ed_non rfl
  · have e : stepM ns ws o = some (wbs ns ws o) := by unfold stepM; rw [if_neg (by rw [hb]; exact Bool.false_ne_true)]
    rw [e]
    refine sq_asg (d := .tuple []) (ed_tupL (el_none (ds := (dayI o).map .int) ((ed_var rfl).is (dayD_eq o)) (.inl rfl) (.inl rfl) (by rw [day_len]; split <;> omega) fun k d hk => ?_)) (.inl rfl) ?_
    · obtain ⟨i, _, rfl⟩ := List.mem_map.mp (List.mem_of_getElem? hk)
      exact td_and (a := false) (b := false) (td_test (ed_in (ns := []) (ed_var rfl) (ed_tk (ns := ns) (ed_var rfl) (by rfl)) (.inl rfl))) (fun z => by cases z)
    refine sq_asgL (xs := []) (el_in_ties (ns := ns) (ed_var rfl)) rfl fun p => ?_
    refine sd_ret (d := standD (wbs ns ws o)) (ed_tup (ds := sk (wbs ns ws o)) (ea_cons (Ed.is (ed_mod (ed_add (ed_sk (ws := ws) (ed_var rfl) (by rfl)) ed_int) (ed_lenT (ed_tk (ns := ns) (ed_var rfl) (by rfl))) (by decide)) (by rfl)) (ea_cons (ed_var rfl) (ea_cons (ed_var rfl) (ea_cons (ed_tupL (el_none (ds := (dayI o).map .int) ((ed_var rfl).is (dayD_eq o)) (.inl rfl) (.inr (lfAll_ints _)) (by rw [day_len]; split <;> omega) fun k d hk => ?_)) ea_nil)))) (by simp)) rfl
    obtain ⟨i, _, rfl⟩ := List.mem_map.mp (List.mem_of_getElem? hk)
    exact td_test (ed_in (ns := []) (ed_var rfl) (ed_varm rfl) (.inr rfl))
abbrev st_led : Stmt := topS 73
theorem sc_led : FnScope ["task", "stand", "days", "day"] ["task", "stand", "days"] (defScope st_led) := ⟨rfl, rfl, rfl, by decide +kernel, rfl, by decide +kernel, by decide +kernel⟩
theorem isNo_opt (o : Option (List Nat)) : isNo (optD o) = o.isNone := by cases o <;> rfl
theorem ok_led (F : Fun K "led" "led" st_led f fd) (T : Bl mg) (c_can_be_done : Cal P w K mg base 2 "can_be_done" (spG K G_can_be_done)) (c_later_stand : Cal P w K mg base 2 "later_stand" (spG K G_later_stand)) : FnOk P w K mg base CX0 3 f fd ["task", "stand", "days"] (spG K G_led) := by
  refine okG F sc_led (fun ds r ⟨_, _, _, h, _⟩ => by rw [h]; rfl) fun cdv A outer s H E hr => ⟨_, (pss_cons (ps_for PassesOwn.never rfl (pi_seq (pv 2)) (pg_name (i := 3) sc_led.nd rfl (Or.inl rfl)) (pss_cons (ps_if (pt_not (pt_val (pe_cl c_can_be_done hr (by decide) (by rfl) (pa_cons (pv 0) (pa_cons (pv 1) (pa_cons (pv 3) pa_nil)))))) (pss_one (ps_ret pe_non)) pss_nil) (pss_cons (ps_set (i := 1) sc_led.nd rfl (Or.inl rfl) (pe_cl c_later_stand hr (by decide) (by rfl) (pa_cons (pv 0) (pa_cons (pv 1) (pa_cons (pv 3) pa_nil))))) (pss_one (ps_if (pt_cmpR ow_isN (pv 1) pe_non (nomark _)) (pss_one (ps_ret pe_non)) pss_nil))))) (pss_one (ps_ret (pv 1)))), fun ds r h => ?_⟩
  obtain ⟨ns, ws, q, rfl, hl, hn, hw, hq, rfl⟩ := h
  show Sd K _ [.d (taskD ns), .d (standD ws), .d (ringD q), .u] _ _
  refine sd_seq (sd_for (ds := q.map dayD) (ed_var rfl) (.inl rfl) (.inl rfl) (fun k δ' => ∃ l c, ledM ns ws (q.take k) = some l ∧ δ' = [.d (taskD ns), .d (standD l), .d (ringD q), c] ∧ muts [c] = []) ⟨ws, .u, rfl, rfl, rfl⟩ ?_ (N := fun δ' => ∃ l c, ledM ns ws q = some l ∧ δ' = [.d (taskD ns), .d (standD l), .d (ringD q), c]) ?_) ?_
  · rintro k d δ' hk ⟨l, c, hM, rfl, hc⟩
    obtain ⟨o, ho, rfl⟩ : ∃ o, q[k]? = some o ∧ d = dayD o := by
      rw [List.getElem?_map] at hk
      cases ho : q[k]? with
      | none => rw [ho] at hk; cases hk
      | some o => rw [ho] at hk; exact ⟨o, rfl, (Option.some.inj hk).symm⟩
    have hwl := (ledM_some hn _ _ _ hw hM).1
    have hs : ledM ns ws (q.take (k + 1)) = stepM ns l o := by
      rw [List.take_add_one, ho, ledM_append, hM]
      show (stepM ns l o).bind (fun x => some x) = _
      cases stepM ns l o <;> rfl
    refine ⟨.inr (lf_day o), ?_⟩
    refine sq_guard (Td.is (td_not (td_B (ed_call (d := .bool true) (ea_cons (ed_var rfl) (ea_cons (ed_var rfl) (ea_cons (ed_var rfl) ea_nil))) ⟨ns, l, o, rfl, rfl⟩))) rfl) ?_
    refine sq_asg (d := optD (stepM ns l o)) (ed_call (ea_cons (ed_var rfl) (ea_cons (ed_var rfl) (ea_cons (ed_var rfl) ea_nil))) ⟨ns, l, o, rfl, hl, hwl, rfl⟩) (.inl rfl) ?_
    refine sd_if (b := (stepM ns l o).isNone) (Td.is (td_test (ed_isN (ed_var rfl) ed_non)) (isNo_opt _)) (fun hb => ?_) (fun hb => ?_)
    · have e : stepM ns l o = none := by simpa using hb
      have e2 : ledM ns ws q = none := by
        rw [← List.take_append_drop (k + 1) q, ledM_append, hs, e]; rfl
      rw [e2]
      exact sd_ret ed_non rfl
    · cases e : stepM ns l o with
      | none => rw [e] at hb; cases hb
      | some l' => exact sd_next ⟨l', _, by rw [hs, e], rfl, rfl⟩
  · rintro δ' ⟨l, c, hM, rfl, hc⟩
    rw [ring_len, List.take_length] at hM
    exact ⟨l, c, hM, rfl⟩
  · rintro δ' ⟨l, c, hM, rfl⟩
    rw [hM]
    exact sd_ret (ed_var rfl) rfl
abbrev st_on_holds : Stmt := topS 74
theorem sc_on_holds : FnScope ["task", "stand", "lead", "ring", "one", "two"] ["task", "stand", "lead", "ring"] (defScope st_on_holds) := ⟨rfl, rfl, rfl, by decide +kernel, rfl, by decide +kernel, by decide +kernel⟩
theorem ok_on_holds (F : Fun K "on_holds" "on_holds" st_on_holds f fd) (T : Bl mg) (c_led : Cal P w K mg base 3 "led" (spG K G_led)) (c_lies_under : Cal P w K mg base 1 "lies_under" (spG K G_lies_under)) : FnOk P w K mg base CX0 4 f fd ["task", "stand", "lead", "ring"] (spG K G_on_holds) := by
  refine okG F sc_on_holds (fun ds r ⟨_, _, _, h, _⟩ => by rw [h]; rfl) fun cdv A outer s H E hr => ⟨_, (pss_cons (ps_set (i := 4) sc_on_holds.nd rfl (Or.inl rfl) (pe_cl c_led hr (by decide) (by rfl) (pa_cons (pv 0) (pa_cons (pv 1) (pa_cons (pe_op op_catA (pv 2) (pv 3)) pa_nil))))) (pss_cons (ps_if (pt_cmpR ow_isN (pv 4) pe_non (nomark _)) (pss_one (ps_ret pe_bl)) pss_nil) (pss_cons (ps_set (i := 5) sc_on_holds.nd rfl (Or.inl rfl) (pe_cl c_led hr (by decide) (by rfl) (pa_cons (pv 0) (pa_cons (pv 4) (pa_cons (pv 3) pa_nil))))) (pss_one (ps_ret (pe_and (pe_cmpR ow_notN (pv 5) pe_non (nomark _)) (pe_one (pe_cl c_lies_under hr (by decide) (by rfl) (pa_cons (pv 4) (pa_cons (pv 5) pa_nil)))))))))), fun ds r h => ?_⟩
  obtain ⟨ns, ws, q, rfl, hl, hn, hw, hq, rfl⟩ := h
  show Sd K _ [.d (taskD ns), .d (standD ws), .d (.tuple []), .d (ringD q), .u, .u] _ _
  refine sq_asg (d := optD (ledM ns ws q)) (ed_call (ea_cons (ed_var rfl) (ea_cons (ed_var rfl) (ea_cons (ed_catT (xs := []) (ys := q.map dayD) (ed_var rfl) (ed_var rfl) (by rw [ring_len, sizeLine_eq]; simp; omega)) ea_nil))) ⟨ns, ws, q, rfl, hl, hn, hw, hq, rfl⟩) (.inl rfl) ?_
  refine sq_when (b := (ledM ns ws q).isNone) (Td.is (td_test (ed_isN (ed_var rfl) ed_non)) (isNo_opt _)) (fun hb => ?_) (fun hb => ?_)
  · have e : ledM ns ws q = none := by simpa using hb
    have e2 : onM ns ws q = false := by unfold onM; rw [e]
    rw [e2]
    exact sd_ret ed_bl rfl
  · cases e : ledM ns ws q with
    | none => rw [e] at hb; cases hb
    | some a =>
      have ha := (ledM_some hn _ _ _ hw e).1
      refine sq_asg (d := optD (ledM ns a q)) (ed_call (ea_cons (ed_var rfl) (ea_cons (ed_var rfl) (ea_cons (ed_var rfl) ea_nil))) ⟨ns, a, q, rfl, hl, hn, ha, hq, rfl⟩) (.inl rfl) ?_
      cases e2 : ledM ns a q with
      | none =>
        have e3 : onM ns ws q = false := by unfold onM; rw [e]; show (match ledM ns a q with | none => false | some b => leB a b) = false; rw [e2]
        rw [e3]
        exact sd_ret (ed_andV (a := false) (b := false) (Ed.is (ed_notN (x := .none) (ed_var rfl) ed_non) rfl) (fun z => by cases z)) rfl
      | some b =>
        have e3 : onM ns ws q = leB a b := by unfold onM; rw [e]; show (match ledM ns a q with | none => false | some b => leB a b) = leB a b; rw [e2]
        rw [e3]
        have hb' := (ledM_some hn _ _ _ ha e2).1
        exact sd_ret (Ed.is (ed_andV (a := true) (Ed.is (ed_notN (x := standD b) (ed_var rfl) ed_non) rfl) (fun _ => ed_lies_under (a := a) (b := b) (ed_var rfl) (ed_var rfl) (by rw [ha.1, hb'.1]) (by rw [ha.1]; exact hl))) (by rw [Bool.true_and])) rfl
end
end WD

namespace WD
open PySem PySem.Spec PyProof.Rows L2 WM
local macro_rules | `(tactic| walk_at "ed") => `(tactic| repeat' (first
  | exact ed_int | exact ed_bl | exact ed_non | exact ed_str
  | exact ed_var rfl | exact ed_varm rfl
  | refine' ed_add ?_ ?_ | refine' ed_sub ?_ ?_ | refine' ed_lt ?_ ?_ | refine' ed_le ?_ ?_ | refine' ed_gt ?_ ?_ | refine' ed_ge ?_ ?_
  | refine' ed_mul ?_ ?_ ?_ | refine' ed_fdiv ?_ ?_ ?_ | refine' ed_mod ?_ ?_ ?_
  | refine' ed_eq ?_ ?_ ?_ ?_ | refine' ed_ne ?_ ?_ ?_ ?_ | refine' ed_isN ?_ ?_ | refine' ed_notN ?_ ?_ | refine' ed_isB ?_ ?_
  | refine' ed_in ?_ ?_ ?_ | refine' ed_notIn ?_ ?_ ?_ | refine' ed_ix ?_ ?_ ?_ ?_
  | refine' ed_catT ?_ ?_ ?_ | refine' ed_repT ?_ ?_ ?_ ?_ ?_ ?_
  | refine' td_test ?_ | refine' td_B ?_ | refine' td_not ?_ | refine' td_and ?_ (fun _ => ?_) | refine' td_or ?_ (fun _ => ?_)
  | refine' ed_andV ?_ (fun _ => ?_) | refine' ed_orV ?_ (fun _ => ?_) | refine' ed_notV ?_
  | refine' ed_chain ?_ ?_ ?_
  | exact ea_nil | refine' ea_cons ?_ ?_ | refine' ed_tup ?_ ?_
  | refine' ed_lenT ?_ | refine' ed_lenL ?_ | refine' ed_tupL ?_ | refine' ed_intB ?_ | refine' ed_min2 ?_ ?_
  | refine' ed_isi2 ?_ ?_ ?_ | refine' ed_isi ?_ ?_
  | exact kb_ii | exact kb_ib | exact kb_ll | exact kb_lt | exact kb_tl | exact kb_tt | exact kb_il | exact kb_it | exact kb_sl | exact kb_st | exact kb_ss
  | exact eo_none | refine' eo_some ?_ | refine' ed_slT ?_ ?_ ?_
  | exact shaped_nilL | exact shaped_nilT | exact shaped_int _ | exact shaped_ints _ | exact shaped_intsL _))


/-! ### answers -/
abbrev ok3 (r : Ring) : List PyData := [.str ("on" : Str), .tuple [], ringD r]
/-- numbers fit, ring fits -/
structure Fit (ns : List Nat) (q : Ring) : Prop where
  n : NOk ns
  ins : In ns.length q
  len : q.length ≤ 4000
  ne : q ≠ []
def G_is_lead : List PyData → Res → Prop := fun ds r => ∃ m : Int, ds = [.int m, .tuple []] ∧ r = .d (.bool true)
def G_is_on : List PyData → Res → Prop := fun ds r => ∃ ns q, ds = [taskD ns, onD q] ∧ Fit ns q ∧ r = .d (.bool true)
def G_is_answer_of : List PyData → Res → Prop := fun ds r => ∃ ns q, ds = [taskD ns, onD q] ∧ Fit ns q ∧ r = .d (.bool true)
def G_asked_answer : List PyData → Res → Prop := fun ds r => ∃ ns q, ds = [taskD ns, onD q] ∧ Fit ns q ∧ r = .d (onD q)
def G_answer_holds : List PyData → Res → Prop := fun ds r => ∃ ns q, ds = [taskD ns, standD ns, onD q] ∧ Fit ns q ∧ r = .d (.bool (onM ns ns q))
def G_holds : List PyData → Res → Prop := fun ds r => ∃ ns q, ds = [taskD ns, standD ns, onD q] ∧ Fit ns q ∧ r = .d (.bool (onM ns ns q))
section
variable {K : PySem.W.Frag} {δ : List Cell} {ta tb tc : TE} {d x : PyData}
theorem ed_ok {i : Int} {q : Ring} (ha : Ed K ta δ (onD q)) (hi : atI (ok3 q) i = some d) : Ed K (tOp (rIx K) ta (tC (.int i))) δ d := ed_at ha hi
theorem eqv_on : PyData.eqv (.str ("on" : Str)) (.str ("on" : Str)) = true := by decide +kernel
theorem shaped_on : SeqAt.shaped (.str ("on" : Str)) = true := by decide +kernel
end
section
variable {P : Program} {w : World} {K : PySem.W.Frag} {mg : Str → Option Value} {base : Heap} {f : Addr} {fd : FuncData}
abbrev st_is_lead : Stmt := topS 59
theorem sc_is_lead : FnScope ["many", "thing", "day"] ["many", "thing"] (defScope st_is_lead) := ⟨rfl, rfl, rfl, by decide +kernel, rfl, by decide +kernel, by decide +kernel⟩
theorem ok_is_lead (F : Fun K "is_lead" "is_lead" st_is_lead f fd) (T : Bl mg) (c_is_row : Cal P w K mg base 1 "is_row" (spG K G_is_row)) (c_is_day : Cal P w K mg base 3 "is_day" (spG K G_is_day)) : FnOk P w K mg base CX0 4 f fd ["many", "thing"] (spG K G_is_lead) := by
  refine okG F sc_is_lead (fun ds r ⟨_, h, _⟩ => by rw [h]; rfl) fun cdv A outer s H E hr => ⟨_, (pss_one (ps_ret (pe_and (pe_cl c_is_row hr (by decide) (by rfl) (pa_cons (pv 1) pa_nil)) (pe_and (pe_cmpR op_le (pe_callB cw_len (by rfl) T.len bt_len (pa_cons (pv 1) pa_nil)) (pe_kc T.c_MOST_LEAD (by rfl)) (nomark _)) (pe_one (pe_callB (cr_all rfl) (by rfl) T.all bt_all (pa_cons (pe_lc (own := [("day", 2)]) (g := gName 2) (tt := tYes) rfl sc_is_lead.nd  (pi_seq (pv 1)) (blkOk_by (own := [("day", 2)]) (N := ["many", "thing", "day"]) (sc := defScope st_is_lead) (by decide +kernel)) (fun _ _ _ _ _ => pg_name (i := 2) sc_is_lead.nd rfl (Or.inl rfl)) (fun _ _ _ _ _ => pts_nil) (fun _ _ _ _ _ => pe_never)) pa_nil))))))), fun ds r h => ?_⟩
  obtain ⟨m, rfl, rfl⟩ := h
  show Sd K _ [.d (.int m), .d (.tuple []), .u] _ _
  exact sd_ret (d := .bool true) (Ed.is (ed_andV (ed_is_rowT (ds := []) (ed_var rfl)) (fun _ => ed_andV (ed_le (ed_lenT (ds := []) (ed_var rfl)) ed_int) (fun _ => ed_all (bs := []) (Ed.of_l (el_map (ds := []) [] (ed_var rfl) (.inl rfl) (.inl rfl) (by decide) rfl rfl fun k d y hk => by simp at hk))))) (by rfl)) rfl
abbrev st_is_on : Stmt := topS 60
theorem sc_is_on : FnScope ["task", "thing", "many"] ["task", "thing"] (defScope st_is_on) := ⟨rfl, rfl, rfl, by decide +kernel, rfl, by decide +kernel, by decide +kernel⟩
theorem ok_is_on (F : Fun K "is_on" "is_on" st_is_on f fd) (T : Bl mg) (c_is_ring : Cal P w K mg base 5 "is_ring" (spG K G_is_ring)) (c_is_lead : Cal P w K mg base 4 "is_lead" (spG K G_is_lead)) : FnOk P w K mg base CX0 6 f fd ["task", "thing"] (spG K G_is_on) := by
  refine okG F sc_is_on (fun ds r ⟨_, _, h, _⟩ => by rw [h]; rfl) fun cdv A outer s H E hr => ⟨_, (pss_cons (ps_set (i := 2) sc_is_on.nd rfl (Or.inl rfl) (pe_callB cw_len (by rfl) T.len bt_len (pa_cons (pe_ix ix_seq (pv 0) pe_int (fun _ _ => rfl)) pa_nil))) (pss_one (ps_ret (pe_and (pe_cmpR (op_eqD hr.units) (pe_callB cw_len (by rfl) T.len bt_len (pa_cons (pv 1) pa_nil)) pe_int (nomark _)) (pe_and (pe_cl c_is_lead hr (by decide) (by rfl) (pa_cons (pv 2) (pa_cons (pe_ix ix_seq (pv 1) pe_int (fun _ _ => rfl)) pa_nil))) (pe_one (pe_cl c_is_ring hr (by decide) (by rfl) (pa_cons (pv 2) (pa_cons (pe_ix ix_seq (pv 1) pe_int (fun _ _ => rfl)) pa_nil))))))))), fun ds r h => ?_⟩
  obtain ⟨ns, q, rfl, hf, rfl⟩ := h
  show Sd K _ [.d (taskD ns), .d (onD q), .u] _ _
  refine sq_asg (d := .int (ns.length : Int)) (ed_nlen (ed_tk (ns := ns) (ed_var rfl) (by rfl))) (.inl rfl) ?_
  exact sd_ret (d := .bool true) (Ed.is (ed_andV (a := true) (Ed.is (ed_eq (ed_lenT (ds := ok3 q) (ed_var rfl)) ed_int (shaped_int _) (shaped_int _)) (by rw [eqv_int]; rfl)) (fun _ => ed_andV (ed_call (d := .bool true) (ea_cons (ed_var rfl) (ea_cons (ed_ok (q := q) (ed_var rfl) (by rfl)) ea_nil)) ⟨_, rfl, rfl⟩) (fun _ => ed_is_ring (many := (ns.length : Int)) (q := q) (ed_var rfl) (ed_ok (q := q) (ed_var rfl) (by rfl)) hf.ins hf.len hf.ne))) (by rfl)) rfl
abbrev st_is_answer_of : Stmt := topS 63
theorem sc_is_answer_of : FnScope ["task", "thing"] ["task", "thing"] (defScope st_is_answer_of) := ⟨rfl, rfl, rfl, by decide +kernel, rfl, by decide +kernel, by decide +kernel⟩
theorem ok_is_answer_of (F : Fun K "is_answer_of" "is_answer_of" st_is_answer_of f fd) (T : Bl mg) (c_is_row : Cal P w K mg base 1 "is_row" (spG K G_is_row)) (c_is_on : Cal P w K mg base 6 "is_on" (spG K G_is_on)) : FnOk P w K mg base CX0 7 f fd ["task", "thing"] (spG K G_is_answer_of) := by
  refine okG F sc_is_answer_of (fun ds r ⟨_, _, h, _⟩ => by rw [h]; rfl) fun cdv A outer s H E hr => ⟨_, (pss_cons (ps_if (PW.pt (pw_or (pt_not (pt_val (pe_cl c_is_row hr (by decide) (by rfl) (pa_cons (pv 1) pa_nil)))) (pw_or (pt_cmpR (op_eqD hr.units) (pe_callB cw_len (by rfl) T.len bt_len (pa_cons (pv 1) pa_nil)) pe_int (nomark _)) (pw_or1 (pt_not (pt_val (pe_callB call_isi (by rfl) T.isinstance bt_isinstance (pa_cons (pe_ix ix_seq (pv 1) pe_int (fun _ _ => rfl)) (pa_cons (pe_bltn (v := .ty "str") (by rfl) T.str bt_str rfl) pa_nil))))))))) (pss_one (ps_ret pe_bl)) pss_nil) (pss_cons (ps_if (pt_cmpR (op_eqD hr.units) (pe_ix ix_seq (pv 1) pe_int (fun _ _ => rfl)) pe_str (nomark _)) (pss_one (ps_ret (pe_cl c_is_on hr (by decide) (by rfl) (pa_cons (pv 0) (pa_cons (pv 1) pa_nil))))) pss_nil) pss_never)), fun ds r h => ?_⟩
  obtain ⟨ns, q, rfl, hf, rfl⟩ := h
  show Sd K _ [.d (taskD ns), .d (onD q)] _ _
  refine sq_guard (Td.is (td_or (td_not (td_B (ed_is_rowT (ds := ok3 q) (ed_var rfl)))) (fun _ => td_or (td_test (ed_eq (ed_lenT (ds := ok3 q) (ed_var rfl)) ed_int (shaped_int _) (shaped_int _))) (fun _ => td_not (td_B (ed_isi (b := true) (ed_ok (d := .str "on") (q := q) (ed_var rfl) (by rfl)) kb_ss))))) (by rw [eqv_int]; rfl)) ?_
  refine sq_when (b := true) (Td.is (td_test (ed_eq (ed_ok (q := q) (ed_var rfl) (by rfl)) ed_str shaped_on shaped_on)) eqv_on) (fun _ => ?_) (fun z => by cases z)
  exact sd_ret (ed_call (d := .bool true) (ea_cons (ed_var rfl) (ea_cons (ed_var rfl) ea_nil)) ⟨ns, q, rfl, hf, rfl⟩) rfl
abbrev st_asked_answer : Stmt := topS 64
theorem sc_asked_answer : FnScope ["task", "thing"] ["task", "thing"] (defScope st_asked_answer) := ⟨rfl, rfl, rfl, by decide +kernel, rfl, by decide +kernel, by decide +kernel⟩
theorem ok_asked_answer (F : Fun K "asked_answer" "asked_answer" st_asked_answer f fd) (T : Bl mg) (c_is_answer_of : Cal P w K mg base 7 "is_answer_of" (spG K G_is_answer_of)) (c_told_rows : Cal P w K mg base 5 "told_rows" (spG K G_told_rows)) : FnOk P w K mg base CX0 8 f fd ["task", "thing"] (spG K G_asked_answer) := by
  refine okG F sc_asked_answer (fun ds r ⟨_, _, h, _⟩ => by rw [h]; rfl) fun cdv A outer s H E hr => ⟨_, (pss_cons (ps_if (pt_not (pt_val (pe_cl c_is_answer_of hr (by decide) (by rfl) (pa_cons (pv 0) (pa_cons (pv 1) pa_nil))))) (pss_one (ps_ret pe_non)) pss_nil) (pss_one (ps_ret (pe_cl c_told_rows hr (by decide) (by rfl) (pa_cons (pv 1) pa_nil))))), fun ds r h => ?_⟩
  obtain ⟨ns, q, rfl, hf, rfl⟩ := h
  show Sd K _ [.d (taskD ns), .d (onD q)] _ _
  have := hf.len
  refine sq_guard (Td.is (td_not (td_B (ed_call (d := .bool true) (ea_cons (ed_var rfl) (ea_cons (ed_var rfl) ea_nil)) ⟨ns, q, rfl, hf, rfl⟩))) rfl) ?_
  exact sd_ret (ed_told_rows (ed_var rfl) (tr_on (by omega))) rfl
abbrev st_answer_holds : Stmt := topS 79
theorem sc_answer_holds : FnScope ["task", "stand", "answer"] ["task", "stand", "answer"] (defScope st_answer_holds) := ⟨rfl, rfl, rfl, by decide +kernel, rfl, by decide +kernel, by decide +kernel⟩
theorem NOk.ws {ns : List Nat} (h : NOk ns) : Ws ns ns := ws_of h.pos
theorem ok_answer_holds (F : Fun K "answer_holds" "answer_holds" st_answer_holds f fd) (T : Bl mg) (c_on_holds : Cal P w K mg base 4 "on_holds" (spG K G_on_holds)) : FnOk P w K mg base CX0 5 f fd ["task", "stand", "answer"] (spG K G_answer_holds) := by
  refine okG F sc_answer_holds (fun ds r ⟨_, _, h, _⟩ => by rw [h]; rfl) fun cdv A outer s H E hr => ⟨_, (pss_cons (ps_if (pt_cmpR (op_eqD hr.units) (pe_ix ix_seq (pv 2) pe_int (fun _ _ => rfl)) pe_str (nomark _)) (pss_one (ps_ret (pe_cl c_on_holds hr (by decide) (by rfl) (pa_cons (pv 0) (pa_cons (pv 1) (pa_cons (pe_ix ix_seq (pv 2) pe_int (fun _ _ => rfl)) (pa_cons (pe_ix ix_seq (pv 2) pe_int (fun _ _ => rfl)) pa_nil))))))) pss_nil) pss_never), fun ds r h => ?_⟩
  obtain ⟨ns, q, rfl, hf, rfl⟩ := h
  show Sd K _ [.d (taskD ns), .d (standD ns), .d (onD q)] _ _
  have h1 := hf.len
  have h2 := hf.n.len
  refine sq_when (b := true) (Td.is (td_test (ed_eq (ed_ok (q := q) (ed_var rfl) (by rfl)) ed_str shaped_on shaped_on)) eqv_on) (fun _ => ?_) (fun z => by cases z)
  exact sd_ret (ed_call (d := .bool (onM ns ns q)) (ea_cons (ed_var rfl) (ea_cons (ed_var rfl) (ea_cons (ed_ok (q := q) (ed_var rfl) (by rfl)) (ea_cons (ed_ok (q := q) (ed_var rfl) (by rfl)) ea_nil)))) ⟨ns, ns, q, rfl, by omega, hf.n.ws, hf.n.ws, by omega, rfl⟩) rfl
abbrev st_holds : Stmt := topS 80
theorem sc_holds : FnScope ["task", "stand", "answer", "told"] ["task", "stand", "answer"] (defScope st_holds) := ⟨rfl, rfl, rfl, by decide +kernel, rfl, by decide +kernel, by decide +kernel⟩
theorem ok_holds (F : Fun K "holds" "holds" st_holds f fd) (T : Bl mg) (c_asked_task : Cal P w K mg base 8 "asked_task" (spG K G_asked_task)) (c_asked_stand : Cal P w K mg base 6 "asked_stand" (spG K G_asked_stand)) (c_asked_answer : Cal P w K mg base 8 "asked_answer" (spG K G_asked_answer)) (c_answer_holds : Cal P w K mg base 5 "answer_holds" (spG K G_answer_holds)) : FnOk P w K mg base CX0 9 f fd ["task", "stand", "answer"] (spG K G_holds) := by
  refine okG F sc_holds (fun ds r ⟨_, _, h, _⟩ => by rw [h]; rfl) fun cdv A outer s H E hr => ⟨_, (pss_cons (ps_set (i := 0) sc_holds.nd rfl (Or.inl rfl) (pe_cl c_asked_task hr (by decide) (by rfl) (pa_cons (pv 0) pa_nil))) (pss_cons (ps_set (i := 1) sc_holds.nd rfl (Or.inl rfl) (pe_cl c_asked_stand hr (by decide) (by rfl) (pa_cons (pv 0) (pa_cons (pv 1) pa_nil)))) (pss_cons (ps_set (i := 3) sc_holds.nd rfl (Or.inl rfl) (pe_cl c_asked_answer hr (by decide) (by rfl) (pa_cons (pv 0) (pa_cons (pv 2) pa_nil)))) (pss_one (ps_ret (pe_and (pe_cmpR ow_notN (pv 3) pe_non (nomark _)) (pe_one (pe_cl c_answer_holds hr (by decide) (by rfl) (pa_cons (pv 0) (pa_cons (pv 1) (pa_cons (pv 3) pa_nil))))))))))), fun ds r h => ?_⟩
  obtain ⟨ns, q, rfl, hf, rfl⟩ := h
  show Sd K _ [.d (taskD ns), .d (standD ns), .d (onD q), .u] _ _
  refine sq_asg (d := taskD ns) (ed_asked_task (ed_var rfl) hf.n) (.inl rfl) ?_
  refine sq_asg (d := standD ns) (ed_asked_stand (ns := ns) (ed_var rfl) (ed_var rfl) hf.n) (.inl rfl) ?_
  refine sq_asg (d := onD q) (ed_call (ea_cons (ed_var rfl) (ea_cons (ed_var rfl) ea_nil)) ⟨ns, q, rfl, hf, rfl⟩) (.inl rfl) ?_
  exact sd_ret (d := .bool (onM ns ns q)) (Ed.is (ed_andV (a := true) (Ed.is (ed_notN (x := onD q) (ed_var rfl) ed_non) rfl) (fun _ => ed_call (d := .bool (onM ns ns q)) (ea_cons (ed_var rfl) (ea_cons (ed_var rfl) (ea_cons (ed_var rfl) ea_nil))) ⟨ns, q, rfl, hf, rfl⟩)) (by rw [Bool.true_and])) rfl
end
section
variable {K : PySem.W.Frag} {δ : List Cell} {ta tb tc : TE} {d : PyData}
theorem ed_holds {ns : List Nat} {q : Ring} (h1 : Ed K ta δ (taskD ns)) (h2 : Ed K tb δ (standD ns)) (h3 : Ed K tc δ (onD q)) (hf : Fit ns q) : Ed K (tCall (spG K G_holds) [] E0 (tCons ta (tCons tb (tCons tc tNil)))) δ (.bool (onM ns ns q)) := ed_call (ea_cons h1 (ea_cons h2 (ea_cons h3 ea_nil))) ⟨ns, q, rfl, hf, rfl⟩
theorem ed_on_holds {ns : List Nat} {q : Ring} {td : TE} (h1 : Ed K ta δ (taskD ns)) (h2 : Ed K tb δ (standD ns)) (h3 : Ed K tc δ (.tuple [])) (h4 : Ed K td δ (ringD q)) (hn : NOk ns) (hq : q.length ≤ 8000) : Ed K (tCall (spG K G_on_holds) [] E0 (tCons ta (tCons tb (tCons tc (tCons td tNil))))) δ (.bool (onM ns ns q)) := ed_call (ea_cons h1 (ea_cons h2 (ea_cons h3 (ea_cons h4 ea_nil)))) ⟨ns, ns, q, rfl, Nat.le_trans hn.len (by decide), hn.ws, hn.ws, hq, rfl⟩
end
end WD

namespace WD
open PySem PySem.Spec PyProof.Rows L2 WM
local macro_rules | `(tactic| walk_at "ed") => `(tactic| repeat' (first
  | exact ed_int | exact ed_bl | exact ed_non | exact ed_str
  | exact ed_var rfl | exact ed_varm rfl
  | refine' ed_add ?_ ?_ | refine' ed_sub ?_ ?_ | refine' ed_lt ?_ ?_ | refine' ed_le ?_ ?_ | refine' ed_gt ?_ ?_ | refine' ed_ge ?_ ?_
  | refine' ed_mul ?_ ?_ ?_ | refine' ed_fdiv ?_ ?_ ?_ | refine' ed_mod ?_ ?_ ?_
  | refine' ed_eq ?_ ?_ ?_ ?_ | refine' ed_ne ?_ ?_ ?_ ?_ | refine' ed_isN ?_ ?_ | refine' ed_notN ?_ ?_ | refine' ed_isB ?_ ?_
  | refine' ed_in ?_ ?_ ?_ | refine' ed_notIn ?_ ?_ ?_ | refine' ed_ix ?_ ?_ ?_ ?_
  | refine' ed_catT ?_ ?_ ?_ | refine' ed_repT ?_ ?_ ?_ ?_ ?_ ?_
  | refine' td_test ?_ | refine' td_B ?_ | refine' td_not ?_ | refine' td_and ?_ (fun _ => ?_) | refine' td_or ?_ (fun _ => ?_)
  | refine' ed_andV ?_ (fun _ => ?_) | refine' ed_orV ?_ (fun _ => ?_) | refine' ed_notV ?_
  | refine' ed_chain ?_ ?_ ?_
  | exact ea_nil | refine' ea_cons ?_ ?_ | refine' ed_tup ?_ ?_
  | refine' ed_lenT ?_ | refine' ed_lenL ?_ | refine' ed_tupL ?_ | refine' ed_intB ?_ | refine' ed_min2 ?_ ?_
  | refine' ed_isi2 ?_ ?_ ?_ | refine' ed_isi ?_ ?_
  | exact kb_ii | exact kb_ib | exact kb_ll | exact kb_lt | exact kb_tl | exact kb_tt | exact kb_il | exact kb_it | exact kb_sl | exact kb_st | exact kb_ss
  | exact eo_none | refine' eo_some ?_ | refine' ed_slT ?_ ?_ ?_
  | exact shaped_nilL | exact shaped_nilT | exact shaped_int _ | exact shaped_ints _ | exact shaped_intsL _))


/-! ### a thing put in -/
def G_farthest : List PyData → (Res → Prop) → Prop := fun ds W => ∃ (q : Ring) (cur n : Nat), ds = [ringD q, .int 1, .int (cur : Int), .int (n : Int)] ∧ q ≠ [] ∧ n ≤ 40 ∧ W (.d .none) ∧ ∀ far : Nat, 1 ≤ far → far ≤ n → q[(cur + far) % q.length]? = some none → W (.d (.int ((cur + far : Nat) : Int)))
def G_places_from : List PyData → (Res → Prop) → Prop := fun ds W => ∃ (q : Ring) (b n : Nat), ds = [ringD q, .int 1, .int (b : Int), .int (n : Int)] ∧ q ≠ [] ∧ q.length ≤ 4000 ∧ n ≤ 40 ∧ b < n ∧ q[b % q.length]? = some none ∧ W (.d .none) ∧ ∀ ps, Places q n ps → ps.length ≤ 8000 → W (.l ((nI ps).map .int))
def G_fewest_places : List PyData → (Res → Prop) → Prop := fun ds W => ∃ (q : Ring) (n : Nat), ds = [ringD q, .int 1, .int (n : Int)] ∧ q ≠ [] ∧ q.length ≤ 4000 ∧ n ≤ 40 ∧ W (.d .none) ∧ ∀ ps, Places q n ps → ps.length ≤ 8000 → W (.d (.list ((nI ps).map .int)))
def G_put_in : List PyData → (Res → Prop) → Prop := fun ds W => ∃ (q : Ring) (i n : Nat), ds = [ringD q, .int 1, .int (i : Int), .int (n : Int)] ∧ q ≠ [] ∧ q.length ≤ 4000 ∧ In 8 q ∧ i < 8 ∧ some i ∉ q ∧ 1 ≤ n ∧ n ≤ 40 ∧ W (.d .none) ∧ ∀ ps, Places q n ps → W (.d (ringD (put q i ps)))
section
variable {P : Program} {w : World} {K : PySem.W.Frag} {mg : Str → Option Value} {base : Heap} {f : Addr} {fd : FuncData}
abbrev st_farthest : Stmt := topS 85
theorem sc_farthest : FnScope ["ring", "hands", "cur", "number", "far"] ["ring", "hands", "cur", "number"] (defScope st_farthest) := ⟨rfl, rfl, rfl, by decide +kernel, rfl, by decide +kernel, by decide +kernel⟩
theorem ring_at {q : Ring} {j : Nat} (h : j < q.length) : ∃ o, q[j]? = some o ∧ (q.map dayD)[j]? = some (dayD o) := ⟨q[j], List.getElem?_eq_getElem h, by rw [List.getElem?_map, List.getElem?_eq_getElem h]; rfl⟩
theorem day_lt (o : Option Nat) : decide ((((dayI o).map PyData.int).length : Int) < 1) = decide (o = none) := by cases o <;> rfl
theorem ok_farthest (F : Fun K "farthest" "farthest" st_farthest f fd) (T : Bl mg) : FnOk P w K mg base CX0 1 f fd ["ring", "hands", "cur", "number"] (spW K G_farthest) := by
  refine okW F sc_farthest (fun ds r ⟨_, _, _, h, _⟩ => by rw [h]; rfl) fun cdv A outer s H E hr => ⟨_, (pss_cons (ps_for PassesOwn.never rfl (pi_range3 (by rfl) T.range (pa_cons (pv 3) (pa_cons pe_int (pa_cons (pe_un un_neg pe_int) pa_nil)))) (pg_name (i := 4) sc_farthest.nd rfl (Or.inl rfl)) (pss_one (ps_if (pt_cmpR op_lt (pe_callB cw_len (by rfl) T.len bt_len (pa_cons (pe_ix ix_seq (pv 0) (pe_op op_mod (pe_op op_add (pv 2) (pv 4)) (pe_callB cw_len (by rfl) T.len bt_len (pa_cons (pv 0) pa_nil))) (fun _ _ => rfl)) pa_nil)) (pv 1) (nomark _)) (pss_one (ps_ret (pe_op op_add (pv 2) (pv 4)))) pss_nil))) (pss_one (ps_ret pe_non))), fun ds W h => ?_⟩
  obtain ⟨q, cur, n, rfl, hne, hn, hW0, hW⟩ := h
  have hq := List.length_pos_iff.mpr hne
  show Sd K _ [.d (ringD q), .d (.int 1), .d (.int (cur : Int)), .d (.int (n : Int)), .u] _ _
  refine sd_seq (sd_range3 (m := (n : Int)) (n := 0) (c := -1) (l := ((n : Int) - 0).toNat) (ea_cons (ed_var rfl) (ea_cons ed_int (ea_cons (ed_neg ed_int) ea_nil))) (RgC.neg (by omega) (by omega) (by omega) (by omega)) (fun k δ' => ∃ c, δ' = [.d (ringD q), .d (.int 1), .d (.int (cur : Int)), .d (.int (n : Int)), c] ∧ muts [c] = []) ⟨.u, rfl, rfl⟩ ?_ (N := fun _ => True) fun _ _ => trivial) ?_
  · rintro k δ' hk ⟨c, rfl, hc⟩
    show Sd K _ [.d (ringD q), .d (.int 1), .d (.int (cur : Int)), .d (.int (n : Int)), .d (.int ((n : Int) + (k : Int) * (-1)))] _ _
    have e1 : (n : Int) + (k : Int) * (-1) = ((n - k : Nat) : Int) := by omega
    rw [e1]
    obtain ⟨o, ho1, ho2⟩ := ring_at (Nat.mod_lt (cur + (n - k)) hq)
    have ha : ∀ {i j : Nat} {δ : List Cell}, δ[i]? = some (.d (.int (cur : Int))) → δ[j]? = some (.d (.int ((n - k : Nat) : Int))) → Ed K (tOp (rI0 fun i j => .int (i + j)) (tVar i) (tVar j)) δ (.int ((cur + (n - k) : Nat) : Int)) := fun h1 h2 => Ed.is (ed_add (ed_var h1) (ed_var h2)) (by rw [Int.natCast_add])
    refine sd_if (b := decide (o = none)) (Td.is (td_test (ed_lt (ed_len (ds := (dayI o).map .int) (ed_ixMod (ds := q.map dayD) (ed_var rfl) (.inl rfl) (ha rfl rfl) (ed_rlen (r := q) (ed_var rfl)) hq ho2) (.inl (dayD_eq o))) (ed_var rfl))) (day_lt o)) (fun hb => ?_) (fun hb => ?_)
    · have e : o = none := of_decide_eq_true hb
      subst e
      exact sd_ret (ha rfl rfl) (hW (n - k) (by omega) (by omega) ho1)
    · exact sd_next ⟨_, rfl, rfl⟩
  · rintro δ' _
    exact sd_ret ed_non hW0
abbrev st_places_from : Stmt := topS 86
theorem sc_places_from : FnScope ["ring", "hands", "begin", "number", "found", "place"] ["ring", "hands", "begin", "number"] (defScope st_places_from) := ⟨rfl, rfl, rfl, by decide +kernel, rfl, by decide +kernel, by decide +kernel⟩
theorem nI_append (a b : List Nat) : nI (a ++ b) = nI a ++ nI b := List.map_append
theorem ok_places_from (F : Fun K "places_from" "places_from" st_places_from f fd) (T : Bl mg) (c_farthest : Cal P w K mg base 1 "farthest" (spW K G_farthest)) : FnOk P w K mg base CX0 2 f fd ["ring", "hands", "begin", "number"] (spW K G_places_from) := by
  refine okW F sc_places_from (fun ds r ⟨_, _, _, h, _⟩ => by rw [h]; rfl) fun cdv A outer s H E hr => ⟨_, (pss_cons (ps_set (i := 4) sc_places_from.nd rfl (Or.inl rfl) (pe_lst (pa_cons (pv 2) pa_nil))) (pss_cons (ps_while PassesOwn.never (pt_cmpR op_gt (pe_op op_sub (pe_op op_add (pv 2) (pe_callB cw_len (by rfl) T.len bt_len (pa_cons (pv 0) pa_nil))) (pe_ix ix_seq (pv 4) (pe_un un_neg pe_int) (fun _ _ => rfl))) (pv 3) (nomark _)) (pss_cons (ps_set (i := 5) sc_places_from.nd rfl (Or.inl rfl) (pe_cl c_farthest hr (by decide) (by rfl) (pa_cons (pv 0) (pa_cons (pv 1) (pa_cons (pe_ix ix_seq (pv 4) (pe_un un_neg pe_int) (fun _ _ => rfl)) (pa_cons (pv 3) pa_nil)))))) (pss_cons (ps_if (pt_cmpR ow_isN (pv 5) pe_non (nomark _)) (pss_one (ps_ret pe_non)) pss_nil) (pss_one (ps_expr (pe_bm PySem.F.plainAttrs_list PySem.F.slot_list_append PySem.F.type_list_append mt_append (pv 4) (pa_cons (pv 5) pa_nil))))))) (pss_one (ps_ret (pv 4))))), fun ds W h => ?_⟩
  obtain ⟨q, b, n, rfl, hne, hl, hn, hbn, hb, hW0, hW⟩ := h
  have hq := List.length_pos_iff.mpr hne
  show Sd K _ [.d (ringD q), .d (.int 1), .d (.int (b : Int)), .d (.int (n : Int)), .u, .u] _ _
  refine sq_asgL (xs := [.int (b : Int)]) (el_lst (ea_cons (ed_var rfl) ea_nil) (by simp)) rfl fun p => ?_
  refine sd_seq (sd_while (fun m δ' => ∃ (ps : List Nat) (l : Nat) (c : Cell), m = b + q.length - l ∧ l < b + q.length ∧ b ≤ l ∧ (ps ++ [l]).head? = some b ∧ ps.length ≤ l - b ∧ (∀ x ∈ ps ++ [l], q[x % q.length]? = some none) ∧ (∀ k x y, (ps ++ [l])[k]? = some x → (ps ++ [l])[k + 1]? = some y → x < y ∧ y ≤ x + n) ∧ δ' = [.d (ringD q), .d (.int 1), .d (.int (b : Int)), .d (.int (n : Int)), .m p ((nI (ps ++ [l])).map .int), c] ∧ muts [c] = []) (b + q.length - b) ⟨[], b, .u, rfl, by omega, by omega, rfl, by simp, ?_, ?_, rfl, rfl⟩ ?_ (N := fun δ' => ∃ (ps : List Nat) (c : Cell), Places q n ps ∧ ps.length ≤ 8000 ∧ δ' = [.d (ringD q), .d (.int 1), .d (.int (b : Int)), .d (.int (n : Int)), .m p ((nI ps).map .int), c])) ?_
  · intro x hx
    simp at hx
    subst hx
    exact hb
  · intro k x y h1 h2
    simp at h2
  · rintro m δ' ⟨ps, l, c, rfl, hlt, hbl, hh, hz, hfree, hnext, rfl, hc⟩
    have hlast : ∀ {δ : List Cell} {i : Nat}, δ[i]? = some (.m p ((nI (ps ++ [l])).map .int)) → Ed K (tOp (rIx K) (tVar i) (tUn (rU fun i => .int (-i)) (tC (.int 1)))) δ (.int (l : Int)) := fun h => ed_ix (i := -1) (ed_varm h) (ed_neg ed_int) (.inr rfl) (by
      rw [nI_append, List.map_append]
      exact atI_last _ _)
    refine ⟨decide ((n : Int) < (b : Int) + (q.length : Int) - (l : Int)), td_test (ed_gt (ed_sub (ed_add (ed_var rfl) (ed_rlen (r := q) (ed_var rfl))) (hlast rfl)) (ed_var rfl)), fun hd => ?_, fun hd => ?_⟩
    · have hd' := of_decide_eq_true hd
      refine sq_asgP (P := fun d => d = .none ∨ ∃ far : Nat, 1 ≤ far ∧ far ≤ n ∧ q[(l + far) % q.length]? = some none ∧ d = .int ((l + far : Nat) : Int)) (ep_call (W := fun r => r = .d .none ∨ ∃ far : Nat, 1 ≤ far ∧ far ≤ n ∧ q[(l + far) % q.length]? = some none ∧ r = .d (.int ((l + far : Nat) : Int))) (ea_cons (ed_var rfl) (ea_cons (ed_var rfl) (ea_cons (hlast rfl) (ea_cons (ed_var rfl) ea_nil)))) ⟨q, l, n, rfl, hne, hn, .inl rfl, fun far h1 h2 h3 => .inr ⟨far, h1, h2, h3, rfl⟩⟩ ?_) ?_
      · rintro r (rfl | ⟨far, h1, h2, h3, rfl⟩)
        · exact .inl rfl
        · exact .inr ⟨far, h1, h2, h3, rfl⟩
      · rintro d (rfl | ⟨far, h1, h2, h3, rfl⟩)
        · refine ⟨.inr rfl, ?_⟩
          exact sq_when (b := true) (Td.is (td_test (ed_isN (x := .none) (ed_var rfl) ed_non)) rfl) (fun _ => sd_ret ed_non hW0) (fun z => by cases z)
        · refine ⟨.inr rfl, ?_⟩
          refine sq_when (b := false) (Td.is (td_test (ed_isN (x := .int ((l + far : Nat) : Int)) (ed_var rfl) ed_non)) rfl) (fun z => by cases z) (fun _ => ?_)
          refine sd_app (i := 4) (p := p) (xs := (nI (ps ++ [l])).map .int) rfl (ed_var rfl) rfl (lfAll_ints _) (by rw [nI_len]; simp; omega) ⟨b + q.length - (l + far), by omega, ps ++ [l], l + far, .d (.int ((l + far : Nat) : Int)), rfl, by omega, by omega, ?_, by simp; omega, ?_, ?_, ?_, rfl⟩
          · rw [List.head?_append, hh]; rfl
          · intro x hx
            rcases List.mem_append.1 hx with hx | hx
            · exact hfree x hx
            · simp at hx; subst hx; exact h3
          · intro k x y hx hy
            have hkl : k + 1 < (ps ++ [l] ++ [l + far]).length := (List.getElem?_eq_some_iff.mp hy).1
            rw [List.length_append, List.length_append] at hkl
            simp only [List.length_cons, List.length_nil] at hkl
            have hx' : (ps ++ [l])[k]? = some x := by rw [List.getElem?_append_left (by simp; omega)] at hx; exact hx
            by_cases hk : k + 1 < (ps ++ [l]).length
            · rw [List.getElem?_append_left hk] at hy
              exact hnext k x y hx' hy
            · have ek : k = ps.length := by simp at hk; omega
              subst ek
              rw [List.getElem?_append_right (by simp)] at hy
              rw [List.getElem?_append_right (by simp)] at hx'
              simp at hy hx'
              omega
          · rw [nI_append (ps ++ [l]), List.map_append]; rfl
    · have hd' := of_decide_eq_false hd
      refine ⟨ps ++ [l], c, ⟨by simp, fun x hx => ?_, hfree, hnext, fun x y hx hy => ?_⟩, by simp; omega, rfl⟩
      · rw [hh] at hx; cases hx; exact hbn
      · rw [hh] at hx; cases hx
        rw [List.getLast?_concat] at hy
        cases hy
        omega
  · rintro δ' ⟨ps, c, hp, hz, rfl⟩
    exact sd_retm (p := p) rfl (hW ps hp hz)
abbrev st_fewest_places : Stmt := topS 87
theorem sc_fewest_places : FnScope ["ring", "hands", "number", "best", "begin", "found"] ["ring", "hands", "number"] (defScope st_fewest_places) := ⟨rfl, rfl, rfl, by decide +kernel, rfl, by decide +kernel, by decide +kernel⟩
theorem ok_fewest_places (F : Fun K "fewest_places" "fewest_places" st_fewest_places f fd) (T : Bl mg) (c_places_from : Cal P w K mg base 2 "places_from" (spW K G_places_from)) : FnOk P w K mg base CX0 3 f fd ["ring", "hands", "number"] (spW K G_fewest_places) := by
  refine okW F sc_fewest_places (fun ds r ⟨_, _, h, _⟩ => by rw [h]; rfl) fun cdv A outer s H E hr => ⟨_, (pss_cons (ps_set (i := 3) sc_fewest_places.nd rfl (Or.inl rfl) pe_non) (pss_cons (ps_for PassesOwn.never rfl (pi_range1 (by rfl) T.range (pa_cons (pe_callB (cw_min2 rfl) (by rfl) T.min bt_min (pa_cons (pv 2) (pa_cons (pe_callB cw_len (by rfl) T.len bt_len (pa_cons (pv 0) pa_nil)) pa_nil))) pa_nil)) (pg_name (i := 4) sc_fewest_places.nd rfl (Or.inl rfl)) (pss_one (ps_if (pt_cmpR op_lt (pe_callB cw_len (by rfl) T.len bt_len (pa_cons (pe_ix ix_seq (pv 0) (pv 4) (fun _ _ => rfl)) pa_nil)) (pv 1) (nomark _)) (pss_cons (ps_set (i := 5) sc_fewest_places.nd rfl (Or.inl rfl) (pe_cl c_places_from hr (by decide) (by rfl) (pa_cons (pv 0) (pa_cons (pv 1) (pa_cons (pv 4) (pa_cons (pv 2) pa_nil)))))) (pss_one (ps_if (PW.pt (pw_and (pt_cmpR ow_notN (pv 5) pe_non (nomark _)) (pw_and1 (PW.pt (pw_or (pt_cmpR ow_isN (pv 3) pe_non (nomark _)) (pw_or1 (pt_cmpR op_lt (pe_callB cw_len (by rfl) T.len bt_len (pa_cons (pv 5) pa_nil)) (pe_callB cw_len (by rfl) T.len bt_len (pa_cons (pv 3) pa_nil)) (nomark _)))))))) (pss_one (ps_set (i := 3) sc_fewest_places.nd rfl (Or.inl rfl) (pv 5))) pss_nil))) pss_nil))) (pss_one (ps_ret (pv 3))))), fun ds W h => ?_⟩
  obtain ⟨q, n, rfl, hne, hl, hn, hW0, hW⟩ := h
  have hq := List.length_pos_iff.mpr hne
  show Sd K _ [.d (ringD q), .d (.int 1), .d (.int (n : Int)), .u, .u, .u] _ _
  refine sq_asg (d := .none) ed_non (.inl rfl) ?_
  have hS : ∀ d : PyData, (d = .none ∨ ∃ ps, Places q n ps ∧ ps.length ≤ 8000 ∧ d = .list ((nI ps).map .int)) → ((isNo d = true ∧ d = .none) ∨ (isNo d = false ∧ ∃ ps, Places q n ps ∧ ps.length ≤ 8000 ∧ d = .list ((nI ps).map .int))) := by
    rintro d (rfl | ⟨ps, h1, h2, rfl⟩)
    · exact .inl ⟨rfl, rfl⟩
    · exact .inr ⟨rfl, ps, h1, h2, rfl⟩
  refine sd_seq (sd_range1 (n := ((min n q.length : Nat) : Int)) (ea_cons (Ed.is (ed_min2 (ed_var rfl) (ed_rlen (r := q) (ed_var rfl))) ?_) ea_nil) (by omega) (by omega) (fun k δ' => ∃ b c1 c2, (b = .none ∨ ∃ ps, Places q n ps ∧ ps.length ≤ 8000 ∧ b = .list ((nI ps).map .int)) ∧ δ' = [.d (ringD q), .d (.int 1), .d (.int (n : Int)), .d b, c1, c2] ∧ muts [c1, c2] = []) ⟨.none, .u, .u, .inl rfl, rfl, rfl⟩ ?_ (N := fun δ' => ∃ b c1 c2, (b = .none ∨ ∃ ps, Places q n ps ∧ ps.length ≤ 8000 ∧ b = .list ((nI ps).map .int)) ∧ δ' = [.d (ringD q), .d (.int 1), .d (.int (n : Int)), .d b, c1, c2]) ?_) ?_
  · by_cases h : (q.length : Int) < (n : Int)
    · rw [if_pos h]; congr 1; omega
    · rw [if_neg h]; congr 1; omega
  · rintro k δ' hk ⟨b, c1, c2, hb, rfl, hc⟩
    have hk1 : k < q.length := by omega
    have hk2 : k < n := by omega
    have hc2 : muts [c2] = [] := by
      cases c1 with
      | m p xs => simp [muts] at hc
      | u => exact hc
      | d x => exact hc
    obtain ⟨o, ho1, ho2⟩ := ring_at hk1
    refine sd_if (b := decide (o = none)) (Td.is (td_test (ed_lt (ed_len (ds := (dayI o).map .int) (ed_ix (ds := q.map dayD) (i := (k : Int)) (ed_var rfl) (ed_var rfl) (.inl rfl) (atI_nat ho2)) (.inl (dayD_eq o))) (ed_var rfl))) (day_lt o)) (fun hd => ?_) (fun hd => sd_next ⟨b, _, c2, hb, rfl, hc2⟩)
    have e : o = none := of_decide_eq_true hd
    subst e
    refine sq_asgP (P := fun d => d = .none ∨ ∃ ps, Places q n ps ∧ ps.length ≤ 8000 ∧ d = .list ((nI ps).map .int)) (ep_call (W := fun r => r = .d .none ∨ ∃ ps, Places q n ps ∧ ps.length ≤ 8000 ∧ r = .l ((nI ps).map .int)) (ea_cons (ed_var rfl) (ea_cons (ed_var rfl) (ea_cons (ed_var rfl) (ea_cons (ed_var rfl) ea_nil)))) ⟨q, k, n, rfl, hne, hl, hn, hk2, by rw [Nat.mod_eq_of_lt hk1]; exact ho1, .inl rfl, fun ps h1 h2 => .inr ⟨ps, h1, h2, rfl⟩⟩ ?_) ?_
    · rintro r (rfl | ⟨ps, h1, h2, rfl⟩)
      · exact .inl rfl
      · exact .inr ⟨ps, h1, h2, rfl⟩
    · intro d hd
      refine ⟨.inl hc2, ?_⟩
      rcases hS d hd with ⟨h0, rfl⟩ | ⟨h0, ps, h1, h2, rfl⟩
      · exact sd_if (b := false) (td_and (a := false) (b := false) (Td.is (td_test (ed_notN (x := .none) (ed_var rfl) ed_non)) rfl) (fun z => by cases z)) (fun z => by cases z) (fun _ => sd_next ⟨b, _, _, hb, rfl, rfl⟩)
      · have hset : ∀ {N R}, N [.d (ringD q), .d (.int 1), .d (.int (n : Int)), .d (.list ((nI ps).map .int)), .d (.int (k : Int)), .d (.list ((nI ps).map .int))] → Sd K (tAsg (tVar 5) (gName 3)) [.d (ringD q), .d (.int 1), .d (.int (n : Int)), .d b, .d (.int (k : Int)), .d (.list ((nI ps).map .int))] N R := fun hN => sd_asg (ed_var rfl) (.inl rfl) hN
        rcases hS b hb with ⟨g0, rfl⟩ | ⟨g0, ps', g1, g2, rfl⟩
        · exact sd_if (b := true) (td_and (a := true) (b := true) (Td.is (td_test (ed_notN (x := .list ((nI ps).map .int)) (ed_var rfl) ed_non)) rfl) (fun _ => td_or (a := true) (b := true) (Td.is (td_test (ed_isN (x := .none) (ed_var rfl) ed_non)) rfl) (fun z => by cases z))) (fun _ => hset ⟨_, _, _, .inr ⟨ps, h1, h2, rfl⟩, rfl, rfl⟩) (fun z => by cases z)
        · refine sd_if (td_and (a := true) (Td.is (td_test (ed_notN (x := .list ((nI ps).map .int)) (ed_var rfl) ed_non)) rfl) (fun _ => td_or (a := false) (Td.is (td_test (ed_isN (x := .list ((nI ps').map .int)) (ed_var rfl) ed_non)) rfl) (fun z => td_test (ed_lt (ed_lenL (ds := (nI ps).map .int) (ed_var rfl)) (ed_lenL (ds := (nI ps').map .int) (ed_var rfl)))))) (fun _ => hset ⟨_, _, _, .inr ⟨ps, h1, h2, rfl⟩, rfl, rfl⟩) (fun _ => sd_next ⟨_, _, _, .inr ⟨ps', g1, g2, rfl⟩, rfl, rfl⟩)
  · rintro δ' ⟨b, c1, c2, hb, rfl, hc⟩
    exact ⟨b, c1, c2, hb, rfl⟩
  · rintro δ' ⟨b, c1, c2, hb, rfl⟩
    rcases hb with rfl | ⟨ps, h1, h2, rfl⟩
    · exact sd_ret (ed_var rfl) hW0
    · exact sd_ret (ed_var rfl) (hW ps h1 h2)
end
end WD

namespace WD
open PySem PySem.Spec PyProof.Rows L2 WM
local macro_rules | `(tactic| walk_at "ed") => `(tactic| repeat' (first
  | exact ed_int | exact ed_bl | exact ed_non | exact ed_str
  | exact ed_var rfl | exact ed_varm rfl
  | refine' ed_add ?_ ?_ | refine' ed_sub ?_ ?_ | refine' ed_lt ?_ ?_ | refine' ed_le ?_ ?_ | refine' ed_gt ?_ ?_ | refine' ed_ge ?_ ?_
  | refine' ed_mul ?_ ?_ ?_ | refine' ed_fdiv ?_ ?_ ?_ | refine' ed_mod ?_ ?_ ?_
  | refine' ed_eq ?_ ?_ ?_ ?_ | refine' ed_ne ?_ ?_ ?_ ?_ | refine' ed_isN ?_ ?_ | refine' ed_notN ?_ ?_ | refine' ed_isB ?_ ?_
  | refine' ed_in ?_ ?_ ?_ | refine' ed_notIn ?_ ?_ ?_ | refine' ed_ix ?_ ?_ ?_ ?_
  | refine' ed_catT ?_ ?_ ?_ | refine' ed_repT ?_ ?_ ?_ ?_ ?_ ?_
  | refine' td_test ?_ | refine' td_B ?_ | refine' td_not ?_ | refine' td_and ?_ (fun _ => ?_) | refine' td_or ?_ (fun _ => ?_)
  | refine' ed_andV ?_ (fun _ => ?_) | refine' ed_orV ?_ (fun _ => ?_) | refine' ed_notV ?_
  | refine' ed_chain ?_ ?_ ?_
  | exact ea_nil | refine' ea_cons ?_ ?_ | refine' ed_tup ?_ ?_
  | refine' ed_lenT ?_ | refine' ed_lenL ?_ | refine' ed_tupL ?_ | refine' ed_intB ?_ | refine' ed_min2 ?_ ?_
  | refine' ed_isi2 ?_ ?_ ?_ | refine' ed_isi ?_ ?_
  | exact kb_ii | exact kb_ib | exact kb_ll | exact kb_lt | exact kb_tl | exact kb_tt | exact kb_il | exact kb_it | exact kb_sl | exact kb_st | exact kb_ss
  | exact eo_none | refine' eo_some ?_ | refine' ed_slT ?_ ?_ ?_
  | exact shaped_nilL | exact shaped_nilT | exact shaped_int _ | exact shaped_ints _ | exact shaped_intsL _))


def cutR (q : Ring) (b size : Nat) : Ring := ((q ++ q).drop b).take size
def G_stretches : List PyData → Res → Prop := fun ds r => ∃ (q : Ring) (z : Nat), ds = [ringD q, .int (z : Int)] ∧ 1 ≤ z ∧ z ≤ q.length ∧ q.length ≤ 4000 ∧ r = .l ((List.range q.length).map fun b => ringD (cutR q b z))
def G_made_short : List PyData → (Res → Prop) → Prop := fun ds W => ∃ (ns : List Nat) (q : Ring), ds = [taskD ns, ringD q] ∧ NOk ns ∧ In ns.length q ∧ q ≠ [] ∧ q.length ≤ 100 ∧ onM ns ns q = true ∧ ∀ s, s ≠ [] → s.length ≤ q.length → In ns.length s → onM ns ns s = true → W (.d (ringD s))
theorem cutR_len {q : Ring} {b z : Nat} (hb : b ≤ q.length) (hz : z ≤ q.length) : (cutR q b z).length = z := by
  unfold cutR
  rw [List.length_take, List.length_drop, List.length_append]
  omega
theorem cutR_mem {q : Ring} {b z : Nat} {o : Option Nat} (h : o ∈ cutR q b z) : o ∈ q := by
  have := List.mem_of_mem_drop (List.mem_of_mem_take h)
  rcases List.mem_append.mp this with h | h <;> exact h
theorem cutR_all (q : Ring) : cutR q 0 q.length = q := by
  unfold cutR
  rw [List.drop_zero, List.take_left]
theorem put_nth {q : Ring} {i k : Nat} {o : Option Nat} {ps : List Nat} {y : PyData} (hk : q[k]? = some o) (hy : ((put q i ps).map dayD)[k]? = some y) : y = dayD (if k ∈ ps.map (· % q.length) then some i else o) := by
  have hl := (List.getElem?_eq_some_iff.mp hk).1
  rw [List.getElem?_map, put_at hl, hk] at hy
  exact (Option.some.inj hy).symm
section
variable {K : PySem.W.Frag} {δ : List Cell} {x d : PyData} {tl te : TE} {i j : Nat} {ds : List PyData}
/-- each gives one, with its place -/
theorem el_mapE (out : List PyData) (hij : i ≠ j) (h : Ed K tl δ (.tuple ds)) (hf : FzA δ ds) (hz : ds.length ≤ 50000) (hl : out.length = ds.length) (ho : lfAll out = true) (he : ∀ (k : Nat) d y, ds[k]? = some d → out[k]? = some y → Ed K te ((δ.set i (.d (.int (k : Int)))).set j (.d d)) y) :
    EdL K (tLc (iEnumT K (tCons tl tNil)) (gTup K 2 (gCons (gName i) (gCons (gName j) gNil))) tYes te [i, j]) δ out := by
  have := el_lcE (te := te) (tt := tYes) hij h hf hz (fun k => out[k]?) fun k d hk => ⟨true, td_yes, fun _ => by
    have hlt := (List.getElem?_eq_some_iff.mp hk).1
    have e : out[k]? = some out[k] := List.getElem?_eq_getElem (by omega)
    exact ⟨out[k], e, pop_at.lf_get out k ho e, he k d _ hk e⟩, fun z => by cases z⟩
  rw [← hl, outs_all] at this
  exact this
end
section
variable {P : Program} {w : World} {K : PySem.W.Frag} {mg : Str → Option Value} {base : Heap} {f : Addr} {fd : FuncData}
abbrev st_put_in : Stmt := topS 88
theorem sc_put_in : FnScope ["ring", "hands", "i", "number", "places", "at", "day", "place", "k"] ["ring", "hands", "i", "number"] (defScope st_put_in) := ⟨rfl, rfl, rfl, by decide +kernel, rfl, by decide +kernel, by decide +kernel⟩
theorem ok_put_in (F : Fun K "put_in" "put_in" st_put_in f fd) (T : Bl mg) (c_asked_ring : Cal P w K mg base 6 "asked_ring" (spG K G_asked_ring)) (c_is_whole : Cal P w K mg base 1 "is_whole" (spG K G_is_whole)) (c_fewest_places : Cal P w K mg base 3 "fewest_places" (spW K G_fewest_places)) : FnOk P w K mg base CX0 7 f fd ["ring", "hands", "i", "number"] (spW K G_put_in) := by
  refine okW F sc_put_in (fun ds r ⟨_, _, _, h, _⟩ => by rw [h]; rfl) fun cdv A outer s H E hr => ⟨_, (pss_cons (ps_set (i := 0) sc_put_in.nd rfl (Or.inr rfl) (pe_cl c_asked_ring hr (by decide) (by rfl) (pa_cons (pe_kc T.c_MOST_THINGS_fitting (by rfl)) (pa_cons (pv 0) pa_nil)))) (pss_cons (ps_if (PW.pt (pw_or (pt_not (pt_val (pe_cl c_is_whole hr (by decide) (by rfl) (pa_cons (pv 1) (pa_cons pe_int (pa_cons pe_int pa_nil)))))) (pw_or (pt_not (pt_val (pe_cl c_is_whole hr (by decide) (by rfl) (pa_cons (pv 2) (pa_cons pe_int (pa_cons (pe_op op_sub (pe_kc T.c_MOST_THINGS_fitting (by rfl)) pe_int) pa_nil)))))) (pw_or1 (pt_not (pt_val (pe_cl c_is_whole hr (by decide) (by rfl) (pa_cons (pv 3) (pa_cons pe_int (pa_cons (pe_kc T.c_GREATEST_fitting (by rfl)) pa_nil)))))))))) (pss_one ps_never) pss_nil) (pss_cons (ps_if (pt_cmpR (op_neD hr.units) (pe_lc (own := [("day", 6)]) (g := gName 6) rfl sc_put_in.nd  (pi_seq (pv 0)) (blkOk_by (own := [("day", 6)]) (N := ["ring", "hands", "i", "number", "places", "at", "day", "place", "k"]) (sc := defScope st_put_in) (by decide +kernel)) (fun _ _ _ _ _ => pg_name (i := 6) sc_put_in.nd rfl (Or.inl rfl)) (fun _ _ _ _ _ => pts_one (pt_cmpR (kx_in (K := K) rfl) (pv 2) (pv 6) (by rfl))) (fun _ _ _ _ _ => (pv 6))) (pe_lst pa_nil) (nomark _)) (pss_one ps_never) pss_nil) (pss_cons (ps_set (i := 4) sc_put_in.nd rfl (Or.inl rfl) (pe_cl c_fewest_places hr (by decide) (by rfl) (pa_cons (pv 0) (pa_cons (pv 1) (pa_cons (pv 3) pa_nil))))) (pss_cons (ps_if (pt_cmpR ow_isN (pv 4) pe_non (nomark _)) (pss_one (ps_ret pe_non)) pss_nil) (pss_cons (ps_set (i := 5) sc_put_in.nd rfl (Or.inr rfl) (pe_lc (own := [("place", 7)]) (g := gName 7) (tt := tYes) rfl sc_put_in.nd  (pi_seq (pv 4)) (blkOk_by (own := [("place", 7)]) (N := ["ring", "hands", "i", "number", "places", "at", "day", "place", "k"]) (sc := defScope st_put_in) (by decide +kernel)) (fun _ _ _ _ _ => pg_name (i := 7) sc_put_in.nd rfl (Or.inl rfl)) (fun _ _ _ _ _ => pts_nil) (fun _ _ _ _ _ => (pe_op op_mod (pv 7) (pe_callB (kx_len (K := K) rfl) (by rfl) T.len bt_len (pa_cons (pv 0) pa_nil)))))) (pss_one (ps_ret (pe_callTy cw_tup (by rfl) T.tuple bt_tuple (pa_cons (pe_lc (own := [("k", 8), ("day", 6)]) (g := gTup K 2 (gCons (gName 8) (gCons (gName 6) gNil))) (tt := tYes) rfl sc_put_in.nd  (pi_enumT (by rfl) T.enumerate (pa_cons (pv 0) pa_nil)) (blkOk_by (own := [("k", 8), ("day", 6)]) (N := ["ring", "hands", "i", "number", "places", "at", "day", "place", "k"]) (sc := defScope st_put_in) (by decide +kernel)) (fun _ _ _ _ _ => pg_tup rfl (pgs_cons (pg_name (i := 8) sc_put_in.nd rfl (Or.inl rfl)) (pgs_cons (pg_name (i := 6) sc_put_in.nd rfl (Or.inl rfl)) pgs_nil))) (fun _ _ _ _ _ => pts_nil) (fun _ _ _ _ _ => (pe_callTy (kx_tup (K := K) rfl) (by rfl) T.tuple bt_tuple (pa_cons (pe_callB (kx_sortedT (K := K) rfl) (by rfl) T.sorted bt_sorted (pa_cons (pe_op (kx_cat (K := K) rfl) (pv 6) (pe_op (kx_rep (K := K) rfl) (pe_tup (pa_cons (pv 2) pa_nil)) (pe_callTy cw_int (by rfl) T.int bt_int (pa_cons (pe_cmpR (kx_in (K := K) rfl) (pv 8) (pv 5) (by rfl)) pa_nil)))) pa_nil)) pa_nil)))) pa_nil)))))))))), fun ds W h => ?_⟩
  obtain ⟨q, i, n, rfl, hne, hl, hb, hi, hni, hn1, hn, hW0, hW⟩ := h
  have hq := List.length_pos_iff.mpr hne
  show Sd K _ [.d (ringD q), .d (.int 1), .d (.int (i : Int)), .d (.int (n : Int)), .u, .u, .u, .u, .u] _ _
  refine sq_asg (d := ringD q) (ed_asked_ring ed_int (ed_var rfl) hb hl hne) (.inl rfl) ?_
  refine sq_guard (Td.is (td_or (td_not (td_B (ed_is_whole (ed_var rfl) ed_int ed_int))) (fun _ => td_or (td_not (td_B (ed_is_whole (ed_var rfl) ed_int (ed_sub ed_int ed_int)))) (fun _ => td_not (td_B (ed_is_whole (ed_var rfl) ed_int ed_int))))) ?_) ?_
  · rw [decide_eq_true (p := (0 : Int) ≤ (i : Int)) (by omega), decide_eq_true (p := (i : Int) ≤ 8 - 1) (by omega), decide_eq_true (p := (1 : Int) ≤ (n : Int)) (by omega), decide_eq_true (p := (n : Int) ≤ 40) (by omega)]
    rfl
  refine sq_guard (td_test (ed_neNil0 (el_none (ds := q.map dayD) (ed_var rfl) (.inl rfl) (.inl rfl) (by rw [ring_len]; omega) fun k d hk => ?_))) ?_
  · obtain ⟨o, ho, rfl⟩ := List.mem_map.mp (List.mem_of_getElem? hk)
    refine Td.is (td_test (ed_in (ed_var rfl) (ed_var rfl) (dayD_ints o))) ?_
    rw [dayI_has]
    exact decide_eq_false fun e => hni (e ▸ ho)
  refine sq_asgP (P := fun d => d = .none ∨ ∃ ps, Places q n ps ∧ ps.length ≤ 8000 ∧ d = .list ((nI ps).map .int)) (ep_call (W := fun r => r = .d .none ∨ ∃ ps, Places q n ps ∧ ps.length ≤ 8000 ∧ r = .d (.list ((nI ps).map .int))) (ea_cons (ed_var rfl) (ea_cons (ed_var rfl) (ea_cons (ed_var rfl) ea_nil))) ⟨q, n, rfl, hne, hl, hn, .inl rfl, fun ps h1 h2 => .inr ⟨ps, h1, h2, rfl⟩⟩ ?_) ?_
  · rintro r (rfl | ⟨ps, h1, h2, rfl⟩)
    · exact .inl rfl
    · exact .inr ⟨ps, h1, h2, rfl⟩
  · rintro d (rfl | ⟨ps, h1, h2, rfl⟩)
    · refine ⟨.inl rfl, ?_⟩
      exact sq_when (b := true) (Td.is (td_test (ed_isN (x := .none) (ed_var rfl) ed_non)) rfl) (fun _ => sd_ret ed_non hW0) (fun z => by cases z)
    · refine ⟨.inl rfl, ?_⟩
      refine sq_when (b := false) (Td.is (td_test (ed_isN (x := .list ((nI ps).map .int)) (ed_var rfl) ed_non)) rfl) (fun z => by cases z) (fun _ => ?_)
      refine sq_asg (d := .list ((nI (ps.map (· % q.length))).map .int)) (Ed.of_l (el_map (ds := (nI ps).map .int) ((nI (ps.map (· % q.length))).map .int) (ed_var rfl) (.inr rfl) (.inl rfl) (by rw [nI_len]; omega) (by rw [nI_len, nI_len, List.length_map]) (lfAll_ints _) fun k d y hk hy => ?_)) (.inl rfl) ?_
      · obtain ⟨x, hx, rfl⟩ := mem_nI hk
        obtain ⟨z, hz, rfl⟩ := mem_nI hy
        rw [List.getElem?_map, hx] at hz
        have e : z = x % q.length := (Option.some.inj hz).symm
        subst e
        exact Ed.is (ed_mod (ed_var rfl) (ed_rlen (r := q) (ed_var rfl)) (by omega)) (by rw [Int.natCast_emod])
      refine sd_ret (d := ringD (put q i ps)) (ed_tupL (el_mapE ((put q i ps).map dayD) (ds := q.map dayD) (by decide) (ed_var rfl) (.inl rfl) (by rw [ring_len]; omega) (by rw [ring_len, ring_len, put_len]) (lfAll_map lf_day _) fun k d y hk hy => ?_)) (hW ps h1)
      · have hkl := (List.getElem?_eq_some_iff.mp hk).1
        rw [ring_len] at hkl
        obtain ⟨o, ho1, ho2⟩ := ring_at hkl
        rw [ho2] at hk
        have ed : d = dayD o := (Option.some.inj hk).symm
        subst ed
        have ey := put_nth ho1 hy
        subst ey
        have hc : Ed K (tOp (rIn K false) (tVar 8) (tVar 5)) [.d (ringD q), .d (.int 1), .d (.int (i : Int)), .d (.int (n : Int)), .d (.list ((nI ps).map .int)), .d (.list ((nI (ps.map (· % q.length))).map .int)), .d (dayD o), .u, .d (.int (k : Int))] (.bool ((ps.map (· % q.length)).contains k)) := Ed.is (ed_in (ed_var rfl) (ed_var rfl) (.inr rfl)) (by rw [nI_has])
        by_cases hp : k ∈ ps.map (· % q.length)
        · rw [if_pos hp]
          rw [List.contains_iff_mem.mpr hp] at hc
          have ho : o = none := by
            obtain ⟨x, hx, ex⟩ := List.mem_map.mp hp
            have := h1.free x hx
            rw [ex, ho1] at this
            exact Option.some.inj this
          subst ho
          exact ed_tupL (el_sortedT (ns := [(i : Int)]) (ms := [(i : Int)]) (Ed.is (ed_catT (xs := []) (ys := [.int (i : Int)]) (ed_var rfl) (Ed.is (ed_repT (xs := [.int (i : Int)]) (k := 1) (ed_tup (ea_cons (ed_var rfl) ea_nil) (by simp)) (ed_intB hc) (by simp) (by decide) (by decide) (by simp)) rfl) (by rw [sizeLine_eq]; simp)) rfl) (List.Perm.refl _) (by simp))
        · rw [if_neg hp]
          have hcf : (ps.map (· % q.length)).contains k = false := by
            rw [Bool.eq_false_iff]
            exact fun z => hp (List.contains_iff_mem.mp z)
          rw [hcf] at hc
          rw [show dayD o = .tuple ((dayI o).map .int) from dayD_eq o]
          refine ed_tupL (el_sortedT (ns := dayI o) (ms := dayI o) (Ed.is (ed_catT (xs := (dayI o).map .int) (ys := []) (ed_var (by show _ = some (Cell.d (.tuple ((dayI o).map .int))); rw [← dayD_eq]; rfl)) (Ed.is (ed_repT (xs := [.int (i : Int)]) (k := 0) (ed_tup (ea_cons (ed_var rfl) ea_nil) (by simp)) (ed_intB (dayD_eq o ▸ hc)) (by simp) (by decide) (by decide) (by simp)) rfl) (by rw [sizeLine_eq, day_len]; split <;> simp)) (by rw [List.append_nil])) (List.Perm.refl _) ?_)
          cases o <;> simp [dayI]
abbrev st_stretches : Stmt := topS 89
theorem sc_stretches : FnScope ["ring", "size", "twice", "begin"] ["ring", "size"] (defScope st_stretches) := ⟨rfl, rfl, rfl, by decide +kernel, rfl, by decide +kernel, by decide +kernel⟩
theorem ok_stretches (F : Fun K "stretches" "stretches" st_stretches f fd) (T : Bl mg) : FnOk P w K mg base CX0 1 f fd ["ring", "size"] (spG K G_stretches) := by
  refine okG F sc_stretches (fun ds r ⟨_, _, h, _⟩ => by rw [h]; rfl) fun cdv A outer s H E hr => ⟨_, (pss_cons (ps_set (i := 2) sc_stretches.nd rfl (Or.inr rfl) (pe_op op_catA (pv 0) (pv 0))) (pss_one (ps_ret (pe_lc (own := [("begin", 3)]) (g := gName 3) (tt := tYes) rfl sc_stretches.nd  (pi_range1 (by rfl) T.range (pa_cons (pe_callB cw_len (by rfl) T.len bt_len (pa_cons (pv 0) pa_nil)) pa_nil)) (blkOk_by (own := [("begin", 3)]) (N := ["ring", "size", "twice", "begin"]) (sc := defScope st_stretches) (by decide +kernel)) (fun _ _ _ _ _ => pg_name (i := 3) sc_stretches.nd rfl (Or.inl rfl)) (fun _ _ _ _ _ => pts_nil) (fun _ _ _ _ _ => (pe_slice (kx_slT (K := K) rfl) (pv 2) (po_some (pv 3)) (po_some (pe_op op_add (pv 3) (pv 1))))))))), fun ds r h => ?_⟩
  obtain ⟨q, z, rfl, hz1, hz, hl, rfl⟩ := h
  show Sd K _ [.d (ringD q), .d (.int (z : Int)), .u, .u] _ _
  refine sq_asg (d := ringD (q ++ q)) (Ed.is (ed_catT (xs := q.map dayD) (ys := q.map dayD) (ed_var rfl) (ed_var rfl) (by rw [ring_len, sizeLine_eq]; omega)) (by rw [← List.map_append]; rfl)) (.inl rfl) ?_
  refine sd_retL (el_mapR (n := (q.length : Int)) ((List.range q.length).map fun b => ringD (cutR q b z)) (ea_cons (ed_rlen (r := q) (ed_var rfl)) ea_nil) (by omega) (by simp) (lfAll_map (fun b => lf_ring _) _) fun k y hy => ?_) rfl
  have hkl := (List.getElem?_eq_some_iff.mp hy).1
  rw [List.length_map, List.length_range] at hkl
  rw [List.getElem?_map, List.getElem?_range hkl] at hy
  have e : y = ringD (cutR q k z) := (Option.some.inj hy).symm
  subst e
  refine Ed.is (ed_slT (ds := (q ++ q).map dayD) (lo := some (k : Int)) (hi := some ((k : Int) + (z : Int))) (ed_var rfl) (eo_some (ed_var rfl)) (eo_some (ed_add (ed_var rfl) (ed_var rfl)))) ?_
  have e1 : (k : Int) + (z : Int) = ((k + z : Nat) : Int) := by omega
  unfold cutD ringD cutR
  rw [e1, HT.sIx_nat, HT.sIx_nat, ring_len, List.length_append, Nat.min_eq_left (by omega), Nat.min_eq_left (by omega), ← List.map_drop, ← List.map_take]
  congr 3
  omega
abbrev st_made_short : Stmt := topS 90
theorem sc_made_short : FnScope ["task", "ring", "size", "stretch"] ["task", "ring"] (defScope st_made_short) := ⟨rfl, rfl, rfl, by decide +kernel, rfl, by decide +kernel, by decide +kernel⟩
theorem ok_made_short (F : Fun K "made_short" "made_short" st_made_short f fd) (T : Bl mg) (c_asked_task : Cal P w K mg base 8 "asked_task" (spG K G_asked_task)) (c_asked_ring : Cal P w K mg base 6 "asked_ring" (spG K G_asked_ring)) (c_stretches : Cal P w K mg base 1 "stretches" (spG K G_stretches)) (c_on_holds : Cal P w K mg base 4 "on_holds" (spG K G_on_holds)) (c_first_of : Cal P w K mg base 1 "first_of" (spG K G_first_of)) : FnOk P w K mg base CX0 9 f fd ["task", "ring"] (spW K G_made_short) := by
  refine okW F sc_made_short (fun ds r ⟨_, _, h, _⟩ => by rw [h]; rfl) fun cdv A outer s H E hr => ⟨_, (pss_cons (ps_set (i := 0) sc_made_short.nd rfl (Or.inl rfl) (pe_cl c_asked_task hr (by decide) (by rfl) (pa_cons (pv 0) pa_nil))) (pss_cons (ps_set (i := 1) sc_made_short.nd rfl (Or.inl rfl) (pe_cl c_asked_ring hr (by decide) (by rfl) (pa_cons (pe_callB cw_len (by rfl) T.len bt_len (pa_cons (pe_ix ix_seq (pv 0) pe_int (fun _ _ => rfl)) pa_nil)) (pa_cons (pv 1) pa_nil)))) (pss_cons (ps_if (pt_cmpR op_gt (pe_callB cw_len (by rfl) T.len bt_len (pa_cons (pv 1) pa_nil)) (pe_kc T.c_MOST_SHORT (by rfl)) (nomark _)) (pss_one ps_never) pss_nil) (pss_cons (ps_for PassesOwn.never rfl (pi_range2 (by rfl) T.range (pa_cons pe_int (pa_cons (pe_op op_add (pe_callB cw_len (by rfl) T.len bt_len (pa_cons (pv 1) pa_nil)) pe_int) pa_nil))) (pg_name (i := 2) sc_made_short.nd rfl (Or.inl rfl)) (pss_one (ps_for PassesOwn.never rfl (pi_seq (pe_cl c_stretches hr (by decide) (by rfl) (pa_cons (pv 1) (pa_cons (pv 2) pa_nil)))) (pg_name (i := 3) sc_made_short.nd rfl (Or.inl rfl)) (pss_one (ps_if (pt_val (pe_cl c_on_holds hr (by decide) (by rfl) (pa_cons (pv 0) (pa_cons (pe_cl c_first_of hr (by decide) (by rfl) (pa_cons (pv 0) pa_nil)) (pa_cons (pe_tup pa_nil) (pa_cons (pv 3) pa_nil)))))) (pss_one (ps_ret (pv 3))) pss_nil))))) (pss_one (ps_ret pe_non)))))), fun ds W h => ?_⟩
  obtain ⟨ns, q, rfl, hn, hb, hne, hl, hon, hW⟩ := h
  have hq := List.length_pos_iff.mpr hne
  show Sd K _ [.d (taskD ns), .d (ringD q), .u, .u] _ _
  refine sq_asg (d := taskD ns) (ed_asked_task (ed_var rfl) hn) (.inl rfl) ?_
  refine sq_asg (d := ringD q) (ed_asked_ring (ed_nlen (ed_tk (ns := ns) (ed_var rfl) (by rfl))) (ed_var rfl) hb (by omega) hne) (.inl rfl) ?_
  refine sq_guard (Td.is (td_test (ed_gt (ed_rlen (r := q) (ed_var rfl)) ed_int)) (decide_eq_false (by omega))) ?_
  refine sd_seq (sd_range2 (m := 1) (n := (q.length : Int) + 1) (ea_cons ed_int (ea_cons (ed_add (ed_rlen (r := q) (ed_var rfl)) ed_int) ea_nil)) (by omega) (fun k δ' => k < q.length ∧ ∃ c1 c2, δ' = [.d (taskD ns), .d (ringD q), c1, c2] ∧ muts [c1, c2] = []) ⟨hq, .u, .u, rfl, rfl⟩ ?_ (N := fun _ => False) ?_) fun _ z => z.elim
  · rintro k δ' hk ⟨hkl, c1, c2, rfl, hc⟩
    have hc2 : muts [c2] = [] := by
      cases c1 with
      | m p xs => simp [muts] at hc
      | u => exact hc
      | d x => exact hc
    have e1 : (1 : Int) + (k : Int) = ((k + 1 : Nat) : Int) := by omega
    rw [e1]
    show Sd K _ [.d (taskD ns), .d (ringD q), .d (.int ((k + 1 : Nat) : Int)), c2] _ _
    refine sd_forL (ds := (List.range q.length).map fun b => ringD (cutR q b (k + 1))) (el_call (ea_cons (ed_var rfl) (ea_cons (ed_var rfl) ea_nil)) ⟨q, k + 1, rfl, by omega, by omega, by omega, rfl⟩) (.inr (lfAll_map (fun b => lf_ring _) _)) (fun j δ' => (j = 0 ∨ onM ns ns (cutR q 0 (k + 1)) = false) ∧ ∃ c, δ' = [.d (taskD ns), .d (ringD q), .d (.int ((k + 1 : Nat) : Int)), c] ∧ muts [c] = []) ⟨.inl rfl, c2, rfl, hc2⟩ ?_ ?_
    · rintro j d δ' hj ⟨hj0, c, rfl, hc⟩
      have hjl := (List.getElem?_eq_some_iff.mp hj).1
      rw [List.length_map, List.length_range] at hjl
      rw [List.getElem?_map, List.getElem?_range hjl] at hj
      have e : d = ringD (cutR q j (k + 1)) := (Option.some.inj hj).symm
      subst e
      have hz := cutR_len (q := q) (b := j) (z := k + 1) (by omega) (by omega)
      refine ⟨.inr (lf_ring _), ?_⟩
      refine sd_if (b := onM ns ns (cutR q j (k + 1))) (td_B (ed_on_holds (ns := ns) (q := cutR q j (k + 1)) (ed_var rfl) (ed_first_of (ns := ns) (ed_var rfl)) (ed_tup ea_nil) (ed_var rfl) hn (by omega))) (fun ho => ?_) (fun ho => ?_)
      · refine sd_ret (ed_var rfl) (hW _ (fun z => ?_) (by omega) (fun i hi => hb i (cutR_mem hi)) ho)
        rw [z] at hz
        simp at hz
      · refine sd_next ⟨?_, _, rfl, rfl⟩
        right
        rcases hj0 with rfl | h
        · exact ho
        · exact h
    · rintro δ' ⟨hj0, c, rfl, hc⟩
      rw [List.length_map, List.length_range] at hj0
      have ho : onM ns ns (cutR q 0 (k + 1)) = false := by
        rcases hj0 with h | h
        · omega
        · exact h
      refine ⟨?_, _, _, rfl, hc⟩
      by_cases h : k + 1 < q.length
      · exact h
      · have e : k + 1 = q.length := by omega
        rw [e, cutR_all, hon] at ho
        cases ho
  · rintro δ' ⟨h, _⟩
    have e : ((q.length : Int) + 1 - 1).toNat = q.length := by omega
    rw [e] at h
    omega
end
end WD

namespace WD
open PySem PySem.Spec PyProof.Rows L2 WM

/-! ### sorted([(number, i) for i, number in enumerate(numbers)]) -/
def ranked (ns : List Int) : List (Int × Int) := ns.zipIdx.map fun p => (p.1, (p.2 : Int))
def pairD (p : Int × Int) : PyData := .tuple [.int p.1, .int p.2]
theorem ranked_len (ns : List Int) : (ranked ns).length = ns.length := by simp [ranked]
theorem ranked_at {ns : List Int} {k : Nat} {n : Int} (h : ns[k]? = some n) : (ranked ns)[k]? = some (n, (k : Int)) := by
  unfold ranked
  rw [List.getElem?_map, List.getElem?_zipIdx, h]
  simp
section
variable {K : PySem.W.Frag} {δ : List Cell} {B H H1 H' : Hp} {tl : TE} {i j : Nat}
/-- the list at D holds the first k pairs -/
def Pw (ns : List Int) (H1 : Hp) (D : Addr) (k : Nat) (H' : Hp) : Prop := H1 D = none ∧ Same H1 H' ∧ ∃ vs : List V, H' D = some (.lst vs) ∧ vs.length = k ∧ ∀ (m : Nat) (v : V), vs[m]? = some v → ∃ (t : Addr) (n : Int), ns[m]? = some n ∧ v = .ref t ∧ t ≠ D ∧ H' t = some (.tup [.int n, .int (m : Int)])
/-- what a pair holds -/
def kOf (H : Hp) : V → Int × Int
  | .ref t => match H t with
    | some (.tup [.int a, .int b]) => (a, b)
    | _ => (0, 0)
  | _ => (0, 0)
theorem kOf_eq {H : Hp} {t : Addr} {a b : Int} (h : H t = some (.tup [.int a, .int b])) : kOf H (.ref t) = (a, b) := by
  simp only [kOf, h]
theorem dp_pairs {k : V → Int × Int} : ∀ (ys : List V), (∀ y ∈ ys, Dp K H y (pairD (k y))) → DpAll K H ys ((ys.map k).map pairD)
  | [], _ => .nil
  | y :: ys, h => .cons (h y List.mem_cons_self) (dp_pairs ys fun x hx => h x (List.mem_cons_of_mem _ hx))
theorem el_ranked {ns : List Int} {ps : List (Int × Int)} (hij : i ≠ j) (hi : i < δ.length) (hj : j < δ.length) (h : Ed K tl δ (.tuple (ns.map .int))) (hz : ns.length ≤ 1000) (hp : ps.Perm (ranked ns)) (ho : ps.Pairwise fun x y => SrtO.lexB y x = false) :
    EdL K (tCB (rSortedPO K) (tCons (tLc (iEnumT K (tCons tl tNil)) (gTup K 2 (gCons (gName i) (gCons (gName j) gNil))) tYes (tTup (tCons (tVar j) (tCons (tVar i) tNil))) [i, j]) tNil)) δ (ps.map pairD) := fun B σ H e Q q => by
  show tLc _ _ _ _ _ σ H fun x H1 => rSortedPO K [x] H1 Q
  refine h B σ H e _ fun v H1 s1 hv => ?_
  have e1 := e.mono s1
  cases hv with
  | @tup a xs _ hs ha =>
    have ex := dpAll_int ha
    subst ex
    refine ⟨a, _, rfl, hs, fun D hD => ⟨fun k m H' => m = ns.length - k ∧ k ≤ ns.length ∧ Pw ns H1 D k H', ⟨ns.length, by simp, Nat.zero_le _, hD, same_new hD, [], upd_same, rfl, fun m v z => by simp at z⟩, ?_⟩⟩
    rintro k m H' ⟨rfl, hk, c⟩
    have hq := sqt_same c.2.1 hs
    by_cases hlt : k < ns.length
    · have hn : ns[k]? = some ns[k] := List.getElem?_eq_getElem hlt
      refine .inr ⟨⟨ns.map V.int, V.int ns[k], hq, by rw [List.getElem?_map, hn]; rfl⟩, fun H'' => Pw ns H1 D (k + 1) H'', fun H'' c' => ⟨ns.length - (k + 1), by omega, rfl, hlt, c'⟩, fun w H2 y => ?_⟩
      obtain ⟨T, w', rfl, hT, rfl, hw⟩ := y
      have hk' := hw _ hq
      rw [List.getElem?_map, hn] at hk'
      have ew : w' = V.int ns[k] := (Option.some.inj hk').symm
      subst ew
      have sT : Same H' (upd H' T (.tup [.int (k : Int), .int ns[k]])) := same_new hT
      refine ⟨T, [.int (k : Int), .int ns[k]], rfl, SqT.of upd_same, rfl, .int (k : Int), [.int ns[k]], rfl, .int ns[k], [], rfl, rfl, wipe2 hij, ?_⟩
      have es : ((wipe σ [i, j]).set i (some (.int (k : Int)))).set j (some (.int ns[k])) = (σ.set i (some (.int (k : Int)))).set j (some (.int ns[k])) := by
        simp only [wipe]
        rw [List.set_set, List.set_comm _ _ hij, List.set_set, List.set_comm _ _ (Ne.symm hij)]
      unfold tYes
      dsimp only
      rw [if_pos rfl, es]
      have e2 := ((e1.mono (c.2.1.trans sT)).set_d i (.int (k : Int)) (.inr rfl)).set_d j (.int ns[k]) (.inr rfl)
      obtain ⟨vj, hvj, dj⟩ := e2.get_d (i := j) (x := .int ns[k]) (by rw [List.getElem?_set_self (by rw [List.length_set]; exact hj)])
      obtain ⟨vi, hvi, di⟩ := e2.get_d (i := i) (x := .int (k : Int)) (by rw [List.getElem?_set_ne (Ne.symm hij), List.getElem?_set_self hi])
      cases dj; cases di
      refine ⟨_, hvj, _, hvi, by rw [sizeLine_eq]; simp, fun p hpn => ?_⟩
      obtain ⟨c1, c2, vs, c3, c4, c5⟩ := c
      have hD2 : (upd H' T (.tup [.int (k : Int), .int ns[k]])) D = some (.lst vs) := sT _ _ c3
      have hpD : p ≠ D := fun z => by rw [z, hD2] at hpn; cases hpn
      have s3 : Same (upd H' T (.tup [.int (k : Int), .int ns[k]])) (upd (upd H' T (.tup [.int (k : Int), .int ns[k]])) p (.tup [.int ns[k], .int (k : Int)])) := same_new hpn
      refine ⟨vs, s3 _ _ hD2, by rw [c4, sizeLine_eq]; omega, c1, fun b o q' => ?_, vs ++ [.ref p], upd_same, by simp [c4], fun m v hm => ?_⟩
      · rw [upd_ne (ne_of_none q' c1)]
        exact s3 _ _ (sT _ _ (c2 _ _ q'))
      · by_cases hml : m < vs.length
        · rw [List.getElem?_append_left hml] at hm
          obtain ⟨t, n, a1, a2, a3, a4⟩ := c5 m v hm
          exact ⟨t, n, a1, a2, a3, by rw [upd_ne a3]; exact s3 _ _ (sT _ _ a4)⟩
        · have hm2 := (List.getElem?_eq_some_iff.mp hm).1
          simp at hm2
          have em : m = vs.length := by omega
          subst em
          rw [List.getElem?_append_right (Nat.le_refl _)] at hm
          simp at hm
          refine ⟨p, ns[k], by rw [c4]; exact hn, hm.symm, hpD, ?_⟩
          rw [upd_ne hpD, upd_same, c4]
    · have ek : k = ns.length := by omega
      subst ek
      refine .inl ⟨⟨ns.map V.int, hq, by rw [List.length_map]; exact Nat.le_refl _⟩, ?_⟩
      obtain ⟨c1, c2, vs, c3, c4, c5⟩ := c
      have hkx : ∀ x ∈ vs, ∃ t n m, x = V.ref t ∧ H' t = some (.tup [.int n, .int m]) ∧ kOf H' x = (n, m) := fun x hx => by
        obtain ⟨m, hm⟩ := List.getElem?_of_mem hx
        obtain ⟨t, n, a1, a2, a3, a4⟩ := c5 m x hm
        exact ⟨t, n, m, a2, a4, by rw [a2]; exact kOf_eq a4⟩
      have emap : vs.map (kOf H') = ranked ns := by
        refine List.ext_getElem? fun m => ?_
        rw [List.getElem?_map]
        cases hm : vs[m]? with
        | none =>
          have : vs.length ≤ m := List.getElem?_eq_none_iff.mp hm
          rw [List.getElem?_eq_none (by rw [ranked_len]; omega)]
          rfl
        | some v =>
          obtain ⟨t, n, a1, a2, a3, a4⟩ := c5 m v hm
          rw [ranked_at a1, a2]
          exact congrArg some (kOf_eq a4)
      refine ⟨D, vs, kOf H', rfl, .inl (.inl c3), fun x hx => ?_, fun ys p hs hb hn => ?_⟩
      · obtain ⟨t, n, m, a1, a2, a3⟩ := hkx x hx
        exact ⟨t, a1, by rw [a3]; exact a2⟩
      · have ey : ys.map (kOf H') = ps := by
          refine List.Perm.eq_of_pairwise (le := fun x y => SrtO.lexB y x = false) (fun a b _ _ h1 h2 => ?_) (List.pairwise_map.mpr hs) ho (((hb.perm.map (kOf H')).trans (by rw [emap])).trans hp.symm)
          have q1 := SrtO.lexB_no.mp h1
          have q2 := SrtO.lexB_no.mp h2
          exact Prod.ext (by omega) (by omega)
        have sp : Same H' (upd H' p (.lst ys)) := same_new hn
        refine q p ys _ (s1.free (c2.free hn)) (s1.trans (c2.trans sp)) upd_same ?_
        rw [← ey]
        refine dpAll_same sp _ _ (dp_pairs ys fun y hy => ?_)
        obtain ⟨t, n, m, a1, a2, a3⟩ := hkx y (hb.perm.mem_iff.mp hy)
        rw [a3, a1]
        exact .tup (SqT.of a2) (.cons (.int n) (.cons (.int m) .nil))
end

/-! ### sorting, plainly -/
theorem insP_perm (p : Nat × Nat) : ∀ r, (insP p r).Perm (p :: r)
  | [] => List.Perm.refl _
  | q :: r => by
    unfold insP
    by_cases h : lexLe p q = true
    · rw [if_pos h]
    · rw [if_neg h]
      exact ((insP_perm p r).cons q).trans (List.Perm.swap _ _ _)
theorem sortP_perm : ∀ r, (sortP r).Perm r
  | [] => List.Perm.refl _
  | p :: r => (insP_perm p _).trans ((sortP_perm r).cons p)
theorem lexLe_iff {p q : Nat × Nat} : lexLe p q = true ↔ p.1 < q.1 ∨ (p.1 = q.1 ∧ p.2 ≤ q.2) := by
  unfold lexLe
  simp
theorem insP_sorted (p : Nat × Nat) : ∀ r : List (Nat × Nat), (r.Pairwise fun x y => lexLe x y = true) → (insP p r).Pairwise fun x y => lexLe x y = true
  | [], _ => List.pairwise_singleton _ _
  | q :: r, h => by
    obtain ⟨h1, h2⟩ := List.pairwise_cons.1 h
    unfold insP
    by_cases hp : lexLe p q = true
    · rw [if_pos hp]
      refine List.pairwise_cons.mpr ⟨fun y hy => ?_, h⟩
      rcases List.mem_cons.1 hy with e | hy
      · rw [e]; exact hp
      · have a := lexLe_iff.mp hp
        have b := lexLe_iff.mp (h1 y hy)
        exact lexLe_iff.mpr (by omega)
    · rw [if_neg hp]
      refine List.pairwise_cons.mpr ⟨fun y hy => ?_, insP_sorted p r h2⟩
      rcases List.mem_cons.mp ((insP_perm p r).mem_iff.mp hy) with e | hy
      · rw [e]
        have a : ¬ (p.1 < q.1 ∨ (p.1 = q.1 ∧ p.2 ≤ q.2)) := fun z => hp (lexLe_iff.mpr z)
        exact lexLe_iff.mpr (by omega)
      · exact h1 y hy
theorem sortP_sorted : ∀ r : List (Nat × Nat), (sortP r).Pairwise fun x y => lexLe x y = true
  | [] => List.Pairwise.nil
  | p :: r => insP_sorted p _ (sortP_sorted r)
theorem insN_perm (p : Nat) : ∀ r, (insN p r).Perm (p :: r)
  | [] => List.Perm.refl _
  | q :: r => by
    unfold insN
    by_cases h : p ≤ q
    · rw [if_pos h]
    · rw [if_neg h]
      exact ((insN_perm p r).cons q).trans (List.Perm.swap _ _ _)
theorem sortN_perm : ∀ r, (sortN r).Perm r
  | [] => List.Perm.refl _
  | p :: r => (insN_perm p _).trans ((sortN_perm r).cons p)
theorem insN_sorted (p : Nat) : ∀ r : List Nat, (r.Pairwise (· ≤ ·)) → (insN p r).Pairwise (· ≤ ·)
  | [], _ => List.pairwise_singleton _ _
  | q :: r, h => by
    obtain ⟨h1, h2⟩ := List.pairwise_cons.1 h
    unfold insN
    by_cases hp : p ≤ q
    · rw [if_pos hp]
      refine List.pairwise_cons.mpr ⟨fun y hy => ?_, h⟩
      rcases List.mem_cons.1 hy with e | hy
      · rw [e]; exact hp
      · exact Nat.le_trans hp (h1 y hy)
    · rw [if_neg hp]
      refine List.pairwise_cons.mpr ⟨fun y hy => ?_, insN_sorted p r h2⟩
      rcases List.mem_cons.mp ((insN_perm p r).mem_iff.mp hy) with e | hy
      · rw [e]; omega
      · exact h1 y hy
theorem sortN_sorted : ∀ r : List Nat, (sortN r).Pairwise (· ≤ ·)
  | [] => List.Pairwise.nil
  | p :: r => insN_sorted p _ (sortN_sorted r)
theorem insD_mem (p x : Nat) : ∀ r, x ∈ insD p r ↔ x = p ∨ x ∈ r
  | [] => by simp [insD]
  | q :: r => by
    unfold insD
    by_cases h : p < q
    · rw [if_pos h, List.mem_cons]
    · rw [if_neg h]
      by_cases h2 : p = q
      · rw [if_pos h2, h2, List.mem_cons]
        constructor
        · exact .inr
        · rintro (h | h)
          · exact .inl h
          · exact h
      · rw [if_neg h2, List.mem_cons, insD_mem p x r, List.mem_cons]
        constructor
        · rintro (h | h | h)
          · exact .inr (.inl h)
          · exact .inl h
          · exact .inr (.inr h)
        · rintro (h | h | h)
          · exact .inr (.inl h)
          · exact .inl h
          · exact .inr (.inr h)
theorem sortD_mem (x : Nat) : ∀ r, x ∈ sortD r ↔ x ∈ r
  | [] => Iff.rfl
  | p :: r => by
    show x ∈ insD p (sortD r) ↔ _
    rw [insD_mem, sortD_mem x r, List.mem_cons]
theorem insD_sorted (p : Nat) : ∀ r : List Nat, (r.Pairwise (· < ·)) → (insD p r).Pairwise (· < ·)
  | [], _ => List.pairwise_singleton _ _
  | q :: r, h => by
    obtain ⟨h1, h2⟩ := List.pairwise_cons.1 h
    unfold insD
    by_cases hp : p < q
    · rw [if_pos hp]
      refine List.pairwise_cons.mpr ⟨fun y hy => ?_, h⟩
      rcases List.mem_cons.1 hy with e | hy
      · rw [e]; exact hp
      · exact Nat.lt_trans hp (h1 y hy)
    · rw [if_neg hp]
      by_cases hq : p = q
      · rw [if_pos hq]; exact h
      · rw [if_neg hq]
        refine List.pairwise_cons.mpr ⟨fun y hy => ?_, insD_sorted p r h2⟩
        rcases (insD_mem p y r).mp hy with e | hy
        · rw [e]; omega
        · exact h1 y hy
theorem sortD_sorted : ∀ r : List Nat, (sortD r).Pairwise (· < ·)
  | [] => List.Pairwise.nil
  | p :: r => insD_sorted p _ (sortD_sorted r)
theorem risT_lt {ns : List Nat} {i : Nat} (h : i ∈ risT ns) : i < ns.length := by
  unfold risT at h
  obtain ⟨p, hp, rfl⟩ := List.mem_map.1 h
  have := (sortP_perm _).mem_iff.mp hp
  have h2 := List.snd_lt_of_mem_zipIdx this
  simpa using h2
theorem risT_len (ns : List Nat) : (risT ns).length = ns.length := by
  unfold risT
  rw [List.length_map, (sortP_perm _).length_eq, List.length_zipIdx]
end WD

namespace WD
open PySem PySem.Spec PyProof.Rows L2 WM
local macro_rules | `(tactic| walk_at "ed") => `(tactic| repeat' (first
  | exact ed_int | exact ed_bl | exact ed_non | exact ed_str
  | exact ed_var rfl | exact ed_varm rfl
  | refine' ed_add ?_ ?_ | refine' ed_sub ?_ ?_ | refine' ed_lt ?_ ?_ | refine' ed_le ?_ ?_ | refine' ed_gt ?_ ?_ | refine' ed_ge ?_ ?_
  | refine' ed_mul ?_ ?_ ?_ | refine' ed_fdiv ?_ ?_ ?_ | refine' ed_mod ?_ ?_ ?_
  | refine' ed_eq ?_ ?_ ?_ ?_ | refine' ed_ne ?_ ?_ ?_ ?_ | refine' ed_isN ?_ ?_ | refine' ed_notN ?_ ?_ | refine' ed_isB ?_ ?_
  | refine' ed_in ?_ ?_ ?_ | refine' ed_notIn ?_ ?_ ?_ | refine' ed_ix ?_ ?_ ?_ ?_
  | refine' ed_catT ?_ ?_ ?_ | refine' ed_repT ?_ ?_ ?_ ?_ ?_ ?_
  | refine' td_test ?_ | refine' td_B ?_ | refine' td_not ?_ | refine' td_and ?_ (fun _ => ?_) | refine' td_or ?_ (fun _ => ?_)
  | refine' ed_andV ?_ (fun _ => ?_) | refine' ed_orV ?_ (fun _ => ?_) | refine' ed_notV ?_
  | refine' ed_chain ?_ ?_ ?_
  | exact ea_nil | refine' ea_cons ?_ ?_ | refine' ed_tup ?_ ?_
  | refine' ed_lenT ?_ | refine' ed_lenL ?_ | refine' ed_tupL ?_ | refine' ed_intB ?_ | refine' ed_min2 ?_ ?_
  | refine' ed_isi2 ?_ ?_ ?_ | refine' ed_isi ?_ ?_
  | exact kb_ii | exact kb_ib | exact kb_ll | exact kb_lt | exact kb_tl | exact kb_tt | exact kb_il | exact kb_it | exact kb_sl | exact kb_st | exact kb_ss
  | exact eo_none | refine' eo_some ?_ | refine' ed_slT ?_ ?_ ?_
  | exact shaped_nilL | exact shaped_nilT | exact shaped_int _ | exact shaped_ints _ | exact shaped_intsL _))


/-! ### shares -/
/-- numbers that at_once is asked of -/
structure N8 (ns : List Nat) : Prop where
  len : ns.length ≤ 3
  b : ∀ n ∈ ns, 1 ≤ n ∧ n ≤ 8
theorem N8.ok {ns : List Nat} (h : N8 ns) : NOk ns := ⟨Nat.le_trans h.len (by decide), fun n hn => ⟨(h.b n hn).1, Nat.le_trans (h.b n hn).2 (by decide)⟩⟩
theorem N8.pos {ns : List Nat} (h : N8 ns) : ∀ n ∈ ns, 0 < n := fun n hn => (h.b n hn).1
theorem N8.at {ns : List Nat} (h : N8 ns) {i : Nat} (hi : i < ns.length) : 1 ≤ ns.getD i 0 ∧ ns.getD i 0 ≤ 8 := by
  rw [List.getD_eq_getElem?_getD, List.getElem?_eq_getElem (by omega)]
  exact h.b _ (List.getElem_mem hi)
theorem lcm_le {a n : Nat} : Nat.lcm a n ≤ a * n := Nat.div_le_self _ _
theorem N8.lcm {ns : List Nat} (h : N8 ns) : lcmL ns ≤ 512 := by
  obtain ⟨hl, hb⟩ := h
  match ns, hl, hb with
  | [], _, _ => decide
  | [a], _, hb =>
    have ha := hb a (by simp)
    show Nat.lcm 1 a ≤ 512
    have := lcm_le (a := 1) (n := a)
    omega
  | [a, b], _, hb =>
    have ha := hb a (by simp)
    have hb' := hb b (by simp)
    show Nat.lcm (Nat.lcm 1 a) b ≤ 512
    rw [Nat.lcm_one_left]
    have h1 := lcm_le (a := a) (n := b)
    have h2 : a * b ≤ 8 * 8 := Nat.mul_le_mul ha.2 hb'.2
    omega
  | [a, b, c], _, hb =>
    have ha := hb a (by simp)
    have hb' := hb b (by simp)
    have hc := hb c (by simp)
    show Nat.lcm (Nat.lcm (Nat.lcm 1 a) b) c ≤ 512
    rw [Nat.lcm_one_left]
    have h1 := lcm_le (a := a) (n := b)
    have h2 : a * b ≤ 8 * 8 := Nat.mul_le_mul ha.2 hb'.2
    have h3 := lcm_le (a := Nat.lcm a b) (n := c)
    have h4 : Nat.lcm a b * c ≤ 64 * 8 := Nat.mul_le_mul (by omega) hc.2
    omega
def shareD (ns : List Nat) : PyData := .tuple [.int (above ns / Nat.gcd (above ns) (lcmL ns) : Nat), .int (lcmL ns / Nat.gcd (above ns) (lcmL ns) : Nat)]
def G_share_of : List PyData → Res → Prop := fun ds r => ∃ ns, ds = [numD ns] ∧ N8 ns ∧ r = .d (shareD ns)
def G_share : List PyData → Res → Prop := fun ds r => ∃ d ns, ds = [d] ∧ Ints d (nI ns) ∧ N8 ns ∧ r = .d (shareD ns)
def G_has_room : List PyData → Res → Prop := fun ds r => ∃ d ns, ds = [d] ∧ Ints d (nI ns) ∧ N8 ns ∧ r = .d (.bool (room ns))
def G_rising_things : List PyData → Res → Prop := fun ds r => ∃ ns, ds = [numD ns] ∧ N8 ns ∧ r = .l ((nI (risT ns)).map .int)
def G_divide_on : List PyData → Res → Prop := fun ds r => ∃ ns, ds = [numD ns] ∧ N8 ns ∧ r = .d (.bool (divOn ns))
theorem nI_sum : ∀ ns : List Nat, (nI ns).sum = ((ns.sum : Nat) : Int)
  | [] => rfl
  | n :: ns => by
    show (nI (n :: ns)).sum = _
    have e : nI (n :: ns) = (n : Int) :: nI ns := rfl
    rw [e, List.sum_cons, List.sum_cons, nI_sum ns]
    omega
section
variable {P : Program} {w : World} {K : PySem.W.Frag} {mg : Str → Option Value} {base : Heap} {f : Addr} {fd : FuncData}
abbrev st_share_of : Stmt := topS 92
theorem sc_share_of : FnScope ["numbers", "below", "above", "by", "number"] ["numbers"] (defScope st_share_of) := ⟨rfl, rfl, rfl, by decide +kernel, rfl, by decide +kernel, by decide +kernel⟩
theorem ok_share_of (F : Fun K "share_of" "share_of" st_share_of f fd) (T : Bl mg) (c_common_of : Cal P w K mg base 2 "common_of" (spG K G_common_of)) (c_divisor : Cal P w K mg base 1 "divisor" (spG K G_divisor)) : FnOk P w K mg base CX0 3 f fd ["numbers"] (spG K G_share_of) := by
  refine okG F sc_share_of (fun ds r ⟨_, h, _⟩ => by rw [h]; rfl) fun cdv A outer s H E hr => ⟨_, (pss_cons (ps_set (i := 1) sc_share_of.nd rfl (Or.inr rfl) (pe_cl c_common_of hr (by decide) (by rfl) (pa_cons (pv 0) pa_nil))) (pss_cons (ps_set (i := 2) sc_share_of.nd rfl (Or.inl rfl) (pe_callB (cr_sum rfl) (by rfl) T.sum bt_sum (pa_cons (pe_lc (own := [("number", 4)]) (g := gName 4) (tt := tYes) rfl sc_share_of.nd  (pi_seq (pv 0)) (blkOk_by (own := [("number", 4)]) (N := ["numbers", "below", "above", "by", "number"]) (sc := defScope st_share_of) (by decide +kernel)) (fun _ _ _ _ _ => pg_name (i := 4) sc_share_of.nd rfl (Or.inl rfl)) (fun _ _ _ _ _ => pts_nil) (fun _ _ _ _ _ => (pe_op op_fdiv (pv 1) (pv 4)))) pa_nil))) (pss_cons (ps_set (i := 3) sc_share_of.nd rfl (Or.inl rfl) (pe_cl c_divisor hr (by decide) (by rfl) (pa_cons (pv 2) (pa_cons (pv 1) pa_nil)))) (pss_one (ps_ret (pe_tup (pa_cons (pe_op op_fdiv (pv 2) (pv 3)) (pa_cons (pe_op op_fdiv (pv 1) (pv 3)) pa_nil)))))))), fun ds r h => ?_⟩
  obtain ⟨ns, rfl, hn, rfl⟩ := h
  have hl := hn.len
  have hp := lcmL_pos hn.pos
  have hlc := hn.lcm
  have hg : 0 < Nat.gcd (above ns) (lcmL ns) := Nat.gcd_pos_of_pos_right _ hp
  have hg2 := Nat.gcd_le_right (above ns) hp
  show Sd K _ [.d (numD ns), .u, .u, .u, .u] _ _
  refine sq_asg (d := .int (lcmL ns : Nat)) (ed_common_of (ed_var rfl) (.inl rfl) fun n hn' => ?_) (.inl rfl) ?_
  · have := hn.b n hn'
    omega
  refine sq_asg (d := .int (above ns : Nat)) (Ed.is (ed_sum (ns := nI (ns.map (lcmL ns / ·))) (Ed.of_l (el_map (ds := (nI ns).map .int) ((nI (ns.map (lcmL ns / ·))).map .int) (ed_var rfl) (.inl rfl) (.inl rfl) (by rw [nI_len]; omega) (by rw [nI_len, nI_len, List.length_map]) (lfAll_ints _) fun k d y hk hy => ?_))) (by rw [nI_sum]; rfl)) (.inl rfl) ?_
  · obtain ⟨x, hx, rfl⟩ := mem_nI hk
    obtain ⟨z, hz, rfl⟩ := mem_nI hy
    rw [List.getElem?_map, hx] at hz
    have e : z = lcmL ns / x := (Option.some.inj hz).symm
    subst e
    have := hn.b x (List.mem_of_getElem? hx)
    exact Ed.is (ed_fdiv (ed_var rfl) (ed_var rfl) ⟨by omega, by omega⟩) (by rw [Int.natCast_ediv])
  refine sq_asg (d := .int (Nat.gcd (above ns) (lcmL ns) : Nat)) (ed_divisor (ed_var rfl) (ed_var rfl)) (.inl rfl) ?_
  exact sd_ret (d := shareD ns) (ed_tup (ea_cons (Ed.is (ed_fdiv (ed_var rfl) (ed_var rfl) ⟨by omega, by omega⟩) (by rw [Int.natCast_ediv])) (ea_cons (Ed.is (ed_fdiv (ed_var rfl) (ed_var rfl) ⟨by omega, by omega⟩) (by rw [Int.natCast_ediv])) ea_nil)) (by simp)) rfl
abbrev st_share : Stmt := topS 93
theorem sc_share : FnScope ["numbers"] ["numbers"] (defScope st_share) := ⟨rfl, rfl, rfl, by decide +kernel, rfl, by decide +kernel, by decide +kernel⟩
theorem ok_share (F : Fun K "share" "share" st_share f fd) (T : Bl mg) (c_share_of : Cal P w K mg base 3 "share_of" (spG K G_share_of)) (c_asked_numbers : Cal P w K mg base 3 "asked_numbers" (spG K G_asked_numbers)) : FnOk P w K mg base CX0 4 f fd ["numbers"] (spG K G_share) := by
  refine okG F sc_share (fun ds r ⟨_, _, h, _⟩ => by rw [h]; rfl) fun cdv A outer s H E hr => ⟨_, (pss_one (ps_ret (pe_cl c_share_of hr (by decide) (by rfl) (pa_cons (pe_cl c_asked_numbers hr (by decide) (by rfl) (pa_cons (pv 0) pa_nil)) pa_nil)))), fun ds r h => ?_⟩
  obtain ⟨d, ns, rfl, hd, hn, rfl⟩ := h
  show Sd K _ [.d d] _ _
  exact sd_ret (d := shareD ns) (ed_call (ea_cons (ed_asked_numbers (ed_var rfl) hd hn.ok) ea_nil) ⟨ns, rfl, hn, rfl⟩) rfl
abbrev st_has_room : Stmt := topS 95
theorem sc_has_room : FnScope ["numbers", "above", "below"] ["numbers"] (defScope st_has_room) := ⟨rfl, rfl, rfl, by decide +kernel, rfl, by decide +kernel, by decide +kernel⟩
theorem ok_has_room (F : Fun K "has_room" "has_room" st_has_room f fd) (T : Bl mg) (c_share : Cal P w K mg base 4 "share" (spG K G_share)) : FnOk P w K mg base CX0 5 f fd ["numbers"] (spG K G_has_room) := by
  refine okG F sc_has_room (fun ds r ⟨_, _, h, _⟩ => by rw [h]; rfl) fun cdv A outer s H E hr => ⟨_, (pss_cons (ps_asg (pe_cl c_share hr (by decide) (by rfl) (pa_cons (pv 0) pa_nil)) (pg_tup rfl (pgs_cons (pg_name (i := 1) sc_has_room.nd rfl (Or.inl rfl)) (pgs_cons (pg_name (i := 2) sc_has_room.nd rfl (Or.inl rfl)) pgs_nil)))) (pss_one (ps_ret (pe_cmpR op_le (pv 1) (pv 2) (nomark _))))), fun ds r h => ?_⟩
  obtain ⟨d, ns, rfl, hd, hn, rfl⟩ := h
  show Sd K _ [.d d, .u, .u] _ _
  refine sq_unp (ds := [.int (above ns / Nat.gcd (above ns) (lcmL ns) : Nat), .int (lcmL ns / Nat.gcd (above ns) (lcmL ns) : Nat)]) (gs_cons (gs_cons gs_nil)) (ed_call (d := shareD ns) (ea_cons (ed_var rfl) ea_nil) ⟨d, ns, rfl, hd, hn, rfl⟩) rfl rfl (.inl rfl) ?_
  show Sd K _ [.d d, .d (.int (above ns / Nat.gcd (above ns) (lcmL ns) : Nat)), .d (.int (lcmL ns / Nat.gcd (above ns) (lcmL ns) : Nat))] _ _
  refine sd_ret (d := .bool (room ns)) (Ed.is (ed_le (ed_var rfl) (ed_var rfl)) ?_) rfl
  unfold room
  congr 1
  exact decide_eq_decide.2 (by omega)
abbrev st_rising_things : Stmt := topS 96
theorem sc_rising_things : FnScope ["numbers", "row", "i", "number"] ["numbers"] (defScope st_rising_things) := ⟨rfl, rfl, rfl, by decide +kernel, rfl, by decide +kernel, by decide +kernel⟩
theorem ok_rising_things (F : Fun K "rising_things" "rising_things" st_rising_things f fd) (T : Bl mg) : FnOk P w K mg base CX0 1 f fd ["numbers"] (spG K G_rising_things) := by
  refine okG F sc_rising_things (fun ds r ⟨_, h, _⟩ => by rw [h]; rfl) fun cdv A outer s H E hr => ⟨_, (pss_one (ps_ret (pe_lc (own := [("row", 1)]) (g := gName 1) (tt := tYes) rfl sc_rising_things.nd  (pi_seq (pe_callB cr_sortedPO (by rfl) T.sorted bt_sorted (pa_cons (pe_lc (own := [("i", 2), ("number", 3)]) (g := gTup K 2 (gCons (gName 2) (gCons (gName 3) gNil))) (tt := tYes) rfl sc_rising_things.nd  (pi_enumT (by rfl) T.enumerate (pa_cons (pv 0) pa_nil)) (blkOk_by (own := [("i", 2), ("number", 3)]) (N := ["numbers", "row", "i", "number"]) (sc := defScope st_rising_things) (by decide +kernel)) (fun _ _ _ _ _ => pg_tup rfl (pgs_cons (pg_name (i := 2) sc_rising_things.nd rfl (Or.inl rfl)) (pgs_cons (pg_name (i := 3) sc_rising_things.nd rfl (Or.inl rfl)) pgs_nil))) (fun _ _ _ _ _ => pts_nil) (fun _ _ _ _ _ => (pe_tup (pa_cons (pv 3) (pa_cons (pv 2) pa_nil))))) pa_nil))) (blkOk_by (own := [("row", 1)]) (N := ["numbers", "row", "i", "number"]) (sc := defScope st_rising_things) (by decide +kernel)) (fun _ _ _ _ _ => pg_name (i := 1) sc_rising_things.nd rfl (Or.inl rfl)) (fun _ _ _ _ _ => pts_nil) (fun _ _ _ _ _ => (pe_ix (kx_ix (K := K) rfl) (pv 1) pe_int (fun _ _ => rfl)))))), fun ds r h => ?_⟩
  obtain ⟨ns, rfl, hn, rfl⟩ := h
  have hl := hn.len
  show Sd K _ [.d (numD ns), .u, .u, .u] _ _
  have hps : ((sortP ns.zipIdx).map fun p => ((p.1 : Int), (p.2 : Int))).Perm (ranked (nI ns)) := by
    have e : ranked (nI ns) = ns.zipIdx.map fun p => ((p.1 : Int), (p.2 : Int)) := by
      unfold ranked nI
      rw [List.zipIdx_map, List.map_map]
      rfl
    rw [e]
    exact (sortP_perm _).map _
  have hsl : (sortP ns.zipIdx).length = ns.length := by rw [(sortP_perm _).length_eq, List.length_zipIdx]
  refine sd_retL (el_map (ds := ((sortP ns.zipIdx).map fun p => ((p.1 : Int), (p.2 : Int))).map pairD) ((nI (risT ns)).map .int) (Ed.of_l (el_ranked (by decide) (by simp) (by simp) (ed_var rfl) (by unfold nI; rw [List.length_map]; omega) hps ?_)) (.inr rfl) (.inl rfl) ?_ ?_ (lfAll_ints _) fun k d y hk hy => ?_) rfl
  · refine List.pairwise_map.mpr ((sortP_sorted _).imp fun {a b} h => ?_)
    have := lexLe_iff.mp h
    exact SrtO.lexB_no.mpr (by omega)
  · rw [List.length_map, List.length_map, hsl]; omega
  · rw [nI_len, risT_len, List.length_map, List.length_map, hsl]
  · obtain ⟨z, hz, rfl⟩ := mem_nI hy
    unfold risT at hz
    rw [List.getElem?_map] at hz hk
    rw [List.getElem?_map] at hk
    cases hp : (sortP ns.zipIdx)[k]? with
    | none => rw [hp] at hz; cases hz
    | some p =>
      rw [hp] at hz hk
      cases hz
      have e : d = pairD ((p.1 : Int), (p.2 : Int)) := (Option.some.inj hk).symm
      subst e
      exact ed_at (ds := [.int (p.1 : Int), .int (p.2 : Int)]) (ed_var rfl) (by rfl)
abbrev st_divide_on : Stmt := topS 97
theorem sc_divide_on : FnScope ["numbers", "rising", "k"] ["numbers"] (defScope st_divide_on) := ⟨rfl, rfl, rfl, by decide +kernel, rfl, by decide +kernel, by decide +kernel⟩
theorem ok_divide_on (F : Fun K "divide_on" "divide_on" st_divide_on f fd) (T : Bl mg) : FnOk P w K mg base CX0 1 f fd ["numbers"] (spG K G_divide_on) := by
  refine okG F sc_divide_on (fun ds r ⟨_, h, _⟩ => by rw [h]; rfl) fun cdv A outer s H E hr => ⟨_, (pss_cons (ps_set (i := 1) sc_divide_on.nd rfl (Or.inr rfl) (pe_callB cr_sortedT (by rfl) T.sorted bt_sorted (pa_cons (pv 0) pa_nil))) (pss_one (ps_ret (pe_cmpR (op_eqD hr.units) (pe_lc (own := [("k", 2)]) (g := gName 2) rfl sc_divide_on.nd  (pi_range2 (by rfl) T.range (pa_cons pe_int (pa_cons (pe_callB cw_len (by rfl) T.len bt_len (pa_cons (pv 1) pa_nil)) pa_nil))) (blkOk_by (own := [("k", 2)]) (N := ["numbers", "rising", "k"]) (sc := defScope st_divide_on) (by decide +kernel)) (fun _ _ _ _ _ => pg_name (i := 2) sc_divide_on.nd rfl (Or.inl rfl)) (fun _ _ _ _ _ => pts_one (pt_cmpR (kx_neD (K := K) rfl hr.units) (pe_op op_mod (pe_ix (kx_ix (K := K) rfl) (pv 1) (pv 2) (fun _ _ => rfl)) (pe_ix (kx_ix (K := K) rfl) (pv 1) (pe_op op_sub (pv 2) pe_int) (fun _ _ => rfl))) pe_int (nomark _))) (fun _ _ _ _ _ => (pv 2))) (pe_lst pa_nil) (nomark _))))), fun ds r h => ?_⟩
  obtain ⟨ns, rfl, hn, rfl⟩ := h
  have hl := hn.len
  have hsl : (sortN ns).length = ns.length := (sortN_perm ns).length_eq
  have hpos : ∀ i, i < ns.length → 0 < (sortN ns).getD i 0 := fun i hi => by
    rw [List.getD_eq_getElem?_getD, List.getElem?_eq_getElem (by omega)]
    exact hn.pos _ ((sortN_perm ns).mem_iff.mp (List.getElem_mem (by omega)))
  show Sd K _ [.d (numD ns), .u, .u] _ _
  refine sq_asgL (xs := (nI (sortN ns)).map .int) (el_sortedT (ns := nI ns) (ms := nI (sortN ns)) (ed_var rfl) ((sortN_perm ns).map _) ?_) (lfAll_ints _) fun p => ?_
  · exact List.pairwise_map.mpr ((sortN_sorted ns).imp fun {a b} h => by omega)
  have hf := el_lcR2 (K := K) (δ := [.d (numD ns), .m p ((nI (sortN ns)).map .int), .u]) (j := 2) (te := tVar 2) (tt := _) (ts := _) (m := 1) (n := (ns.length : Int)) (ea_cons ed_int (ea_cons (Ed.is (ed_lenL (ds := (nI (sortN ns)).map .int) (ed_varm (i := 1) rfl)) (by rw [nI_len, hsl])) ea_nil)) (by omega) (fun k => if (sortN ns).getD (k + 1) 0 % (sortN ns).getD k 0 = 0 then none else some (.int (1 + (k : Int)))) fun k hk => ⟨_, td_test (Ed.is (ed_ne (ed_mod (i := ((sortN ns).getD (k + 1) 0 : Nat)) (j := ((sortN ns).getD k 0 : Nat)) (ed_ix (i := 1 + (k : Int)) (ds := (nI (sortN ns)).map .int) (ed_varm (i := 1) rfl) (ed_var (i := 2) rfl) (.inr rfl) ?_) (ed_ix (i := 1 + (k : Int) - 1) (ds := (nI (sortN ns)).map .int) (ed_varm (i := 1) rfl) (ed_sub (ed_var (i := 2) rfl) (ed_int (i := 1))) (.inr rfl) ?_) ?_) (ed_int (i := 0)) (shaped_int _) (shaped_int _)) (show _ = PyData.bool (!decide ((sortN ns).getD (k + 1) 0 % (sortN ns).getD k 0 = 0)) from ?_)), fun hb => ?_, fun hb => ?_⟩
  · refine sd_ret (d := .bool (divOn ns)) (Ed.is (ed_eqNil (n := 0) hf ?_ (by omega)) ?_) rfl
    · intro d hd
      rw [outs_range] at hd
      obtain ⟨k, _, hk⟩ := List.mem_filterMap.mp hd
      by_cases h : (sortN ns).getD (k + 1) 0 % (sortN ns).getD k 0 = 0
      · rw [if_pos h] at hk; cases hk
      · rw [if_neg h] at hk; cases hk; exact sh_int _
    · congr 1
      rw [outs_range]
      unfold divOn
      have e : ((ns.length : Int) - 1).toNat = (sortN ns).length - 1 := by omega
      rw [e]
      cases hA : (List.range ((sortN ns).length - 1)).all fun k => decide ((sortN ns).getD (k + 1) 0 % (sortN ns).getD k 0 = 0) with
      | true =>
        rw [List.isEmpty_iff, List.filterMap_eq_nil_iff]
        intro k hk
        rw [if_pos (of_decide_eq_true (List.all_eq_true.mp hA k hk))]
      | false =>
        rw [List.isEmpty_eq_false_iff]
        intro e
        rw [List.filterMap_eq_nil_iff] at e
        have : ((List.range ((sortN ns).length - 1)).all fun k => decide ((sortN ns).getD (k + 1) 0 % (sortN ns).getD k 0 = 0)) = true := List.all_eq_true.mpr fun k hk => by
          have := e k hk
          by_cases h : (sortN ns).getD (k + 1) 0 % (sortN ns).getD k 0 = 0
          · exact decide_eq_true h
          · rw [if_neg h] at this; cases this
        rw [hA] at this; cases this
  · have e : (1 : Int) + (k : Int) = ((k + 1 : Nat) : Int) := by omega
    rw [e]
    exact at_num (by omega)
  · have e : (1 : Int) + (k : Int) - 1 = ((k : Nat) : Int) := by omega
    rw [e]
    exact at_num (by omega)
  · have := hpos k (by omega)
    omega
  · rw [eqv_int, ← Int.natCast_emod]
    congr 2
    exact decide_eq_decide.2 (by omega)
  · have h : ¬ (sortN ns).getD (k + 1) 0 % (sortN ns).getD k 0 = 0 := by simpa using hb
    exact ⟨.int (1 + (k : Int)), by rw [if_neg h], rfl, ed_var rfl⟩
  · have h : (sortN ns).getD (k + 1) 0 % (sortN ns).getD k 0 = 0 := by simpa using hb
    show (if (sortN ns).getD (k + 1) 0 % (sortN ns).getD k 0 = 0 then none else some (PyData.int (1 + (k : Int)))) = none
    rw [if_pos h]
end
section
variable {K : PySem.W.Frag} {δ : List Cell} {ta tb tc : TE} {d : PyData}
theorem ed_has_room {ns : List Nat} (h1 : Ed K ta δ d) (hd : Ints d (nI ns)) (hn : N8 ns) : Ed K (tCall (spG K G_has_room) [] E0 (tCons ta tNil)) δ (.bool (room ns)) := ed_call (ea_cons h1 ea_nil) ⟨d, ns, rfl, hd, hn, rfl⟩
theorem el_rising {ns : List Nat} (h1 : Ed K ta δ (numD ns)) (hn : N8 ns) : EdL K (tCall (spG K G_rising_things) [] E0 (tCons ta tNil)) δ ((nI (risT ns)).map .int) := el_call (ea_cons h1 ea_nil) ⟨ns, rfl, hn, rfl⟩
theorem ed_divide_on {ns : List Nat} (h1 : Ed K ta δ (numD ns)) (hn : N8 ns) : Ed K (tCall (spG K G_divide_on) [] E0 (tCons ta tNil)) δ (.bool (divOn ns)) := ed_call (ea_cons h1 ea_nil) ⟨ns, rfl, hn, rfl⟩
end
theorem rgc_pos {a b c : Nat} (ha : a ≤ 100000) (hb : b ≤ 100000) (hc : 0 < c) (hc2 : c ≤ 1000) : RgC (a : Int) (b : Int) (c : Int) (WM.cnt a b c) := by
  have hr : Builtin.Range.rangeSize (a : Int) (b : Int) (c : Int) = ((WM.cnt a b c : Nat) : Int) := by
    unfold Builtin.Range.rangeSize WM.cnt
    rw [if_pos (by omega)]
    by_cases h : a < b
    · rw [if_pos (by omega), if_pos h, Int.natCast_add, Int.natCast_ediv]
      congr 2
      omega
    · rw [if_neg (by omega), if_neg h]; rfl
  have hle : WM.cnt a b c ≤ 100001 := by
    unfold WM.cnt
    by_cases h : a < b
    · rw [if_pos h]
      have := Nat.div_le_self (b - a - 1) c
      omega
    · rw [if_neg h]; omega
  refine ⟨by omega, by omega, ?_, hr⟩
  unfold Builtin.Range.small
  rw [hr]
  simp only [Builtin.Range.rangeFitsLong, Bool.and_eq_true, Bool.or_eq_true, decide_eq_true_eq, beq_iff_eq]
  rw [if_pos (by omega : (c : Int) > 0)]
  simp only [decide_eq_true_eq, Bool.and_eq_true]
  omega
end WD

namespace WD
open PySem PySem.Spec PyProof.Rows L2 WM
local macro_rules | `(tactic| walk_at "ed") => `(tactic| repeat' (first
  | exact ed_int | exact ed_bl | exact ed_non | exact ed_str
  | exact ed_var rfl | exact ed_varm rfl
  | refine' ed_add ?_ ?_ | refine' ed_sub ?_ ?_ | refine' ed_lt ?_ ?_ | refine' ed_le ?_ ?_ | refine' ed_gt ?_ ?_ | refine' ed_ge ?_ ?_
  | refine' ed_mul ?_ ?_ ?_ | refine' ed_fdiv ?_ ?_ ?_ | refine' ed_mod ?_ ?_ ?_
  | refine' ed_eq ?_ ?_ ?_ ?_ | refine' ed_ne ?_ ?_ ?_ ?_ | refine' ed_isN ?_ ?_ | refine' ed_notN ?_ ?_ | refine' ed_isB ?_ ?_
  | refine' ed_in ?_ ?_ ?_ | refine' ed_notIn ?_ ?_ ?_ | refine' ed_ix ?_ ?_ ?_ ?_
  | refine' ed_catT ?_ ?_ ?_ | refine' ed_repT ?_ ?_ ?_ ?_ ?_ ?_
  | refine' td_test ?_ | refine' td_B ?_ | refine' td_not ?_ | refine' td_and ?_ (fun _ => ?_) | refine' td_or ?_ (fun _ => ?_)
  | refine' ed_andV ?_ (fun _ => ?_) | refine' ed_orV ?_ (fun _ => ?_) | refine' ed_notV ?_
  | refine' ed_chain ?_ ?_ ?_
  | exact ea_nil | refine' ea_cons ?_ ?_ | refine' ed_tup ?_ ?_
  | refine' ed_lenT ?_ | refine' ed_lenL ?_ | refine' ed_tupL ?_ | refine' ed_intB ?_ | refine' ed_min2 ?_ ?_
  | refine' ed_isi2 ?_ ?_ ?_ | refine' ed_isi ?_ ?_
  | exact kb_ii | exact kb_ib | exact kb_ll | exact kb_lt | exact kb_tl | exact kb_tt | exact kb_il | exact kb_it | exact kb_sl | exact kb_st | exact kb_ss
  | exact eo_none | refine' eo_some ?_ | refine' ed_slT ?_ ?_ ?_
  | exact shaped_nilL | exact shaped_nilT | exact shaped_int _ | exact shaped_ints _ | exact shaped_intsL _))


theorem units65 {k : Nat} {A : Around} (r : Room k A) : A.units + 65 < cLine := by have := r.un; omega
theorem ixN_of {n j : Nat} (hj : j < n) : ixN n (j : Int) = some j := by
  unfold ixN
  rw [if_pos (by omega)]; rw [if_pos (by omega)]
  rfl
def optR : Option Ring → PyData
  | none => .none
  | some r => ringD r
def G_dividing : List PyData → Res → Prop := fun ds r => ∃ d ns res, ds = [d] ∧ Ints d (nI ns) ∧ N8 ns ∧ dividingM ns = some res ∧ r = .d (optR res)
def G_by_turns : List PyData → Res → Prop := fun ds r => ∃ is : List Nat, ds = [.list ((nI is).map .int)] ∧ is.length ≤ 8 ∧ r = .d (ringD (turnsM is))
def G_spread : List PyData → Res → Prop := fun ds r => ∃ (days : Nat) (things others : List Nat) (res : Ring), ds = [.int (days : Int), .list ((nI things).map .int), .list ((nI others).map .int)] ∧ 1 ≤ days ∧ days ≤ 40 ∧ things ≠ [] ∧ others ≠ [] ∧ things.length ≤ 8 ∧ others.length ≤ 8 ∧ spreadM days things others 200 [] 0 = some res ∧ r = .d (ringD res)
section
variable {K : PySem.W.Frag} {δ : List Cell} {ta tb tc : TE} {d x : PyData}
theorem ed_index {i j : Nat} {p : Addr} {xs : List PyData} {z : PyData} (hi : δ[i]? = some (.m p xs)) (h : Ed K ta δ d) (sl : SeqAt.shaped (.list xs) = true) (sd : SeqAt.shaped d = true) (hz : xs[j]? = some z) (he : PyData.eqv z d = true) (hno : ∀ (m : Nat) (z' : PyData), m < j → xs[m]? = some z' → PyData.eqv z' d = false) : Ed K (tBM K "list" (rIndexD K) (tVar i) (tCons ta tNil)) δ (.int (j : Int)) := fun B σ H e Q q => by
  obtain ⟨h1, vs, h2, h3⟩ := e.get_m hi
  refine ⟨.ref p, h1, .inl ⟨rfl, vs, SqL.of h2⟩, h B σ H e _ fun v H1 s hv => ?_⟩
  exact ⟨p, v, d, xs, j, z, rfl, rfl, .lst (SqL.of (s _ _ h2)) (dpAll_same s _ _ h3), hv, sl, sd, hz, he, hno, q _ H1 s (.int _)⟩
end
theorem shaped_days (r : Ring) : SeqAt.shaped (.list (r.map dayD)) = true := (sh_lst (sh_map sh_day r)).ok (by decide)
theorem eqv_dayN (o : Option Nat) : PyData.eqv (dayD o) (.tuple []) = o.isNone := by cases o <;> rfl
theorem isNo_optR (o : Option Ring) : isNo (optR o) = o.isNone := by cases o <;> rfl
theorem setsM_len (R : Ring) (f n i : Nat) : ∀ k, (setsM R f n i k).length = R.length
  | 0 => rfl
  | k + 1 => by
    unfold setsM
    rw [List.length_set, setsM_len R f n i k]
theorem cnt_lt {f l n k : Nat} (hn : 0 < n) (h : k < WM.cnt f l n) : f + k * n < l := by
  unfold WM.cnt at h
  by_cases hf : f < l
  · rw [if_pos hf] at h
    have h1 : k ≤ (l - f - 1) / n := by omega
    have h2 := Nat.mul_le_of_le_div n k (l - f - 1) h1
    omega
  · rw [if_neg hf] at h; omega
theorem freeM_some {R : Ring} {f : Nat} (h : freeM R = some f) : R[f]? = some none ∧ ∀ m, m < f → ∃ i, R[m]? = some (some i) := by
  unfold freeM at h
  rw [List.findIdx?_eq_some_iff_getElem] at h
  obtain ⟨hf, h1, h2⟩ := h
  refine ⟨?_, fun m hm => ?_⟩
  · rw [List.getElem?_eq_getElem hf]
    congr 1
    exact Option.isNone_iff_eq_none.mp h1
  · have h3 := h2 m hm
    have hml : m < R.length := by omega
    cases e : R[m] with
    | none => rw [e] at h3; exact absurd rfl h3
    | some i => exact ⟨i, by rw [List.getElem?_eq_getElem hml, e]⟩
theorem maxL_le {b : Nat} : ∀ (ns : List Nat) (n : Nat), n ≤ b → (∀ x ∈ ns, x ≤ b) → ns.foldl max n ≤ b
  | [], _, h, _ => h
  | x :: ns, n, h, hb => maxL_le ns (max n x) (by have := hb x List.mem_cons_self; omega) fun y hy => hb y (List.mem_cons_of_mem _ hy)
theorem nI_max : ∀ (ns : List Nat) (n : Nat), (nI ns).foldl max (n : Int) = ((ns.foldl max n : Nat) : Int)
  | [], _ => rfl
  | x :: ns, n => by
    show (nI ns).foldl max (max (n : Int) (x : Int)) = ((ns.foldl max (max n x) : Nat) : Int)
    have e : max (n : Int) (x : Int) = ((max n x : Nat) : Int) := by omega
    rw [e, nI_max ns]
theorem nI_min : ∀ (ns : List Nat) (n : Nat), (nI ns).foldl min (n : Int) = ((ns.foldl min n : Nat) : Int)
  | [], _ => rfl
  | x :: ns, n => by
    show (nI ns).foldl min (min (n : Int) (x : Int)) = ((ns.foldl min (min n x) : Nat) : Int)
    have e : min (n : Int) (x : Int) = ((min n x : Nat) : Int) := by omega
    rw [e, nI_min ns]
section
variable {K : PySem.W.Frag} {δ : List Cell} {ta tb tc : TE} {d x : PyData}
theorem ed_top {ns : List Nat} (h : Ed K ta δ (numD ns)) (hl : ns.length ≤ 8) : Ed K (tCB (rMaxT K) (tCons (tOp (rCatA K) ta (tTup (tCons (tC (.int 1)) tNil))) tNil)) δ (.int (top ns : Nat)) := by
  obtain ⟨a, t, e⟩ : ∃ a t, ns ++ [1] = a :: t := List.exists_cons_of_ne_nil (by simp)
  have e2 : (nI ns).map PyData.int ++ [.int 1] = ((a : Int) :: nI t).map PyData.int := by
    have : (nI (ns ++ [1])).map PyData.int = (nI (a :: t)).map PyData.int := by rw [e]
    rw [nI_append, List.map_append] at this
    exact this
  refine Ed.is (ed_maxT (n := (a : Int)) (ns := nI t) (Ed.is (ed_catT (xs := (nI ns).map .int) (ys := [.int 1]) h (ed_tup (ea_cons ed_int ea_nil)) (by rw [nI_len, sizeLine_eq]; simp; omega)) (by rw [e2]))) ?_
  rw [nI_max]
  unfold top maxL
  rw [e]
  rfl
theorem minL_at {ns : List Nat} (h : ns ≠ []) : ∃ n t, ns = n :: t ∧ minL ns = t.foldl min n := by
  cases ns with
  | nil => exact absurd rfl h
  | cons n t => exact ⟨n, t, rfl, rfl⟩
theorem ed_minN {ns : List Nat} (h : Ed K ta δ (numD ns)) (hne : ns ≠ []) : Ed K (tCB (rMinT K) (tCons ta tNil)) δ (.int (minL ns : Nat)) := by
  obtain ⟨n, t, rfl, e⟩ := minL_at hne
  rw [e, ← nI_min]
  exact ed_minT (n := (n : Int)) (ns := nI t) h
end
theorem foldmin_le : ∀ (ns : List Nat) (n : Nat), ns.foldl min n ≤ n ∧ ∀ x ∈ ns, ns.foldl min n ≤ x
  | [], n => ⟨Nat.le_refl _, fun x hx => by simp at hx⟩
  | y :: ns, n => by
    obtain ⟨h1, h2⟩ := foldmin_le ns (min n y)
    refine ⟨by show ns.foldl min (min n y) ≤ n; omega, fun x hx => ?_⟩
    show ns.foldl min (min n y) ≤ x
    rcases List.mem_cons.1 hx with e | hx
    · subst e; omega
    · exact h2 x hx
theorem foldmin_mem : ∀ (ns : List Nat) (n : Nat), ns.foldl min n = n ∨ ns.foldl min n ∈ ns
  | [], n => .inl rfl
  | y :: ns, n => by
    show ns.foldl min (min n y) = n ∨ _
    rcases foldmin_mem ns (min n y) with h | h
    · by_cases hy : n ≤ y
      · left; omega
      · right
        have e : (y :: ns).foldl min n = y := by show ns.foldl min (min n y) = y; omega
        rw [e]; exact List.mem_cons_self
    · right; exact List.mem_cons_of_mem _ h
theorem minL_le {ns : List Nat} {x : Nat} (h : x ∈ ns) : minL ns ≤ x := by
  cases ns with
  | nil => simp at h
  | cons n t =>
    show t.foldl min n ≤ x
    rcases List.mem_cons.1 h with e | h
    · rw [e]; exact (foldmin_le t n).1
    · exact (foldmin_le t n).2 x h
theorem minL_mem {ns : List Nat} (h : ns ≠ []) : minL ns ∈ ns := by
  obtain ⟨n, t, rfl, e⟩ := minL_at h
  rw [e]
  rcases foldmin_mem t n with h | h
  · rw [h]; exact List.Mem.head _
  · exact List.mem_cons_of_mem _ h
section
variable {P : Program} {w : World} {K : PySem.W.Frag} {mg : Str → Option Value} {base : Heap} {f : Addr} {fd : FuncData}
abbrev st_dividing : Stmt := topS 98
theorem sc_dividing : FnScope ["numbers", "ring", "i", "first", "place"] ["numbers"] (defScope st_dividing) := ⟨rfl, rfl, rfl, by decide +kernel, rfl, by decide +kernel, by decide +kernel⟩
theorem ok_dividing (F : Fun K "dividing" "dividing" st_dividing f fd) (T : Bl mg) (c_asked_numbers : Cal P w K mg base 3 "asked_numbers" (spG K G_asked_numbers)) (c_divide_on : Cal P w K mg base 1 "divide_on" (spG K G_divide_on)) (c_has_room : Cal P w K mg base 5 "has_room" (spG K G_has_room)) (c_rising_things : Cal P w K mg base 1 "rising_things" (spG K G_rising_things)) : FnOk P w K mg base CX0 6 f fd ["numbers"] (spG K G_dividing) := by
  refine okG F sc_dividing (fun ds r ⟨_, _, _, h, _⟩ => by rw [h]; rfl) fun cdv A outer s H E hr => ⟨_, (pss_cons (ps_set (i := 0) sc_dividing.nd rfl (Or.inl rfl) (pe_cl c_asked_numbers hr (by decide) (by rfl) (pa_cons (pv 0) pa_nil))) (pss_cons (ps_if (PW.pt (pw_or (pt_not (pt_val (pe_cl c_has_room hr (by decide) (by rfl) (pa_cons (pv 0) pa_nil)))) (pw_or1 (pt_not (pt_val (pe_cl c_divide_on hr (by decide) (by rfl) (pa_cons (pv 0) pa_nil))))))) (pss_one (ps_ret pe_non)) pss_nil) (pss_cons (ps_set (i := 1) sc_dividing.nd rfl (Or.inl rfl) (pe_op op_rep (pe_lst (pa_cons (pe_tup pa_nil) pa_nil)) (pe_callB (cr_maxT rfl hr.units) (by rfl) T.max bt_max (pa_cons (pe_op op_catA (pv 0) (pe_tup (pa_cons pe_int pa_nil))) pa_nil)))) (pss_cons (ps_for PassesOwn.never rfl (pi_seq (pe_cl c_rising_things hr (by decide) (by rfl) (pa_cons (pv 0) pa_nil))) (pg_name (i := 2) sc_dividing.nd rfl (Or.inl rfl)) (pss_cons (ps_set (i := 3) sc_dividing.nd rfl (Or.inl rfl) (pe_bm PySem.F.plainAttrs_list PySem.F.slot_list_index PySem.F.type_list_index (mt_indexD (units65 hr)) (pv 1) (pa_cons (pe_tup pa_nil) pa_nil))) (pss_one (ps_for PassesOwn.never rfl (pi_range3 (by rfl) T.range (pa_cons (pv 3) (pa_cons (pe_callB cw_len (by rfl) T.len bt_len (pa_cons (pv 1) pa_nil)) (pa_cons (pe_ix ix_seq (pv 0) (pv 2) (fun _ _ => rfl)) pa_nil)))) (pg_name (i := 4) sc_dividing.nd rfl (Or.inl rfl)) (pss_one (ps_asg (pe_tup (pa_cons (pv 2) pa_nil)) (pg_sub (pv 1) (pv 4) set_list))))))) (pss_one (ps_ret (pe_callTy cw_tup (by rfl) T.tuple bt_tuple (pa_cons (pv 1) pa_nil)))))))), fun ds r h => ?_⟩
  obtain ⟨d, ns, res, rfl, hd, hn, hm, rfl⟩ := h
  have hl := hn.len
  show Sd K _ [.d d, .u, .u, .u, .u] _ _
  refine sq_asg (d := numD ns) (ed_asked_numbers (ed_var rfl) hd hn.ok) (.inl rfl) ?_
  refine sq_when (b := !(room ns && divOn ns)) (Td.is (td_or (td_not (td_B (ed_has_room (ns := ns) (ed_var rfl) (.inl rfl) hn))) (fun _ => td_not (td_B (ed_divide_on (ns := ns) (ed_var rfl) hn)))) (by cases room ns <;> cases divOn ns <;> rfl)) (fun hb => ?_) (fun hb => ?_)
  · have hb' : (room ns && divOn ns) = false := by
      cases h : (room ns && divOn ns) with
      | false => rfl
      | true => rw [h] at hb; cases hb
    unfold dividingM at hm
    rw [hb'] at hm
    cases hm
    exact sd_ret ed_non rfl
  · have hb' : (room ns && divOn ns) = true := by
      cases h : (room ns && divOn ns) with
      | true => rfl
      | false => rw [h] at hb; cases hb
    unfold dividingM at hm
    rw [hb', if_pos rfl] at hm
    have htop : top ns ≤ 8 := by
      obtain ⟨a, t, e⟩ : ∃ a t, ns ++ [1] = a :: t := List.exists_cons_of_ne_nil (by simp)
      have hall : ∀ x ∈ a :: t, x ≤ 8 := fun x hx => by
        rw [← e] at hx
        rcases List.mem_append.1 hx with hx | hx
        · exact (hn.b x hx).2
        · simp at hx; omega
      unfold top maxL
      rw [e]
      exact maxL_le t a (hall a List.mem_cons_self) fun x hx => hall x (List.mem_cons_of_mem _ hx)
    obtain ⟨rf, hM, rfl⟩ : ∃ rf, layM ns (risT ns) (List.replicate (top ns) none) = some rf ∧ res = some rf := by
      cases h : layM ns (risT ns) (List.replicate (top ns) none) with
      | none => rw [h] at hm; cases hm
      | some rf => rw [h] at hm; exact ⟨rf, rfl, (Option.some.inj hm).symm⟩
    refine sq_asgL (xs := (List.replicate (top ns) (none : Option Nat)).map dayD) ?_ (lfAll_map lf_day _) fun p => ?_
    · have := el_rep (K := K) (δ := [.d (numD ns), .u, .u, .u, .u]) (el_lst (ea_cons (ed_tup (ds := []) ea_nil (by decide)) ea_nil) (by decide)) (ed_top (ns := ns) (ed_var (i := 0) rfl) (by omega)) (by omega) (by omega) (by rw [sizeLine_eq]; simp; omega)
      rw [Int.toNat_natCast, rep_none] at this
      exact this
    refine sd_seq (sd_forL (ds := (nI (risT ns)).map .int) (el_rising (ns := ns) (ed_var rfl) hn) (.inr (lfAll_ints _)) (fun k δ' => ∃ (R : Ring) (c2 c3 c4 : Cell), layM ns ((risT ns).drop k) R = some rf ∧ R.length = top ns ∧ δ' = [.d (numD ns), .m p (R.map dayD), c2, c3, c4] ∧ muts [c2, c3, c4] = []) ⟨_, .u, .u, .u, hM, List.length_replicate, rfl, rfl⟩ ?_ (N := fun δ' => ∃ c2 c3 c4, δ' = [.d (numD ns), .m p (rf.map dayD), c2, c3, c4]) ?_) ?_
    · rintro k d' δ' hk ⟨R, c2, c3, c4, hL, hRl, rfl, hc⟩
      obtain ⟨i, hi, rfl⟩ := mem_nI hk
      have hc34 : muts [c3, c4] = [] := by
        cases c2 with
        | m p xs => simp [muts] at hc
        | u => exact hc
        | d x => exact hc
      have hc4 : muts [c4] = [] := by
        cases c3 with
        | m p xs => simp [muts] at hc34
        | u => exact hc34
        | d x => exact hc34
      have hil : i < ns.length := risT_lt (List.mem_of_getElem? hi)
      have hni := hn.at hil
      refine ⟨.inr rfl, ?_⟩
      have hdrop : (risT ns).drop k = i :: (risT ns).drop (k + 1) := by
        have hkl := (List.getElem?_eq_some_iff.mp hi).1
        rw [List.drop_eq_getElem_cons hkl]
        congr 1
        exact (List.getElem?_eq_some_iff.mp hi).2
      rw [hdrop] at hL
      obtain ⟨f, hf, hL2⟩ : ∃ f, freeM R = some f ∧ layM ns ((risT ns).drop (k + 1)) (setsM R f (ns.getD i 0) i (WM.cnt f R.length (ns.getD i 0))) = some rf := by
        unfold layM at hL
        cases h : freeM R with
        | none => rw [h] at hL; cases hL
        | some f => rw [h] at hL; exact ⟨f, rfl, hL⟩
      obtain ⟨hf1, hf2⟩ := freeM_some hf
      have hfl := (List.getElem?_eq_some_iff.mp hf1).1
      refine sq_asg (d := .int (f : Int)) (ed_index (z := dayD none) (xs := R.map dayD) (p := p) (i := 1) (by rfl) (ed_tup (ds := []) ea_nil (by decide)) (shaped_days R) shaped_nilT (by rw [List.getElem?_map, hf1]; rfl) (eqv_dayN none) fun m z' hm hz => ?_) (.inr rfl) ?_
      · obtain ⟨i', hi'⟩ := hf2 m hm
        rw [List.getElem?_map, hi'] at hz
        have e : z' = dayD (some i') := (Option.some.inj hz).symm
        rw [e]
        exact eqv_dayN _
      refine sd_range3 (m := (f : Int)) (n := (R.length : Int)) (c := ((ns.getD i 0 : Nat) : Int)) (l := WM.cnt f R.length (ns.getD i 0)) (ea_cons (ed_var rfl) (ea_cons (Ed.is (ed_lenL (ds := R.map dayD) (ed_varm rfl)) (by rw [ring_len])) (ea_cons (ed_num (ns := ns) (ed_var rfl) (ed_var rfl) hil) ea_nil))) (rgc_pos (by omega) (by omega) (by omega) (by omega)) (fun k δ' => ∃ c4, δ' = [.d (numD ns), .m p ((setsM R f (ns.getD i 0) i k).map dayD), .d (.int (i : Int)), .d (.int (f : Int)), c4] ∧ muts [c4] = []) ⟨c4, rfl, hc4⟩ ?_ ?_
      · rintro j δ' hj ⟨c, rfl, hc⟩
        have hlt := cnt_lt (by omega) hj
        have e1 : (f : Int) + (j : Int) * ((ns.getD i 0 : Nat) : Int) = ((f + j * ns.getD i 0 : Nat) : Int) := by rw [Int.natCast_add, Int.natCast_mul]
        rw [e1]
        refine sd_setL (i := 1) (p := p) (xs := (setsM R f (ns.getD i 0) i j).map dayD) (k0 := ((f + j * ns.getD i 0 : Nat) : Int)) (n := f + j * ns.getD i 0) rfl (ed_tup (ds := [.int (i : Int)]) (ea_cons (ed_var rfl) ea_nil) (by simp)) (ed_var rfl) rfl (lfAll_map lf_day _) (ixN_of (by rw [ring_len, setsM_len]; exact hlt)) ⟨.d (.int ((f + j * ns.getD i 0 : Nat) : Int)), ?_, rfl⟩
        have e2 : (setsM R f (ns.getD i 0) i (j + 1)).map dayD = ((setsM R f (ns.getD i 0) i j).map dayD).set (f + j * ns.getD i 0) (.tuple [.int (i : Int)]) := by
          show ((setsM R f (ns.getD i 0) i j).set (f + j * ns.getD i 0) (some i)).map dayD = _
          rw [List.map_set]
          rfl
        rw [e2]
        rfl
      · rintro δ' ⟨c, rfl, hc⟩
        exact ⟨_, _, _, c, hL2, by rw [setsM_len]; exact hRl, rfl, hc⟩
    · rintro δ' ⟨R, c2, c3, c4, hL, hRl, rfl, hc⟩
      rw [nI_len, List.drop_length] at hL
      cases hL
      exact ⟨_, _, _, rfl⟩
    · rintro δ' ⟨c2, c3, c4, rfl⟩
      exact sd_ret (d := ringD rf) (ed_tupOf (ed_varm rfl) (.inr rfl)) rfl
abbrev st_by_turns : Stmt := topS 99
theorem sc_by_turns : FnScope ["things", "i"] ["things"] (defScope st_by_turns) := ⟨rfl, rfl, rfl, by decide +kernel, rfl, by decide +kernel, by decide +kernel⟩
theorem ok_by_turns (F : Fun K "by_turns" "by_turns" st_by_turns f fd) (T : Bl mg) : FnOk P w K mg base CX0 1 f fd ["things"] (spG K G_by_turns) := by
  refine okG F sc_by_turns (fun ds r ⟨_, h, _⟩ => by rw [h]; rfl) fun cdv A outer s H E hr => ⟨_, (pss_cons (ps_if (pt_cmpR (op_eqD hr.units) (pv 0) (pe_lst pa_nil) (nomark _)) (pss_one (ps_ret (pe_tup (pa_cons (pe_tup pa_nil) pa_nil)))) pss_nil) (pss_one (ps_ret (pe_callTy cw_tup (by rfl) T.tuple bt_tuple (pa_cons (pe_lc (own := [("i", 1)]) (g := gName 1) (tt := tYes) rfl sc_by_turns.nd  (pi_seq (pv 0)) (blkOk_by (own := [("i", 1)]) (N := ["things", "i"]) (sc := defScope st_by_turns) (by decide +kernel)) (fun _ _ _ _ _ => pg_name (i := 1) sc_by_turns.nd rfl (Or.inl rfl)) (fun _ _ _ _ _ => pts_nil) (fun _ _ _ _ _ => (pe_tup (pa_cons (pv 1) pa_nil)))) pa_nil))))), fun ds r h => ?_⟩
  obtain ⟨is, rfl, hl, rfl⟩ := h
  show Sd K _ [.d (.list ((nI is).map .int)), .u] _ _
  refine sq_when (b := is.isEmpty) (Td.is (td_test (ed_eq (ed_var rfl) (Ed.of_l (el_lst ea_nil)) (shaped_intsL _) shaped_nilL)) (by rw [eqv_nilL]; cases is <;> rfl)) (fun hb => ?_) (fun hb => ?_)
  · have e : is = [] := List.isEmpty_iff.mp hb
    subst e
    exact sd_ret (d := ringD (turnsM [])) (ed_tup (ds := [.tuple []]) (ea_cons (ed_tup ea_nil) ea_nil)) rfl
  · have e : is ≠ [] := fun z => by subst z; cases hb
    have e2 : ringD (turnsM is) = .tuple (is.map fun i => dayD (some i)) := by
      unfold turnsM ringD
      rw [if_neg e, List.map_map]; rfl
    rw [e2]
    refine sd_ret (ed_tupL (el_map (ds := (nI is).map .int) (is.map fun i => dayD (some i)) (ed_var rfl) (.inr rfl) (.inl rfl) (by rw [nI_len]; omega) (by rw [nI_len, List.length_map]) (lfAll_map (fun i => lf_day (some i)) _) fun k d y hk hy => ?_)) rfl
    obtain ⟨n, hn, rfl⟩ := mem_nI hk
    rw [List.getElem?_map, hn] at hy
    cases hy
    exact ed_tup (ds := [.int (n : Int)]) (ea_cons (ed_var rfl) ea_nil) (by simp)
abbrev st_spread : Stmt := topS 100
theorem sc_spread : FnScope ["days", "things", "others", "many", "ring", "told", "place"] ["days", "things", "others"] (defScope st_spread) := ⟨rfl, rfl, rfl, by decide +kernel, rfl, by decide +kernel, by decide +kernel⟩
theorem ok_spread (F : Fun K "spread" "spread" st_spread f fd) (T : Bl mg) : FnOk P w K mg base CX0 1 f fd ["days", "things", "others"] (spG K G_spread) := by
  refine okG F sc_spread (fun ds r ⟨_, _, _, _, h, _⟩ => by rw [h]; rfl) fun cdv A outer s H E hr => ⟨_, (pss_cons (ps_set (i := 3) sc_spread.nd rfl (Or.inl rfl) (pe_callB cw_len (by rfl) T.len bt_len (pa_cons (pv 1) pa_nil))) (pss_cons (ps_set (i := 4) sc_spread.nd rfl (Or.inl rfl) (pe_lst pa_nil)) (pss_cons (ps_set (i := 5) sc_spread.nd rfl (Or.inl rfl) pe_int) (pss_cons (ps_while PassesOwn.never (PW.pt (pw_or (pt_cmpR (op_eqD hr.units) (pv 4) (pe_lst pa_nil) (nomark _)) (pw_or (pt_cmpR op_gt (pe_op op_mod (pe_callB cw_len (by rfl) T.len bt_len (pa_cons (pv 4) pa_nil)) (pv 0)) pe_int (nomark _)) (pw_or1 (pt_cmpR op_gt (pe_op op_mod (pv 5) (pe_callB cw_len (by rfl) T.len bt_len (pa_cons (pv 2) pa_nil))) pe_int (nomark _)))))) (pss_cons (ps_set (i := 6) sc_spread.nd rfl (Or.inl rfl) (pe_callB cw_len (by rfl) T.len bt_len (pa_cons (pv 4) pa_nil))) (pss_one (ps_if (pt_cmpR op_gt (pe_op op_fdiv (pe_op op_mul (pe_op op_add (pv 6) pe_int) (pv 3)) (pv 0)) (pe_op op_fdiv (pe_op op_mul (pv 6) (pv 3)) (pv 0)) (nomark _)) (pss_one (ps_expr (pe_bm PySem.F.plainAttrs_list PySem.F.slot_list_append PySem.F.type_list_append mt_append (pv 4) (pa_cons (pe_tup (pa_cons (pe_ix ix_seq (pv 1) (pe_op op_mod (pe_op op_fdiv (pe_op op_mul (pv 6) (pv 3)) (pv 0)) (pv 3)) (fun _ _ => rfl)) pa_nil)) pa_nil)))) (pss_cons (ps_expr (pe_bm PySem.F.plainAttrs_list PySem.F.slot_list_append PySem.F.type_list_append mt_append (pv 4) (pa_cons (pe_tup (pa_cons (pe_ix ix_seq (pv 2) (pe_op op_mod (pv 5) (pe_callB cw_len (by rfl) T.len bt_len (pa_cons (pv 2) pa_nil))) (fun _ _ => rfl)) pa_nil)) pa_nil))) (pss_one (ps_set (i := 5) sc_spread.nd rfl (Or.inl rfl) (pe_op op_add (pv 5) pe_int)))))))) (pss_one (ps_ret (pe_callTy cw_tup (by rfl) T.tuple bt_tuple (pa_cons (pv 4) pa_nil)))))))), fun ds r h => ?_⟩
  obtain ⟨days, things, others, res, rfl, hd1, hd, ht, ho, htl, hol, hM, rfl⟩ := h
  have htp := List.length_pos_iff.mpr ht
  have hop := List.length_pos_iff.mpr ho
  show Sd K _ [.d (.int (days : Int)), .d (.list ((nI things).map .int)), .d (.list ((nI others).map .int)), .u, .u, .u, .u] _ _
  refine sq_asg (d := .int (things.length : Int)) (Ed.is (ed_lenL (ds := (nI things).map .int) (ed_var rfl)) (by rw [nI_len])) (.inl rfl) ?_
  refine sq_asgL (xs := []) (el_lst ea_nil) rfl fun p => ?_
  refine sq_asg (d := .int 0) ed_int (.inr rfl) ?_
  refine sd_seq (sd_while (fun m δ' => ∃ (r : Ring) (told : Nat) (c : Cell), spreadM days things others m r told = some res ∧ r.length + m = 200 ∧ told ≤ r.length ∧ δ' = [.d (.int (days : Int)), .d (.list ((nI things).map .int)), .d (.list ((nI others).map .int)), .d (.int (things.length : Int)), .m p (r.map dayD), .d (.int (told : Int)), c] ∧ muts [c] = []) 200 ⟨[], 0, .u, hM, rfl, Nat.le_refl _, rfl, rfl⟩ ?_ (N := fun δ' => ∃ (t c : Cell), δ' = [.d (.int (days : Int)), .d (.list ((nI things).map .int)), .d (.list ((nI others).map .int)), .d (.int (things.length : Int)), .m p (res.map dayD), t, c])) ?_
  · rintro m δ' ⟨r, told, c, hS, hz, hto, rfl, hc⟩
    cases m with
    | zero => cases hS
    | succ m =>
    refine ⟨goM days told others r, Td.is (td_or (Td.is (td_test (ed_eq (ed_varm rfl) (Ed.of_l (el_lst ea_nil)) (shaped_days r) shaped_nilL)) (show _ = r.isEmpty by rw [eqv_nilL]; cases r <;> rfl)) (fun _ => td_or (Td.is (td_test (ed_gt (ed_mod (Ed.is (ed_lenL (ds := r.map dayD) (ed_varm rfl)) (by rw [ring_len])) (ed_var rfl) (by omega)) ed_int)) (show _ = decide (0 < r.length % days) from ?_)) (fun _ => Td.is (td_test (ed_gt (ed_mod (ed_var rfl) (Ed.is (ed_lenL (ds := (nI others).map .int) (ed_var rfl)) (by rw [nI_len])) (by omega)) ed_int)) (show _ = decide (0 < told % others.length) from ?_)))) (by unfold goM; rw [Bool.or_assoc]), fun hg => ?_, fun hg => ?_⟩
    · rw [← Int.natCast_emod]
      exact decide_eq_decide.2 (by omega)
    · rw [← Int.natCast_emod]
      exact decide_eq_decide.2 (by omega)
    · unfold spreadM at hS
      rw [if_pos hg] at hS
      refine sq_asg (d := .int (r.length : Int)) (Ed.is (ed_lenL (ds := r.map dayD) (ed_varm rfl)) (by rw [ring_len])) (.inr rfl) ?_
      show Sd K _ [.d (.int (days : Int)), .d (.list ((nI things).map .int)), .d (.list ((nI others).map .int)), .d (.int (things.length : Int)), .m p (r.map dayD), .d (.int (told : Int)), .d (.int (r.length : Int))] _ _
      refine sd_if (b := decide ((r.length + 1) * things.length / days > r.length * things.length / days)) (Td.is (td_test (ed_gt (ed_fdiv (ed_mul (ed_add (ed_var rfl) ed_int) (ed_var rfl) (.inr ⟨by omega, by omega⟩)) (ed_var rfl) ⟨by omega, by omega⟩) (ed_fdiv (ed_mul (ed_var rfl) (ed_var rfl) (.inr ⟨by omega, by omega⟩)) (ed_var rfl) ⟨by omega, by omega⟩))) ?_) (fun hb => ?_) (fun hb => ?_)
      · have e1 : ((r.length : Int) + 1) * (things.length : Int) / (days : Int) = (((r.length + 1) * things.length / days : Nat) : Int) := by rw [Int.natCast_ediv, Int.natCast_mul, Int.natCast_add]; rfl
        have e2 : (r.length : Int) * (things.length : Int) / (days : Int) = ((r.length * things.length / days : Nat) : Int) := by rw [Int.natCast_ediv, Int.natCast_mul]
        rw [e1, e2]
        exact decide_eq_decide.2 (by omega)
      · rw [if_pos (of_decide_eq_true hb)] at hS
        have hmod := Nat.mod_lt (r.length * things.length / days) htp
        refine sd_app (i := 4) (p := p) (xs := r.map dayD) rfl (ed_tup (ds := [.int ((things.getD (r.length * things.length / days % things.length) 0 : Nat) : Int)]) (ea_cons (ed_ix (i := ((r.length * things.length / days % things.length : Nat) : Int)) (ds := (nI things).map .int) (ed_var rfl) (Ed.is (ed_mod (ed_fdiv (ed_mul (ed_var rfl) (ed_var rfl) (.inr ⟨by omega, by omega⟩)) (ed_var rfl) ⟨by omega, by omega⟩) (ed_var rfl) (by omega)) (by rw [Int.natCast_emod, Int.natCast_ediv, Int.natCast_mul])) (.inr rfl) (at_num hmod)) ea_nil) (by simp)) rfl (lfAll_map lf_day _) (by rw [ring_len]; omega) ⟨m, by omega, _, told, .d (.int (r.length : Int)), hS, by simp; omega, by simp; omega, ?_, rfl⟩
        rw [List.map_append]; rfl
      · rw [if_neg (of_decide_eq_false hb)] at hS
        have hmod := Nat.mod_lt told hop
        refine sd_seq (sd_app (i := 4) (p := p) (xs := r.map dayD) rfl (ed_tup (ds := [.int ((others.getD (told % others.length) 0 : Nat) : Int)]) (ea_cons (ed_ix (i := ((told % others.length : Nat) : Int)) (ds := (nI others).map .int) (ed_var rfl) (Ed.is (ed_mod (ed_var rfl) (Ed.is (ed_lenL (ds := (nI others).map .int) (ed_var rfl)) (by rw [nI_len])) (by omega)) (by rw [Int.natCast_emod])) (.inr rfl) (at_num hmod)) ea_nil) (by simp)) rfl (lfAll_map lf_day _) (by rw [ring_len]; omega) (N := fun δ' => δ' = [.d (.int (days : Int)), .d (.list ((nI things).map .int)), .d (.list ((nI others).map .int)), .d (.int (things.length : Int)), .m p (r.map dayD ++ [.tuple [.int ((others.getD (told % others.length) 0 : Nat) : Int)]]), .d (.int (told : Int)), .d (.int (r.length : Int))]) rfl) ?_
        rintro δ' rfl
        refine sd_asg (d := .int ((told + 1 : Nat) : Int)) (Ed.is (ed_add (ed_var rfl) ed_int) (by rw [Int.natCast_add]; rfl)) (.inr rfl) ⟨m, by omega, _, told + 1, .d (.int (r.length : Int)), hS, by simp; omega, by simp; omega, ?_, rfl⟩
        rw [List.map_append]; rfl
    · unfold spreadM at hS
      rw [if_neg (by rw [hg]; exact Bool.false_ne_true)] at hS
      cases hS
      exact ⟨_, _, rfl⟩
  · rintro δ' ⟨t, c, rfl⟩
    exact sd_ret (d := ringD res) (ed_tupOf (ed_varm rfl) (.inr rfl)) rfl
end
section
variable {K : PySem.W.Frag} {δ : List Cell} {ta tb tc : TE} {d : PyData}
theorem ed_dividing {ns : List Nat} {res : Option Ring} (h1 : Ed K ta δ d) (hd : Ints d (nI ns)) (hn : N8 ns) (hm : dividingM ns = some res) : Ed K (tCall (spG K G_dividing) [] E0 (tCons ta tNil)) δ (optR res) := ed_call (ea_cons h1 ea_nil) ⟨d, ns, res, rfl, hd, hn, hm, rfl⟩
end
end WD

namespace WD
open PySem PySem.Spec PyProof.Rows L2 WM
local macro_rules | `(tactic| walk_at "ed") => `(tactic| repeat' (first
  | exact ed_int | exact ed_bl | exact ed_non | exact ed_str
  | exact ed_var rfl | exact ed_varm rfl
  | refine' ed_add ?_ ?_ | refine' ed_sub ?_ ?_ | refine' ed_lt ?_ ?_ | refine' ed_le ?_ ?_ | refine' ed_gt ?_ ?_ | refine' ed_ge ?_ ?_
  | refine' ed_mul ?_ ?_ ?_ | refine' ed_fdiv ?_ ?_ ?_ | refine' ed_mod ?_ ?_ ?_
  | refine' ed_eq ?_ ?_ ?_ ?_ | refine' ed_ne ?_ ?_ ?_ ?_ | refine' ed_isN ?_ ?_ | refine' ed_notN ?_ ?_ | refine' ed_isB ?_ ?_
  | refine' ed_in ?_ ?_ ?_ | refine' ed_notIn ?_ ?_ ?_ | refine' ed_ix ?_ ?_ ?_ ?_
  | refine' ed_catT ?_ ?_ ?_ | refine' ed_repT ?_ ?_ ?_ ?_ ?_ ?_
  | refine' td_test ?_ | refine' td_B ?_ | refine' td_not ?_ | refine' td_and ?_ (fun _ => ?_) | refine' td_or ?_ (fun _ => ?_)
  | refine' ed_andV ?_ (fun _ => ?_) | refine' ed_orV ?_ (fun _ => ?_) | refine' ed_notV ?_
  | refine' ed_chain ?_ ?_ ?_
  | exact ea_nil | refine' ea_cons ?_ ?_ | refine' ed_tup ?_ ?_
  | refine' ed_lenT ?_ | refine' ed_lenL ?_ | refine' ed_tupL ?_ | refine' ed_intB ?_ | refine' ed_min2 ?_ ?_
  | refine' ed_isi2 ?_ ?_ ?_ | refine' ed_isi ?_ ?_
  | exact kb_ii | exact kb_ib | exact kb_ll | exact kb_lt | exact kb_tl | exact kb_tt | exact kb_il | exact kb_it | exact kb_sl | exact kb_st | exact kb_ss
  | exact eo_none | refine' eo_some ?_ | refine' ed_slT ?_ ?_ ?_
  | exact shaped_nilL | exact shaped_nilT | exact shaped_int _ | exact shaped_ints _ | exact shaped_intsL _))


def optP : Option (List Nat × Option Ring) → PyData
  | none => .none
  | some p => .tuple [numD p.1, optR p.2]
def G_two_alone : List PyData → Res → Prop := fun ds r => ∃ d ns res, ds = [d] ∧ Ints d (nI ns) ∧ N8 ns ∧ twoM ns = some res ∧ r = .d (optR res)
def G_doubled : List PyData → Res → Prop := fun ds r => ∃ f n : Nat, ds = [.int (f : Int), .int (n : Int)] ∧ 1 ≤ f ∧ n ≤ 40 ∧ r = .d (.int (dbl 50 f n : Nat))
def G_smaller : List PyData → Res → Prop := fun ds r => ∃ d ns res, ds = [d] ∧ Ints d (nI ns) ∧ N8 ns ∧ smallerM ns = some res ∧ r = .d (optP res)
def G_smaller_to_two : List PyData → Res → Prop := fun ds r => ∃ d ns res, ds = [d] ∧ Ints d (nI ns) ∧ N8 ns ∧ lowerM ns = some res ∧ r = .d (optP res)
def G_at_once : List PyData → Res → Prop := fun ds r => ∃ d ns res, ds = [d] ∧ Ints d (nI ns) ∧ N8 ns ∧ atOnceM ns = some res ∧ r = .d (optR res)
theorem isEmpty_nI (ns : List Nat) : ((nI ns).map PyData.int).isEmpty = ns.isEmpty := by cases ns <;> rfl
theorem risT_mem {ns : List Nat} {i : Nat} (h : i < ns.length) : i ∈ risT ns := by
  unfold risT
  refine List.mem_map.mpr ⟨(ns[i], i), (sortP_perm _).mem_iff.mpr ?_, rfl⟩
  rw [List.mem_zipIdx_iff_getElem?]
  exact List.getElem?_eq_getElem h
def lowM' (ns : List Nat) (h : Nat) (l : List Nat) : List Nat := l.map fun n => if n < h then minL ns else h
def pMin (ns : List Nat) : PyData → Bool
  | .int i => decide (ns.getD i.toNat 0 = minL ns)
  | _ => false
theorem pMin_filter (ns : List Nat) : ∀ l : List Nat, ((nI l).map PyData.int).filter (pMin ns) = (nI (l.filter fun i => decide (ns.getD i 0 = minL ns))).map .int
  | [] => rfl
  | i :: l => by
    have ih := pMin_filter ns l
    show (PyData.int (i : Int) :: (nI l).map PyData.int).filter (pMin ns) = _
    have e : pMin ns (.int (i : Int)) = decide (ns.getD i 0 = minL ns) := rfl
    rw [List.filter_cons, e, List.filter_cons, ih]
    by_cases h : ns.getD i 0 = minL ns
    · rw [decide_eq_true h]; rfl
    · rw [decide_eq_false h]; rfl
theorem few_ne {ns : List Nat} (h : ns ≠ []) : fewM ns ≠ [] := by
  obtain ⟨i, hi⟩ := List.getElem?_of_mem (minL_mem h)
  have hil := (List.getElem?_eq_some_iff.mp hi).1
  have : i ∈ fewM ns := by
    unfold fewM
    refine List.mem_filter.mpr ⟨risT_mem hil, decide_eq_true ?_⟩
    rw [List.getD_eq_getElem?_getD, hi]; rfl
  intro z
  rw [z] at this
  simp at this
theorem few_len (ns : List Nat) : (fewM ns).length ≤ ns.length := by
  unfold fewM
  have := List.length_filter_le (fun i => decide (ns.getD i 0 = minL ns)) (risT ns)
  rw [risT_len] at this
  exact this
theorem dbl_bounds : ∀ (k f n : Nat), f ≤ n → f ≤ dbl k f n ∧ dbl k f n ≤ n
  | 0, f, n, h => ⟨Nat.le_refl _, h⟩
  | k + 1, f, n, h => by
    unfold dbl
    by_cases h2 : 2 * f ≤ n
    · rw [if_pos h2]
      have := dbl_bounds k (2 * f) n h2
      omega
    · rw [if_neg h2]; omega
theorem made_ok {ns : List Nat} (hn : N8 ns) {f : Nat} (h1 : 1 ≤ f) (h : f ≤ minL ns) : N8 (ns.map (dbl 50 f)) := ⟨by rw [List.length_map]; exact hn.len, fun m hm => by
  obtain ⟨n, hn', rfl⟩ := List.mem_map.mp hm
  have := dbl_bounds 50 f n (Nat.le_trans h (minL_le hn'))
  have := (hn.b n hn').2
  omega⟩
theorem low_ok {ns : List Nat} (hn : N8 ns) {h : Nat} (hh : h ∈ ns) : N8 (lowM ns h) := ⟨by unfold lowM; rw [List.length_map]; exact hn.len, fun m hm => by
  unfold lowM at hm
  obtain ⟨n, hn', rfl⟩ := List.mem_map.mp hm
  have h1 := hn.b h hh
  have h2 := hn.b _ (minL_mem (ns := ns) (fun z => by rw [z] at hh; simp at hh))
  by_cases h3 : n < h
  · rw [if_pos h3]; exact h2
  · rw [if_neg h3]; exact h1⟩
theorem lf_optR (o : Option Ring) : lf (optR o) = true := by
  cases o with
  | none => rfl
  | some r => exact lf_ring r
theorem lf_optP (o : Option (List Nat × Option Ring)) : lf (optP o) = true := by
  cases o with
  | none => rfl
  | some p =>
    refine lf_tup ?_
    show (lf (numD p.1) && (lf (optR p.2) && true)) = true
    rw [lf_num, lf_optR]; rfl
theorem optR_none {o : Option Ring} (h : isNo (optR o) = true) : o = none := by
  cases o with
  | none => rfl
  | some r => cases h
theorem optP_none {o : Option (List Nat × Option Ring)} (h : isNo (optP o) = true) : o = none := by
  cases o with
  | none => rfl
  | some r => cases h
theorem at_cases {ns : List Nat} {res : Option Ring} (h : atOnceM ns = some res) : ∃ a b, dividingM ns = some a ∧ twoM ns = some b ∧ ((∃ r, a = some r ∧ res = some r) ∨ (a = none ∧ ∃ r, b = some r ∧ res = some r) ∨
    (a = none ∧ b = none ∧ ∃ s l, smallerM ns = some s ∧ lowerM ns = some l ∧ ((∃ p, s = some p ∧ res = p.2) ∨ (s = none ∧ ∃ p, l = some p ∧ res = p.2) ∨ (s = none ∧ l = none ∧ res = none)))) := by
  unfold atOnceM at h
  cases hA : dividingM ns with
  | none => rw [hA] at h; cases h
  | some a =>
    cases hB : twoM ns with
    | none => rw [hA, hB] at h; cases a <;> cases h
    | some b =>
      rw [hA, hB] at h
      refine ⟨a, b, rfl, rfl, ?_⟩
      cases a with
      | some r => cases h; exact .inl ⟨r, rfl, rfl⟩
      | none =>
        cases b with
        | some r => cases h; exact .inr (.inl ⟨rfl, r, rfl, rfl⟩)
        | none =>
          refine .inr (.inr ⟨rfl, rfl, ?_⟩)
          cases hS : smallerM ns with
          | none => rw [hS] at h; cases h
          | some s =>
            cases hL : lowerM ns with
            | none => rw [hS, hL] at h; cases s <;> cases h
            | some l =>
              rw [hS, hL] at h
              refine ⟨s, l, rfl, rfl, ?_⟩
              cases s with
              | some p => cases h; exact .inl ⟨p, rfl, rfl⟩
              | none =>
                cases l with
                | some p => cases h; exact .inr (.inl ⟨rfl, p, rfl, rfl⟩)
                | none => cases h; exact .inr (.inr ⟨rfl, rfl, rfl⟩)
section
variable {P : Program} {w : World} {K : PySem.W.Frag} {mg : Str → Option Value} {base : Heap} {f : Addr} {fd : FuncData}
theorem nI_memI {a b : List Nat} (h : ∀ x, x ∈ a ↔ x ∈ b) (k : Int) : k ∈ nI a ↔ k ∈ nI b := by
  unfold nI
  rw [List.mem_map, List.mem_map]
  exact ⟨fun ⟨x, h1, h2⟩ => ⟨x, (h x).mp h1, h2⟩, fun ⟨x, h1, h2⟩ => ⟨x, (h x).mpr h1, h2⟩⟩
theorem sortD_int (ns : List Nat) : (nI (sortD ns)).Pairwise (· < ·) := List.pairwise_map.mpr ((sortD_sorted ns).imp fun {a b} h => by omega)
abbrev st_two_alone : Stmt := topS 101
theorem sc_two_alone : FnScope ["numbers", "things", "few", "i"] ["numbers"] (defScope st_two_alone) := ⟨rfl, rfl, rfl, by decide +kernel, rfl, by decide +kernel, by decide +kernel⟩
theorem ok_two_alone (F : Fun K "two_alone" "two_alone" st_two_alone f fd) (T : Bl mg) (c_asked_numbers : Cal P w K mg base 3 "asked_numbers" (spG K G_asked_numbers)) (c_has_room : Cal P w K mg base 5 "has_room" (spG K G_has_room)) (c_rising_things : Cal P w K mg base 1 "rising_things" (spG K G_rising_things)) (c_by_turns : Cal P w K mg base 1 "by_turns" (spG K G_by_turns)) (c_spread : Cal P w K mg base 1 "spread" (spG K G_spread)) : FnOk P w K mg base CX0 6 f fd ["numbers"] (spG K G_two_alone) := by
  refine okG F sc_two_alone (fun ds r ⟨_, _, _, h, _⟩ => by rw [h]; rfl) fun cdv A outer s H E hr => ⟨_, (pss_cons (ps_set (i := 0) sc_two_alone.nd rfl (Or.inr rfl) (pe_cl c_asked_numbers hr (by decide) (by rfl) (pa_cons (pv 0) pa_nil))) (pss_cons (ps_if (PW.pt (pw_or (pt_not (pt_val (pe_cl c_has_room hr (by decide) (by rfl) (pa_cons (pv 0) pa_nil)))) (pw_or1 (pt_cmpR op_gt (pe_callB cr_lenSet (by rfl) T.len bt_len (pa_cons (pe_callTy (cr_setI rfl) (by rfl) T.set bt_set (pa_cons (pv 0) pa_nil)) pa_nil)) pe_int (nomark _))))) (pss_one (ps_ret pe_non)) pss_nil) (pss_cons (ps_set (i := 1) sc_two_alone.nd rfl (Or.inl rfl) (pe_cl c_rising_things hr (by decide) (by rfl) (pa_cons (pv 0) pa_nil))) (pss_cons (ps_setLc (i := 2) (own := [("i", 3)]) (g := gName 3) rfl sc_two_alone.nd rfl rfl (sw_true rfl rfl rfl (by decide +kernel))  (pi_seq (pv 1)) (blkOk_by (own := [("i", 3)]) (N := ["numbers", "things", "few", "i"]) (sc := defScope st_two_alone) (by decide +kernel)) (fun _ _ _ _ _ => pg_name (i := 3) sc_two_alone.nd rfl (Or.inl rfl)) (fun _ _ _ _ _ => pts_one (pt_cmpR (kx_eqD (K := K) rfl hr.units) (pe_ix (kx_ix (K := K) rfl) (pv 0) (pv 3) (fun _ _ => rfl)) (pe_callB (kx_minT (K := K) rfl rfl hr.units) (by rfl) T.min bt_min (pa_cons (pv 0) pa_nil)) (nomark _))) (fun _ _ _ _ _ => (pv 3))) (pss_cons (ps_if (pt_cmpR (op_eqD hr.units) (pe_callB cw_len (by rfl) T.len bt_len (pa_cons (pv 2) pa_nil)) (pe_callB cw_len (by rfl) T.len bt_len (pa_cons (pv 1) pa_nil)) (nomark _)) (pss_one (ps_ret (pe_cl c_by_turns hr (by decide) (by rfl) (pa_cons (pv 1) pa_nil)))) pss_nil) (pss_one (ps_ret (pe_cl c_spread hr (by decide) (by rfl) (pa_cons (pe_callB (cr_minT rfl hr.units) (by rfl) T.min bt_min (pa_cons (pv 0) pa_nil)) (pa_cons (pv 2) (pa_cons (pe_slice sl_list (pv 1) (po_some (pe_callB cw_len (by rfl) T.len bt_len (pa_cons (pv 2) pa_nil))) po_none) pa_nil))))))))))), fun ds r h => ?_⟩
  obtain ⟨d, ns, res, rfl, hd, hn, hm, rfl⟩ := h
  have hl := hn.len
  show Sd K _ [.d d, .u, .u, .u] _ _
  refine sq_asg (d := numD ns) (ed_asked_numbers (ed_var rfl) hd hn.ok) (.inl rfl) ?_
  refine sq_when (b := !(room ns && decide ((sortD ns).length ≤ 2))) (Td.is (td_or (td_not (td_B (ed_has_room (ns := ns) (ed_var rfl) (.inl rfl) hn))) (fun _ => td_test (ed_gt (ed_lenSet (ns := nI ns) (ms := nI (sortD ns)) (ed_var rfl) (by unfold nI; rw [List.length_map]; omega) ((sortD_int ns).imp fun h => Int.ne_of_lt h) (nI_memI fun x => sortD_mem x ns)) ed_int))) ?_) (fun hb => ?_) (fun hb => ?_)
  · rw [Bool.not_and]
    congr 1
    have e : (nI (sortD ns)).length = (sortD ns).length := by unfold nI; rw [List.length_map]
    rw [e]
    by_cases h : (sortD ns).length ≤ 2
    · rw [decide_eq_true h, decide_eq_false (by omega)]; rfl
    · rw [decide_eq_false h, decide_eq_true (by omega)]; rfl
  · have hb' : (room ns && decide ((sortD ns).length ≤ 2)) = false := by
      cases h : (room ns && decide ((sortD ns).length ≤ 2)) with
      | false => rfl
      | true => rw [h] at hb; cases hb
    unfold twoM at hm
    rw [hb'] at hm
    cases hm
    exact sd_ret ed_non rfl
  · have hb' : (room ns && decide ((sortD ns).length ≤ 2)) = true := by
      cases h : (room ns && decide ((sortD ns).length ≤ 2)) with
      | true => rfl
      | false => rw [h] at hb; cases hb
    unfold twoM at hm
    rw [hb', if_pos rfl] at hm
    refine sq_asgL (xs := (nI (risT ns)).map .int) (el_rising (ns := ns) (ed_var rfl) hn) (lfAll_ints _) fun p => ?_
    refine sq_asgL (xs := (nI (fewM ns)).map .int) (?_ : EdL K _ [.d (numD ns), .m p ((nI (risT ns)).map .int), .u, .u] _) (lfAll_ints _) fun p2 => ?_
    · have := pMin_filter ns (risT ns)
      unfold fewM
      rw [← this]
      refine el_filter (pMin ns) (ed_varm rfl) (.inr rfl) (lfAll_ints _) (by rw [nI_len, risT_len]; omega) (by simp) fun k d hk => ?_
      obtain ⟨i, hi, rfl⟩ := mem_nI hk
      have hil : i < ns.length := risT_lt (List.mem_of_getElem? hi)
      refine Td.is (td_test (ed_eq (ed_num (ns := ns) (ed_var rfl) (ed_var rfl) hil) (ed_minN (ns := ns) (ed_var rfl) (fun z => by rw [z] at hil; simp at hil)) (shaped_int _) (shaped_int _))) ?_
      rw [eqv_int]
      exact decide_eq_decide.mpr (by show _ ↔ ns.getD i 0 = minL ns; omega)
    refine sq_when (b := decide ((fewM ns).length = (risT ns).length)) (Td.is (td_test (ed_eq (ed_lenL (ds := (nI (fewM ns)).map .int) (ed_varm rfl)) (ed_lenL (ds := (nI (risT ns)).map .int) (ed_varm rfl)) (shaped_int _) (shaped_int _))) ?_) (fun hb2 => ?_) (fun hb2 => ?_)
    · rw [eqv_int, nI_len, nI_len]
      exact decide_eq_decide.2 (by omega)
    · rw [if_pos (of_decide_eq_true hb2)] at hm
      cases hm
      exact sd_ret (ed_call (d := ringD (turnsM (risT ns))) (ea_cons (ed_varm rfl) ea_nil) ⟨risT ns, rfl, by rw [risT_len]; omega, rfl⟩) rfl
    · have hne2 := of_decide_eq_false hb2
      rw [if_neg hne2] at hm
      have hne : ns ≠ [] := fun z => by subst z; exact hne2 rfl
      have hfl := few_len ns
      rw [risT_len] at hne2
      obtain ⟨rr, hS, rfl⟩ : ∃ rr, spreadM (minL ns) (fewM ns) ((risT ns).drop (fewM ns).length) 200 [] 0 = some rr ∧ res = some rr := by
        cases h : spreadM (minL ns) (fewM ns) ((risT ns).drop (fewM ns).length) 200 [] 0 with
        | none => rw [h] at hm; cases hm
        | some rr => rw [h] at hm; exact ⟨rr, rfl, (Option.some.inj hm).symm⟩
      have hmin := hn.b _ (minL_mem hne)
      refine sd_ret (ed_call (d := ringD rr) (ea_cons (ed_minN (ns := ns) (ed_var rfl) hne) (ea_cons (ed_varm rfl) (ea_cons (Ed.is (Ed.of_l (el_slL (ds := (nI (risT ns)).map .int) (lo := some ((fewM ns).length : Int)) (hi := none) (ed_varm rfl) (eo_some (Ed.is (ed_lenL (ds := (nI (fewM ns)).map .int) (ed_varm rfl)) (by rw [nI_len]))) eo_none)) (y := .list ((nI ((risT ns).drop (fewM ns).length)).map .int)) ?_) ea_nil))) ⟨minL ns, fewM ns, (risT ns).drop (fewM ns).length, rr, rfl, hmin.1, by omega, few_ne hne, ?_, by omega, by rw [List.length_drop, risT_len]; omega, hS, rfl⟩) rfl
      · unfold cutD
        rw [HT.sIx_nat, HT.sIx_none, nI_len, risT_len, Nat.min_eq_left (by omega)]
        congr 1
        rw [List.take_of_length_le (by rw [List.length_drop, nI_len, risT_len]; omega)]
        unfold nI
        rw [List.map_drop, List.map_drop]
      · intro z
        have := congrArg List.length z
        rw [List.length_drop, risT_len] at this
        simp at this
        omega
abbrev st_doubled : Stmt := topS 103
theorem sc_doubled : FnScope ["first", "number"] ["first", "number"] (defScope st_doubled) := ⟨rfl, rfl, rfl, by decide +kernel, rfl, by decide +kernel, by decide +kernel⟩
theorem ok_doubled (F : Fun K "doubled" "doubled" st_doubled f fd) (T : Bl mg) : FnOk P w K mg base CX0 1 f fd ["first", "number"] (spG K G_doubled) := by
  refine okG F sc_doubled (fun ds r ⟨_, _, h, _⟩ => by rw [h]; rfl) fun cdv A outer s H E hr => ⟨_, (pss_cons (ps_while PassesOwn.never (pt_cmpR op_le (pe_op op_mul pe_int (pv 0)) (pv 1) (nomark _)) (pss_one (ps_set (i := 0) sc_doubled.nd rfl (Or.inl rfl) (pe_op op_mul pe_int (pv 0))))) (pss_one (ps_ret (pv 0)))), fun ds r h => ?_⟩
  obtain ⟨a, n, rfl, ha, hn, rfl⟩ := h
  show Sd K _ [.d (.int (a : Int)), .d (.int (n : Int))] _ _
  refine sd_seq (sd_while (fun m δ' => ∃ f' : Nat, dbl m f' n = dbl 50 a n ∧ n < 2 ^ m * f' ∧ δ' = [.d (.int (f' : Int)), .d (.int (n : Int))]) 50 ⟨a, rfl, ?_, rfl⟩ ?_ (N := fun δ' => δ' = [.d (.int (dbl 50 a n : Nat)), .d (.int (n : Int))])) ?_
  · have : 2 ^ 50 * 1 ≤ 2 ^ 50 * a := Nat.mul_le_mul_left _ ha
    omega
  · rintro m δ' ⟨f', h1, h2, rfl⟩
    refine ⟨decide (2 * f' ≤ n), Td.is (td_test (ed_le (ed_mul ed_int (ed_var rfl) (.inl ⟨by omega, by omega⟩)) (ed_var rfl))) (decide_eq_decide.mpr (by omega)), fun hb => ?_, fun hb => ?_⟩
    · have hb' := of_decide_eq_true hb
      cases m with
      | zero => omega
      | succ m =>
        refine sd_asg (d := .int ((2 * f' : Nat) : Int)) (Ed.is (ed_mul ed_int (ed_var rfl) (.inl ⟨by omega, by omega⟩)) (by rw [Int.natCast_mul]; rfl)) (.inl rfl) ⟨m, by omega, 2 * f', ?_, ?_, rfl⟩
        · unfold dbl at h1
          rw [if_pos hb'] at h1
          exact h1
        · have e : 2 ^ (m + 1) * f' = 2 ^ m * (2 * f') := by rw [Nat.pow_succ, Nat.mul_assoc]
          omega
    · have hb' := of_decide_eq_false hb
      have e : dbl m f' n = f' := by
        cases m with
        | zero => rfl
        | succ m => unfold dbl; rw [if_neg hb']
      rw [← h1, e]
  · rintro δ' rfl
    exact sd_ret (ed_var rfl) rfl
end
section
variable {K : PySem.W.Frag} {δ : List Cell} {ta tb tc : TE} {d : PyData}
theorem ed_two_alone {ns : List Nat} {res : Option Ring} (h1 : Ed K ta δ d) (hd : Ints d (nI ns)) (hn : N8 ns) (hm : twoM ns = some res) : Ed K (tCall (spG K G_two_alone) [] E0 (tCons ta tNil)) δ (optR res) := ed_call (ea_cons h1 ea_nil) ⟨d, ns, res, rfl, hd, hn, hm, rfl⟩
end
section
variable {P : Program} {w : World} {K : PySem.W.Frag} {mg : Str → Option Value} {base : Heap} {f : Addr} {fd : FuncData}
abbrev st_smaller : Stmt := topS 104
theorem sc_smaller : FnScope ["numbers", "first", "made", "number"] ["numbers"] (defScope st_smaller) := ⟨rfl, rfl, rfl, by decide +kernel, rfl, by decide +kernel, by decide +kernel⟩
theorem ok_smaller (F : Fun K "smaller" "smaller" st_smaller f fd) (T : Bl mg) (c_asked_numbers : Cal P w K mg base 3 "asked_numbers" (spG K G_asked_numbers)) (c_dividing : Cal P w K mg base 6 "dividing" (spG K G_dividing)) (c_doubled : Cal P w K mg base 1 "doubled" (spG K G_doubled)) (c_has_room : Cal P w K mg base 5 "has_room" (spG K G_has_room)) : FnOk P w K mg base CX0 7 f fd ["numbers"] (spG K G_smaller) := by
  refine okG F sc_smaller (fun ds r ⟨_, _, _, h, _⟩ => by rw [h]; rfl) fun cdv A outer s H E hr => ⟨_, (pss_cons (ps_set (i := 0) sc_smaller.nd rfl (Or.inl rfl) (pe_cl c_asked_numbers hr (by decide) (by rfl) (pa_cons (pv 0) pa_nil))) (pss_cons (ps_if (pt_cmpR (op_eqD hr.units) (pv 0) (pe_tup pa_nil) (nomark _)) (pss_one (ps_ret (pe_tup (pa_cons (pe_tup pa_nil) (pa_cons (pe_cl c_dividing hr (by decide) (by rfl) (pa_cons (pe_tup pa_nil) pa_nil)) pa_nil))))) pss_nil) (pss_cons (ps_for PassesOwn.never rfl (pi_range2 (by rfl) T.range (pa_cons pe_int (pa_cons (pe_op op_add (pe_callB (cr_minT rfl hr.units) (by rfl) T.min bt_min (pa_cons (pv 0) pa_nil)) pe_int) pa_nil))) (pg_name (i := 1) sc_smaller.nd rfl (Or.inr rfl)) (pss_cons (ps_set (i := 2) sc_smaller.nd rfl (Or.inl rfl) (pe_callTy cw_tup (by rfl) T.tuple bt_tuple (pa_cons (pe_lc (own := [("number", 3)]) (g := gName 3) (tt := tYes) rfl sc_smaller.nd  (pi_seq (pv 0)) (blkOk_by (own := [("number", 3)]) (N := ["numbers", "first", "made", "number"]) (sc := defScope st_smaller) (by decide +kernel)) (fun _ _ _ _ _ => pg_name (i := 3) sc_smaller.nd rfl (Or.inl rfl)) (fun _ _ _ _ _ => pts_nil) (fun _ _ _ _ _ => (pe_cl c_doubled hr (by decide) (by rfl) (pa_cons (pv 1) (pa_cons (pv 3) pa_nil))))) pa_nil))) (pss_one (ps_if (pt_val (pe_cl c_has_room hr (by decide) (by rfl) (pa_cons (pv 2) pa_nil))) (pss_one (ps_ret (pe_tup (pa_cons (pv 2) (pa_cons (pe_cl c_dividing hr (by decide) (by rfl) (pa_cons (pv 2) pa_nil)) pa_nil))))) pss_nil)))) (pss_one (ps_ret pe_non))))), fun ds r h => ?_⟩
  obtain ⟨d, ns, res, rfl, hd, hn, hm, rfl⟩ := h
  have hl := hn.len
  show Sd K _ [.d d, .u, .u, .u] _ _
  refine sq_asg (d := numD ns) (ed_asked_numbers (ed_var rfl) hd hn.ok) (.inl rfl) ?_
  unfold smallerM at hm
  refine sq_when (b := ns.isEmpty) (Td.is (td_test (ed_eq (ed_var rfl) (ed_tup (ds := []) ea_nil (by decide)) (shaped_ints _) shaped_nilT)) (by unfold numD; rw [eqv_nilT, isEmpty_nI])) (fun hb => ?_) (fun hb => ?_)
  · have e : ns = [] := List.isEmpty_iff.mp hb
    subst e
    rw [if_pos rfl] at hm
    cases hD : dividingM [] with
    | none => rw [hD] at hm; cases hm
    | some q =>
      rw [hD] at hm
      cases hm
      exact sd_ret (ed_tup (ds := [numD [], optR q]) (ea_cons (ed_tup (ds := []) ea_nil (by decide)) (ea_cons (ed_dividing (ns := []) (ed_tup (ds := []) ea_nil (by decide)) (.inl rfl) hn hD) ea_nil)) (by simp)) rfl
  · have hne : ns ≠ [] := fun z => by subst z; cases hb
    rw [if_neg hne] at hm
    have hmin := hn.b _ (minL_mem hne)
    refine sd_seq (sd_range2 (m := 1) (n := ((minL ns : Nat) : Int) + 1) (ea_cons ed_int (ea_cons (ed_add (ed_minN (ns := ns) (ed_var rfl) hne) ed_int) ea_nil)) (by omega) (fun k δ' => smallGo ns (((List.range (minL ns)).map (· + 1)).drop k) = some res ∧ ∃ c1 c2, δ' = [.d (numD ns), c1, c2, .u]) ⟨hm, .u, .u, rfl⟩ ?_ (N := fun δ' => res = none) ?_) ?_
    · rintro k δ' hk ⟨hG, c1, c2, rfl⟩
      have hkl : k < minL ns := by omega
      have e1 : (1 : Int) + (k : Int) = ((k + 1 : Nat) : Int) := by omega
      rw [e1]
      have hdrop : ((List.range (minL ns)).map (· + 1)).drop k = (k + 1) :: ((List.range (minL ns)).map (· + 1)).drop (k + 1) := by
        rw [List.drop_eq_getElem_cons (by rw [List.length_map, List.length_range]; exact hkl)]
        congr 1
        rw [List.getElem_map, List.getElem_range]
      rw [hdrop] at hG
      have hok := made_ok hn (f := k + 1) (by omega) (by omega)
      unfold smallGo at hG
      refine sq_asg (d := numD (ns.map (dbl 50 (k + 1)))) (ed_tupL (el_map (ds := (nI ns).map .int) ((nI (ns.map (dbl 50 (k + 1)))).map .int) (ed_var rfl) (.inl rfl) (.inr (lfAll_ints _)) (by rw [nI_len]; omega) (by rw [nI_len, nI_len, List.length_map]) (lfAll_ints _) fun j d y hj hy => ?_)) (.inr (lf_num _)) ?_
      · obtain ⟨x, hx, rfl⟩ := mem_nI hj
        obtain ⟨z, hz, rfl⟩ := mem_nI hy
        rw [List.getElem?_map, hx] at hz
        have e : z = dbl 50 (k + 1) x := (Option.some.inj hz).symm
        subst e
        have := hn.b x (List.mem_of_getElem? hx)
        exact ed_call (ea_cons (ed_var rfl) (ea_cons (ed_var rfl) ea_nil)) ⟨k + 1, x, rfl, by omega, by omega, rfl⟩
      refine sd_if (b := room (ns.map (dbl 50 (k + 1)))) (td_B (ed_has_room (ed_var rfl) (.inl rfl) hok)) (fun hb2 => ?_) (fun hb2 => ?_)
      · rw [if_pos hb2] at hG
        cases hD : dividingM (ns.map (dbl 50 (k + 1))) with
        | none => rw [hD] at hG; cases hG
        | some q =>
          rw [hD] at hG
          cases hG
          exact sd_ret (ed_tup (ds := [numD (ns.map (dbl 50 (k + 1))), optR q]) (ea_cons (ed_var rfl) (ea_cons (ed_dividing (ed_var rfl) (.inl rfl) hok hD) ea_nil)) (by simp)) rfl
      · rw [if_neg (by rw [hb2]; exact Bool.false_ne_true)] at hG
        exact sd_next ⟨hG, _, _, rfl⟩
    · rintro δ' ⟨hG, _⟩
      have e : (((minL ns : Nat) : Int) + 1 - 1).toNat = ((List.range (minL ns)).map (· + 1)).length := by rw [List.length_map, List.length_range]; omega
      rw [e, List.drop_length] at hG
      cases hG
      rfl
    · rintro δ' rfl
      exact sd_ret ed_non rfl
abbrev st_smaller_to_two : Stmt := topS 105
theorem sc_smaller_to_two : FnScope ["numbers", "high", "made", "number"] ["numbers"] (defScope st_smaller_to_two) := ⟨rfl, rfl, rfl, by decide +kernel, rfl, by decide +kernel, by decide +kernel⟩
theorem ok_smaller_to_two (F : Fun K "smaller_to_two" "smaller_to_two" st_smaller_to_two f fd) (T : Bl mg) (c_asked_numbers : Cal P w K mg base 3 "asked_numbers" (spG K G_asked_numbers)) (c_two_alone : Cal P w K mg base 6 "two_alone" (spG K G_two_alone)) (c_has_room : Cal P w K mg base 5 "has_room" (spG K G_has_room)) : FnOk P w K mg base CX0 7 f fd ["numbers"] (spG K G_smaller_to_two) := by
  refine okG F sc_smaller_to_two (fun ds r ⟨_, _, _, h, _⟩ => by rw [h]; rfl) fun cdv A outer s H E hr => ⟨_, (pss_cons (ps_set (i := 0) sc_smaller_to_two.nd rfl (Or.inl rfl) (pe_cl c_asked_numbers hr (by decide) (by rfl) (pa_cons (pv 0) pa_nil))) (pss_cons (ps_if (pt_cmpR (op_eqD hr.units) (pv 0) (pe_tup pa_nil) (nomark _)) (pss_one (ps_ret (pe_tup (pa_cons (pe_tup pa_nil) (pa_cons (pe_cl c_two_alone hr (by decide) (by rfl) (pa_cons (pe_tup pa_nil) pa_nil)) pa_nil))))) pss_nil) (pss_cons (ps_for PassesOwn.never rfl (pi_seq (pe_callB (cr_sortedSet rfl) (by rfl) T.sorted bt_sorted (pa_cons (pe_callTy (cr_setI rfl) (by rfl) T.set bt_set (pa_cons (pv 0) pa_nil)) pa_nil))) (pg_name (i := 1) sc_smaller_to_two.nd rfl (Or.inl rfl)) (pss_cons (ps_set (i := 2) sc_smaller_to_two.nd rfl (Or.inl rfl) (pe_lst pa_nil)) (pss_cons (ps_for PassesOwn.never rfl (pi_seq (pv 0)) (pg_name (i := 3) sc_smaller_to_two.nd rfl (Or.inl rfl)) (pss_one (ps_if (pt_cmpR op_lt (pv 3) (pv 1) (nomark _)) (pss_one (ps_expr (pe_bm PySem.F.plainAttrs_list PySem.F.slot_list_append PySem.F.type_list_append mt_append (pv 2) (pa_cons (pe_callB (cr_minT rfl hr.units) (by rfl) T.min bt_min (pa_cons (pv 0) pa_nil)) pa_nil)))) (pss_one (ps_expr (pe_bm PySem.F.plainAttrs_list PySem.F.slot_list_append PySem.F.type_list_append mt_append (pv 2) (pa_cons (pv 1) pa_nil))))))) (pss_one (ps_if (pt_val (pe_cl c_has_room hr (by decide) (by rfl) (pa_cons (pv 2) pa_nil))) (pss_one (ps_ret (pe_tup (pa_cons (pe_callTy cw_tup (by rfl) T.tuple bt_tuple (pa_cons (pv 2) pa_nil)) (pa_cons (pe_cl c_two_alone hr (by decide) (by rfl) (pa_cons (pv 2) pa_nil)) pa_nil))))) pss_nil))))) (pss_one (ps_ret pe_non))))), fun ds r h => ?_⟩
  obtain ⟨d, ns, res, rfl, hd, hn, hm, rfl⟩ := h
  have hl := hn.len
  show Sd K _ [.d d, .u, .u, .u] _ _
  refine sq_asg (d := numD ns) (ed_asked_numbers (ed_var rfl) hd hn.ok) (.inl rfl) ?_
  unfold lowerM at hm
  refine sq_when (b := ns.isEmpty) (Td.is (td_test (ed_eq (ed_var rfl) (ed_tup (ds := []) ea_nil (by decide)) (shaped_ints _) shaped_nilT)) (by unfold numD; rw [eqv_nilT, isEmpty_nI])) (fun hb => ?_) (fun hb => ?_)
  · have e : ns = [] := List.isEmpty_iff.mp hb
    subst e
    rw [if_pos rfl] at hm
    cases hD : twoM [] with
    | none => rw [hD] at hm; cases hm
    | some q =>
      rw [hD] at hm
      cases hm
      exact sd_ret (ed_tup (ds := [numD [], optR q]) (ea_cons (ed_tup (ds := []) ea_nil (by decide)) (ea_cons (ed_two_alone (ns := []) (ed_tup (ds := []) ea_nil (by decide)) (.inl rfl) hn hD) ea_nil)) (by simp)) rfl
  · have hne : ns ≠ [] := fun z => by subst z; cases hb
    rw [if_neg hne] at hm
    refine sd_seq (sd_forL (ds := (nI (sortD ns)).map .int) (el_sortedSet (ns := nI ns) (ms := nI (sortD ns)) (ed_var rfl) (by unfold nI; rw [List.length_map]; omega) (sortD_int ns) (nI_memI fun x => sortD_mem x ns)) (.inr (lfAll_ints _)) (fun k δ' => lowGo ns ((sortD ns).drop k) = some res ∧ ∃ c1 c2 c3, δ' = [.d (numD ns), c1, c2, c3]) ⟨hm, .u, .u, .u, rfl⟩ ?_ (N := fun δ' => res = none) ?_) ?_
    · rintro k d' δ' hk ⟨hG, c1, c2, c3, rfl⟩
      obtain ⟨h, hh, rfl⟩ := mem_nI hk
      have hhn : h ∈ ns := (sortD_mem h ns).mp (List.mem_of_getElem? hh)
      have hok := low_ok hn hhn
      have hdrop : (sortD ns).drop k = h :: (sortD ns).drop (k + 1) := by
        have hkl := (List.getElem?_eq_some_iff.mp hh).1
        rw [List.drop_eq_getElem_cons hkl]
        congr 1
        exact (List.getElem?_eq_some_iff.mp hh).2
      rw [hdrop] at hG
      unfold lowGo at hG
      refine ⟨.inr rfl, ?_⟩
      refine sq_asgL (xs := []) (el_lst ea_nil) rfl fun p => ?_
      refine sd_seq (sd_for (ds := (nI ns).map .int) (ed_var rfl) (.inl rfl) (.inr (lfAll_ints _)) (fun j δ' => ∃ c3, δ' = [.d (numD ns), .d (.int (h : Int)), .m p ((nI (lowM' ns h (ns.take j))).map .int), c3]) ⟨c3, by rw [List.take_zero]; rfl⟩ ?_ (N := fun δ' => ∃ c3, δ' = [.d (numD ns), .d (.int (h : Int)), .m p ((nI (lowM ns h)).map .int), c3]) ?_) ?_
      · rintro j d' δ' hj ⟨c3, rfl⟩
        obtain ⟨n, hn', rfl⟩ := mem_nI hj
        have hjl := (List.getElem?_eq_some_iff.mp hn').1
        have happ : lowM' ns h (ns.take (j + 1)) = lowM' ns h (ns.take j) ++ [if n < h then minL ns else h] := by
          unfold lowM'
          rw [List.take_add_one, hn', List.map_append]
          rfl
        have hlen : (lowM' ns h (ns.take j)).length ≤ 3 := by
          unfold lowM'
          rw [List.length_map, List.length_take]
          omega
        refine ⟨.inr rfl, ?_⟩
        show Sd K _ [.d (numD ns), .d (.int (h : Int)), .m p ((nI (lowM' ns h (ns.take j))).map .int), .d (.int (n : Int))] _ _
        refine sd_if (b := decide (n < h)) (Td.is (td_test (ed_lt (ed_var rfl) (ed_var rfl))) (decide_eq_decide.mpr (by omega))) (fun hb2 => ?_) (fun hb2 => ?_)
        · refine sd_app (i := 2) (p := p) (xs := (nI (lowM' ns h (ns.take j))).map .int) rfl (ed_minN (ns := ns) (ed_var rfl) hne) rfl (lfAll_ints _) (by rw [nI_len]; omega) ⟨.d (.int (n : Int)), ?_⟩
          rw [happ, if_pos (of_decide_eq_true hb2), nI_append, List.map_append]; rfl
        · refine sd_app (i := 2) (p := p) (xs := (nI (lowM' ns h (ns.take j))).map .int) rfl (ed_var rfl) rfl (lfAll_ints _) (by rw [nI_len]; omega) ⟨.d (.int (n : Int)), ?_⟩
          rw [happ, if_neg (of_decide_eq_false hb2), nI_append, List.map_append]; rfl
      · rintro δ' ⟨c3, rfl⟩
        rw [nI_len, List.take_length]
        exact ⟨c3, rfl⟩
      · rintro δ' ⟨c3, rfl⟩
        refine sd_if (b := room (lowM ns h)) (td_B (ed_has_room (ed_varm rfl) (.inr rfl) hok)) (fun hb2 => ?_) (fun hb2 => ?_)
        · rw [if_pos hb2] at hG
          cases hD : twoM (lowM ns h) with
          | none => rw [hD] at hG; cases hG
          | some q =>
            rw [hD] at hG
            cases hG
            exact sd_ret (ed_tup (ds := [numD (lowM ns h), optR q]) (ea_cons (ed_tupOf (ed_varm rfl) (.inr rfl)) (ea_cons (ed_two_alone (ed_varm rfl) (.inr rfl) hok hD) ea_nil)) (by simp)) rfl
        · rw [if_neg (by rw [hb2]; exact Bool.false_ne_true)] at hG
          exact sd_next ⟨hG, _, _, _, rfl⟩
    · rintro δ' ⟨hG, _⟩
      rw [nI_len, List.drop_length] at hG
      cases hG
      rfl
    · rintro δ' rfl
      exact sd_ret ed_non rfl
abbrev st_at_once : Stmt := topS 106
theorem sc_at_once : FnScope ["numbers", "ring", "found"] ["numbers"] (defScope st_at_once) := ⟨rfl, rfl, rfl, by decide +kernel, rfl, by decide +kernel, by decide +kernel⟩
theorem ok_at_once (F : Fun K "at_once" "at_once" st_at_once f fd) (T : Bl mg) (c_two_alone : Cal P w K mg base 6 "two_alone" (spG K G_two_alone)) (c_dividing : Cal P w K mg base 6 "dividing" (spG K G_dividing)) (c_smaller_to_two : Cal P w K mg base 7 "smaller_to_two" (spG K G_smaller_to_two)) (c_smaller : Cal P w K mg base 7 "smaller" (spG K G_smaller)) : FnOk P w K mg base CX0 8 f fd ["numbers"] (spG K G_at_once) := by
  refine okG F sc_at_once (fun ds r ⟨_, _, _, h, _⟩ => by rw [h]; rfl) fun cdv A outer s H E hr => ⟨_, (pss_cons (ps_for PassesOwn.never rfl (pi_seq (pe_lst (pa_cons (pe_cl c_dividing hr (by decide) (by rfl) (pa_cons (pv 0) pa_nil)) (pa_cons (pe_cl c_two_alone hr (by decide) (by rfl) (pa_cons (pv 0) pa_nil)) pa_nil)))) (pg_name (i := 1) sc_at_once.nd rfl (Or.inl rfl)) (pss_one (ps_if (pt_cmpR ow_notN (pv 1) pe_non (nomark _)) (pss_one (ps_ret (pv 1))) pss_nil))) (pss_cons (ps_for PassesOwn.never rfl (pi_seq (pe_lst (pa_cons (pe_cl c_smaller hr (by decide) (by rfl) (pa_cons (pv 0) pa_nil)) (pa_cons (pe_cl c_smaller_to_two hr (by decide) (by rfl) (pa_cons (pv 0) pa_nil)) pa_nil)))) (pg_name (i := 2) sc_at_once.nd rfl (Or.inl rfl)) (pss_one (ps_if (pt_cmpR ow_notN (pv 2) pe_non (nomark _)) (pss_one (ps_ret (pe_ix ix_seq (pv 2) pe_int (fun _ _ => rfl)))) pss_nil))) (pss_one (ps_ret pe_non)))), fun ds r h => ?_⟩
  obtain ⟨d, ns, res, rfl, hd, hn, hm, rfl⟩ := h
  obtain ⟨a, b, hA, hB, hc⟩ := at_cases hm
  show Sd K _ [.d d, .u, .u] _ _
  refine sd_seq (sd_forL (ds := [optR a, optR b]) (el_lst (ea_cons (ed_dividing (ed_var rfl) hd hn hA) (ea_cons (ed_two_alone (ed_var rfl) hd hn hB) ea_nil)) (by simp)) (.inl rfl) (fun k δ' => (1 ≤ k → a = none) ∧ (2 ≤ k → b = none) ∧ ∃ c1, δ' = [.d d, c1, .u]) ⟨fun z => by omega, fun z => by omega, .u, rfl⟩ ?_ (N := fun δ' => a = none ∧ b = none ∧ ∃ c1, δ' = [.d d, c1, .u]) ?_) ?_
  · rintro k x δ' hk ⟨h1, h2, c1, rfl⟩
    match k, hk, h1, h2 with
    | 0, hk, h1, h2 =>
      have e : x = optR a := (Option.some.inj hk).symm
      subst e
      refine ⟨.inr (lf_optR a), ?_⟩
      refine sd_if (b := !isNo (optR a)) (td_test (ed_notN (ed_var rfl) ed_non)) (fun hb => ?_) (fun hb => ?_)
      · have e : optR a = optR res := by
          rcases hc with ⟨r, rfl, rfl⟩ | ⟨rfl, _⟩ | ⟨rfl, _⟩
          · rfl
          · cases hb
          · cases hb
        exact sd_ret (ed_var rfl) (by rw [e])
      · have e : a = none := optR_none (by cases h : isNo (optR a) with | true => rfl | false => rw [h] at hb; cases hb)
        exact sd_next ⟨fun _ => e, fun z => by omega, _, rfl⟩
    | 1, hk, h1, h2 =>
      have e : x = optR b := (Option.some.inj hk).symm
      subst e
      have ha := h1 (by omega)
      subst ha
      refine ⟨.inr (lf_optR b), ?_⟩
      refine sd_if (b := !isNo (optR b)) (td_test (ed_notN (ed_var rfl) ed_non)) (fun hb => ?_) (fun hb => ?_)
      · have e : optR b = optR res := by
          rcases hc with ⟨r, z, _⟩ | ⟨_, r, rfl, rfl⟩ | ⟨_, rfl, _⟩
          · cases z
          · rfl
          · cases hb
        exact sd_ret (ed_var rfl) (by rw [e])
      · have e : b = none := optR_none (by cases h : isNo (optR b) with | true => rfl | false => rw [h] at hb; cases hb)
        exact sd_next ⟨fun _ => rfl, fun _ => e, _, rfl⟩
    | k + 2, hk, h1, h2 => simp at hk
  · rintro δ' ⟨h1, h2, c1, rfl⟩
    exact ⟨h1 (by simp), h2 (by simp), c1, rfl⟩
  · rintro δ' ⟨rfl, rfl, c1, rfl⟩
    have hc' : ∃ s l, smallerM ns = some s ∧ lowerM ns = some l ∧ ((∃ p, s = some p ∧ res = p.2) ∨ (s = none ∧ ∃ p, l = some p ∧ res = p.2) ∨ (s = none ∧ l = none ∧ res = none)) := by
      rcases hc with ⟨r, z, _⟩ | ⟨_, r, z, _⟩ | ⟨_, _, h⟩
      · cases z
      · cases z
      · exact h
    obtain ⟨s1, l1, hS, hL, hr1⟩ := hc'
    refine sd_seq (sd_forL (ds := [optP s1, optP l1]) (el_lst (ea_cons (ed_call (d := optP s1) (ea_cons (ed_var rfl) ea_nil) ⟨d, ns, s1, rfl, hd, hn, hS, rfl⟩) (ea_cons (ed_call (d := optP l1) (ea_cons (ed_var rfl) ea_nil) ⟨d, ns, l1, rfl, hd, hn, hL, rfl⟩) ea_nil)) (by simp)) (.inr (by show (lf (optP s1) && (lf (optP l1) && true)) = true; rw [lf_optP, lf_optP]; rfl)) (fun k δ' => (1 ≤ k → s1 = none) ∧ (2 ≤ k → l1 = none) ∧ ∃ c2, δ' = [.d d, c1, c2]) ⟨fun z => by omega, fun z => by omega, .u, rfl⟩ ?_ (N := fun δ' => s1 = none ∧ l1 = none ∧ ∃ c2, δ' = [.d d, c1, c2]) ?_) ?_
    · rintro k x δ' hk ⟨h1, h2, c2, rfl⟩
      match k, hk, h1, h2 with
      | 0, hk, h1, h2 =>
        have e : x = optP s1 := (Option.some.inj hk).symm
        subst e
        refine ⟨.inr (lf_optP s1), ?_⟩
        refine sd_if (b := !isNo (optP s1)) (td_test (ed_notN (ed_var rfl) ed_non)) (fun hb => ?_) (fun hb => ?_)
        · rcases hr1 with ⟨p, rfl, rfl⟩ | ⟨rfl, _⟩ | ⟨rfl, _⟩
          · exact sd_ret (ed_at (ds := [numD p.1, optR p.2]) (ed_var rfl) (by rfl)) rfl
          · cases hb
          · cases hb
        · have e : s1 = none := optP_none (by cases h : isNo (optP s1) with | true => rfl | false => rw [h] at hb; cases hb)
          exact sd_next ⟨fun _ => e, fun z => by omega, _, rfl⟩
      | 1, hk, h1, h2 =>
        have e : x = optP l1 := (Option.some.inj hk).symm
        subst e
        have ha := h1 (by omega)
        subst ha
        refine ⟨.inr (lf_optP l1), ?_⟩
        refine sd_if (b := !isNo (optP l1)) (td_test (ed_notN (ed_var rfl) ed_non)) (fun hb => ?_) (fun hb => ?_)
        · rcases hr1 with ⟨p, z, _⟩ | ⟨_, p, rfl, rfl⟩ | ⟨_, rfl, _⟩
          · cases z
          · exact sd_ret (ed_at (ds := [numD p.1, optR p.2]) (ed_var rfl) (by rfl)) rfl
          · cases hb
        · have e : l1 = none := optP_none (by cases h : isNo (optP l1) with | true => rfl | false => rw [h] at hb; cases hb)
          exact sd_next ⟨fun _ => rfl, fun _ => e, _, rfl⟩
      | k + 2, hk, h1, h2 => simp at hk
    · rintro δ' ⟨h1, h2, c2, rfl⟩
      exact ⟨h1 (by simp), h2 (by simp), c2, rfl⟩
    · rintro δ' ⟨rfl, rfl, c2, rfl⟩
      have e : res = none := by
        rcases hr1 with ⟨p, z, _⟩ | ⟨_, p, z, _⟩ | ⟨_, _, h⟩
        · cases z
        · cases z
        · exact h
      subst e
      exact sd_ret ed_non rfl
end
section
variable {K : PySem.W.Frag} {δ : List Cell} {ta tb tc : TE} {d : PyData}
theorem ed_at_once {ns : List Nat} {res : Option Ring} (h1 : Ed K ta δ d) (hd : Ints d (nI ns)) (hn : N8 ns) (hm : atOnceM ns = some res) : Ed K (tCall (spG K G_at_once) [] E0 (tCons ta tNil)) δ (optR res) := ed_call (ea_cons h1 ea_nil) ⟨d, ns, res, rfl, hd, hn, hm, rfl⟩
end
end WD

namespace WD
open PySem PySem.Spec PyProof.Rows L2 WM
local macro_rules | `(tactic| walk_at "ed") => `(tactic| repeat' (first
  | exact ed_int | exact ed_bl | exact ed_non | exact ed_str
  | exact ed_var rfl | exact ed_varm rfl
  | refine' ed_add ?_ ?_ | refine' ed_sub ?_ ?_ | refine' ed_lt ?_ ?_ | refine' ed_le ?_ ?_ | refine' ed_gt ?_ ?_ | refine' ed_ge ?_ ?_
  | refine' ed_mul ?_ ?_ ?_ | refine' ed_fdiv ?_ ?_ ?_ | refine' ed_mod ?_ ?_ ?_
  | refine' ed_eq ?_ ?_ ?_ ?_ | refine' ed_ne ?_ ?_ ?_ ?_ | refine' ed_isN ?_ ?_ | refine' ed_notN ?_ ?_ | refine' ed_isB ?_ ?_
  | refine' ed_in ?_ ?_ ?_ | refine' ed_notIn ?_ ?_ ?_ | refine' ed_ix ?_ ?_ ?_ ?_
  | refine' ed_catT ?_ ?_ ?_ | refine' ed_repT ?_ ?_ ?_ ?_ ?_ ?_
  | refine' td_test ?_ | refine' td_B ?_ | refine' td_not ?_ | refine' td_and ?_ (fun _ => ?_) | refine' td_or ?_ (fun _ => ?_)
  | refine' ed_andV ?_ (fun _ => ?_) | refine' ed_orV ?_ (fun _ => ?_) | refine' ed_notV ?_
  | refine' ed_chain ?_ ?_ ?_
  | exact ea_nil | refine' ea_cons ?_ ?_ | refine' ed_tup ?_ ?_
  | refine' ed_lenT ?_ | refine' ed_lenL ?_ | refine' ed_tupL ?_ | refine' ed_intB ?_ | refine' ed_min2 ?_ ?_
  | refine' ed_isi2 ?_ ?_ ?_ | refine' ed_isi ?_ ?_
  | exact kb_ii | exact kb_ib | exact kb_ll | exact kb_lt | exact kb_tl | exact kb_tt | exact kb_il | exact kb_it | exact kb_sl | exact kb_st | exact kb_ss
  | exact eo_none | refine' eo_some ?_ | refine' ed_slT ?_ ?_ ?_
  | exact shaped_nilL | exact shaped_nilT | exact shaped_int _ | exact shaped_ints _ | exact shaped_intsL _))


/-! ### new lists of which something is known; expressions that change a list of their own -/
def EdLP (K : PySem.W.Frag) (te : TE) (δ : List Cell) (P : List PyData → Prop) : Prop := ∀ (B : Hp) (σ : L2.St) (H : Hp), Env K B H δ σ → ∀ Q : VK, (∀ xs p vs H', P xs → H p = none → Same H H' → H' p = some (.lst vs) → DpAll K H' vs xs → Q (.ref p) H') → te σ H Q
def Em (K : PySem.W.Frag) (te : TE) (δ : List Cell) (P : PyData → List Cell → Prop) : Prop := ∀ (B : Hp) (σ : L2.St) (H : Hp), Env K B H δ σ → ∀ Q : VK, (∀ d δ' v H', P d δ' → Env K B H' δ' σ → Dp K H' v d → Q v H') → te σ H Q
section
variable {K : PySem.W.Frag} {δ : List Cell} {ta tb tc te : TE} {t u : TS} {N : List Cell → Prop} {R : Res → List Cell → Prop} {x d : PyData} {ds : List PyData} {i j : Nat}
theorem elp_call {G : List PyData → (Res → Prop) → Prop} {W : Res → Prop} {P : List PyData → Prop} {t : TA} (h : EdA K t δ ds) (hg : G ds W) (hp : ∀ r, W r → ∃ xs, r = .l xs ∧ P xs) : EdLP K (tCall (spW K G) [] E0 t) δ P := fun B σ H e Q q =>
  h B σ H e _ fun vs H1 s1 h1 => ⟨ds, W, by rw [List.append_nil]; exact h1, hg, fun r v H2 hw s2 ro => by
    obtain ⟨xs, rfl, hx⟩ := hp r hw
    obtain ⟨p, ws, e1, n, hp2, hv⟩ := ro
    exact e1 ▸ q xs p ws H2 hx (s1.free n) (s1.trans s2) hp2 hv⟩
theorem sq_asgLP {P : List PyData → Prop} (h : EdLP K te δ P) (k : ∀ p xs, P xs → lfAll xs = true ∧ Sd K u (δ.set i (.m p xs)) N R) : Sd K (tSeq (tAsg te (gName i)) u) δ N R :=
  sd_seq (M := fun δ' => ∃ p xs, P xs ∧ δ' = δ.set i (.m p xs)) (fun B σ H D e hn hr =>
    h B σ H e _ fun xs p vs H' hx n s hp hv => hn _ _ _ ⟨p, xs, hx, rfl⟩ (e.set_m i s n hp hv (k p xs hx).1)) fun δ' ⟨p, xs, hx, e⟩ => e ▸ (k p xs hx).2
theorem em_pop {p : Addr} {xs : List PyData} (hi : δ[i]? = some (.m p xs)) (hl : xs[xs.length - 1]? = some d) (hx : lfAll xs = true) : Em K (tBM0 K "list" rPop (tVar i)) δ fun z δ' => z = d ∧ δ' = δ.set i (.m p xs.dropLast) := fun B σ H e Q q =>
  pop_at hi hl hx e fun v H' e' hd => q d _ v H' ⟨rfl, rfl⟩ e' hd
theorem em_mod {P : PyData → List Cell → Prop} {c : Int} (h : Em K ta δ P) (hc : 0 < c) (hp : ∀ z δ', P z δ' → ∃ n : Int, z = .int n) : Em K (tOp (rI (fun _ j => 0 < j) fun i j => .int (i % j)) ta (tC (.int c))) δ fun z δ' => ∃ n : Int, P (.int n) δ' ∧ z = .int (n % c) := fun B σ H e Q q =>
  h B σ H e _ fun z δ' v H' hz e' hv => by
    obtain ⟨n, rfl⟩ := hp z δ' hz
    cases hv
    exact ⟨n, c, rfl, rfl, hc, q _ δ' _ H' ⟨n, hz, rfl⟩ e' (.int _)⟩
theorem em_addC {P : PyData → List Cell → Prop} {c : Int} (h : Em K tb δ P) (hp : ∀ z δ', P z δ' → ∃ n : Int, z = .int n) : Em K (tOp (rI0 fun i j => .int (i + j)) (tC (.int c)) tb) δ fun z δ' => ∃ n : Int, P (.int n) δ' ∧ z = .int (c + n) := fun B σ H e Q q =>
  h B σ H e _ fun z δ' v H' hz e' hv => by
    obtain ⟨n, rfl⟩ := hp z δ' hz
    cases hv
    exact ⟨c, n, rfl, rfl, q _ δ' _ H' ⟨n, hz, rfl⟩ e' (.int _)⟩
theorem sq_asgM {P : PyData → List Cell → Prop} (h : Em K te δ P) (k : ∀ z δ', P z δ' → lf z = true ∧ Sd K u (δ'.set i (.d z)) N R) : Sd K (tSeq (tAsg te (gName i)) u) δ N R :=
  sd_seq (M := fun δ'' => ∃ z δ', P z δ' ∧ δ'' = δ'.set i (.d z)) (fun B σ H D e hn hr =>
    h B σ H e _ fun z δ' v H' hz e' hv => hn _ _ _ ⟨z, δ', hz, rfl⟩ (e'.set_d i hv (.inr (k z δ' hz).1))) fun δ'' ⟨z, δ', hz, e⟩ => e ▸ (k z δ' hz).2
/-- a, b = x, y where x and y change lists of their own -/
theorem sq_parM {P : PyData → List Cell → Prop} {P' : PyData → List Cell → PyData → List Cell → Prop} (ha : Em K ta δ P) (hl : ∀ z δ', P z δ' → lf z = true ∧ Em K tb δ' (P' z δ')) (k : ∀ z δ' z' δ'', P z δ' → P' z δ' z' δ'' → lf z' = true ∧ Sd K u ((δ''.set i (.d z)).set j (.d z')) N R) : Sd K (tSeq (tPar i j (tCons ta (tCons tb tNil))) u) δ N R :=
  sd_seq (M := fun δ3 => ∃ z δ' z' δ'', P z δ' ∧ P' z δ' z' δ'' ∧ δ3 = (δ''.set i (.d z)).set j (.d z')) (fun B σ H D e hn hr =>
    ha B σ H e _ fun z δ' v H1 hz e1 hv => by
      obtain ⟨hl1, hb⟩ := hl z δ' hz
      refine hb (off H1 (muts δ')) σ H1 e1.ground _ fun z' δ'' v' H2 hz' e2 hv' => ⟨v, v', rfl, ?_⟩
      have hl2 := (k z δ' z' δ'' hz hz').1
      have hv2 : Dp K H2 v z := dp_same e2.ex _ _ (dp_off (muts_lists e1.ok) _ _ hl1 hv)
      refine hn _ _ _ ⟨z, δ', z', δ'', hz, hz', rfl⟩ ?_
      exact ((e2.set_d i hv2 (.inr hl1)).set_d j hv' (.inr hl2)).reground e1.unground) fun δ3 ⟨z, δ', z', δ'', hz, hz', e⟩ => e ▸ (k z δ' z' δ'' hz hz').2
theorem sd_range1M {P : PyData → List Cell → Prop} (h : Em K te δ P) (I : Nat → List Cell → Prop) (M : Int → Prop) (h0 : ∀ z δ', P z δ' → ∃ n : Int, z = .int n ∧ -(2 ^ 62) ≤ n ∧ n < 2 ^ 62 ∧ M n ∧ I 0 δ')
    (hs : ∀ (n : Int) (k : Nat) δ', M n → (k : Int) < n → I k δ' → Sd K t (δ'.set i (.d (.int (k : Int)))) (I (k + 1)) R) (hd : ∀ (n : Int) δ', M n → I n.toNat δ' → N δ') : Sd K (tFor (iRng1 (tCons te tNil)) (gName i) t) δ N R := fun B σ H D e hn hr =>
  h B σ H e _ fun z δ' v H1 hz e1 hv => by
    obtain ⟨n, rfl, h1, h2, hm, hi0⟩ := h0 z δ' hz
    cases hv
    refine ⟨n, rfl, h1, h2, for_range (lo := 0) (n := n.toNat) (fun k σ' H' => ∃ δ', I k δ' ∧ Env K B H' δ' σ') ⟨δ', hi0, e1⟩ (fun k σ' H' hk ⟨δ', hi, e'⟩ => ?_) (fun σ' H' ⟨δ', hi, e'⟩ => hn _ _ _ (hd n _ hm hi) e')⟩
    have ek : (0 : Int) + (k : Int) = (k : Int) := Int.zero_add _
    rw [ek]
    exact hs n k δ' hm (by omega) hi _ _ H' _ (e'.set_d i (.int _) (.inr rfl)) (fun δ'' σ'' H'' n e'' => ⟨δ'', n, e''⟩) hr
theorem at_int {ns : List Int} {j : Nat} (h : j < ns.length) : atI (ns.map PyData.int) (j : Int) = some (.int (ns.getD j 0)) := by
  refine atI_nat ?_
  rw [List.getD_eq_getElem?_getD, List.getElem?_map, List.getElem?_eq_getElem h]
  rfl
end

def G_law_deck : List PyData → (Res → Prop) → Prop := fun ds W => ∃ ns : List Int, ds = [.list (ns.map .int), .int 40] ∧ ns.length ≤ 63 ∧ ∀ ms : List Int, ms.length = 40 → W (.l (ms.map .int))
def G_law_lack : List PyData → Res → Prop := fun ds r => ∃ ns q, ds = [numD ns, ringD q] ∧ Fit ns q ∧ Keeps ns q ∧ r = .d .none
def G_law_is_kept : List PyData → Res → Prop := fun ds r => ∃ ns q, ds = [numD ns, ringD q] ∧ Fit ns q ∧ Keeps ns q ∧ r = .d (.bool true)
section
variable {P : Program} {w : World} {K : PySem.W.Frag} {mg : Str → Option Value} {base : Heap} {f : Addr} {fd : FuncData}
abbrev st_law_deck : Stmt := topS 108
theorem sc_law_deck : FnScope ["_law_script", "_law_many", "_law_row", "_law_odd", "_law_deck_here", "_law_k", "_law_at", "_law_one"] ["_law_script", "_law_many"] (defScope st_law_deck) := ⟨rfl, rfl, rfl, by decide +kernel, rfl, by decide +kernel, by decide +kernel⟩
theorem ok_law_deck (F : Fun K "_law_deck" "_law_deck" st_law_deck f fd) (T : Bl mg) : FnOk P w K mg base CX0 1 f fd ["_law_script", "_law_many"] (spW K G_law_deck) := by
  refine okW F sc_law_deck (fun ds r ⟨_, h, _⟩ => by rw [h]; rfl) fun cdv A outer s H E hr => ⟨_, (pss_cons (ps_set (i := 2) sc_law_deck.nd rfl (Or.inl rfl) (pe_callTy cw_lst (by rfl) T.list bt_list (pa_cons (pv 0) pa_nil))) (pss_cons (ps_if (pt_cmpR (op_eqD hr.units) (pv 2) (pe_lst pa_nil) (nomark _)) (pss_one (ps_set (i := 2) sc_law_deck.nd rfl (Or.inl rfl) (pe_lst (pa_cons pe_int pa_nil)))) pss_nil) (pss_cons (ps_set (i := 3) sc_law_deck.nd rfl (Or.inl rfl) (pe_op op_mod (pe_ix ix_seq (pv 2) pe_int (fun _ _ => rfl)) pe_int)) (pss_cons (ps_asg (pe_op op_fdiv (pe_ix ix_seq (pv 2) pe_int (fun _ _ => rfl)) pe_int) (pg_sub (pv 2) pe_int set_list)) (pss_cons (ps_set (i := 4) sc_law_deck.nd rfl (Or.inl rfl) (pe_lst pa_nil)) (pss_cons (ps_for PassesOwn.never rfl (pi_range1 (by rfl) T.range (pa_cons (pv 1) pa_nil)) (pg_name (i := 5) sc_law_deck.nd rfl (Or.inl rfl)) (pss_cons (ps_set (i := 6) sc_law_deck.nd rfl (Or.inl rfl) (pe_op op_mod (pv 5) (pe_callB cw_len (by rfl) T.len bt_len (pa_cons (pv 2) pa_nil)))) (pss_cons (ps_set (i := 7) sc_law_deck.nd rfl (Or.inl rfl) (pe_op op_mod (pe_ix ix_seq (pv 2) (pv 6) (fun _ _ => rfl)) pe_int)) (pss_cons (ps_if (pt_cmpR (op_eqD hr.units) (pv 3) pe_int (nomark _)) (pss_cons (ps_set (i := 7) sc_law_deck.nd rfl (Or.inl rfl) (pe_op op_mod (pe_op op_add (pe_op op_add (pe_ix ix_seq (pv 2) (pv 6) (fun _ _ => rfl)) (pe_op op_mul (pe_op op_mul (pv 5) (pv 5)) pe_int)) (pe_op op_mul pe_int (pv 5))) pe_int)) (pss_cons (ps_set (i := 7) sc_law_deck.nd rfl (Or.inl rfl) (pe_op op_mod (pe_op op_add (pe_op op_mul (pv 7) (pe_ix ix_seq (pe_lst (pa_cons pe_int (pa_cons pe_int (pa_cons pe_int (pa_cons pe_int pa_nil))))) (pe_op op_mod (pv 5) pe_int) (fun _ _ => rfl))) pe_int) pe_int)) (pss_one (ps_set (i := 7) sc_law_deck.nd rfl (Or.inl rfl) (pe_op op_mod (pe_op op_mul (pv 7) (pv 7)) pe_int))))) (pss_one (ps_asg (pe_op op_fdiv (pe_ix ix_seq (pv 2) (pv 6) (fun _ _ => rfl)) pe_int) (pg_sub (pv 2) (pv 6) set_list)))) (pss_one (ps_expr (pe_bm PySem.F.plainAttrs_list PySem.F.slot_list_append PySem.F.type_list_append mt_append (pv 4) (pa_cons (pv 7) pa_nil)))))))) (pss_cons (ps_expr (pe_bm0 PySem.F.plainAttrs_list PySem.F.slot_list_reverse PySem.F.type_list_reverse mt_reverse (pv 4))) (pss_one (ps_ret (pv 4)))))))))), fun ds W h => ?_⟩
  obtain ⟨ns, rfl, hl, hW⟩ := h
  show Sd K _ [.d (.list (ns.map .int)), .d (.int 40), .u, .u, .u, .u, .u, .u] _ _
  refine sq_asgL (xs := ns.map .int) (el_listOf (ed_var rfl) (.inr rfl)) (lfAll_ints _) fun p0 => ?_
  refine sq_if (M := fun δ' => ∃ (p : Addr) (ms : List Int), 0 < ms.length ∧ δ' = [.d (.list (ns.map .int)), .d (.int 40), .m p (ms.map .int), .u, .u, .u, .u, .u]) (b := ns.isEmpty) (Td.is (td_test (ed_eq (ed_varm rfl) (Ed.of_l (el_lst ea_nil)) (shaped_intsL _) shaped_nilL)) (by rw [eqv_nilL]; cases ns <;> rfl)) (fun hb => ?_) (fun hb => ?_) ?_
  · exact sd_asgL (xs := [.int 4]) (el_lst (ea_cons ed_int ea_nil)) rfl fun p => ⟨p, [4], by simp, rfl⟩
  · refine sd_next ⟨p0, ns, ?_, rfl⟩
    cases ns with
    | nil => cases hb
    | cons a b => simp
  rintro δ' ⟨p, ms, hm, rfl⟩
  refine sq_asg (d := .int (ms.getD 0 0 % 2)) (ed_mod (ed_ix (i := 0) (ds := ms.map .int) (ed_varm rfl) ed_int (.inr rfl) (at_int (j := 0) hm)) ed_int (by decide)) (.inr rfl) ?_
  refine sd_seq (sd_setL (i := 2) (p := p) (xs := ms.map .int) (k0 := 0) (n := 0) rfl (ed_fdiv (ed_ix (i := 0) (ds := ms.map .int) (ed_varm rfl) ed_int (.inr rfl) (at_int (j := 0) hm)) ed_int ⟨by decide, by decide⟩) ed_int rfl (lfAll_ints _) (ixN_of (n := (ms.map PyData.int).length) (j := 0) (by rw [List.length_map]; exact hm)) (N := fun δ' => ∃ ms : List Int, 0 < ms.length ∧ ∃ o : Int, δ' = [.d (.list (ns.map .int)), .d (.int 40), .m p (ms.map .int), .d (.int o), .u, .u, .u, .u]) ⟨ms.set 0 (ms.getD 0 0 / 2), by rw [List.length_set]; exact hm, _, by rw [List.map_set]; rfl⟩) ?_
  clear hm
  rintro δ' ⟨ms, hm, o, rfl⟩
  refine sq_asgL (xs := []) (el_lst ea_nil) rfl fun q => ?_
  refine sd_seq (sd_range1 (n := 40) (ea_cons (ed_var rfl) ea_nil) (by decide) (by decide) (fun k δ' => ∃ (ms ds : List Int) (c5 c6 c7 : Cell), 0 < ms.length ∧ ds.length = k ∧ δ' = [.d (.list (ns.map .int)), .d (.int 40), .m p (ms.map .int), .d (.int o), .m q (ds.map .int), c5, c6, c7]) ⟨ms, [], .u, .u, .u, hm, rfl, rfl⟩ ?_ (N := fun δ' => ∃ (ms ds : List Int) (c5 c6 c7 : Cell), ds.length = 40 ∧ δ' = [.d (.list (ns.map .int)), .d (.int 40), .m p (ms.map .int), .d (.int o), .m q (ds.map .int), c5, c6, c7]) ?_) ?_
  · rintro k δ' hk ⟨ms, ds, c5, c6, c7, hm, hd, rfl⟩
    have hat := Nat.mod_lt k hm
    refine sq_asg (d := .int ((k % ms.length : Nat) : Int)) (Ed.is (ed_mod (ed_var rfl) (Ed.is (ed_lenL (ds := ms.map .int) (ed_varm rfl)) (by rw [List.length_map])) (by omega)) (by rw [Int.natCast_emod])) (.inr rfl) ?_
    refine sq_asg (d := .int (ms.getD (k % ms.length) 0 % 1000000)) (ed_mod (ed_ix (i := ((k % ms.length : Nat) : Int)) (ds := ms.map .int) (ed_varm rfl) (ed_var rfl) (.inr rfl) (at_int hat)) ed_int (by decide)) (.inr rfl) ?_
    show Sd K _ [.d (.list (ns.map .int)), .d (.int 40), .m p (ms.map .int), .d (.int o), .m q (ds.map .int), .d (.int (k : Int)), .d (.int ((k % ms.length : Nat) : Int)), .d (.int (ms.getD (k % ms.length) 0 % 1000000))] _ _
    refine sd_seq (sd_if (b := decide (o = 0)) (Td.is (td_test (ed_eq (ed_var rfl) ed_int (shaped_int _) (shaped_int _))) (by rw [eqv_int])) (fun _ => ?_) (fun _ => ?_) (N := fun δ' => ∃ (ms : List Int) (one : Int), 0 < ms.length ∧ δ' = [.d (.list (ns.map .int)), .d (.int 40), .m p (ms.map .int), .d (.int o), .m q (ds.map .int), .d (.int (k : Int)), .d (.int ((k % ms.length : Nat) : Int)), .d (.int one)])) ?_
    · refine sq_asg (ed_mod (ed_add (ed_add (ed_ix (i := ((k % ms.length : Nat) : Int)) (ds := ms.map .int) (ed_varm rfl) (ed_var rfl) (.inr rfl) (at_int hat)) (ed_mul (i := (k : Int) * (k : Int)) (ed_mul (i := (k : Int)) (j := (k : Int)) (ed_var rfl) (ed_var rfl) (.inl ⟨by omega, by omega⟩)) ed_int (.inr ⟨by decide, by decide⟩))) (ed_mul (j := (k : Int)) ed_int (ed_var rfl) (.inl ⟨by decide, by decide⟩))) ed_int (by decide)) (.inr rfl) ?_
      generalize hone : (ms.getD (k % ms.length) 0 + (k : Int) * (k : Int) * 16807 + 3 * (k : Int)) % 2147483629 = one
      have h4 : k % 4 < ([48271, 69621, 39373, 40692] : List Int).length := Nat.mod_lt k (by decide)
      refine sq_asg (ed_mod (ed_add (ed_mul (i := one) (ed_var rfl) (ed_ix (i := ((k % 4 : Nat) : Int)) (ds := ([48271, 69621, 39373, 40692] : List Int).map .int) (Ed.of_l (el_lst (ea_cons ed_int (ea_cons ed_int (ea_cons ed_int (ea_cons ed_int ea_nil)))))) (Ed.is (ed_mod (ed_var rfl) ed_int (by decide)) (by rw [Int.natCast_emod]; rfl)) (.inr rfl) (at_int h4)) (.inl ⟨by omega, by omega⟩)) ed_int) ed_int (by decide)) (.inr rfl) ?_
      generalize htwo : (one * ([48271, 69621, 39373, 40692] : List Int).getD (k % 4) 0 + 7) % 2147483647 = two
      exact sd_asg (ed_mod (ed_mul (i := two) (j := two) (ed_var rfl) (ed_var rfl) (.inl ⟨by omega, by omega⟩)) ed_int (by decide)) (.inr rfl) ⟨ms, _, hm, rfl⟩
    · refine sd_setL (i := 2) (p := p) (xs := ms.map .int) (k0 := ((k % ms.length : Nat) : Int)) (n := k % ms.length) rfl (ed_fdiv (ed_ix (i := ((k % ms.length : Nat) : Int)) (ds := ms.map .int) (ed_varm rfl) (ed_var rfl) (.inr rfl) (at_int hat)) ed_int ⟨by decide, by decide⟩) (ed_var rfl) rfl (lfAll_ints _) (ixN_of (by rw [List.length_map]; exact hat)) ⟨ms.set (k % ms.length) (ms.getD (k % ms.length) 0 / 1000000), ms.getD (k % ms.length) 0 % 1000000, by rw [List.length_set]; exact hm, ?_⟩
      rw [List.length_set, List.map_set]
      rfl
    · rintro δ' ⟨ms, one, hm, rfl⟩
      refine sd_app (i := 4) (p := q) (xs := ds.map .int) rfl (ed_var rfl) rfl (lfAll_ints _) (by rw [List.length_map]; omega) ⟨ms, ds ++ [one], .d (.int (k : Int)), .d (.int ((k % ms.length : Nat) : Int)), .d (.int one), hm, by simp [hd], ?_⟩
      rw [List.map_append]; rfl
  · rintro δ' ⟨ms, ds, c5, c6, c7, _, hd, rfl⟩
    exact ⟨ms, ds, c5, c6, c7, hd, rfl⟩
  · rintro δ' ⟨ms, ds, c5, c6, c7, hd, rfl⟩
    refine sd_seq (sd_reverse (i := 4) (p := q) (xs := ds.map .int) rfl (lfAll_ints _) (N := fun δ' => δ' = [.d (.list (ns.map .int)), .d (.int 40), .m p (ms.map .int), .d (.int o), .m q (ds.reverse.map .int), c5, c6, c7]) (by rw [List.map_reverse]; rfl)) ?_
    rintro δ' rfl
    exact sd_retm (p := q) rfl (hW ds.reverse (by rw [List.length_reverse]; exact hd))
abbrev st_law_lack : Stmt := topS 109
theorem sc_law_lack : FnScope ["_law_numbers", "_law_days", "_law_i", "_law_at", "_law_k"] ["_law_numbers", "_law_days"] (defScope st_law_lack) := ⟨rfl, rfl, rfl, by decide +kernel, rfl, by decide +kernel, by decide +kernel⟩
theorem ok_law_lack (F : Fun K "_law_lack" "_law_lack" st_law_lack f fd) (T : Bl mg) : FnOk P w K mg base CX0 1 f fd ["_law_numbers", "_law_days"] (spG K G_law_lack) := by
  refine okG F sc_law_lack (fun ds r ⟨_, _, h, _⟩ => by rw [h]; rfl) fun cdv A outer s H E hr => ⟨_, (pss_cons (ps_for PassesOwn.never rfl (pi_range1 (by rfl) T.range (pa_cons (pe_callB cw_len (by rfl) T.len bt_len (pa_cons (pv 0) pa_nil)) pa_nil)) (pg_name (i := 2) sc_law_lack.nd rfl (Or.inr rfl)) (pss_one (ps_for PassesOwn.never rfl (pi_range1 (by rfl) T.range (pa_cons (pe_callB cw_len (by rfl) T.len bt_len (pa_cons (pv 1) pa_nil)) pa_nil)) (pg_name (i := 3) sc_law_lack.nd rfl (Or.inr rfl)) (pss_one (ps_if (pt_cmpR (op_eqD hr.units) (pe_lc (own := [("_law_k", 4)]) (g := gName 4) rfl sc_law_lack.nd  (pi_range1 (by rfl) T.range (pa_cons (pe_ix ix_seq (pv 0) (pv 2) (fun _ _ => rfl)) pa_nil)) (blkOk_by (own := [("_law_k", 4)]) (N := ["_law_numbers", "_law_days", "_law_i", "_law_at", "_law_k"]) (sc := defScope st_law_lack) (by decide +kernel)) (fun _ _ _ _ _ => pg_name (i := 4) sc_law_lack.nd rfl (Or.inl rfl)) (fun _ _ _ _ _ => pts_one (pt_cmpR (kx_in (K := K) rfl) (pv 2) (pe_ix (kx_ix (K := K) rfl) (pv 1) (pe_op op_mod (pe_op op_add (pv 3) (pv 4)) (pe_callB (kx_len (K := K) rfl) (by rfl) T.len bt_len (pa_cons (pv 1) pa_nil))) (fun _ _ => rfl)) (by rfl))) (fun _ _ _ _ _ => pe_int)) (pe_lst pa_nil) (nomark _)) (pss_one (ps_ret (pe_tup (pa_cons (pv 2) (pa_cons (pv 3) pa_nil))))) pss_nil))))) (pss_one (ps_ret pe_non))), fun ds r h => ?_⟩
  obtain ⟨ns, q, rfl, hf, hk, rfl⟩ := h
  have hl := hf.n.len
  have hql := hf.len
  have hq := List.length_pos_iff.mpr hf.ne
  show Sd K _ [.d (numD ns), .d (ringD q), .u, .u, .u] _ _
  refine sd_seq (sd_range1 (n := (ns.length : Int)) (ea_cons (ed_nlen (ed_var rfl)) ea_nil) (by omega) (by omega) (fun k δ' => ∃ c2 c3, δ' = [.d (numD ns), .d (ringD q), c2, c3, .u]) ⟨.u, .u, rfl⟩ ?_ (N := fun _ => True) fun _ _ => trivial) ?_
  · rintro i δ' hi ⟨c2, c3, rfl⟩
    have hil : i < ns.length := by omega
    have hni := getD_b hf.n hil
    have hki : Keep1 (ns.getD i 0) i q := hk i _ (by rw [List.getD_eq_getElem?_getD, List.getElem?_eq_getElem hil]; rfl)
    refine sd_range1 (n := (q.length : Int)) (ea_cons (ed_rlen (ed_var rfl)) ea_nil) (by omega) (by omega) (fun a δ' => ∃ c3, δ' = [.d (numD ns), .d (ringD q), .d (.int (i : Int)), c3, .u]) ⟨c3, rfl⟩ ?_ ?_
    · rintro a δ' ha ⟨c3, rfl⟩
      obtain ⟨k, hkn, hka⟩ := hki a (by omega)
      show Sd K _ [.d (numD ns), .d (ringD q), .d (.int (i : Int)), .d (.int (a : Int)), .u] _ _
      refine sd_if (b := false) (Td.is (td_test (ed_eqNil (n := 0) (xs := outs (fun k => if q[(a + k) % q.length]? = some (some i) then some (.int 1) else none) (ns.getD i 0)) (?_ : EdL K _ _ _) ?_ (by omega))) ?_) (fun z => by cases z) (fun _ => sd_next ⟨_, rfl⟩)
      · have := el_lcR (K := K) (δ := [.d (numD ns), .d (ringD q), .d (.int (i : Int)), .d (.int (a : Int)), .u]) (j := 4) (ts := tCons (tOp (rIx K) (tVar 0) (tVar 2)) tNil) (te := tC (.int 1)) (tt := tTest (tOp (rIn K false) (tVar 2) (tOp (rIx K) (tVar 1) (tOp (rI (fun _ j => 0 < j) fun i j => .int (i % j)) (tOp (rI0 fun i j => .int (i + j)) (tVar 3) (tVar 4)) (tCB (rLen K) (tCons (tVar 1) tNil)))))) (n := ((ns.getD i 0 : Nat) : Int)) (ea_cons (ed_num (ns := ns) (ed_var rfl) (ed_var rfl) hil) ea_nil) (by omega) (fun k => if q[(a + k) % q.length]? = some (some i) then some (.int 1) else none) fun k hk => ?_
        · rw [Int.toNat_natCast] at this
          exact this
        · obtain ⟨o, ho1, ho2⟩ := ring_at (Nat.mod_lt (a + k) hq)
          refine ⟨decide (o = some i), Td.is (td_test (ed_in (k := (i : Int)) (ed_var rfl) (ed_ixMod (k := a + k) (n := q.length) (ds := q.map dayD) (ed_var rfl) (.inl rfl) (Ed.is (ed_add (ed_var rfl) (ed_var rfl)) (by rw [Int.natCast_add])) (ed_rlen (r := q) (ed_var rfl)) hq ho2) (dayD_ints o))) (dayI_has o i), fun hb => ?_, fun hb => ?_⟩
          · have e := of_decide_eq_true hb
            exact ⟨.int 1, by rw [ho1, e, if_pos rfl], rfl, ed_int⟩
          · have e := of_decide_eq_false hb
            show (if q[(a + k) % q.length]? = some (some i) then some (PyData.int 1) else none) = none
            rw [ho1, if_neg (fun z => e (Option.some.inj z))]
      · intro d hd
        rw [outs_range] at hd
        obtain ⟨k, _, hk⟩ := List.mem_filterMap.mp hd
        by_cases h : q[(a + k) % q.length]? = some (some i)
        · rw [if_pos h] at hk; cases hk; exact sh_int _
        · rw [if_neg h] at hk; cases hk
      · rw [List.isEmpty_eq_false_iff, outs_range]
        intro e
        rw [List.filterMap_eq_nil_iff] at e
        have := e k (List.mem_range.mpr hkn)
        rw [if_pos hka] at this
        cases this
    · rintro δ' ⟨c3, rfl⟩
      exact ⟨_, _, rfl⟩
  · rintro δ' _
    exact sd_ret ed_non rfl
abbrev st_law_is_kept : Stmt := topS 111
theorem sc_law_is_kept : FnScope ["_law_numbers", "_law_days", "_law_task"] ["_law_numbers", "_law_days"] (defScope st_law_is_kept) := ⟨rfl, rfl, rfl, by decide +kernel, rfl, by decide +kernel, by decide +kernel⟩
theorem ok_law_is_kept (F : Fun K "_law_is_kept" "_law_is_kept" st_law_is_kept f fd) (T : Bl mg) (c_law_lack : Cal P w K mg base 1 "_law_lack" (spG K G_law_lack)) (c_plain : Cal P w K mg base 4 "plain" (spG K G_plain)) (c_holds : Cal P w K mg base 9 "holds" (spG K G_holds)) (c_first_stand : Cal P w K mg base 9 "first_stand" (spG K G_first_stand)) : FnOk P w K mg base CX0 10 f fd ["_law_numbers", "_law_days"] (spG K G_law_is_kept) := by
  refine okG F sc_law_is_kept (fun ds r ⟨_, _, h, _⟩ => by rw [h]; rfl) fun cdv A outer s H E hr => ⟨_, (pss_cons (ps_if (pt_cmpR ow_notN (pe_cl c_law_lack hr (by decide) (by rfl) (pa_cons (pv 0) (pa_cons (pv 1) pa_nil))) pe_non (nomark _)) (pss_one (ps_ret pe_bl)) pss_nil) (pss_cons (ps_set (i := 2) sc_law_is_kept.nd rfl (Or.inl rfl) (pe_cl c_plain hr (by decide) (by rfl) (pa_cons (pv 0) pa_nil))) (pss_one (ps_ret (pe_cmpR op_isBl (pe_cl c_holds hr (by decide) (by rfl) (pa_cons (pv 2) (pa_cons (pe_cl c_first_stand hr (by decide) (by rfl) (pa_cons (pv 2) pa_nil)) (pa_cons (pe_tup (pa_cons pe_str (pa_cons (pe_tup pa_nil) (pa_cons (pv 1) pa_nil)))) pa_nil)))) pe_bl (nomark _)))))), fun ds r h => ?_⟩
  obtain ⟨ns, q, rfl, hf, hk, rfl⟩ := h
  show Sd K _ [.d (numD ns), .d (ringD q), .u] _ _
  have hon : onM ns ns q = true := (on_keeps hf.n.pos (List.length_pos_iff.mpr hf.ne)).mpr hk
  refine sq_guard (Td.is (td_test (ed_notN (ed_call (d := .none) (ea_cons (ed_var rfl) (ea_cons (ed_var rfl) ea_nil)) ⟨ns, q, rfl, hf, hk, rfl⟩) ed_non)) rfl) ?_
  refine sq_asg (d := taskD ns) (ed_plain (ns := ns) (ed_var rfl) hf.n) (.inl rfl) ?_
  exact sd_ret (d := .bool true) (Ed.is (ed_isB (a := true) (Ed.is (ed_holds (ns := ns) (q := q) (ed_var rfl) (ed_first_stand (ns := ns) (ed_var rfl) hf.n) (ed_tup (ds := ok3 q) (ea_cons ed_str (ea_cons (ed_tup ea_nil) (ea_cons (ed_var rfl) ea_nil))) (by simp)) hf) (by rw [hon])) ed_bl) rfl) rfl
end
section
variable {K : PySem.W.Frag} {δ : List Cell} {ta tb tc : TE} {d : PyData}
theorem ed_is_kept {ns : List Nat} {q : Ring} (h1 : Ed K ta δ (numD ns)) (h2 : Ed K tb δ (ringD q)) (hf : Fit ns q) (hk : Keeps ns q) : Ed K (tCall (spG K G_law_is_kept) [] E0 (tCons ta (tCons tb tNil))) δ (.bool true) := ed_call (ea_cons h1 (ea_cons h2 ea_nil)) ⟨ns, q, rfl, hf, hk, rfl⟩
end
end WD

namespace WD
open PySem PySem.Spec PyProof.Rows L2 WM
local macro_rules | `(tactic| walk_at "ed") => `(tactic| repeat' (first
  | exact ed_int | exact ed_bl | exact ed_non | exact ed_str
  | exact ed_var rfl | exact ed_varm rfl
  | refine' ed_add ?_ ?_ | refine' ed_sub ?_ ?_ | refine' ed_lt ?_ ?_ | refine' ed_le ?_ ?_ | refine' ed_gt ?_ ?_ | refine' ed_ge ?_ ?_
  | refine' ed_mul ?_ ?_ ?_ | refine' ed_fdiv ?_ ?_ ?_ | refine' ed_mod ?_ ?_ ?_
  | refine' ed_eq ?_ ?_ ?_ ?_ | refine' ed_ne ?_ ?_ ?_ ?_ | refine' ed_isN ?_ ?_ | refine' ed_notN ?_ ?_ | refine' ed_isB ?_ ?_
  | refine' ed_in ?_ ?_ ?_ | refine' ed_notIn ?_ ?_ ?_ | refine' ed_ix ?_ ?_ ?_ ?_
  | refine' ed_catT ?_ ?_ ?_ | refine' ed_repT ?_ ?_ ?_ ?_ ?_ ?_
  | refine' td_test ?_ | refine' td_B ?_ | refine' td_not ?_ | refine' td_and ?_ (fun _ => ?_) | refine' td_or ?_ (fun _ => ?_)
  | refine' ed_andV ?_ (fun _ => ?_) | refine' ed_orV ?_ (fun _ => ?_) | refine' ed_notV ?_
  | refine' ed_chain ?_ ?_ ?_
  | exact ea_nil | refine' ea_cons ?_ ?_ | refine' ed_tup ?_ ?_
  | refine' ed_lenT ?_ | refine' ed_lenL ?_ | refine' ed_tupL ?_ | refine' ed_intB ?_ | refine' ed_min2 ?_ ?_
  | refine' ed_isi2 ?_ ?_ ?_ | refine' ed_isi ?_ ?_
  | exact kb_ii | exact kb_ib | exact kb_ll | exact kb_lt | exact kb_tl | exact kb_tt | exact kb_il | exact kb_it | exact kb_sl | exact kb_st | exact kb_ss
  | exact eo_none | refine' eo_some ?_ | refine' ed_slT ?_ ?_ ?_
  | exact shaped_nilL | exact shaped_nilT | exact shaped_int _ | exact shaped_ints _ | exact shaped_intsL _))


/-- numbers drawn: few and small, with a ring told at once -/
structure D3 (ns : List Nat) : Prop where
  len : ns.length ≤ 3
  b : ∀ n ∈ ns, 2 ≤ n ∧ n ≤ 8
  at1 : ∃ r, atOnceM ns = some (some r)
theorem n8_of {ns : List Nat} (h1 : ns.length ≤ 3) (h2 : ∀ n ∈ ns, 2 ≤ n ∧ n ≤ 8) : N8 ns := ⟨h1, fun n hn => ⟨by have := h2 n hn; omega, (h2 n hn).2⟩⟩
def spD (K : PySem.W.Frag) : Sp := fun vs H Q _ => ∃ (p : Addr) (ms : List Int), vs = [.ref p] ∧ H p = some (.lst (ms.map V.int)) ∧ 4 ≤ ms.length ∧ ∀ (ns : List Nat) (ms' : List Int) (v : V) (H' : Hp), D3 ns → ms.length ≤ ms'.length + 4 → Same (off H [p]) H' → H' p = some (.lst (ms'.map V.int)) → Dp K H' v (numD ns) → Q v H'
theorem snoc {ms : List Int} (h : 0 < ms.length) : ∃ ms0 x, ms = ms0 ++ [x] ∧ ms0.length + 1 = ms.length := by
  rcases List.eq_nil_or_concat ms with e | ⟨l, x, e⟩
  · subst e; simp at h
  · rw [List.concat_eq_append] at e
    exact ⟨l, x, e, by rw [e]; simp⟩
theorem snocN {fs : List Nat} (h : fs ≠ []) : ∃ f0 x, fs = f0 ++ [x] := by
  rcases List.eq_nil_or_concat fs with e | ⟨l, x, e⟩
  · exact absurd e h
  · rw [List.concat_eq_append] at e
    exact ⟨l, x, e⟩
section
variable {K : PySem.W.Frag} {δ : List Cell} {ta tb tc te : TE} {t u : TS} {N : List Cell → Prop} {R : Res → List Cell → Prop} {i j : Nat}
theorem em_popI {p : Addr} {ms : List Int} {x : Int} (hi : δ[i]? = some (.m p ((ms ++ [x]).map .int))) : Em K (tBM0 K "list" rPop (tVar i)) δ fun z δ' => z = .int x ∧ δ' = δ.set i (.m p (ms.map .int)) := by
  have := em_pop (K := K) (d := .int x) hi (by rw [List.map_append]; simp) (lfAll_ints _)
  rw [List.map_append] at this
  have e : (ms.map PyData.int ++ [x].map PyData.int).dropLast = ms.map .int := List.dropLast_concat
  rw [e] at this
  exact this
theorem em_drawn {p : Addr} {ms : List Int} (hi : δ[i]? = some (.m p (ms.map .int))) (hl : 4 ≤ ms.length) : Em K (tCall (spD K) [] E0 (tCons (tVar i) tNil)) δ fun z δ' => ∃ (ns : List Nat) (ms' : List Int), D3 ns ∧ ms.length ≤ ms'.length + 4 ∧ z = numD ns ∧ δ' = δ.set i (.m p (ms'.map .int)) := fun B σ H e Q q => by
  obtain ⟨h1, vs, h2, h3⟩ := e.get_m hi
  have ev := dpAll_int h3
  subst ev
  refine ⟨_, h1, p, ms, rfl, h2, hl, fun ns ms' v H' hd hm hs hp hv => q (numD ns) _ v H' ⟨ns, ms', hd, hm, rfl, rfl⟩ ?_ hv⟩
  refine (e.mut hi (int_dpAll ms') (lfAll_ints ms')).mono fun a o ha => ?_
  by_cases hap : a = p
  · subst hap
    rw [upd_same] at ha
    cases ha
    exact hp
  · rw [upd_ne hap] at ha
    exact hs _ _ (off_in (fun z => hap (List.mem_singleton.mp z)) ha)
end
section
variable {P : Program} {w : World} {K : PySem.W.Frag} {mg : Str → Option Value} {base : Heap} {f : Addr} {fd : FuncData}
abbrev st_law_drawn : Stmt := topS 110
theorem sc_law_drawn : FnScope ["_law_deck_here", "_law_found", "_law_k", "_law_draw"] ["_law_deck_here"] (defScope st_law_drawn) := ⟨rfl, rfl, rfl, by decide +kernel, rfl, by decide +kernel, by decide +kernel⟩
theorem ok_law_drawn (F : Fun K "_law_drawn" "_law_drawn" st_law_drawn f fd) (T : Bl mg) (c_at_once : Cal P w K mg base 8 "at_once" (spG K G_at_once)) : FnOk P w K mg base CX0 9 f fd ["_law_deck_here"] (spD K) := by
  refine F.ok sc_law_drawn (fun vs H Q E ⟨p, ms, h, _⟩ => by rw [h]; rfl) fun cdv A outer s H vs Q E hr ⟨p, ms, hvs, hp, hl, q⟩ => ⟨_, (pss_cons (ps_set (i := 1) sc_law_drawn.nd rfl (Or.inl rfl) (pe_lst pa_nil)) (pss_cons (ps_for PassesOwn.never rfl (pi_range1 (by rfl) T.range (pa_cons (pe_op op_mod (pe_bm0 PySem.F.plainAttrs_list PySem.F.slot_list_pop PySem.F.type_list_pop mt_pop (pv 0)) pe_int) pa_nil)) (pg_name (i := 2) sc_law_drawn.nd rfl (Or.inl rfl)) (pss_cons (ps_set (i := 3) sc_law_drawn.nd rfl (Or.inl rfl) (pe_bm0 PySem.F.plainAttrs_list PySem.F.slot_list_pop PySem.F.type_list_pop mt_pop (pv 0))) (pss_one (ps_expr (pe_bm PySem.F.plainAttrs_list PySem.F.slot_list_append PySem.F.type_list_append mt_append (pv 1) (pa_cons (pe_ix ix_seq (pe_lst (pa_cons pe_int (pa_cons pe_int (pa_cons pe_int (pa_cons pe_int (pa_cons pe_int (pa_cons pe_int (pa_cons (pe_op op_add pe_int (pe_op op_mod (pe_op op_fdiv (pv 3) pe_int) pe_int)) (pa_cons pe_int pa_nil))))))))) (pe_op op_mod (pv 3) pe_int) (fun _ _ => rfl)) pa_nil)))))) (pss_cons (ps_while PassesOwn.never (pt_cmpR ow_isN (pe_cl c_at_once hr (by decide) (by rfl) (pa_cons (pv 1) pa_nil)) pe_non (nomark _)) (pss_one (ps_expr (pe_bm0 PySem.F.plainAttrs_list PySem.F.slot_list_pop PySem.F.type_list_pop mt_pop (pv 1))))) (pss_one (ps_ret (pe_callTy cw_tup (by rfl) T.tuple bt_tuple (pa_cons (pv 1) pa_nil))))))), ?_⟩
  subst hvs
  have e0 : Env K (off H [p]) H [.m p (ms.map .int), .u, .u, .u] (L2.start ["_law_deck_here", "_law_found", "_law_k", "_law_draw"] [V.ref p]) := by
    refine ⟨off_same _ _, fun a ha => ?_, by simp [muts], ?_⟩
    · have e : a = p := by simpa [muts] using ha
      subst e
      unfold off
      rw [if_pos (by simp)]
    · exact .cons (.m hp (int_dpAll ms)) (.cons .u (.cons .u (.cons .u .nil)))
  suffices hS : Sd K _ [.m p (ms.map .int), .u, .u, .u] (fun _ => False) (fun r δ' => ∃ (ns : List Nat) (ms' : List Int), D3 ns ∧ ms.length ≤ ms'.length + 4 ∧ r = .d (numD ns) ∧ δ'[0]? = some (.m p (ms'.map .int))) from
    hS _ _ H _ e0 (fun _ _ _ z => z.elim) fun r δ' v σ' H' ⟨ns, ms', h1, h2, h3, h4⟩ e' ro => by
      obtain ⟨_, vs, g1, g2⟩ := e'.get_m h4
      have ev := dpAll_int g2
      subst ev h3
      exact q ns ms' v H' h1 h2 e'.ex g1 ro
  refine sq_asgL (xs := []) (el_lst ea_nil) rfl fun q1 => ?_
  obtain ⟨ms0, x0, rfl, hms⟩ := snoc (ms := ms) (by omega)
  refine sd_seq (sd_range1M (em_mod (em_popI (i := 0) (p := p) (ms := ms0) (x := x0) rfl) (by decide) fun z δ' ⟨e, _⟩ => ⟨x0, e⟩) (fun k δ' => ∃ (ms' : List Int) (fs : List Nat) (c2 c3 : Cell), ms0.length ≤ ms'.length + k ∧ fs.length = k ∧ (∀ f ∈ fs, 2 ≤ f ∧ f ≤ 8) ∧ δ' = [.m p (ms'.map .int), .m q1 ((nI fs).map .int), c2, c3]) (fun n => 0 ≤ n ∧ n ≤ 3) ?_ ?_ (N := fun δ' => ∃ (ms' : List Int) (fs : List Nat) (c2 c3 : Cell), ms0.length ≤ ms'.length + 3 ∧ fs.length ≤ 3 ∧ (∀ f ∈ fs, 2 ≤ f ∧ f ≤ 8) ∧ δ' = [.m p (ms'.map .int), .m q1 ((nI fs).map .int), c2, c3]) ?_) ?_
  · rintro z δ' ⟨n, ⟨e1, rfl⟩, rfl⟩
    exact ⟨n % 4, rfl, by omega, by omega, ⟨by omega, by omega⟩, ms0, [], .u, .u, by omega, rfl, fun f hf => by simp at hf, rfl⟩
  · rintro n k δ' ⟨hn0, hn3⟩ hk ⟨ms', fs, c2, c3, hm, hf, hb, rfl⟩
    obtain ⟨ms1, x, rfl, hms1⟩ := snoc (ms := ms') (by omega)
    refine sq_asgM (em_popI (i := 0) (p := p) (ms := ms1) (x := x) rfl) ?_
    rintro z δ' ⟨rfl, rfl⟩
    refine ⟨rfl, ?_⟩
    show Sd K _ [.m p (ms1.map .int), .m q1 ((nI fs).map .int), .d (.int (k : Int)), .d (.int x)] _ _
    have hj : (x % 8).toNat < ([2, 3, 4, 5, 6, 8, 2 + x / 8 % 7, 4] : List Int).length := by show (x % 8).toNat < 8; omega
    have hall : ∀ y ∈ ([2, 3, 4, 5, 6, 8, 2 + x / 8 % 7, 4] : List Int), 2 ≤ y ∧ y ≤ 8 := fun y hy => by
      simp only [List.mem_cons, List.not_mem_nil, or_false] at hy
      omega
    have hy : 2 ≤ ([2, 3, 4, 5, 6, 8, 2 + x / 8 % 7, 4] : List Int).getD (x % 8).toNat 0 ∧ ([2, 3, 4, 5, 6, 8, 2 + x / 8 % 7, 4] : List Int).getD (x % 8).toNat 0 ≤ 8 := by
      rw [List.getD_eq_getElem?_getD, List.getElem?_eq_getElem hj]
      exact hall _ (List.getElem_mem hj)
    have hix := at_int (ns := ([2, 3, 4, 5, 6, 8, 2 + x / 8 % 7, 4] : List Int)) hj
    generalize ([2, 3, 4, 5, 6, 8, 2 + x / 8 % 7, 4] : List Int).getD (x % 8).toNat 0 = y at hy hix
    have ex : x % 8 = (((x % 8).toNat : Nat) : Int) := by omega
    rw [← ex] at hix
    refine sd_app (i := 1) (p := q1) (xs := (nI fs).map .int) (d := .int ((y.toNat : Nat) : Int)) rfl (Ed.is (ed_ix (i := x % 8) (d := .int y) (ds := ([2, 3, 4, 5, 6, 8, 2 + x / 8 % 7, 4] : List Int).map .int) (Ed.of_l (el_lst (ea_cons ed_int (ea_cons ed_int (ea_cons ed_int (ea_cons ed_int (ea_cons ed_int (ea_cons ed_int (ea_cons (ed_add ed_int (ed_mod (ed_fdiv (ed_var rfl) ed_int ⟨by decide, by decide⟩) ed_int (by decide))) (ea_cons ed_int ea_nil)))))))) (by simp))) (ed_mod (ed_var rfl) ed_int (by decide)) (.inr rfl) hix) ?_) rfl (lfAll_ints _) (by rw [nI_len]; omega) ⟨ms1, fs ++ [y.toNat], .d (.int (k : Int)), .d (.int x), by omega, by simp [hf], fun f hf' => ?_, ?_⟩
    · congr 1
      omega
    · rcases List.mem_append.mp hf' with h | h
      · exact hb f h
      · simp at h; omega
    · rw [nI_append, List.map_append]; rfl
  · rintro n δ' ⟨hn0, hn3⟩ ⟨ms', fs, c2, c3, hm, hf, hb, rfl⟩
    exact ⟨ms', fs, c2, c3, by omega, by omega, hb, rfl⟩
  · rintro δ' ⟨ms', fs, c2, c3, hm, hf, hb, rfl⟩
    refine sd_seq (sd_while (fun m δ' => ∃ fs : List Nat, m = fs.length ∧ fs.length ≤ 3 ∧ (∀ f ∈ fs, 2 ≤ f ∧ f ≤ 8) ∧ δ' = [.m p (ms'.map .int), .m q1 ((nI fs).map .int), c2, c3]) fs.length ⟨fs, rfl, hf, hb, rfl⟩ ?_ (N := fun δ' => ∃ fs : List Nat, D3 fs ∧ δ' = [.m p (ms'.map .int), .m q1 ((nI fs).map .int), c2, c3])) ?_
    · rintro m δ' ⟨fs, rfl, hf, hb, rfl⟩
      obtain ⟨res, hres, hne, hgood⟩ := at_good hf hb
      refine ⟨isNo (optR res), td_test (ed_isN (ed_at_once (ns := fs) (ed_varm rfl) (.inr rfl) (n8_of hf hb) hres) ed_non), fun hb2 => ?_, fun hb2 => ?_⟩
      · have e := optR_none hb2
        obtain ⟨f0, y, rfl⟩ := snocN (hne e)
        refine sd_pop (i := 1) (p := q1) (xs := (nI (f0 ++ [y])).map .int) (d := .int (y : Int)) rfl (by rw [nI_append, List.map_append]; simp [nI]) (lfAll_ints _) ⟨f0.length, by simp, f0, rfl, by simp at hf; omega, fun f hf' => hb f (List.mem_append_left _ hf'), ?_⟩
        rw [nI_append, List.map_append]
        have e2 : ((nI f0).map PyData.int ++ (nI [y]).map PyData.int).dropLast = (nI f0).map .int := List.dropLast_concat
        rw [e2]
        rfl
      · cases res with
        | none => cases hb2
        | some r => exact ⟨fs, ⟨hf, hb, r, hres⟩, rfl⟩
    · rintro δ' ⟨fs, hd, rfl⟩
      exact sd_ret (d := numD fs) (ed_tupOf (ed_varm rfl) (.inr rfl)) ⟨fs, ms', hd, by simp; omega, rfl, rfl⟩
end
end WD

namespace WD
open PySem PySem.Spec PyProof.Rows L2 WM
local macro_rules | `(tactic| walk_at "ed") => `(tactic| repeat' (first
  | exact ed_int | exact ed_bl | exact ed_non | exact ed_str
  | exact ed_var rfl | exact ed_varm rfl
  | refine' ed_add ?_ ?_ | refine' ed_sub ?_ ?_ | refine' ed_lt ?_ ?_ | refine' ed_le ?_ ?_ | refine' ed_gt ?_ ?_ | refine' ed_ge ?_ ?_
  | refine' ed_mul ?_ ?_ ?_ | refine' ed_fdiv ?_ ?_ ?_ | refine' ed_mod ?_ ?_ ?_
  | refine' ed_eq ?_ ?_ ?_ ?_ | refine' ed_ne ?_ ?_ ?_ ?_ | refine' ed_isN ?_ ?_ | refine' ed_notN ?_ ?_ | refine' ed_isB ?_ ?_
  | refine' ed_in ?_ ?_ ?_ | refine' ed_notIn ?_ ?_ ?_ | refine' ed_ix ?_ ?_ ?_ ?_
  | refine' ed_catT ?_ ?_ ?_ | refine' ed_repT ?_ ?_ ?_ ?_ ?_ ?_
  | refine' td_test ?_ | refine' td_B ?_ | refine' td_not ?_ | refine' td_and ?_ (fun _ => ?_) | refine' td_or ?_ (fun _ => ?_)
  | refine' ed_andV ?_ (fun _ => ?_) | refine' ed_orV ?_ (fun _ => ?_) | refine' ed_notV ?_
  | refine' ed_chain ?_ ?_ ?_
  | exact ea_nil | refine' ea_cons ?_ ?_ | refine' ed_tup ?_ ?_
  | refine' ed_lenT ?_ | refine' ed_lenL ?_ | refine' ed_tupL ?_ | refine' ed_intB ?_ | refine' ed_min2 ?_ ?_
  | refine' ed_isi2 ?_ ?_ ?_ | refine' ed_isi ?_ ?_
  | exact kb_ii | exact kb_ib | exact kb_ll | exact kb_lt | exact kb_tl | exact kb_tt | exact kb_il | exact kb_it | exact kb_sl | exact kb_st | exact kb_ss
  | exact eo_none | refine' eo_some ?_ | refine' ed_slT ?_ ?_ ?_
  | exact shaped_nilL | exact shaped_nilT | exact shaped_int _ | exact shaped_ints _ | exact shaped_intsL _))


/-! ### the law's arithmetic -/
theorem In.mono {m m' : Int} {r : Ring} (h : In m r) (e : m ≤ m') : In m' r := fun i hi => by have := h i hi; omega
theorem good_in {ns : List Nat} {r : Ring} (h : Good ns r) : In ns.length r := fun i hi => by have := h.ins i hi; omega
theorem nok_map {ns : List Nat} {t : Nat} (hl : ns.length ≤ 8) (hb : ∀ n ∈ ns, 2 ≤ n ∧ n ≤ 8) (h1 : 1 ≤ t) (h2 : t ≤ 5) : NOk (ns.map (t * ·)) := ⟨by rw [List.length_map]; exact hl, fun m hm => by
  obtain ⟨n, hn, rfl⟩ := List.mem_map.mp hm
  have := hb n hn
  have h3 : 1 * 2 ≤ t * n := Nat.mul_le_mul h1 this.1
  have h4 : t * n ≤ 5 * 8 := Nat.mul_le_mul h2 this.2
  exact ⟨by omega, h4⟩⟩
/-- a part of a good ring that it is made of is good -/
theorem good_part {ns : List Nat} {r s : Ring} {m : Nat} (h : Good ns r) (hs : s ≠ []) (hm : 0 < m) (e : r = (List.replicate m s).flatten) : Good ns s := by
  have hl := rep_len s m
  rw [← e] at hl
  refine ⟨hs, ?_, fun i hi => h.ins i ?_, fun i n hn => ?_⟩
  · have := h.len
    have : 1 * s.length ≤ m * s.length := Nat.mul_le_mul_right _ hm
    omega
  · rw [e]
    exact List.mem_flatten.mpr ⟨s, List.mem_replicate.mpr ⟨by omega, rfl⟩, hi⟩
  · have := h.keep i n hn
    rw [e] at this
    exact rep_keep hm this
theorem slow_fit {ns : List Nat} {s : Ring} {t : Nat} (h : Good ns s) (hl : ns.length ≤ 3) (hb : ∀ n ∈ ns, 2 ≤ n ∧ n ≤ 8) (h1 : 1 ≤ t) (h2 : t ≤ 5) : Fit (ns.map (t * ·)) (slow t s) ∧ Keeps (ns.map (t * ·)) (slow t s) := by
  have hsl := slow_len t h1 s
  have hs := List.length_pos_iff.mpr h.ne
  have h3 : t * s.length ≤ 5 * 100 := Nat.mul_le_mul h2 h.len
  have h4 : 1 * 1 ≤ t * s.length := Nat.mul_le_mul h1 hs
  refine ⟨⟨nok_map (by omega) hb h1 h2, fun i hi => ?_, by omega, fun z => ?_⟩, fun i n hn => ?_⟩
  · rw [List.length_map]
    have := h.ins i (slow_mem hi)
    omega
  · rw [z] at hsl
    simp at hsl
    omega
  · rw [List.getElem?_map] at hn
    cases hm : ns[i]? with
    | none => rw [hm] at hn; cases hn
    | some m =>
      rw [hm] at hn
      cases hn
      exact slow_keep h1 (h.keep i m hm)
theorem pair_fit {ns mo : List Nat} {a b : Ring} (ha : Good ns a) (hb : Good mo b) (hl : ns.length ≤ 3) (hl2 : mo.length ≤ 3) (hbn : ∀ n ∈ ns, 2 ≤ n ∧ n ≤ 8) (hbm : ∀ n ∈ mo, 2 ≤ n ∧ n ≤ 8) (hz : a.length * b.length ≤ 2000) :
    Fit ((ns ++ mo).map (2 * ·)) (pr a b ns.length (Nat.lcm a.length b.length)) ∧ Keeps ((ns ++ mo).map (2 * ·)) (pr a b ns.length (Nat.lcm a.length b.length)) ∧ 2 * Nat.lcm a.length b.length ≤ 4000 := by
  have hpa := List.length_pos_iff.mpr ha.ne
  have hpb := List.length_pos_iff.mpr hb.ne
  have hL : Nat.lcm a.length b.length ≤ a.length * b.length := lcm_le
  have hL0 := Nat.lcm_pos hpa hpb
  have hlen := pr_len a b ns.length (Nat.lcm a.length b.length)
  refine ⟨⟨nok_map (by rw [List.length_append]; omega) (fun n hn => ?_) (by decide) (by decide), fun i hi => ?_, by omega, fun z => ?_⟩, fun i n hn => ?_, by omega⟩
  · rcases List.mem_append.mp hn with h | h
    · exact hbn n h
    · exact hbm n h
  · rw [List.length_map, List.length_append]
    rcases pr_mem a b _ _ _ hi with (h | h) | ⟨j, h1, h2⟩
    · cases h
    · have := ha.ins i h
      omega
    · have := hb.ins j h1
      cases h2
      omega
  · rw [z] at hlen
    simp at hlen
    omega
  · rw [List.getElem?_map] at hn
    cases hm : (ns ++ mo)[i]? with
    | none => rw [hm] at hn; cases hn
    | some m =>
      rw [hm] at hn
      cases hn
      by_cases hi : i < ns.length
      · rw [List.getElem?_append_left hi] at hm
        exact pr_keep1 (Nat.dvd_lcm_left _ _) (ha.keep i m hm)
      · rw [List.getElem?_append_right (by omega)] at hm
        have := pr_keep2 (a := a) (m := ns.length) (Nat.dvd_lcm_right a.length b.length) (hb.keep (i - ns.length) m hm)
        have e : i - ns.length + ns.length = i := by omega
        rw [e] at this
        exact this
theorem put_fit {ns : List Nat} {q : Ring} {n : Nat} {ps : List Nat} (hf : Fit ns q) (hk : Keeps ns q) (hl : ns.length ≤ 7) (h1 : 1 ≤ n) (h2 : n ≤ 40) (P : Places q n ps) : Fit (ns ++ [n]) (put q ns.length ps) ∧ Keeps (ns ++ [n]) (put q ns.length ps) := by
  have hpl := put_len q ns.length ps
  have hq := List.length_pos_iff.mpr hf.ne
  refine ⟨⟨⟨by simp; omega, fun m hm => ?_⟩, fun i hi => ?_, by rw [hpl]; exact hf.len, fun z => ?_⟩, fun i m hm => ?_⟩
  · rcases List.mem_append.mp hm with h | h
    · exact hf.n.b m h
    · simp at h; omega
  · rw [List.length_append]
    rcases put_mem hi with h | h
    · rw [h]; simp; omega
    · have := hf.ins i h
      simp; omega
  · rw [z] at hpl
    simp at hpl
    omega
  · by_cases hi : i < ns.length
    · rw [List.getElem?_append_left hi] at hm
      exact put_keep P (hk i m hm)
    · have hil := (List.getElem?_eq_some_iff.mp hm).1
      simp at hil
      have e : i = ns.length := by omega
      subst e
      rw [List.getElem?_append_right (Nat.le_refl _)] at hm
      simp at hm
      subst hm
      exact put_new P
def G_law : List PyData → Res → Prop := fun ds r => ∃ ns : List Int, ds = [.list (ns.map .int)] ∧ ns.length ≤ 63 ∧ r = .d (.bool true)
section
variable {P : Program} {w : World} {K : PySem.W.Frag} {mg : Str → Option Value} {base : Heap} {f : Addr} {fd : FuncData}
theorem map_get {α : Type} {g : Nat → Nat} {ns : List Nat} {k : Nat} {d y : PyData} (hk : ((nI ns).map PyData.int)[k]? = some d) (hy : ((nI (ns.map g)).map PyData.int)[k]? = some y) : ∃ n, n ∈ ns ∧ d = .int (n : Int) ∧ y = .int ((g n : Nat) : Int) := by
  obtain ⟨x, hx, rfl⟩ := mem_nI hk
  obtain ⟨z, hz, rfl⟩ := mem_nI hy
  rw [List.getElem?_map, hx] at hz
  have e : z = g x := (Option.some.inj hz).symm
  subst e
  exact ⟨x, List.mem_of_getElem? hx, rfl, rfl⟩
abbrev st_law : Stmt := topS 112
theorem sc_law : FnScope ["_law_script", "_law_deck_here", "_law_numbers", "_law_more", "_law_one", "_law_other", "_law_times", "_law_slow", "_law_both", "_law_days", "_law_number", "_law_found", "_law_least"] ["_law_script"] (defScope st_law) := ⟨rfl, rfl, rfl, by decide +kernel, rfl, by decide +kernel, by decide +kernel⟩
theorem ok_law (F : Fun K "law" "law" st_law f fd) (T : Bl mg) (c_law_deck : Cal P w K mg base 1 "_law_deck" (spW K G_law_deck)) (c_law_drawn : Cal P w K mg base 9 "_law_drawn" (spD K)) (c_short : Cal P w K mg base 7 "short" (spW K G_short)) (c_at_once : Cal P w K mg base 8 "at_once" (spG K G_at_once)) (c_law_is_kept : Cal P w K mg base 10 "_law_is_kept" (spG K G_law_is_kept)) (c_slowed : Cal P w K mg base 7 "slowed" (spG K G_slowed)) (c_paired : Cal P w K mg base 7 "paired" (spG K G_paired)) (c_put_in : Cal P w K mg base 7 "put_in" (spW K G_put_in)) (c_made_short : Cal P w K mg base 9 "made_short" (spW K G_made_short)) (c_plain : Cal P w K mg base 4 "plain" (spG K G_plain)) : FnOk P w K mg base CX0 11 f fd ["_law_script"] (spG K G_law) := by
  refine okG F sc_law (fun ds r ⟨_, h, _⟩ => by rw [h]; rfl) fun cdv A outer s H E hr => ⟨_, (pss_cons (ps_set (i := 1) sc_law.nd rfl (Or.inl rfl) (pe_cl c_law_deck hr (by decide) (by rfl) (pa_cons (pv 0) (pa_cons pe_int pa_nil)))) (pss_cons (ps_par (i := 2) (j := 3) rfl sc_law.nd rfl rfl (by decide) rfl rfl (pa_cons (pe_cl c_law_drawn hr (by decide) (by rfl) (pa_cons (pv 1) pa_nil)) (pa_cons (pe_cl c_law_drawn hr (by decide) (by rfl) (pa_cons (pv 1) pa_nil)) pa_nil)) (by rfl)) (pss_cons (ps_par (i := 4) (j := 5) rfl sc_law.nd rfl rfl (by decide) rfl rfl (pa_cons (pe_cl c_short hr (by decide) (by rfl) (pa_cons (pe_cl c_at_once hr (by decide) (by rfl) (pa_cons (pv 2) pa_nil)) pa_nil)) (pa_cons (pe_cl c_short hr (by decide) (by rfl) (pa_cons (pe_cl c_at_once hr (by decide) (by rfl) (pa_cons (pv 3) pa_nil)) pa_nil)) pa_nil)) (by rfl)) (pss_cons (ps_set (i := 6) sc_law.nd rfl (Or.inr rfl) (pe_op op_add pe_int (pe_op op_mod (pe_bm0 PySem.F.plainAttrs_list PySem.F.slot_list_pop PySem.F.type_list_pop mt_pop (pv 1)) pe_int))) (pss_cons (ps_set (i := 7) sc_law.nd rfl (Or.inl rfl) (pe_callTy cw_tup (by rfl) T.tuple bt_tuple (pa_cons (pe_lc (own := [("_law_number", 10)]) (g := gName 10) (tt := tYes) rfl sc_law.nd  (pi_seq (pv 2)) (blkOk_by (own := [("_law_number", 10)]) (N := ["_law_script", "_law_deck_here", "_law_numbers", "_law_more", "_law_one", "_law_other", "_law_times", "_law_slow", "_law_both", "_law_days", "_law_number", "_law_found", "_law_least"]) (sc := defScope st_law) (by decide +kernel)) (fun _ _ _ _ _ => pg_name (i := 10) sc_law.nd rfl (Or.inl rfl)) (fun _ _ _ _ _ => pts_nil) (fun _ _ _ _ _ => (pe_op op_mul (pv 6) (pv 10)))) pa_nil))) (pss_cons (ps_if (PW.pt (pw_and (pt_cmpR op_le (pe_op op_mul (pe_callB cw_len (by rfl) T.len bt_len (pa_cons (pv 4) pa_nil)) (pv 6)) pe_int (nomark _)) (pw_and1 (pt_not (pt_val (pe_cl c_law_is_kept hr (by decide) (by rfl) (pa_cons (pv 7) (pa_cons (pe_cl c_slowed hr (by decide) (by rfl) (pa_cons (pv 4) (pa_cons (pv 6) pa_nil))) pa_nil)))))))) (pss_one (ps_ret pe_bl)) pss_nil) (pss_cons (ps_if (pt_cmpR op_gt (pe_op op_mul (pe_callB cw_len (by rfl) T.len bt_len (pa_cons (pv 4) pa_nil)) (pe_callB cw_len (by rfl) T.len bt_len (pa_cons (pv 5) pa_nil))) pe_int (nomark _)) (pss_one (ps_ret pe_bl)) pss_nil) (pss_cons (ps_set (i := 8) sc_law.nd rfl (Or.inl rfl) (pe_callTy cw_tup (by rfl) T.tuple bt_tuple (pa_cons (pe_lc (own := [("_law_number", 10)]) (g := gName 10) (tt := tYes) rfl sc_law.nd  (pi_seq (pe_op op_catA (pv 2) (pv 3))) (blkOk_by (own := [("_law_number", 10)]) (N := ["_law_script", "_law_deck_here", "_law_numbers", "_law_more", "_law_one", "_law_other", "_law_times", "_law_slow", "_law_both", "_law_days", "_law_number", "_law_found", "_law_least"]) (sc := defScope st_law) (by decide +kernel)) (fun _ _ _ _ _ => pg_name (i := 10) sc_law.nd rfl (Or.inl rfl)) (fun _ _ _ _ _ => pts_nil) (fun _ _ _ _ _ => (pe_op op_mul pe_int (pv 10)))) pa_nil))) (pss_cons (ps_set (i := 9) sc_law.nd rfl (Or.inl rfl) (pe_cl c_paired hr (by decide) (by rfl) (pa_cons (pv 4) (pa_cons (pv 5) (pa_cons (pe_callB cw_len (by rfl) T.len bt_len (pa_cons (pv 2) pa_nil)) pa_nil))))) (pss_cons (ps_if (pt_not (pt_val (pe_cl c_law_is_kept hr (by decide) (by rfl) (pa_cons (pv 8) (pa_cons (pv 9) pa_nil))))) (pss_one (ps_ret pe_bl)) pss_nil) (pss_cons (ps_set (i := 10) sc_law.nd rfl (Or.inl rfl) (pe_op op_add pe_int (pe_op op_mod (pe_bm0 PySem.F.plainAttrs_list PySem.F.slot_list_pop PySem.F.type_list_pop mt_pop (pv 1)) pe_int))) (pss_cons (ps_set (i := 11) sc_law.nd rfl (Or.inl rfl) (pe_cl c_put_in hr (by decide) (by rfl) (pa_cons (pv 9) (pa_cons pe_int (pa_cons (pe_callB cw_len (by rfl) T.len bt_len (pa_cons (pv 8) pa_nil)) (pa_cons (pv 10) pa_nil)))))) (pss_cons (ps_if (PW.pt (pw_and (pt_cmpR ow_notN (pv 11) pe_non (nomark _)) (pw_and1 (pt_not (pt_val (pe_cl c_law_is_kept hr (by decide) (by rfl) (pa_cons (pe_op op_catA (pv 8) (pe_tup (pa_cons (pv 10) pa_nil))) (pa_cons (pv 11) pa_nil)))))))) (pss_one (ps_ret pe_bl)) pss_nil) (pss_cons (ps_if (pt_cmpR op_gt (pe_callB cw_len (by rfl) T.len bt_len (pa_cons (pv 9) pa_nil)) pe_int (nomark _)) (pss_one (ps_ret pe_bl)) pss_nil) (pss_cons (ps_set (i := 12) sc_law.nd rfl (Or.inl rfl) (pe_cl c_made_short hr (by decide) (by rfl) (pa_cons (pe_cl c_plain hr (by decide) (by rfl) (pa_cons (pv 8) pa_nil)) (pa_cons (pv 9) pa_nil)))) (pss_one (ps_ret (pe_and (pe_cmpR ow_notN (pv 12) pe_non (nomark _)) (pe_and (pe_cmpR op_le (pe_callB cw_len (by rfl) T.len bt_len (pa_cons (pv 12) pa_nil)) (pe_callB cw_len (by rfl) T.len bt_len (pa_cons (pv 9) pa_nil)) (nomark _)) (pe_one (pe_cl c_law_is_kept hr (by decide) (by rfl) (pa_cons (pv 8) (pa_cons (pv 12) pa_nil))))))))))))))))))))))), fun ds r h => ?_⟩
  obtain ⟨script, rfl, hsc, rfl⟩ := h
  show Sd K _ [.d (.list (script.map .int)), .u, .u, .u, .u, .u, .u, .u, .u, .u, .u, .u, .u] _ _
  refine sq_asgLP (P := fun xs => ∃ ms : List Int, ms.length = 40 ∧ xs = ms.map .int) (elp_call (W := fun r => ∃ ms : List Int, ms.length = 40 ∧ r = .l (ms.map .int)) (ea_cons (ed_var rfl) (ea_cons ed_int ea_nil)) ⟨script, rfl, hsc, fun ms h => ⟨ms, h, rfl⟩⟩ fun r ⟨ms, h, e⟩ => ⟨_, e, ms, h, rfl⟩) ?_
  rintro p _ ⟨ms, hms, rfl⟩
  refine ⟨lfAll_ints _, ?_⟩
  -- the numbers
  refine sq_parM (P' := fun z δ' z' δ'' => ∃ (mo : List Nat) (m2 : List Int), D3 mo ∧ 32 ≤ m2.length ∧ z' = numD mo ∧ δ'' = [.d (.list (script.map .int)), .m p (m2.map .int), .u, .u, .u, .u, .u, .u, .u, .u, .u, .u, .u]) (em_drawn (i := 1) (p := p) (ms := ms) rfl (by omega)) ?_ ?_
  · rintro z δ' ⟨ns, m1, hd, hm1, rfl, rfl⟩
    refine ⟨lf_num _, fun B σ H e Q q => em_drawn (i := 1) (p := p) (ms := m1) rfl (by omega) B σ H e Q fun d δ'' v H' hz => ?_⟩
    obtain ⟨mo, m2, hd2, hm2, rfl, rfl⟩ := hz
    exact q _ _ v H' ⟨mo, m2, hd2, by omega, rfl, rfl⟩
  rintro z δ' z' δ'' ⟨ns, m1, hdn, _, rfl, _⟩ ⟨mo, m2, hdm, hm2, rfl, rfl⟩
  refine ⟨lf_num _, ?_⟩
  show Sd K _ [.d (.list (script.map .int)), .m p (m2.map .int), .d (numD ns), .d (numD mo), .u, .u, .u, .u, .u, .u, .u, .u, .u] _ _
  obtain ⟨hnl, hnb, r1, hr1⟩ := hdn
  obtain ⟨hml, hmb, r2, hr2⟩ := hdm
  have good : ∀ {l : List Nat} {r : Ring}, l.length ≤ 3 → (∀ n ∈ l, 2 ≤ n ∧ n ≤ 8) → atOnceM l = some (some r) → Good l r := fun {l r} h1 h2 h3 => by
    obtain ⟨res, e1, _, e3⟩ := at_good h1 h2
    rw [h3] at e1
    exact e3 r (Option.some.inj e1).symm
  have g1 := good hnl hnb hr1
  have g2 := good hml hmb hr2
  have shortP : ∀ {l : List Nat} {r : Ring} {δ : List Cell} {ta : TE}, l.length ≤ 3 → (∀ n ∈ l, 2 ≤ n ∧ n ≤ 8) → atOnceM l = some (some r) → Good l r → Ed K ta δ (numD l) → EdP K (tCall (spW K G_short) [] E0 (tCons (tCall (spG K G_at_once) [] E0 (tCons ta tNil)) tNil)) δ fun d => ∃ s, d = ringD s ∧ Good l s := fun {l r δ ta} h1 h2 h3 h4 he =>
    ep_call (W := fun z => ∃ s, z = .d (ringD s) ∧ Good l s) (ea_cons (Ed.is (ed_at_once he (.inl rfl) (n8_of h1 h2) h3) (y := ringD r) rfl) ea_nil) ⟨r, rfl, (good_in h4).mono (by omega), by have := h4.len; omega, h4.ne, fun s m hs hm e => ⟨s, rfl, good_part h4 hs hm e⟩⟩ fun z ⟨s, e, g⟩ => ⟨s, by rw [e]; rfl, g⟩
  refine sq_parP (shortP hnl hnb hr1 g1 (ed_var rfl)) (shortP hml hmb hr2 g2 (ed_var rfl)) ?_
  rintro _ _ ⟨a, rfl, ga⟩ ⟨b, rfl, gb⟩
  refine ⟨.inr (lf_ring _), .inr (lf_ring _), ?_⟩
  show Sd K _ [.d (.list (script.map .int)), .m p (m2.map .int), .d (numD ns), .d (numD mo), .d (ringD a), .d (ringD b), .u, .u, .u, .u, .u, .u, .u] _ _
  -- slowed
  obtain ⟨m3, x3, rfl, hm3⟩ := snoc (ms := m2) (by omega)
  refine sq_asgM (em_addC (em_mod (em_popI (i := 1) (p := p) (ms := m3) (x := x3) rfl) (by decide) fun z δ' ⟨e, _⟩ => ⟨x3, e⟩) fun z δ' ⟨n, _, e⟩ => ⟨_, e⟩) ?_
  rintro z δ' ⟨n1, ⟨n2, ⟨e1, rfl⟩, e2⟩, rfl⟩
  cases e1
  cases e2
  refine ⟨rfl, ?_⟩
  obtain ⟨t, ht, ht1, ht2⟩ : ∃ t : Nat, 1 + x3 % 5 = (t : Int) ∧ 1 ≤ t ∧ t ≤ 5 := ⟨(1 + x3 % 5).toNat, by omega, by omega, by omega⟩
  rw [ht]
  show Sd K _ [.d (.list (script.map .int)), .m p (m3.map .int), .d (numD ns), .d (numD mo), .d (ringD a), .d (ringD b), .d (.int (t : Int)), .u, .u, .u, .u, .u, .u] _ _
  refine sq_asg (d := numD (ns.map (t * ·))) (ed_tupL (el_map (ds := (nI ns).map .int) ((nI (ns.map (t * ·))).map .int) (ed_var rfl) (.inl rfl) (.inr (lfAll_ints _)) (by rw [nI_len]; omega) (by rw [nI_len, nI_len, List.length_map]) (lfAll_ints _) fun k d y hk hy => ?_)) (.inr (lf_num _)) ?_
  · obtain ⟨n, hn, rfl, rfl⟩ := map_get (α := Nat) hk hy
    exact Ed.is (ed_mul (ed_var rfl) (ed_var rfl) (.inl ⟨by omega, by omega⟩)) (by rw [Int.natCast_mul])
  obtain ⟨fs, ks⟩ := slow_fit ga hnl hnb ht1 ht2
  have hal := ga.len
  have hbl := gb.len
  have hta : t * a.length ≤ 5 * 100 := Nat.mul_le_mul ht2 hal
  refine sq_guard (td_and (b := false) (td_test (ed_le (ed_mul (ed_rlen (r := a) (ed_var rfl)) (ed_var rfl) (.inl ⟨by omega, by omega⟩)) ed_int)) (fun _ => Td.is (td_not (td_B (ed_is_kept (ed_var rfl) (ed_call (d := ringD (slow t a)) (ea_cons (ed_var rfl) (ea_cons (ed_var rfl) ea_nil)) ⟨a, t, rfl, (good_in ga).mono (by omega), ga.ne, by omega, by omega, by omega, rfl⟩) fs ks))) rfl) |>.is (by rw [Bool.and_false])) ?_
  -- paired
  refine sq_when (b := decide (2000 < a.length * b.length)) (Td.is (td_test (ed_gt (ed_mul (ed_rlen (r := a) (ed_var rfl)) (ed_rlen (r := b) (ed_var rfl)) (.inl ⟨by omega, by omega⟩)) ed_int)) ?_) (fun _ => sd_ret ed_bl rfl) (fun hz => ?_)
  · rw [← Int.natCast_mul]
    exact decide_eq_decide.2 (by omega)
  have hz' : a.length * b.length ≤ 2000 := by have := of_decide_eq_false hz; omega
  obtain ⟨fp, kp, hL⟩ := pair_fit ga gb hnl hml hnb hmb hz'
  refine sq_asg (d := numD ((ns ++ mo).map (2 * ·))) (ed_tupL (el_map (ds := (nI (ns ++ mo)).map .int) ((nI ((ns ++ mo).map (2 * ·))).map .int) (Ed.is (ed_catT (xs := (nI ns).map .int) (ys := (nI mo).map .int) (ed_var rfl) (ed_var rfl) (by rw [nI_len, nI_len, sizeLine_eq]; omega)) (by rw [nI_append, List.map_append])) (.inl rfl) (.inr (lfAll_ints _)) (by rw [nI_len, List.length_append]; omega) (by rw [nI_len, nI_len, List.length_map]) (lfAll_ints _) fun k d y hk hy => ?_)) (.inr (lf_num _)) ?_
  · obtain ⟨n, hn, rfl, rfl⟩ := map_get (α := Nat) hk hy
    exact Ed.is (ed_mul ed_int (ed_var rfl) (.inl ⟨by omega, by omega⟩)) (by rw [Int.natCast_mul]; rfl)
  refine sq_asg (d := ringD (pr a b ns.length (Nat.lcm a.length b.length))) (ed_call (ea_cons (ed_var rfl) (ea_cons (ed_var rfl) (ea_cons (ed_nlen (ns := ns) (ed_var rfl)) ea_nil))) ⟨a, b, ns.length, rfl, (good_in ga).mono (by omega), ga.ne, (good_in gb).mono (by omega), gb.ne, by omega, by omega, hL, rfl⟩) (.inr (lf_ring _)) ?_
  have hbothl : ((ns ++ mo).map (2 * ·)).length ≤ 6 := by rw [List.length_map, List.length_append]; omega
  generalize (ns ++ mo).map (2 * ·) = both at fp kp hbothl ⊢
  generalize pr a b ns.length (Nat.lcm a.length b.length) = days at fp kp ⊢
  show Sd K _ [.d (.list (script.map .int)), .m p (m3.map .int), .d (numD ns), .d (numD mo), .d (ringD a), .d (ringD b), .d (.int (t : Int)), .d (numD (ns.map (t * ·))), .d (numD both), .d (ringD days), .u, .u, .u] _ _
  refine sq_guard (Td.is (td_not (td_B (ed_is_kept (ed_var rfl) (ed_var rfl) fp kp))) rfl) ?_
  -- put in
  obtain ⟨m4, x4, rfl, hm4⟩ := snoc (ms := m3) (by omega)
  refine sq_asgM (em_addC (em_mod (em_popI (i := 1) (p := p) (ms := m4) (x := x4) rfl) (by decide) fun z δ' ⟨e, _⟩ => ⟨x4, e⟩) fun z δ' ⟨n, _, e⟩ => ⟨_, e⟩) ?_
  rintro z δ' ⟨n1, ⟨n2, ⟨e1, rfl⟩, e2⟩, rfl⟩
  cases e1
  cases e2
  refine ⟨rfl, ?_⟩
  obtain ⟨n, hn, hn1, hn2⟩ : ∃ n : Nat, 1 + x4 % 24 = (n : Int) ∧ 1 ≤ n ∧ n ≤ 24 := ⟨(1 + x4 % 24).toNat, by omega, by omega, by omega⟩
  rw [hn]
  show Sd K _ [.d (.list (script.map .int)), .m p (m4.map .int), .d (numD ns), .d (numD mo), .d (ringD a), .d (ringD b), .d (.int (t : Int)), .d (numD (ns.map (t * ·))), .d (numD both), .d (ringD days), .d (.int (n : Int)), .u, .u] _ _
  refine sq_asgP (P := fun d => d = .none ∨ ∃ ps, Places days n ps ∧ d = ringD (put days both.length ps)) (ep_call (W := fun r => r = .d .none ∨ ∃ ps, Places days n ps ∧ r = .d (ringD (put days both.length ps))) (ea_cons (ed_var rfl) (ea_cons ed_int (ea_cons (ed_nlen (ns := both) (ed_var rfl)) (ea_cons (ed_var rfl) ea_nil)))) ⟨days, both.length, n, rfl, fp.ne, fp.len, fp.ins.mono (by omega), by omega, fun z => by have := fp.ins _ z; omega, hn1, by omega, .inl rfl, fun ps h => .inr ⟨ps, h, rfl⟩⟩ ?_) ?_
  · rintro r (rfl | ⟨ps, h, rfl⟩)
    · exact .inl rfl
    · exact .inr ⟨ps, h, rfl⟩
  intro d hd
  have hlf : lf d = true := by
    rcases hd with rfl | ⟨ps, h, rfl⟩
    · rfl
    · exact lf_ring _
  refine ⟨.inr hlf, ?_⟩
  show Sd K _ [.d (.list (script.map .int)), .m p (m4.map .int), .d (numD ns), .d (numD mo), .d (ringD a), .d (ringD b), .d (.int (t : Int)), .d (numD (ns.map (t * ·))), .d (numD both), .d (ringD days), .d (.int (n : Int)), .d d, .u] _ _
  refine sq_guard ?_ ?_
  · rcases hd with rfl | ⟨ps, h, rfl⟩
    · exact td_and (a := false) (b := false) (Td.is (td_test (ed_notN (x := .none) (ed_var rfl) ed_non)) rfl) (fun z => by cases z)
    · obtain ⟨fq, kq⟩ := put_fit fp kp (by omega) hn1 (by omega) h
      exact td_and (a := true) (b := false) (Td.is (td_test (ed_notN (x := ringD (put days both.length ps)) (ed_var rfl) ed_non)) rfl) (fun _ => Td.is (td_not (td_B (ed_is_kept (Ed.is (ed_catT (xs := (nI both).map .int) (ys := [.int (n : Int)]) (ed_var rfl) (ed_tup (ea_cons (ed_var rfl) ea_nil) (by simp)) (by rw [nI_len, sizeLine_eq]; simp; omega)) (y := numD (both ++ [n])) (by unfold numD; rw [nI_append, List.map_append]; rfl)) (ed_var rfl) fq kq))) rfl)
  -- made short
  refine sq_when (b := decide (60 < days.length)) (Td.is (td_test (ed_gt (ed_rlen (r := days) (ed_var rfl)) ed_int)) (decide_eq_decide.mpr (by omega))) (fun _ => sd_ret ed_bl rfl) (fun hz => ?_)
  have hd60 : days.length ≤ 60 := by have := of_decide_eq_false hz; omega
  have hon := (on_keeps fp.n.pos (List.length_pos_iff.mpr fp.ne)).mpr kp
  refine sq_asgP (P := fun d => ∃ s, d = ringD s ∧ s ≠ [] ∧ s.length ≤ days.length ∧ In both.length s ∧ onM both both s = true) (ep_call (W := fun r => ∃ s, r = .d (ringD s) ∧ s ≠ [] ∧ s.length ≤ days.length ∧ In both.length s ∧ onM both both s = true) (ea_cons (ed_plain (ns := both) (ed_var rfl) fp.n) (ea_cons (ed_var rfl) ea_nil)) ⟨both, days, rfl, fp.n, fp.ins, fp.ne, by omega, hon, fun s h1 h2 h3 h4 => ⟨s, rfl, h1, h2, h3, h4⟩⟩ ?_) ?_
  · rintro r ⟨s, rfl, h⟩
    exact ⟨s, rfl, h⟩
  rintro _ ⟨s, rfl, hs1, hs2, hs3, hs4⟩
  refine ⟨.inr (lf_ring _), ?_⟩
  have fs2 : Fit both s := ⟨fp.n, hs3, by omega, hs1⟩
  have ks2 := (on_keeps fp.n.pos (List.length_pos_iff.mpr hs1)).mp hs4
  exact sd_ret (d := .bool true) (Ed.is (ed_andV (a := true) (Ed.is (ed_notN (x := ringD s) (ed_var rfl) ed_non) rfl) (fun _ => ed_andV (a := true) (Ed.is (ed_le (ed_rlen (r := s) (ed_var rfl)) (ed_rlen (r := days) (ed_var rfl))) (by rw [decide_eq_true (by omega)])) (fun _ => ed_is_kept (ed_var rfl) (ed_var rfl) fs2 ks2))) rfl) rfl
end
end WD

namespace WD
open PySem PySem.Spec PyProof.Rows L2 WM
/-! ### the top: the defs stand there as the text says -/
theorem all_mk {l : PySem.W.OpenLaw} {w : World} {K : PySem.W.Frag} {h : Heap} {mg : Str → Option Value} {fa : Addr} (X : K.In h) (G : h.Ns mainGlobals mg) (hfa : mg "law" = some (.ref fa))
    {f_is_whole f_is_row f_is_rising f_told_rows f_is_day f_are_days f_is_ring f_asked_ring f_is_numbers f_asked_numbers f_divisor f_common_of f_short f_slowed f_renumbered f_paired f_is_off f_are_pairs f_is_task f_asked_task f_plain f_in_ties f_are_waits f_is_some_of f_is_stand_of f_asked_stand f_first_of f_first_stand f_lies_under f_is_tied f_can_be_done f_wait_behind f_later_stand f_led f_on_holds f_is_lead f_is_on f_is_answer_of f_asked_answer f_answer_holds f_holds f_farthest f_places_from f_fewest_places f_put_in f_stretches f_made_short f_share_of f_share f_has_room f_rising_things f_divide_on f_dividing f_by_turns f_spread f_two_alone f_doubled f_smaller f_smaller_to_two f_at_once f_law_deck f_law_lack f_law_is_kept f_law_drawn f_law : Addr}
    {od_is_whole an_is_whole od_is_row an_is_row od_is_rising an_is_rising od_told_rows an_told_rows od_is_day an_is_day od_are_days an_are_days od_is_ring an_is_ring od_asked_ring an_asked_ring od_is_numbers an_is_numbers od_asked_numbers an_asked_numbers od_divisor an_divisor od_common_of an_common_of od_short an_short od_slowed an_slowed od_renumbered an_renumbered od_paired an_paired od_is_off an_is_off od_are_pairs an_are_pairs od_is_task an_is_task od_asked_task an_asked_task od_plain an_plain od_in_ties an_in_ties od_are_waits an_are_waits od_is_some_of an_is_some_of od_is_stand_of an_is_stand_of od_asked_stand an_asked_stand od_first_of an_first_of od_first_stand an_first_stand od_lies_under an_lies_under od_is_tied an_is_tied od_can_be_done an_can_be_done od_wait_behind an_wait_behind od_later_stand an_later_stand od_led an_led od_on_holds an_on_holds od_is_lead an_is_lead od_is_on an_is_on od_is_answer_of an_is_answer_of od_asked_answer an_asked_answer od_answer_holds an_answer_holds od_holds an_holds od_farthest an_farthest od_places_from an_places_from od_fewest_places an_fewest_places od_put_in an_put_in od_stretches an_stretches od_made_short an_made_short od_share_of an_share_of od_share an_share od_has_room an_has_room od_rising_things an_rising_things od_divide_on an_divide_on od_dividing an_dividing od_by_turns an_by_turns od_spread an_spread od_two_alone an_two_alone od_doubled an_doubled od_smaller an_smaller od_smaller_to_two an_smaller_to_two od_at_once an_at_once od_law_deck an_law_deck od_law_lack an_law_lack od_law_is_kept an_law_is_kept od_law_drawn an_law_drawn od_law an_law : Option Addr} {sl_is_whole sl_is_row sl_is_rising sl_told_rows sl_is_day sl_are_days sl_is_ring sl_asked_ring sl_is_numbers sl_asked_numbers sl_divisor sl_common_of sl_short sl_slowed sl_renumbered sl_paired sl_is_off sl_are_pairs sl_is_task sl_asked_task sl_plain sl_in_ties sl_are_waits sl_is_some_of sl_is_stand_of sl_asked_stand sl_first_of sl_first_stand sl_lies_under sl_is_tied sl_can_be_done sl_wait_behind sl_later_stand sl_led sl_on_holds sl_is_lead sl_is_on sl_is_answer_of sl_asked_answer sl_answer_holds sl_holds sl_farthest sl_places_from sl_fewest_places sl_put_in sl_stretches sl_made_short sl_share_of sl_share sl_has_room sl_rising_things sl_divide_on sl_dividing sl_by_turns sl_spread sl_two_alone sl_doubled sl_smaller sl_smaller_to_two sl_at_once sl_law_deck sl_law_lack sl_law_is_kept sl_law_drawn sl_law : Array (Option Value)}
    {oc_is_whole kV_is_whole dc_is_whole pm_is_whole cd_is_whole ct_is_whole oc_is_row kV_is_row dc_is_row pm_is_row cd_is_row ct_is_row oc_is_rising kV_is_rising dc_is_rising pm_is_rising cd_is_rising ct_is_rising oc_told_rows kV_told_rows dc_told_rows pm_told_rows cd_told_rows ct_told_rows oc_is_day kV_is_day dc_is_day pm_is_day cd_is_day ct_is_day oc_are_days kV_are_days dc_are_days pm_are_days cd_are_days ct_are_days oc_is_ring kV_is_ring dc_is_ring pm_is_ring cd_is_ring ct_is_ring oc_asked_ring kV_asked_ring dc_asked_ring pm_asked_ring cd_asked_ring ct_asked_ring oc_is_numbers kV_is_numbers dc_is_numbers pm_is_numbers cd_is_numbers ct_is_numbers oc_asked_numbers kV_asked_numbers dc_asked_numbers pm_asked_numbers cd_asked_numbers ct_asked_numbers oc_divisor kV_divisor dc_divisor pm_divisor cd_divisor ct_divisor oc_common_of kV_common_of dc_common_of pm_common_of cd_common_of ct_common_of oc_short kV_short dc_short pm_short cd_short ct_short oc_slowed kV_slowed dc_slowed pm_slowed cd_slowed ct_slowed oc_renumbered kV_renumbered dc_renumbered pm_renumbered cd_renumbered ct_renumbered oc_paired kV_paired dc_paired pm_paired cd_paired ct_paired oc_is_off kV_is_off dc_is_off pm_is_off cd_is_off ct_is_off oc_are_pairs kV_are_pairs dc_are_pairs pm_are_pairs cd_are_pairs ct_are_pairs oc_is_task kV_is_task dc_is_task pm_is_task cd_is_task ct_is_task oc_asked_task kV_asked_task dc_asked_task pm_asked_task cd_asked_task ct_asked_task oc_plain kV_plain dc_plain pm_plain cd_plain ct_plain oc_in_ties kV_in_ties dc_in_ties pm_in_ties cd_in_ties ct_in_ties oc_are_waits kV_are_waits dc_are_waits pm_are_waits cd_are_waits ct_are_waits oc_is_some_of kV_is_some_of dc_is_some_of pm_is_some_of cd_is_some_of ct_is_some_of oc_is_stand_of kV_is_stand_of dc_is_stand_of pm_is_stand_of cd_is_stand_of ct_is_stand_of oc_asked_stand kV_asked_stand dc_asked_stand pm_asked_stand cd_asked_stand ct_asked_stand oc_first_of kV_first_of dc_first_of pm_first_of cd_first_of ct_first_of oc_first_stand kV_first_stand dc_first_stand pm_first_stand cd_first_stand ct_first_stand oc_lies_under kV_lies_under dc_lies_under pm_lies_under cd_lies_under ct_lies_under oc_is_tied kV_is_tied dc_is_tied pm_is_tied cd_is_tied ct_is_tied oc_can_be_done kV_can_be_done dc_can_be_done pm_can_be_done cd_can_be_done ct_can_be_done oc_wait_behind kV_wait_behind dc_wait_behind pm_wait_behind cd_wait_behind ct_wait_behind oc_later_stand kV_later_stand dc_later_stand pm_later_stand cd_later_stand ct_later_stand oc_led kV_led dc_led pm_led cd_led ct_led oc_on_holds kV_on_holds dc_on_holds pm_on_holds cd_on_holds ct_on_holds oc_is_lead kV_is_lead dc_is_lead pm_is_lead cd_is_lead ct_is_lead oc_is_on kV_is_on dc_is_on pm_is_on cd_is_on ct_is_on oc_is_answer_of kV_is_answer_of dc_is_answer_of pm_is_answer_of cd_is_answer_of ct_is_answer_of oc_asked_answer kV_asked_answer dc_asked_answer pm_asked_answer cd_asked_answer ct_asked_answer oc_answer_holds kV_answer_holds dc_answer_holds pm_answer_holds cd_answer_holds ct_answer_holds oc_holds kV_holds dc_holds pm_holds cd_holds ct_holds oc_farthest kV_farthest dc_farthest pm_farthest cd_farthest ct_farthest oc_places_from kV_places_from dc_places_from pm_places_from cd_places_from ct_places_from oc_fewest_places kV_fewest_places dc_fewest_places pm_fewest_places cd_fewest_places ct_fewest_places oc_put_in kV_put_in dc_put_in pm_put_in cd_put_in ct_put_in oc_stretches kV_stretches dc_stretches pm_stretches cd_stretches ct_stretches oc_made_short kV_made_short dc_made_short pm_made_short cd_made_short ct_made_short oc_share_of kV_share_of dc_share_of pm_share_of cd_share_of ct_share_of oc_share kV_share dc_share pm_share cd_share ct_share oc_has_room kV_has_room dc_has_room pm_has_room cd_has_room ct_has_room oc_rising_things kV_rising_things dc_rising_things pm_rising_things cd_rising_things ct_rising_things oc_divide_on kV_divide_on dc_divide_on pm_divide_on cd_divide_on ct_divide_on oc_dividing kV_dividing dc_dividing pm_dividing cd_dividing ct_dividing oc_by_turns kV_by_turns dc_by_turns pm_by_turns cd_by_turns ct_by_turns oc_spread kV_spread dc_spread pm_spread cd_spread ct_spread oc_two_alone kV_two_alone dc_two_alone pm_two_alone cd_two_alone ct_two_alone oc_doubled kV_doubled dc_doubled pm_doubled cd_doubled ct_doubled oc_smaller kV_smaller dc_smaller pm_smaller cd_smaller ct_smaller oc_smaller_to_two kV_smaller_to_two dc_smaller_to_two pm_smaller_to_two cd_smaller_to_two ct_smaller_to_two oc_at_once kV_at_once dc_at_once pm_at_once cd_at_once ct_at_once oc_law_deck kV_law_deck dc_law_deck pm_law_deck cd_law_deck ct_law_deck oc_law_lack kV_law_lack dc_law_lack pm_law_lack cd_law_lack ct_law_lack oc_law_is_kept kV_law_is_kept dc_law_is_kept pm_law_is_kept cd_law_is_kept ct_law_is_kept oc_law_drawn kV_law_drawn dc_law_drawn pm_law_drawn cd_law_drawn ct_law_drawn oc_law kV_law dc_law pm_law cd_law ct_law : Value} {t_MOST_ON_A_DAY t_LONGEST t_MOST_THINGS_numbers t_GREATEST_numbers t_MOST_THINGS_turning t_MOST_OFF t_MOST_HANDS t_PARTS t_MOST_LEAD t_MOST_THINGS_fitting t_GREATEST_fitting t_MOST_SHORT : Tok}
    (a_is_whole : PySem.W.nsIn K mainGlobals "is_whole" = some (some (.ref f_is_whole))) (l_is_whole : K.lookup f_is_whole = some ⟨oc_is_whole, od_is_whole, .func (PySem.W.fnOf "is_whole" "is_whole" (defArgs st_is_whole) (defBody st_is_whole) (defScope st_is_whole) .none kV_is_whole dc_is_whole pm_is_whole an_is_whole cd_is_whole ct_is_whole), sl_is_whole⟩) (q_is_whole : PySem.W.codeIn K cd_is_whole "is_whole" = true) (k_is_whole : PySem.W.keepIn K (.ref f_is_whole) = true)
    (a_is_row : PySem.W.nsIn K mainGlobals "is_row" = some (some (.ref f_is_row))) (l_is_row : K.lookup f_is_row = some ⟨oc_is_row, od_is_row, .func (PySem.W.fnOf "is_row" "is_row" (defArgs st_is_row) (defBody st_is_row) (defScope st_is_row) .none kV_is_row dc_is_row pm_is_row an_is_row cd_is_row ct_is_row), sl_is_row⟩) (q_is_row : PySem.W.codeIn K cd_is_row "is_row" = true) (k_is_row : PySem.W.keepIn K (.ref f_is_row) = true)
    (a_is_rising : PySem.W.nsIn K mainGlobals "is_rising" = some (some (.ref f_is_rising))) (l_is_rising : K.lookup f_is_rising = some ⟨oc_is_rising, od_is_rising, .func (PySem.W.fnOf "is_rising" "is_rising" (defArgs st_is_rising) (defBody st_is_rising) (defScope st_is_rising) .none kV_is_rising dc_is_rising pm_is_rising an_is_rising cd_is_rising ct_is_rising), sl_is_rising⟩) (q_is_rising : PySem.W.codeIn K cd_is_rising "is_rising" = true) (k_is_rising : PySem.W.keepIn K (.ref f_is_rising) = true)
    (a_told_rows : PySem.W.nsIn K mainGlobals "told_rows" = some (some (.ref f_told_rows))) (l_told_rows : K.lookup f_told_rows = some ⟨oc_told_rows, od_told_rows, .func (PySem.W.fnOf "told_rows" "told_rows" (defArgs st_told_rows) (defBody st_told_rows) (defScope st_told_rows) .none kV_told_rows dc_told_rows pm_told_rows an_told_rows cd_told_rows ct_told_rows), sl_told_rows⟩) (q_told_rows : PySem.W.codeIn K cd_told_rows "told_rows" = true) (k_told_rows : PySem.W.keepIn K (.ref f_told_rows) = true)
    (a_is_day : PySem.W.nsIn K mainGlobals "is_day" = some (some (.ref f_is_day))) (l_is_day : K.lookup f_is_day = some ⟨oc_is_day, od_is_day, .func (PySem.W.fnOf "is_day" "is_day" (defArgs st_is_day) (defBody st_is_day) (defScope st_is_day) .none kV_is_day dc_is_day pm_is_day an_is_day cd_is_day ct_is_day), sl_is_day⟩) (q_is_day : PySem.W.codeIn K cd_is_day "is_day" = true) (k_is_day : PySem.W.keepIn K (.ref f_is_day) = true)
    (a_are_days : PySem.W.nsIn K mainGlobals "are_days" = some (some (.ref f_are_days))) (l_are_days : K.lookup f_are_days = some ⟨oc_are_days, od_are_days, .func (PySem.W.fnOf "are_days" "are_days" (defArgs st_are_days) (defBody st_are_days) (defScope st_are_days) .none kV_are_days dc_are_days pm_are_days an_are_days cd_are_days ct_are_days), sl_are_days⟩) (q_are_days : PySem.W.codeIn K cd_are_days "are_days" = true) (k_are_days : PySem.W.keepIn K (.ref f_are_days) = true)
    (a_is_ring : PySem.W.nsIn K mainGlobals "is_ring" = some (some (.ref f_is_ring))) (l_is_ring : K.lookup f_is_ring = some ⟨oc_is_ring, od_is_ring, .func (PySem.W.fnOf "is_ring" "is_ring" (defArgs st_is_ring) (defBody st_is_ring) (defScope st_is_ring) .none kV_is_ring dc_is_ring pm_is_ring an_is_ring cd_is_ring ct_is_ring), sl_is_ring⟩) (q_is_ring : PySem.W.codeIn K cd_is_ring "is_ring" = true) (k_is_ring : PySem.W.keepIn K (.ref f_is_ring) = true)
    (a_asked_ring : PySem.W.nsIn K mainGlobals "asked_ring" = some (some (.ref f_asked_ring))) (l_asked_ring : K.lookup f_asked_ring = some ⟨oc_asked_ring, od_asked_ring, .func (PySem.W.fnOf "asked_ring" "asked_ring" (defArgs st_asked_ring) (defBody st_asked_ring) (defScope st_asked_ring) .none kV_asked_ring dc_asked_ring pm_asked_ring an_asked_ring cd_asked_ring ct_asked_ring), sl_asked_ring⟩) (q_asked_ring : PySem.W.codeIn K cd_asked_ring "asked_ring" = true) (k_asked_ring : PySem.W.keepIn K (.ref f_asked_ring) = true)
    (a_is_numbers : PySem.W.nsIn K mainGlobals "is_numbers" = some (some (.ref f_is_numbers))) (l_is_numbers : K.lookup f_is_numbers = some ⟨oc_is_numbers, od_is_numbers, .func (PySem.W.fnOf "is_numbers" "is_numbers" (defArgs st_is_numbers) (defBody st_is_numbers) (defScope st_is_numbers) .none kV_is_numbers dc_is_numbers pm_is_numbers an_is_numbers cd_is_numbers ct_is_numbers), sl_is_numbers⟩) (q_is_numbers : PySem.W.codeIn K cd_is_numbers "is_numbers" = true) (k_is_numbers : PySem.W.keepIn K (.ref f_is_numbers) = true)
    (a_asked_numbers : PySem.W.nsIn K mainGlobals "asked_numbers" = some (some (.ref f_asked_numbers))) (l_asked_numbers : K.lookup f_asked_numbers = some ⟨oc_asked_numbers, od_asked_numbers, .func (PySem.W.fnOf "asked_numbers" "asked_numbers" (defArgs st_asked_numbers) (defBody st_asked_numbers) (defScope st_asked_numbers) .none kV_asked_numbers dc_asked_numbers pm_asked_numbers an_asked_numbers cd_asked_numbers ct_asked_numbers), sl_asked_numbers⟩) (q_asked_numbers : PySem.W.codeIn K cd_asked_numbers "asked_numbers" = true) (k_asked_numbers : PySem.W.keepIn K (.ref f_asked_numbers) = true)
    (a_divisor : PySem.W.nsIn K mainGlobals "divisor" = some (some (.ref f_divisor))) (l_divisor : K.lookup f_divisor = some ⟨oc_divisor, od_divisor, .func (PySem.W.fnOf "divisor" "divisor" (defArgs st_divisor) (defBody st_divisor) (defScope st_divisor) .none kV_divisor dc_divisor pm_divisor an_divisor cd_divisor ct_divisor), sl_divisor⟩) (q_divisor : PySem.W.codeIn K cd_divisor "divisor" = true) (k_divisor : PySem.W.keepIn K (.ref f_divisor) = true)
    (a_common_of : PySem.W.nsIn K mainGlobals "common_of" = some (some (.ref f_common_of))) (l_common_of : K.lookup f_common_of = some ⟨oc_common_of, od_common_of, .func (PySem.W.fnOf "common_of" "common_of" (defArgs st_common_of) (defBody st_common_of) (defScope st_common_of) .none kV_common_of dc_common_of pm_common_of an_common_of cd_common_of ct_common_of), sl_common_of⟩) (q_common_of : PySem.W.codeIn K cd_common_of "common_of" = true) (k_common_of : PySem.W.keepIn K (.ref f_common_of) = true)
    (a_short : PySem.W.nsIn K mainGlobals "short" = some (some (.ref f_short))) (l_short : K.lookup f_short = some ⟨oc_short, od_short, .func (PySem.W.fnOf "short" "short" (defArgs st_short) (defBody st_short) (defScope st_short) .none kV_short dc_short pm_short an_short cd_short ct_short), sl_short⟩) (q_short : PySem.W.codeIn K cd_short "short" = true) (k_short : PySem.W.keepIn K (.ref f_short) = true)
    (a_slowed : PySem.W.nsIn K mainGlobals "slowed" = some (some (.ref f_slowed))) (l_slowed : K.lookup f_slowed = some ⟨oc_slowed, od_slowed, .func (PySem.W.fnOf "slowed" "slowed" (defArgs st_slowed) (defBody st_slowed) (defScope st_slowed) .none kV_slowed dc_slowed pm_slowed an_slowed cd_slowed ct_slowed), sl_slowed⟩) (q_slowed : PySem.W.codeIn K cd_slowed "slowed" = true) (k_slowed : PySem.W.keepIn K (.ref f_slowed) = true)
    (a_renumbered : PySem.W.nsIn K mainGlobals "renumbered" = some (some (.ref f_renumbered))) (l_renumbered : K.lookup f_renumbered = some ⟨oc_renumbered, od_renumbered, .func (PySem.W.fnOf "renumbered" "renumbered" (defArgs st_renumbered) (defBody st_renumbered) (defScope st_renumbered) .none kV_renumbered dc_renumbered pm_renumbered an_renumbered cd_renumbered ct_renumbered), sl_renumbered⟩) (q_renumbered : PySem.W.codeIn K cd_renumbered "renumbered" = true) (k_renumbered : PySem.W.keepIn K (.ref f_renumbered) = true)
    (a_paired : PySem.W.nsIn K mainGlobals "paired" = some (some (.ref f_paired))) (l_paired : K.lookup f_paired = some ⟨oc_paired, od_paired, .func (PySem.W.fnOf "paired" "paired" (defArgs st_paired) (defBody st_paired) (defScope st_paired) .none kV_paired dc_paired pm_paired an_paired cd_paired ct_paired), sl_paired⟩) (q_paired : PySem.W.codeIn K cd_paired "paired" = true) (k_paired : PySem.W.keepIn K (.ref f_paired) = true)
    (a_is_off : PySem.W.nsIn K mainGlobals "is_off" = some (some (.ref f_is_off))) (l_is_off : K.lookup f_is_off = some ⟨oc_is_off, od_is_off, .func (PySem.W.fnOf "is_off" "is_off" (defArgs st_is_off) (defBody st_is_off) (defScope st_is_off) .none kV_is_off dc_is_off pm_is_off an_is_off cd_is_off ct_is_off), sl_is_off⟩) (q_is_off : PySem.W.codeIn K cd_is_off "is_off" = true) (k_is_off : PySem.W.keepIn K (.ref f_is_off) = true)
    (a_are_pairs : PySem.W.nsIn K mainGlobals "are_pairs" = some (some (.ref f_are_pairs))) (l_are_pairs : K.lookup f_are_pairs = some ⟨oc_are_pairs, od_are_pairs, .func (PySem.W.fnOf "are_pairs" "are_pairs" (defArgs st_are_pairs) (defBody st_are_pairs) (defScope st_are_pairs) .none kV_are_pairs dc_are_pairs pm_are_pairs an_are_pairs cd_are_pairs ct_are_pairs), sl_are_pairs⟩) (q_are_pairs : PySem.W.codeIn K cd_are_pairs "are_pairs" = true) (k_are_pairs : PySem.W.keepIn K (.ref f_are_pairs) = true)
    (a_is_task : PySem.W.nsIn K mainGlobals "is_task" = some (some (.ref f_is_task))) (l_is_task : K.lookup f_is_task = some ⟨oc_is_task, od_is_task, .func (PySem.W.fnOf "is_task" "is_task" (defArgs st_is_task) (defBody st_is_task) (defScope st_is_task) .none kV_is_task dc_is_task pm_is_task an_is_task cd_is_task ct_is_task), sl_is_task⟩) (q_is_task : PySem.W.codeIn K cd_is_task "is_task" = true) (k_is_task : PySem.W.keepIn K (.ref f_is_task) = true)
    (a_asked_task : PySem.W.nsIn K mainGlobals "asked_task" = some (some (.ref f_asked_task))) (l_asked_task : K.lookup f_asked_task = some ⟨oc_asked_task, od_asked_task, .func (PySem.W.fnOf "asked_task" "asked_task" (defArgs st_asked_task) (defBody st_asked_task) (defScope st_asked_task) .none kV_asked_task dc_asked_task pm_asked_task an_asked_task cd_asked_task ct_asked_task), sl_asked_task⟩) (q_asked_task : PySem.W.codeIn K cd_asked_task "asked_task" = true) (k_asked_task : PySem.W.keepIn K (.ref f_asked_task) = true)
    (a_plain : PySem.W.nsIn K mainGlobals "plain" = some (some (.ref f_plain))) (l_plain : K.lookup f_plain = some ⟨oc_plain, od_plain, .func (PySem.W.fnOf "plain" "plain" (defArgs st_plain) (defBody st_plain) (defScope st_plain) .none kV_plain dc_plain pm_plain an_plain cd_plain ct_plain), sl_plain⟩) (q_plain : PySem.W.codeIn K cd_plain "plain" = true) (k_plain : PySem.W.keepIn K (.ref f_plain) = true)
    (a_in_ties : PySem.W.nsIn K mainGlobals "in_ties" = some (some (.ref f_in_ties))) (l_in_ties : K.lookup f_in_ties = some ⟨oc_in_ties, od_in_ties, .func (PySem.W.fnOf "in_ties" "in_ties" (defArgs st_in_ties) (defBody st_in_ties) (defScope st_in_ties) .none kV_in_ties dc_in_ties pm_in_ties an_in_ties cd_in_ties ct_in_ties), sl_in_ties⟩) (q_in_ties : PySem.W.codeIn K cd_in_ties "in_ties" = true) (k_in_ties : PySem.W.keepIn K (.ref f_in_ties) = true)
    (a_are_waits : PySem.W.nsIn K mainGlobals "are_waits" = some (some (.ref f_are_waits))) (l_are_waits : K.lookup f_are_waits = some ⟨oc_are_waits, od_are_waits, .func (PySem.W.fnOf "are_waits" "are_waits" (defArgs st_are_waits) (defBody st_are_waits) (defScope st_are_waits) .none kV_are_waits dc_are_waits pm_are_waits an_are_waits cd_are_waits ct_are_waits), sl_are_waits⟩) (q_are_waits : PySem.W.codeIn K cd_are_waits "are_waits" = true) (k_are_waits : PySem.W.keepIn K (.ref f_are_waits) = true)
    (a_is_some_of : PySem.W.nsIn K mainGlobals "is_some_of" = some (some (.ref f_is_some_of))) (l_is_some_of : K.lookup f_is_some_of = some ⟨oc_is_some_of, od_is_some_of, .func (PySem.W.fnOf "is_some_of" "is_some_of" (defArgs st_is_some_of) (defBody st_is_some_of) (defScope st_is_some_of) .none kV_is_some_of dc_is_some_of pm_is_some_of an_is_some_of cd_is_some_of ct_is_some_of), sl_is_some_of⟩) (q_is_some_of : PySem.W.codeIn K cd_is_some_of "is_some_of" = true) (k_is_some_of : PySem.W.keepIn K (.ref f_is_some_of) = true)
    (a_is_stand_of : PySem.W.nsIn K mainGlobals "is_stand_of" = some (some (.ref f_is_stand_of))) (l_is_stand_of : K.lookup f_is_stand_of = some ⟨oc_is_stand_of, od_is_stand_of, .func (PySem.W.fnOf "is_stand_of" "is_stand_of" (defArgs st_is_stand_of) (defBody st_is_stand_of) (defScope st_is_stand_of) .none kV_is_stand_of dc_is_stand_of pm_is_stand_of an_is_stand_of cd_is_stand_of ct_is_stand_of), sl_is_stand_of⟩) (q_is_stand_of : PySem.W.codeIn K cd_is_stand_of "is_stand_of" = true) (k_is_stand_of : PySem.W.keepIn K (.ref f_is_stand_of) = true)
    (a_asked_stand : PySem.W.nsIn K mainGlobals "asked_stand" = some (some (.ref f_asked_stand))) (l_asked_stand : K.lookup f_asked_stand = some ⟨oc_asked_stand, od_asked_stand, .func (PySem.W.fnOf "asked_stand" "asked_stand" (defArgs st_asked_stand) (defBody st_asked_stand) (defScope st_asked_stand) .none kV_asked_stand dc_asked_stand pm_asked_stand an_asked_stand cd_asked_stand ct_asked_stand), sl_asked_stand⟩) (q_asked_stand : PySem.W.codeIn K cd_asked_stand "asked_stand" = true) (k_asked_stand : PySem.W.keepIn K (.ref f_asked_stand) = true)
    (a_first_of : PySem.W.nsIn K mainGlobals "first_of" = some (some (.ref f_first_of))) (l_first_of : K.lookup f_first_of = some ⟨oc_first_of, od_first_of, .func (PySem.W.fnOf "first_of" "first_of" (defArgs st_first_of) (defBody st_first_of) (defScope st_first_of) .none kV_first_of dc_first_of pm_first_of an_first_of cd_first_of ct_first_of), sl_first_of⟩) (q_first_of : PySem.W.codeIn K cd_first_of "first_of" = true) (k_first_of : PySem.W.keepIn K (.ref f_first_of) = true)
    (a_first_stand : PySem.W.nsIn K mainGlobals "first_stand" = some (some (.ref f_first_stand))) (l_first_stand : K.lookup f_first_stand = some ⟨oc_first_stand, od_first_stand, .func (PySem.W.fnOf "first_stand" "first_stand" (defArgs st_first_stand) (defBody st_first_stand) (defScope st_first_stand) .none kV_first_stand dc_first_stand pm_first_stand an_first_stand cd_first_stand ct_first_stand), sl_first_stand⟩) (q_first_stand : PySem.W.codeIn K cd_first_stand "first_stand" = true) (k_first_stand : PySem.W.keepIn K (.ref f_first_stand) = true)
    (a_lies_under : PySem.W.nsIn K mainGlobals "lies_under" = some (some (.ref f_lies_under))) (l_lies_under : K.lookup f_lies_under = some ⟨oc_lies_under, od_lies_under, .func (PySem.W.fnOf "lies_under" "lies_under" (defArgs st_lies_under) (defBody st_lies_under) (defScope st_lies_under) .none kV_lies_under dc_lies_under pm_lies_under an_lies_under cd_lies_under ct_lies_under), sl_lies_under⟩) (q_lies_under : PySem.W.codeIn K cd_lies_under "lies_under" = true) (k_lies_under : PySem.W.keepIn K (.ref f_lies_under) = true)
    (a_is_tied : PySem.W.nsIn K mainGlobals "is_tied" = some (some (.ref f_is_tied))) (l_is_tied : K.lookup f_is_tied = some ⟨oc_is_tied, od_is_tied, .func (PySem.W.fnOf "is_tied" "is_tied" (defArgs st_is_tied) (defBody st_is_tied) (defScope st_is_tied) .none kV_is_tied dc_is_tied pm_is_tied an_is_tied cd_is_tied ct_is_tied), sl_is_tied⟩) (q_is_tied : PySem.W.codeIn K cd_is_tied "is_tied" = true) (k_is_tied : PySem.W.keepIn K (.ref f_is_tied) = true)
    (a_can_be_done : PySem.W.nsIn K mainGlobals "can_be_done" = some (some (.ref f_can_be_done))) (l_can_be_done : K.lookup f_can_be_done = some ⟨oc_can_be_done, od_can_be_done, .func (PySem.W.fnOf "can_be_done" "can_be_done" (defArgs st_can_be_done) (defBody st_can_be_done) (defScope st_can_be_done) .none kV_can_be_done dc_can_be_done pm_can_be_done an_can_be_done cd_can_be_done ct_can_be_done), sl_can_be_done⟩) (q_can_be_done : PySem.W.codeIn K cd_can_be_done "can_be_done" = true) (k_can_be_done : PySem.W.keepIn K (.ref f_can_be_done) = true)
    (a_wait_behind : PySem.W.nsIn K mainGlobals "wait_behind" = some (some (.ref f_wait_behind))) (l_wait_behind : K.lookup f_wait_behind = some ⟨oc_wait_behind, od_wait_behind, .func (PySem.W.fnOf "wait_behind" "wait_behind" (defArgs st_wait_behind) (defBody st_wait_behind) (defScope st_wait_behind) .none kV_wait_behind dc_wait_behind pm_wait_behind an_wait_behind cd_wait_behind ct_wait_behind), sl_wait_behind⟩) (q_wait_behind : PySem.W.codeIn K cd_wait_behind "wait_behind" = true) (k_wait_behind : PySem.W.keepIn K (.ref f_wait_behind) = true)
    (a_later_stand : PySem.W.nsIn K mainGlobals "later_stand" = some (some (.ref f_later_stand))) (l_later_stand : K.lookup f_later_stand = some ⟨oc_later_stand, od_later_stand, .func (PySem.W.fnOf "later_stand" "later_stand" (defArgs st_later_stand) (defBody st_later_stand) (defScope st_later_stand) .none kV_later_stand dc_later_stand pm_later_stand an_later_stand cd_later_stand ct_later_stand), sl_later_stand⟩) (q_later_stand : PySem.W.codeIn K cd_later_stand "later_stand" = true) (k_later_stand : PySem.W.keepIn K (.ref f_later_stand) = true)
    (a_led : PySem.W.nsIn K mainGlobals "led" = some (some (.ref f_led))) (l_led : K.lookup f_led = some ⟨oc_led, od_led, .func (PySem.W.fnOf "led" "led" (defArgs st_led) (defBody st_led) (defScope st_led) .none kV_led dc_led pm_led an_led cd_led ct_led), sl_led⟩) (q_led : PySem.W.codeIn K cd_led "led" = true) (k_led : PySem.W.keepIn K (.ref f_led) = true)
    (a_on_holds : PySem.W.nsIn K mainGlobals "on_holds" = some (some (.ref f_on_holds))) (l_on_holds : K.lookup f_on_holds = some ⟨oc_on_holds, od_on_holds, .func (PySem.W.fnOf "on_holds" "on_holds" (defArgs st_on_holds) (defBody st_on_holds) (defScope st_on_holds) .none kV_on_holds dc_on_holds pm_on_holds an_on_holds cd_on_holds ct_on_holds), sl_on_holds⟩) (q_on_holds : PySem.W.codeIn K cd_on_holds "on_holds" = true) (k_on_holds : PySem.W.keepIn K (.ref f_on_holds) = true)
    (a_is_lead : PySem.W.nsIn K mainGlobals "is_lead" = some (some (.ref f_is_lead))) (l_is_lead : K.lookup f_is_lead = some ⟨oc_is_lead, od_is_lead, .func (PySem.W.fnOf "is_lead" "is_lead" (defArgs st_is_lead) (defBody st_is_lead) (defScope st_is_lead) .none kV_is_lead dc_is_lead pm_is_lead an_is_lead cd_is_lead ct_is_lead), sl_is_lead⟩) (q_is_lead : PySem.W.codeIn K cd_is_lead "is_lead" = true) (k_is_lead : PySem.W.keepIn K (.ref f_is_lead) = true)
    (a_is_on : PySem.W.nsIn K mainGlobals "is_on" = some (some (.ref f_is_on))) (l_is_on : K.lookup f_is_on = some ⟨oc_is_on, od_is_on, .func (PySem.W.fnOf "is_on" "is_on" (defArgs st_is_on) (defBody st_is_on) (defScope st_is_on) .none kV_is_on dc_is_on pm_is_on an_is_on cd_is_on ct_is_on), sl_is_on⟩) (q_is_on : PySem.W.codeIn K cd_is_on "is_on" = true) (k_is_on : PySem.W.keepIn K (.ref f_is_on) = true)
    (a_is_answer_of : PySem.W.nsIn K mainGlobals "is_answer_of" = some (some (.ref f_is_answer_of))) (l_is_answer_of : K.lookup f_is_answer_of = some ⟨oc_is_answer_of, od_is_answer_of, .func (PySem.W.fnOf "is_answer_of" "is_answer_of" (defArgs st_is_answer_of) (defBody st_is_answer_of) (defScope st_is_answer_of) .none kV_is_answer_of dc_is_answer_of pm_is_answer_of an_is_answer_of cd_is_answer_of ct_is_answer_of), sl_is_answer_of⟩) (q_is_answer_of : PySem.W.codeIn K cd_is_answer_of "is_answer_of" = true) (k_is_answer_of : PySem.W.keepIn K (.ref f_is_answer_of) = true)
    (a_asked_answer : PySem.W.nsIn K mainGlobals "asked_answer" = some (some (.ref f_asked_answer))) (l_asked_answer : K.lookup f_asked_answer = some ⟨oc_asked_answer, od_asked_answer, .func (PySem.W.fnOf "asked_answer" "asked_answer" (defArgs st_asked_answer) (defBody st_asked_answer) (defScope st_asked_answer) .none kV_asked_answer dc_asked_answer pm_asked_answer an_asked_answer cd_asked_answer ct_asked_answer), sl_asked_answer⟩) (q_asked_answer : PySem.W.codeIn K cd_asked_answer "asked_answer" = true) (k_asked_answer : PySem.W.keepIn K (.ref f_asked_answer) = true)
    (a_answer_holds : PySem.W.nsIn K mainGlobals "answer_holds" = some (some (.ref f_answer_holds))) (l_answer_holds : K.lookup f_answer_holds = some ⟨oc_answer_holds, od_answer_holds, .func (PySem.W.fnOf "answer_holds" "answer_holds" (defArgs st_answer_holds) (defBody st_answer_holds) (defScope st_answer_holds) .none kV_answer_holds dc_answer_holds pm_answer_holds an_answer_holds cd_answer_holds ct_answer_holds), sl_answer_holds⟩) (q_answer_holds : PySem.W.codeIn K cd_answer_holds "answer_holds" = true) (k_answer_holds : PySem.W.keepIn K (.ref f_answer_holds) = true)
    (a_holds : PySem.W.nsIn K mainGlobals "holds" = some (some (.ref f_holds))) (l_holds : K.lookup f_holds = some ⟨oc_holds, od_holds, .func (PySem.W.fnOf "holds" "holds" (defArgs st_holds) (defBody st_holds) (defScope st_holds) .none kV_holds dc_holds pm_holds an_holds cd_holds ct_holds), sl_holds⟩) (q_holds : PySem.W.codeIn K cd_holds "holds" = true) (k_holds : PySem.W.keepIn K (.ref f_holds) = true)
    (a_farthest : PySem.W.nsIn K mainGlobals "farthest" = some (some (.ref f_farthest))) (l_farthest : K.lookup f_farthest = some ⟨oc_farthest, od_farthest, .func (PySem.W.fnOf "farthest" "farthest" (defArgs st_farthest) (defBody st_farthest) (defScope st_farthest) .none kV_farthest dc_farthest pm_farthest an_farthest cd_farthest ct_farthest), sl_farthest⟩) (q_farthest : PySem.W.codeIn K cd_farthest "farthest" = true) (k_farthest : PySem.W.keepIn K (.ref f_farthest) = true)
    (a_places_from : PySem.W.nsIn K mainGlobals "places_from" = some (some (.ref f_places_from))) (l_places_from : K.lookup f_places_from = some ⟨oc_places_from, od_places_from, .func (PySem.W.fnOf "places_from" "places_from" (defArgs st_places_from) (defBody st_places_from) (defScope st_places_from) .none kV_places_from dc_places_from pm_places_from an_places_from cd_places_from ct_places_from), sl_places_from⟩) (q_places_from : PySem.W.codeIn K cd_places_from "places_from" = true) (k_places_from : PySem.W.keepIn K (.ref f_places_from) = true)
    (a_fewest_places : PySem.W.nsIn K mainGlobals "fewest_places" = some (some (.ref f_fewest_places))) (l_fewest_places : K.lookup f_fewest_places = some ⟨oc_fewest_places, od_fewest_places, .func (PySem.W.fnOf "fewest_places" "fewest_places" (defArgs st_fewest_places) (defBody st_fewest_places) (defScope st_fewest_places) .none kV_fewest_places dc_fewest_places pm_fewest_places an_fewest_places cd_fewest_places ct_fewest_places), sl_fewest_places⟩) (q_fewest_places : PySem.W.codeIn K cd_fewest_places "fewest_places" = true) (k_fewest_places : PySem.W.keepIn K (.ref f_fewest_places) = true)
    (a_put_in : PySem.W.nsIn K mainGlobals "put_in" = some (some (.ref f_put_in))) (l_put_in : K.lookup f_put_in = some ⟨oc_put_in, od_put_in, .func (PySem.W.fnOf "put_in" "put_in" (defArgs st_put_in) (defBody st_put_in) (defScope st_put_in) .none kV_put_in dc_put_in pm_put_in an_put_in cd_put_in ct_put_in), sl_put_in⟩) (q_put_in : PySem.W.codeIn K cd_put_in "put_in" = true) (k_put_in : PySem.W.keepIn K (.ref f_put_in) = true)
    (a_stretches : PySem.W.nsIn K mainGlobals "stretches" = some (some (.ref f_stretches))) (l_stretches : K.lookup f_stretches = some ⟨oc_stretches, od_stretches, .func (PySem.W.fnOf "stretches" "stretches" (defArgs st_stretches) (defBody st_stretches) (defScope st_stretches) .none kV_stretches dc_stretches pm_stretches an_stretches cd_stretches ct_stretches), sl_stretches⟩) (q_stretches : PySem.W.codeIn K cd_stretches "stretches" = true) (k_stretches : PySem.W.keepIn K (.ref f_stretches) = true)
    (a_made_short : PySem.W.nsIn K mainGlobals "made_short" = some (some (.ref f_made_short))) (l_made_short : K.lookup f_made_short = some ⟨oc_made_short, od_made_short, .func (PySem.W.fnOf "made_short" "made_short" (defArgs st_made_short) (defBody st_made_short) (defScope st_made_short) .none kV_made_short dc_made_short pm_made_short an_made_short cd_made_short ct_made_short), sl_made_short⟩) (q_made_short : PySem.W.codeIn K cd_made_short "made_short" = true) (k_made_short : PySem.W.keepIn K (.ref f_made_short) = true)
    (a_share_of : PySem.W.nsIn K mainGlobals "share_of" = some (some (.ref f_share_of))) (l_share_of : K.lookup f_share_of = some ⟨oc_share_of, od_share_of, .func (PySem.W.fnOf "share_of" "share_of" (defArgs st_share_of) (defBody st_share_of) (defScope st_share_of) .none kV_share_of dc_share_of pm_share_of an_share_of cd_share_of ct_share_of), sl_share_of⟩) (q_share_of : PySem.W.codeIn K cd_share_of "share_of" = true) (k_share_of : PySem.W.keepIn K (.ref f_share_of) = true)
    (a_share : PySem.W.nsIn K mainGlobals "share" = some (some (.ref f_share))) (l_share : K.lookup f_share = some ⟨oc_share, od_share, .func (PySem.W.fnOf "share" "share" (defArgs st_share) (defBody st_share) (defScope st_share) .none kV_share dc_share pm_share an_share cd_share ct_share), sl_share⟩) (q_share : PySem.W.codeIn K cd_share "share" = true) (k_share : PySem.W.keepIn K (.ref f_share) = true)
    (a_has_room : PySem.W.nsIn K mainGlobals "has_room" = some (some (.ref f_has_room))) (l_has_room : K.lookup f_has_room = some ⟨oc_has_room, od_has_room, .func (PySem.W.fnOf "has_room" "has_room" (defArgs st_has_room) (defBody st_has_room) (defScope st_has_room) .none kV_has_room dc_has_room pm_has_room an_has_room cd_has_room ct_has_room), sl_has_room⟩) (q_has_room : PySem.W.codeIn K cd_has_room "has_room" = true) (k_has_room : PySem.W.keepIn K (.ref f_has_room) = true)
    (a_rising_things : PySem.W.nsIn K mainGlobals "rising_things" = some (some (.ref f_rising_things))) (l_rising_things : K.lookup f_rising_things = some ⟨oc_rising_things, od_rising_things, .func (PySem.W.fnOf "rising_things" "rising_things" (defArgs st_rising_things) (defBody st_rising_things) (defScope st_rising_things) .none kV_rising_things dc_rising_things pm_rising_things an_rising_things cd_rising_things ct_rising_things), sl_rising_things⟩) (q_rising_things : PySem.W.codeIn K cd_rising_things "rising_things" = true) (k_rising_things : PySem.W.keepIn K (.ref f_rising_things) = true)
    (a_divide_on : PySem.W.nsIn K mainGlobals "divide_on" = some (some (.ref f_divide_on))) (l_divide_on : K.lookup f_divide_on = some ⟨oc_divide_on, od_divide_on, .func (PySem.W.fnOf "divide_on" "divide_on" (defArgs st_divide_on) (defBody st_divide_on) (defScope st_divide_on) .none kV_divide_on dc_divide_on pm_divide_on an_divide_on cd_divide_on ct_divide_on), sl_divide_on⟩) (q_divide_on : PySem.W.codeIn K cd_divide_on "divide_on" = true) (k_divide_on : PySem.W.keepIn K (.ref f_divide_on) = true)
    (a_dividing : PySem.W.nsIn K mainGlobals "dividing" = some (some (.ref f_dividing))) (l_dividing : K.lookup f_dividing = some ⟨oc_dividing, od_dividing, .func (PySem.W.fnOf "dividing" "dividing" (defArgs st_dividing) (defBody st_dividing) (defScope st_dividing) .none kV_dividing dc_dividing pm_dividing an_dividing cd_dividing ct_dividing), sl_dividing⟩) (q_dividing : PySem.W.codeIn K cd_dividing "dividing" = true) (k_dividing : PySem.W.keepIn K (.ref f_dividing) = true)
    (a_by_turns : PySem.W.nsIn K mainGlobals "by_turns" = some (some (.ref f_by_turns))) (l_by_turns : K.lookup f_by_turns = some ⟨oc_by_turns, od_by_turns, .func (PySem.W.fnOf "by_turns" "by_turns" (defArgs st_by_turns) (defBody st_by_turns) (defScope st_by_turns) .none kV_by_turns dc_by_turns pm_by_turns an_by_turns cd_by_turns ct_by_turns), sl_by_turns⟩) (q_by_turns : PySem.W.codeIn K cd_by_turns "by_turns" = true) (k_by_turns : PySem.W.keepIn K (.ref f_by_turns) = true)
    (a_spread : PySem.W.nsIn K mainGlobals "spread" = some (some (.ref f_spread))) (l_spread : K.lookup f_spread = some ⟨oc_spread, od_spread, .func (PySem.W.fnOf "spread" "spread" (defArgs st_spread) (defBody st_spread) (defScope st_spread) .none kV_spread dc_spread pm_spread an_spread cd_spread ct_spread), sl_spread⟩) (q_spread : PySem.W.codeIn K cd_spread "spread" = true) (k_spread : PySem.W.keepIn K (.ref f_spread) = true)
    (a_two_alone : PySem.W.nsIn K mainGlobals "two_alone" = some (some (.ref f_two_alone))) (l_two_alone : K.lookup f_two_alone = some ⟨oc_two_alone, od_two_alone, .func (PySem.W.fnOf "two_alone" "two_alone" (defArgs st_two_alone) (defBody st_two_alone) (defScope st_two_alone) .none kV_two_alone dc_two_alone pm_two_alone an_two_alone cd_two_alone ct_two_alone), sl_two_alone⟩) (q_two_alone : PySem.W.codeIn K cd_two_alone "two_alone" = true) (k_two_alone : PySem.W.keepIn K (.ref f_two_alone) = true)
    (a_doubled : PySem.W.nsIn K mainGlobals "doubled" = some (some (.ref f_doubled))) (l_doubled : K.lookup f_doubled = some ⟨oc_doubled, od_doubled, .func (PySem.W.fnOf "doubled" "doubled" (defArgs st_doubled) (defBody st_doubled) (defScope st_doubled) .none kV_doubled dc_doubled pm_doubled an_doubled cd_doubled ct_doubled), sl_doubled⟩) (q_doubled : PySem.W.codeIn K cd_doubled "doubled" = true) (k_doubled : PySem.W.keepIn K (.ref f_doubled) = true)
    (a_smaller : PySem.W.nsIn K mainGlobals "smaller" = some (some (.ref f_smaller))) (l_smaller : K.lookup f_smaller = some ⟨oc_smaller, od_smaller, .func (PySem.W.fnOf "smaller" "smaller" (defArgs st_smaller) (defBody st_smaller) (defScope st_smaller) .none kV_smaller dc_smaller pm_smaller an_smaller cd_smaller ct_smaller), sl_smaller⟩) (q_smaller : PySem.W.codeIn K cd_smaller "smaller" = true) (k_smaller : PySem.W.keepIn K (.ref f_smaller) = true)
    (a_smaller_to_two : PySem.W.nsIn K mainGlobals "smaller_to_two" = some (some (.ref f_smaller_to_two))) (l_smaller_to_two : K.lookup f_smaller_to_two = some ⟨oc_smaller_to_two, od_smaller_to_two, .func (PySem.W.fnOf "smaller_to_two" "smaller_to_two" (defArgs st_smaller_to_two) (defBody st_smaller_to_two) (defScope st_smaller_to_two) .none kV_smaller_to_two dc_smaller_to_two pm_smaller_to_two an_smaller_to_two cd_smaller_to_two ct_smaller_to_two), sl_smaller_to_two⟩) (q_smaller_to_two : PySem.W.codeIn K cd_smaller_to_two "smaller_to_two" = true) (k_smaller_to_two : PySem.W.keepIn K (.ref f_smaller_to_two) = true)
    (a_at_once : PySem.W.nsIn K mainGlobals "at_once" = some (some (.ref f_at_once))) (l_at_once : K.lookup f_at_once = some ⟨oc_at_once, od_at_once, .func (PySem.W.fnOf "at_once" "at_once" (defArgs st_at_once) (defBody st_at_once) (defScope st_at_once) .none kV_at_once dc_at_once pm_at_once an_at_once cd_at_once ct_at_once), sl_at_once⟩) (q_at_once : PySem.W.codeIn K cd_at_once "at_once" = true) (k_at_once : PySem.W.keepIn K (.ref f_at_once) = true)
    (a_law_deck : PySem.W.nsIn K mainGlobals "_law_deck" = some (some (.ref f_law_deck))) (l_law_deck : K.lookup f_law_deck = some ⟨oc_law_deck, od_law_deck, .func (PySem.W.fnOf "_law_deck" "_law_deck" (defArgs st_law_deck) (defBody st_law_deck) (defScope st_law_deck) .none kV_law_deck dc_law_deck pm_law_deck an_law_deck cd_law_deck ct_law_deck), sl_law_deck⟩) (q_law_deck : PySem.W.codeIn K cd_law_deck "_law_deck" = true) (k_law_deck : PySem.W.keepIn K (.ref f_law_deck) = true)
    (a_law_lack : PySem.W.nsIn K mainGlobals "_law_lack" = some (some (.ref f_law_lack))) (l_law_lack : K.lookup f_law_lack = some ⟨oc_law_lack, od_law_lack, .func (PySem.W.fnOf "_law_lack" "_law_lack" (defArgs st_law_lack) (defBody st_law_lack) (defScope st_law_lack) .none kV_law_lack dc_law_lack pm_law_lack an_law_lack cd_law_lack ct_law_lack), sl_law_lack⟩) (q_law_lack : PySem.W.codeIn K cd_law_lack "_law_lack" = true) (k_law_lack : PySem.W.keepIn K (.ref f_law_lack) = true)
    (a_law_is_kept : PySem.W.nsIn K mainGlobals "_law_is_kept" = some (some (.ref f_law_is_kept))) (l_law_is_kept : K.lookup f_law_is_kept = some ⟨oc_law_is_kept, od_law_is_kept, .func (PySem.W.fnOf "_law_is_kept" "_law_is_kept" (defArgs st_law_is_kept) (defBody st_law_is_kept) (defScope st_law_is_kept) .none kV_law_is_kept dc_law_is_kept pm_law_is_kept an_law_is_kept cd_law_is_kept ct_law_is_kept), sl_law_is_kept⟩) (q_law_is_kept : PySem.W.codeIn K cd_law_is_kept "_law_is_kept" = true) (k_law_is_kept : PySem.W.keepIn K (.ref f_law_is_kept) = true)
    (a_law_drawn : PySem.W.nsIn K mainGlobals "_law_drawn" = some (some (.ref f_law_drawn))) (l_law_drawn : K.lookup f_law_drawn = some ⟨oc_law_drawn, od_law_drawn, .func (PySem.W.fnOf "_law_drawn" "_law_drawn" (defArgs st_law_drawn) (defBody st_law_drawn) (defScope st_law_drawn) .none kV_law_drawn dc_law_drawn pm_law_drawn an_law_drawn cd_law_drawn ct_law_drawn), sl_law_drawn⟩) (q_law_drawn : PySem.W.codeIn K cd_law_drawn "_law_drawn" = true) (k_law_drawn : PySem.W.keepIn K (.ref f_law_drawn) = true)
    (a_law : PySem.W.nsIn K mainGlobals "law" = some (some (.ref f_law))) (l_law : K.lookup f_law = some ⟨oc_law, od_law, .func (PySem.W.fnOf "law" "law" (defArgs st_law) (defBody st_law) (defScope st_law) .none kV_law dc_law pm_law an_law cd_law ct_law), sl_law⟩) (q_law : PySem.W.codeIn K cd_law "law" = true) (k_law : PySem.W.keepIn K (.ref f_law) = true)
    (z_len : PySem.W.nsIn K mainGlobals "len" = some none)
    (z_isinstance : PySem.W.nsIn K mainGlobals "isinstance" = some none)
    (z_tuple : PySem.W.nsIn K mainGlobals "tuple" = some none)
    (z_list : PySem.W.nsIn K mainGlobals "list" = some none)
    (z_int : PySem.W.nsIn K mainGlobals "int" = some none)
    (z_bool : PySem.W.nsIn K mainGlobals "bool" = some none)
    (z_str : PySem.W.nsIn K mainGlobals "str" = some none)
    (z_range : PySem.W.nsIn K mainGlobals "range" = some none)
    (z_sum : PySem.W.nsIn K mainGlobals "sum" = some none)
    (z_min : PySem.W.nsIn K mainGlobals "min" = some none)
    (z_max : PySem.W.nsIn K mainGlobals "max" = some none)
    (z_sorted : PySem.W.nsIn K mainGlobals "sorted" = some none)
    (z_set : PySem.W.nsIn K mainGlobals "set" = some none)
    (z_enumerate : PySem.W.nsIn K mainGlobals "enumerate" = some none)
    (z_all : PySem.W.nsIn K mainGlobals "all" = some none)
    (v_MOST_ON_A_DAY : PySem.W.nsIn K mainGlobals "MOST_ON_A_DAY" = some (some (.int 2 t_MOST_ON_A_DAY)))
    (v_LONGEST : PySem.W.nsIn K mainGlobals "LONGEST" = some (some (.int 4000 t_LONGEST)))
    (v_MOST_THINGS_numbers : PySem.W.nsIn K mainGlobals "MOST_THINGS_numbers" = some (some (.int 8 t_MOST_THINGS_numbers)))
    (v_GREATEST_numbers : PySem.W.nsIn K mainGlobals "GREATEST_numbers" = some (some (.int 40 t_GREATEST_numbers)))
    (v_MOST_THINGS_turning : PySem.W.nsIn K mainGlobals "MOST_THINGS_turning" = some (some (.int 8 t_MOST_THINGS_turning)))
    (v_MOST_OFF : PySem.W.nsIn K mainGlobals "MOST_OFF" = some (some (.int 7 t_MOST_OFF)))
    (v_MOST_HANDS : PySem.W.nsIn K mainGlobals "MOST_HANDS" = some (some (.int 2 t_MOST_HANDS)))
    (v_PARTS : PySem.W.nsIn K mainGlobals "PARTS" = some (some (.int 5 t_PARTS)))
    (v_MOST_LEAD : PySem.W.nsIn K mainGlobals "MOST_LEAD" = some (some (.int 4000 t_MOST_LEAD)))
    (v_MOST_THINGS_fitting : PySem.W.nsIn K mainGlobals "MOST_THINGS_fitting" = some (some (.int 8 t_MOST_THINGS_fitting)))
    (v_GREATEST_fitting : PySem.W.nsIn K mainGlobals "GREATEST_fitting" = some (some (.int 40 t_GREATEST_fitting)))
    (v_MOST_SHORT : PySem.W.nsIn K mainGlobals "MOST_SHORT" = some (some (.int 100 t_MOST_SHORT)))
    : ∃ fd : FuncData, (∀ (s : Shared) (v : Value), BindsTo s fd ⟨[v], []⟩ [("_law_script", v)]) ∧ ∀ base : Heap, K.In base → base.Ns mainGlobals mg → FnOk l.prog w K mg base CX0 11 fa fd ["_law_script"] (spG K G_law) := by
  have e := hfa.symm.trans (PySem.W.mg_of X G a_law)
  cases e
  have T : Bl mg := ⟨PySem.W.mg_none_of X G z_len, PySem.W.mg_none_of X G z_isinstance, PySem.W.mg_none_of X G z_tuple, PySem.W.mg_none_of X G z_list, PySem.W.mg_none_of X G z_int, PySem.W.mg_none_of X G z_bool, PySem.W.mg_none_of X G z_str, PySem.W.mg_none_of X G z_range, PySem.W.mg_none_of X G z_sum, PySem.W.mg_none_of X G z_min, PySem.W.mg_none_of X G z_max, PySem.W.mg_none_of X G z_sorted, PySem.W.mg_none_of X G z_set, PySem.W.mg_none_of X G z_enumerate, PySem.W.mg_none_of X G z_all,
    ⟨_, PySem.W.mg_of X G v_MOST_ON_A_DAY, t_MOST_ON_A_DAY, rfl⟩, ⟨_, PySem.W.mg_of X G v_LONGEST, t_LONGEST, rfl⟩, ⟨_, PySem.W.mg_of X G v_MOST_THINGS_numbers, t_MOST_THINGS_numbers, rfl⟩, ⟨_, PySem.W.mg_of X G v_GREATEST_numbers, t_GREATEST_numbers, rfl⟩, ⟨_, PySem.W.mg_of X G v_MOST_THINGS_turning, t_MOST_THINGS_turning, rfl⟩, ⟨_, PySem.W.mg_of X G v_MOST_OFF, t_MOST_OFF, rfl⟩, ⟨_, PySem.W.mg_of X G v_MOST_HANDS, t_MOST_HANDS, rfl⟩, ⟨_, PySem.W.mg_of X G v_PARTS, t_PARTS, rfl⟩, ⟨_, PySem.W.mg_of X G v_MOST_LEAD, t_MOST_LEAD, rfl⟩, ⟨_, PySem.W.mg_of X G v_MOST_THINGS_fitting, t_MOST_THINGS_fitting, rfl⟩, ⟨_, PySem.W.mg_of X G v_GREATEST_fitting, t_GREATEST_fitting, rfl⟩, ⟨_, PySem.W.mg_of X G v_MOST_SHORT, t_MOST_SHORT, rfl⟩⟩
  have F_is_whole := fun_mk (st := st_is_whole) l_is_whole q_is_whole k_is_whole
  have b_is_whole := F_is_whole.binds (ps := ["thing", "least", "most"]) fun _ _ _ _ _ _ us hl => match us, hl with | [_, _, _], _ => rfl
  have F_is_row := fun_mk (st := st_is_row) l_is_row q_is_row k_is_row
  have b_is_row := F_is_row.binds (ps := ["thing"]) fun _ _ _ _ _ _ us hl => match us, hl with | [_], _ => rfl
  have F_is_rising := fun_mk (st := st_is_rising) l_is_rising q_is_rising k_is_rising
  have b_is_rising := F_is_rising.binds (ps := ["thing", "least", "most"]) fun _ _ _ _ _ _ us hl => match us, hl with | [_, _, _], _ => rfl
  have F_told_rows := fun_mk (st := st_told_rows) l_told_rows q_told_rows k_told_rows
  have b_told_rows := F_told_rows.binds (ps := ["thing"]) fun _ _ _ _ _ _ us hl => match us, hl with | [_], _ => rfl
  have F_is_day := fun_mk (st := st_is_day) l_is_day q_is_day k_is_day
  have b_is_day := F_is_day.binds (ps := ["many", "thing"]) fun _ _ _ _ _ _ us hl => match us, hl with | [_, _], _ => rfl
  have F_are_days := fun_mk (st := st_are_days) l_are_days q_are_days k_are_days
  have b_are_days := F_are_days.binds (ps := ["many", "thing"]) fun _ _ _ _ _ _ us hl => match us, hl with | [_, _], _ => rfl
  have F_is_ring := fun_mk (st := st_is_ring) l_is_ring q_is_ring k_is_ring
  have b_is_ring := F_is_ring.binds (ps := ["many", "thing"]) fun _ _ _ _ _ _ us hl => match us, hl with | [_, _], _ => rfl
  have F_asked_ring := fun_mk (st := st_asked_ring) l_asked_ring q_asked_ring k_asked_ring
  have b_asked_ring := F_asked_ring.binds (ps := ["many", "thing"]) fun _ _ _ _ _ _ us hl => match us, hl with | [_, _], _ => rfl
  have F_is_numbers := fun_mk (st := st_is_numbers) l_is_numbers q_is_numbers k_is_numbers
  have b_is_numbers := F_is_numbers.binds (ps := ["thing"]) fun _ _ _ _ _ _ us hl => match us, hl with | [_], _ => rfl
  have F_asked_numbers := fun_mk (st := st_asked_numbers) l_asked_numbers q_asked_numbers k_asked_numbers
  have b_asked_numbers := F_asked_numbers.binds (ps := ["thing"]) fun _ _ _ _ _ _ us hl => match us, hl with | [_], _ => rfl
  have F_divisor := fun_mk (st := st_divisor) l_divisor q_divisor k_divisor
  have b_divisor := F_divisor.binds (ps := ["one", "other"]) fun _ _ _ _ _ _ us hl => match us, hl with | [_, _], _ => rfl
  have F_common_of := fun_mk (st := st_common_of) l_common_of q_common_of k_common_of
  have b_common_of := F_common_of.binds (ps := ["numbers"]) fun _ _ _ _ _ _ us hl => match us, hl with | [_], _ => rfl
  have F_short := fun_mk (st := st_short) l_short q_short k_short
  have b_short := F_short.binds (ps := ["ring"]) fun _ _ _ _ _ _ us hl => match us, hl with | [_], _ => rfl
  have F_slowed := fun_mk (st := st_slowed) l_slowed q_slowed k_slowed
  have b_slowed := F_slowed.binds (ps := ["ring", "times"]) fun _ _ _ _ _ _ us hl => match us, hl with | [_, _], _ => rfl
  have F_renumbered := fun_mk (st := st_renumbered) l_renumbered q_renumbered k_renumbered
  have b_renumbered := F_renumbered.binds (ps := ["ring", "many"]) fun _ _ _ _ _ _ us hl => match us, hl with | [_, _], _ => rfl
  have F_paired := fun_mk (st := st_paired) l_paired q_paired k_paired
  have b_paired := F_paired.binds (ps := ["one", "other", "many"]) fun _ _ _ _ _ _ us hl => match us, hl with | [_, _, _], _ => rfl
  have F_is_off := fun_mk (st := st_is_off) l_is_off q_is_off k_is_off
  have b_is_off := F_is_off.binds (ps := ["thing"]) fun _ _ _ _ _ _ us hl => match us, hl with | [_], _ => rfl
  have F_are_pairs := fun_mk (st := st_are_pairs) l_are_pairs q_are_pairs k_are_pairs
  have b_are_pairs := F_are_pairs.binds (ps := ["thing", "many"]) fun _ _ _ _ _ _ us hl => match us, hl with | [_, _], _ => rfl
  have F_is_task := fun_mk (st := st_is_task) l_is_task q_is_task k_is_task
  have b_is_task := F_is_task.binds (ps := ["thing"]) fun _ _ _ _ _ _ us hl => match us, hl with | [_], _ => rfl
  have F_asked_task := fun_mk (st := st_asked_task) l_asked_task q_asked_task k_asked_task
  have b_asked_task := F_asked_task.binds (ps := ["thing"]) fun _ _ _ _ _ _ us hl => match us, hl with | [_], _ => rfl
  have F_plain := fun_mk (st := st_plain) l_plain q_plain k_plain
  have b_plain := F_plain.binds (ps := ["numbers"]) fun _ _ _ _ _ _ us hl => match us, hl with | [_], _ => rfl
  have F_in_ties := fun_mk (st := st_in_ties) l_in_ties q_in_ties k_in_ties
  have b_in_ties := F_in_ties.binds (ps := ["task"]) fun _ _ _ _ _ _ us hl => match us, hl with | [_], _ => rfl
  have F_are_waits := fun_mk (st := st_are_waits) l_are_waits q_are_waits k_are_waits
  have b_are_waits := F_are_waits.binds (ps := ["numbers", "waits"]) fun _ _ _ _ _ _ us hl => match us, hl with | [_, _], _ => rfl
  have F_is_some_of := fun_mk (st := st_is_some_of) l_is_some_of q_is_some_of k_is_some_of
  have b_is_some_of := F_is_some_of.binds (ps := ["things", "row", "most"]) fun _ _ _ _ _ _ us hl => match us, hl with | [_, _, _], _ => rfl
  have F_is_stand_of := fun_mk (st := st_is_stand_of) l_is_stand_of q_is_stand_of k_is_stand_of
  have b_is_stand_of := F_is_stand_of.binds (ps := ["task", "thing"]) fun _ _ _ _ _ _ us hl => match us, hl with | [_, _], _ => rfl
  have F_asked_stand := fun_mk (st := st_asked_stand) l_asked_stand q_asked_stand k_asked_stand
  have b_asked_stand := F_asked_stand.binds (ps := ["task", "thing"]) fun _ _ _ _ _ _ us hl => match us, hl with | [_, _], _ => rfl
  have F_first_of := fun_mk (st := st_first_of) l_first_of q_first_of k_first_of
  have b_first_of := F_first_of.binds (ps := ["task"]) fun _ _ _ _ _ _ us hl => match us, hl with | [_], _ => rfl
  have F_first_stand := fun_mk (st := st_first_stand) l_first_stand q_first_stand k_first_stand
  have b_first_stand := F_first_stand.binds (ps := ["task"]) fun _ _ _ _ _ _ us hl => match us, hl with | [_], _ => rfl
  have F_lies_under := fun_mk (st := st_lies_under) l_lies_under q_lies_under k_lies_under
  have b_lies_under := F_lies_under.binds (ps := ["one", "other"]) fun _ _ _ _ _ _ us hl => match us, hl with | [_, _], _ => rfl
  have F_is_tied := fun_mk (st := st_is_tied) l_is_tied q_is_tied k_is_tied
  have b_is_tied := F_is_tied.binds (ps := ["task", "day", "last"]) fun _ _ _ _ _ _ us hl => match us, hl with | [_, _, _], _ => rfl
  have F_can_be_done := fun_mk (st := st_can_be_done) l_can_be_done q_can_be_done k_can_be_done
  have b_can_be_done := F_can_be_done.binds (ps := ["task", "stand", "day"]) fun _ _ _ _ _ _ us hl => match us, hl with | [_, _, _], _ => rfl
  have F_wait_behind := fun_mk (st := st_wait_behind) l_wait_behind q_wait_behind k_wait_behind
  have b_wait_behind := F_wait_behind.binds (ps := ["task", "stand", "day", "i"]) fun _ _ _ _ _ _ us hl => match us, hl with | [_, _, _, _], _ => rfl
  have F_later_stand := fun_mk (st := st_later_stand) l_later_stand q_later_stand k_later_stand
  have b_later_stand := F_later_stand.binds (ps := ["task", "stand", "day"]) fun _ _ _ _ _ _ us hl => match us, hl with | [_, _, _], _ => rfl
  have F_led := fun_mk (st := st_led) l_led q_led k_led
  have b_led := F_led.binds (ps := ["task", "stand", "days"]) fun _ _ _ _ _ _ us hl => match us, hl with | [_, _, _], _ => rfl
  have F_on_holds := fun_mk (st := st_on_holds) l_on_holds q_on_holds k_on_holds
  have b_on_holds := F_on_holds.binds (ps := ["task", "stand", "lead", "ring"]) fun _ _ _ _ _ _ us hl => match us, hl with | [_, _, _, _], _ => rfl
  have F_is_lead := fun_mk (st := st_is_lead) l_is_lead q_is_lead k_is_lead
  have b_is_lead := F_is_lead.binds (ps := ["many", "thing"]) fun _ _ _ _ _ _ us hl => match us, hl with | [_, _], _ => rfl
  have F_is_on := fun_mk (st := st_is_on) l_is_on q_is_on k_is_on
  have b_is_on := F_is_on.binds (ps := ["task", "thing"]) fun _ _ _ _ _ _ us hl => match us, hl with | [_, _], _ => rfl
  have F_is_answer_of := fun_mk (st := st_is_answer_of) l_is_answer_of q_is_answer_of k_is_answer_of
  have b_is_answer_of := F_is_answer_of.binds (ps := ["task", "thing"]) fun _ _ _ _ _ _ us hl => match us, hl with | [_, _], _ => rfl
  have F_asked_answer := fun_mk (st := st_asked_answer) l_asked_answer q_asked_answer k_asked_answer
  have b_asked_answer := F_asked_answer.binds (ps := ["task", "thing"]) fun _ _ _ _ _ _ us hl => match us, hl with | [_, _], _ => rfl
  have F_answer_holds := fun_mk (st := st_answer_holds) l_answer_holds q_answer_holds k_answer_holds
  have b_answer_holds := F_answer_holds.binds (ps := ["task", "stand", "answer"]) fun _ _ _ _ _ _ us hl => match us, hl with | [_, _, _], _ => rfl
  have F_holds := fun_mk (st := st_holds) l_holds q_holds k_holds
  have b_holds := F_holds.binds (ps := ["task", "stand", "answer"]) fun _ _ _ _ _ _ us hl => match us, hl with | [_, _, _], _ => rfl
  have F_farthest := fun_mk (st := st_farthest) l_farthest q_farthest k_farthest
  have b_farthest := F_farthest.binds (ps := ["ring", "hands", "cur", "number"]) fun _ _ _ _ _ _ us hl => match us, hl with | [_, _, _, _], _ => rfl
  have F_places_from := fun_mk (st := st_places_from) l_places_from q_places_from k_places_from
  have b_places_from := F_places_from.binds (ps := ["ring", "hands", "begin", "number"]) fun _ _ _ _ _ _ us hl => match us, hl with | [_, _, _, _], _ => rfl
  have F_fewest_places := fun_mk (st := st_fewest_places) l_fewest_places q_fewest_places k_fewest_places
  have b_fewest_places := F_fewest_places.binds (ps := ["ring", "hands", "number"]) fun _ _ _ _ _ _ us hl => match us, hl with | [_, _, _], _ => rfl
  have F_put_in := fun_mk (st := st_put_in) l_put_in q_put_in k_put_in
  have b_put_in := F_put_in.binds (ps := ["ring", "hands", "i", "number"]) fun _ _ _ _ _ _ us hl => match us, hl with | [_, _, _, _], _ => rfl
  have F_stretches := fun_mk (st := st_stretches) l_stretches q_stretches k_stretches
  have b_stretches := F_stretches.binds (ps := ["ring", "size"]) fun _ _ _ _ _ _ us hl => match us, hl with | [_, _], _ => rfl
  have F_made_short := fun_mk (st := st_made_short) l_made_short q_made_short k_made_short
  have b_made_short := F_made_short.binds (ps := ["task", "ring"]) fun _ _ _ _ _ _ us hl => match us, hl with | [_, _], _ => rfl
  have F_share_of := fun_mk (st := st_share_of) l_share_of q_share_of k_share_of
  have b_share_of := F_share_of.binds (ps := ["numbers"]) fun _ _ _ _ _ _ us hl => match us, hl with | [_], _ => rfl
  have F_share := fun_mk (st := st_share) l_share q_share k_share
  have b_share := F_share.binds (ps := ["numbers"]) fun _ _ _ _ _ _ us hl => match us, hl with | [_], _ => rfl
  have F_has_room := fun_mk (st := st_has_room) l_has_room q_has_room k_has_room
  have b_has_room := F_has_room.binds (ps := ["numbers"]) fun _ _ _ _ _ _ us hl => match us, hl with | [_], _ => rfl
  have F_rising_things := fun_mk (st := st_rising_things) l_rising_things q_rising_things k_rising_things
  have b_rising_things := F_rising_things.binds (ps := ["numbers"]) fun _ _ _ _ _ _ us hl => match us, hl with | [_], _ => rfl
  have F_divide_on := fun_mk (st := st_divide_on) l_divide_on q_divide_on k_divide_on
  have b_divide_on := F_divide_on.binds (ps := ["numbers"]) fun _ _ _ _ _ _ us hl => match us, hl with | [_], _ => rfl
  have F_dividing := fun_mk (st := st_dividing) l_dividing q_dividing k_dividing
  have b_dividing := F_dividing.binds (ps := ["numbers"]) fun _ _ _ _ _ _ us hl => match us, hl with | [_], _ => rfl
  have F_by_turns := fun_mk (st := st_by_turns) l_by_turns q_by_turns k_by_turns
  have b_by_turns := F_by_turns.binds (ps := ["things"]) fun _ _ _ _ _ _ us hl => match us, hl with | [_], _ => rfl
  have F_spread := fun_mk (st := st_spread) l_spread q_spread k_spread
  have b_spread := F_spread.binds (ps := ["days", "things", "others"]) fun _ _ _ _ _ _ us hl => match us, hl with | [_, _, _], _ => rfl
  have F_two_alone := fun_mk (st := st_two_alone) l_two_alone q_two_alone k_two_alone
  have b_two_alone := F_two_alone.binds (ps := ["numbers"]) fun _ _ _ _ _ _ us hl => match us, hl with | [_], _ => rfl
  have F_doubled := fun_mk (st := st_doubled) l_doubled q_doubled k_doubled
  have b_doubled := F_doubled.binds (ps := ["first", "number"]) fun _ _ _ _ _ _ us hl => match us, hl with | [_, _], _ => rfl
  have F_smaller := fun_mk (st := st_smaller) l_smaller q_smaller k_smaller
  have b_smaller := F_smaller.binds (ps := ["numbers"]) fun _ _ _ _ _ _ us hl => match us, hl with | [_], _ => rfl
  have F_smaller_to_two := fun_mk (st := st_smaller_to_two) l_smaller_to_two q_smaller_to_two k_smaller_to_two
  have b_smaller_to_two := F_smaller_to_two.binds (ps := ["numbers"]) fun _ _ _ _ _ _ us hl => match us, hl with | [_], _ => rfl
  have F_at_once := fun_mk (st := st_at_once) l_at_once q_at_once k_at_once
  have b_at_once := F_at_once.binds (ps := ["numbers"]) fun _ _ _ _ _ _ us hl => match us, hl with | [_], _ => rfl
  have F_law_deck := fun_mk (st := st_law_deck) l_law_deck q_law_deck k_law_deck
  have b_law_deck := F_law_deck.binds (ps := ["_law_script", "_law_many"]) fun _ _ _ _ _ _ us hl => match us, hl with | [_, _], _ => rfl
  have F_law_lack := fun_mk (st := st_law_lack) l_law_lack q_law_lack k_law_lack
  have b_law_lack := F_law_lack.binds (ps := ["_law_numbers", "_law_days"]) fun _ _ _ _ _ _ us hl => match us, hl with | [_, _], _ => rfl
  have F_law_is_kept := fun_mk (st := st_law_is_kept) l_law_is_kept q_law_is_kept k_law_is_kept
  have b_law_is_kept := F_law_is_kept.binds (ps := ["_law_numbers", "_law_days"]) fun _ _ _ _ _ _ us hl => match us, hl with | [_, _], _ => rfl
  have F_law_drawn := fun_mk (st := st_law_drawn) l_law_drawn q_law_drawn k_law_drawn
  have b_law_drawn := F_law_drawn.binds (ps := ["_law_deck_here"]) fun _ _ _ _ _ _ us hl => match us, hl with | [_], _ => rfl
  have F_law := fun_mk (st := st_law) l_law q_law k_law
  refine ⟨PySem.W.fnOf "law" "law" (defArgs st_law) (defBody st_law) (defScope st_law) .none kV_law dc_law pm_law an_law cd_law ct_law, fun s v => .of_eq rfl, fun base _ _ => ?_⟩
  have c_is_whole : Cal l.prog w K mg base 1 "is_whole" (spG K G_is_whole) := ⟨_, _, _, ok_is_whole F_is_whole T , PySem.W.mg_of X G a_is_whole, k_is_whole, b_is_whole⟩
  have c_is_row : Cal l.prog w K mg base 1 "is_row" (spG K G_is_row) := ⟨_, _, _, ok_is_row F_is_row T , PySem.W.mg_of X G a_is_row, k_is_row, b_is_row⟩
  have c_is_rising : Cal l.prog w K mg base 2 "is_rising" (spG K G_is_rising) := ⟨_, _, _, ok_is_rising F_is_rising T (c_is_row := c_is_row) (c_is_whole := c_is_whole), PySem.W.mg_of X G a_is_rising, k_is_rising, b_is_rising⟩
  have c_told_rows : Cal l.prog w K mg base 5 "told_rows" (spG K (G_told 4)) := cal_told F_told_rows T c_is_row (PySem.W.mg_of X G a_told_rows) b_told_rows 4
  have c_is_day : Cal l.prog w K mg base 3 "is_day" (spG K G_is_day) := ⟨_, _, _, ok_is_day F_is_day T (c_is_rising := c_is_rising), PySem.W.mg_of X G a_is_day, k_is_day, b_is_day⟩
  have c_are_days : Cal l.prog w K mg base 4 "are_days" (spG K G_are_days) := ⟨_, _, _, ok_are_days F_are_days T (c_is_row := c_is_row) (c_is_day := c_is_day), PySem.W.mg_of X G a_are_days, k_are_days, b_are_days⟩
  have c_is_ring : Cal l.prog w K mg base 5 "is_ring" (spG K G_is_ring) := ⟨_, _, _, ok_is_ring F_is_ring T (c_are_days := c_are_days), PySem.W.mg_of X G a_is_ring, k_is_ring, b_is_ring⟩
  have c_asked_ring : Cal l.prog w K mg base 6 "asked_ring" (spG K G_asked_ring) := ⟨_, _, _, ok_asked_ring F_asked_ring T (c_is_ring := c_is_ring) (c_told_rows := c_told_rows), PySem.W.mg_of X G a_asked_ring, k_asked_ring, b_asked_ring⟩
  have c_is_numbers : Cal l.prog w K mg base 2 "is_numbers" (spG K G_is_numbers) := ⟨_, _, _, ok_is_numbers F_is_numbers T (c_is_row := c_is_row) (c_is_whole := c_is_whole), PySem.W.mg_of X G a_is_numbers, k_is_numbers, b_is_numbers⟩
  have c_asked_numbers : Cal l.prog w K mg base 3 "asked_numbers" (spG K G_asked_numbers) := ⟨_, _, _, ok_asked_numbers F_asked_numbers T (c_is_numbers := c_is_numbers), PySem.W.mg_of X G a_asked_numbers, k_asked_numbers, b_asked_numbers⟩
  have c_divisor : Cal l.prog w K mg base 1 "divisor" (spG K G_divisor) := ⟨_, _, _, ok_divisor F_divisor T , PySem.W.mg_of X G a_divisor, k_divisor, b_divisor⟩
  have c_common_of : Cal l.prog w K mg base 2 "common_of" (spG K G_common_of) := ⟨_, _, _, ok_common_of F_common_of T (c_divisor := c_divisor), PySem.W.mg_of X G a_common_of, k_common_of, b_common_of⟩
  have c_short : Cal l.prog w K mg base 7 "short" (spW K G_short) := ⟨_, _, _, ok_short F_short T (c_asked_ring := c_asked_ring), PySem.W.mg_of X G a_short, k_short, b_short⟩
  have c_slowed : Cal l.prog w K mg base 7 "slowed" (spG K G_slowed) := ⟨_, _, _, ok_slowed F_slowed T (c_asked_ring := c_asked_ring), PySem.W.mg_of X G a_slowed, k_slowed, b_slowed⟩
  have c_renumbered : Cal l.prog w K mg base 1 "renumbered" (spG K G_renumbered) := ⟨_, _, _, ok_renumbered F_renumbered T , PySem.W.mg_of X G a_renumbered, k_renumbered, b_renumbered⟩
  have c_paired : Cal l.prog w K mg base 7 "paired" (spG K G_paired) := ⟨_, _, _, ok_paired F_paired T (c_asked_ring := c_asked_ring) (c_renumbered := c_renumbered) (c_common_of := c_common_of), PySem.W.mg_of X G a_paired, k_paired, b_paired⟩
  have c_is_off : Cal l.prog w K mg base 2 "is_off" (spG K G_is_off) := ⟨_, _, _, ok_is_off F_is_off T (c_is_row := c_is_row) (c_is_whole := c_is_whole), PySem.W.mg_of X G a_is_off, k_is_off, b_is_off⟩
  have c_are_pairs : Cal l.prog w K mg base 6 "are_pairs" (spG K G_are_pairs) := ⟨_, _, _, ok_are_pairs F_are_pairs T (c_is_row := c_is_row) (c_told_rows := c_told_rows), PySem.W.mg_of X G a_are_pairs, k_are_pairs, b_are_pairs⟩
  have c_is_task : Cal l.prog w K mg base 7 "is_task" (spG K G_is_task) := ⟨_, _, _, ok_is_task F_is_task T (c_is_row := c_is_row) (c_is_off := c_is_off) (c_is_whole := c_is_whole) (c_is_numbers := c_is_numbers) (c_are_pairs := c_are_pairs) (c_is_rising := c_is_rising), PySem.W.mg_of X G a_is_task, k_is_task, b_is_task⟩
  have c_asked_task : Cal l.prog w K mg base 8 "asked_task" (spG K G_asked_task) := ⟨_, _, _, ok_asked_task F_asked_task T (c_is_task := c_is_task) (c_told_rows := c_told_rows), PySem.W.mg_of X G a_asked_task, k_asked_task, b_asked_task⟩
  have c_plain : Cal l.prog w K mg base 4 "plain" (spG K G_plain) := ⟨_, _, _, ok_plain F_plain T (c_asked_numbers := c_asked_numbers), PySem.W.mg_of X G a_plain, k_plain, b_plain⟩
  have c_in_ties : Cal l.prog w K mg base 1 "in_ties" (spG K G_in_ties) := ⟨_, _, _, ok_in_ties F_in_ties T , PySem.W.mg_of X G a_in_ties, k_in_ties, b_in_ties⟩
  have c_are_waits : Cal l.prog w K mg base 2 "are_waits" (spG K G_are_waits) := ⟨_, _, _, ok_are_waits F_are_waits T (c_is_row := c_is_row) (c_is_whole := c_is_whole), PySem.W.mg_of X G a_are_waits, k_are_waits, b_are_waits⟩
  have c_is_some_of : Cal l.prog w K mg base 3 "is_some_of" (spG K G_is_some_of) := ⟨_, _, _, ok_is_some_of F_is_some_of T (c_is_rising := c_is_rising), PySem.W.mg_of X G a_is_some_of, k_is_some_of, b_is_some_of⟩
  have c_is_stand_of : Cal l.prog w K mg base 4 "is_stand_of" (spG K G_is_stand_of) := ⟨_, _, _, ok_is_stand_of F_is_stand_of T (c_is_row := c_is_row) (c_are_waits := c_are_waits) (c_is_whole := c_is_whole) (c_in_ties := c_in_ties) (c_is_some_of := c_is_some_of), PySem.W.mg_of X G a_is_stand_of, k_is_stand_of, b_is_stand_of⟩
  have c_asked_stand : Cal l.prog w K mg base 6 "asked_stand" (spG K G_asked_stand) := ⟨_, _, _, ok_asked_stand F_asked_stand T (c_is_stand_of := c_is_stand_of) (c_told_rows := c_told_rows), PySem.W.mg_of X G a_asked_stand, k_asked_stand, b_asked_stand⟩
  have c_first_of : Cal l.prog w K mg base 1 "first_of" (spG K G_first_of) := ⟨_, _, _, ok_first_of F_first_of T , PySem.W.mg_of X G a_first_of, k_first_of, b_first_of⟩
  have c_first_stand : Cal l.prog w K mg base 9 "first_stand" (spG K G_first_stand) := ⟨_, _, _, ok_first_stand F_first_stand T (c_first_of := c_first_of) (c_asked_task := c_asked_task), PySem.W.mg_of X G a_first_stand, k_first_stand, b_first_stand⟩
  have c_lies_under : Cal l.prog w K mg base 1 "lies_under" (spG K G_lies_under) := ⟨_, _, _, ok_lies_under F_lies_under T , PySem.W.mg_of X G a_lies_under, k_lies_under, b_lies_under⟩
  have c_is_tied : Cal l.prog w K mg base 1 "is_tied" (spG K G_is_tied) := ⟨_, _, _, ok_is_tied F_is_tied T , PySem.W.mg_of X G a_is_tied, k_is_tied, b_is_tied⟩
  have c_can_be_done : Cal l.prog w K mg base 2 "can_be_done" (spG K G_can_be_done) := ⟨_, _, _, ok_can_be_done F_can_be_done T (c_is_tied := c_is_tied), PySem.W.mg_of X G a_can_be_done, k_can_be_done, b_can_be_done⟩
  have c_wait_behind : Cal l.prog w K mg base 1 "wait_behind" (spG K G_wait_behind) := ⟨_, _, _, ok_wait_behind F_wait_behind T , PySem.W.mg_of X G a_wait_behind, k_wait_behind, b_wait_behind⟩
  have c_later_stand : Cal l.prog w K mg base 2 "later_stand" (spG K G_later_stand) := ⟨_, _, _, ok_later_stand F_later_stand T (c_wait_behind := c_wait_behind) (c_in_ties := c_in_ties), PySem.W.mg_of X G a_later_stand, k_later_stand, b_later_stand⟩
  have c_led : Cal l.prog w K mg base 3 "led" (spG K G_led) := ⟨_, _, _, ok_led F_led T (c_can_be_done := c_can_be_done) (c_later_stand := c_later_stand), PySem.W.mg_of X G a_led, k_led, b_led⟩
  have c_on_holds : Cal l.prog w K mg base 4 "on_holds" (spG K G_on_holds) := ⟨_, _, _, ok_on_holds F_on_holds T (c_led := c_led) (c_lies_under := c_lies_under), PySem.W.mg_of X G a_on_holds, k_on_holds, b_on_holds⟩
  have c_is_lead : Cal l.prog w K mg base 4 "is_lead" (spG K G_is_lead) := ⟨_, _, _, ok_is_lead F_is_lead T (c_is_row := c_is_row) (c_is_day := c_is_day), PySem.W.mg_of X G a_is_lead, k_is_lead, b_is_lead⟩
  have c_is_on : Cal l.prog w K mg base 6 "is_on" (spG K G_is_on) := ⟨_, _, _, ok_is_on F_is_on T (c_is_ring := c_is_ring) (c_is_lead := c_is_lead), PySem.W.mg_of X G a_is_on, k_is_on, b_is_on⟩
  have c_is_answer_of : Cal l.prog w K mg base 7 "is_answer_of" (spG K G_is_answer_of) := ⟨_, _, _, ok_is_answer_of F_is_answer_of T (c_is_row := c_is_row) (c_is_on := c_is_on), PySem.W.mg_of X G a_is_answer_of, k_is_answer_of, b_is_answer_of⟩
  have c_asked_answer : Cal l.prog w K mg base 8 "asked_answer" (spG K G_asked_answer) := ⟨_, _, _, ok_asked_answer F_asked_answer T (c_is_answer_of := c_is_answer_of) (c_told_rows := c_told_rows), PySem.W.mg_of X G a_asked_answer, k_asked_answer, b_asked_answer⟩
  have c_answer_holds : Cal l.prog w K mg base 5 "answer_holds" (spG K G_answer_holds) := ⟨_, _, _, ok_answer_holds F_answer_holds T (c_on_holds := c_on_holds), PySem.W.mg_of X G a_answer_holds, k_answer_holds, b_answer_holds⟩
  have c_holds : Cal l.prog w K mg base 9 "holds" (spG K G_holds) := ⟨_, _, _, ok_holds F_holds T (c_asked_task := c_asked_task) (c_asked_stand := c_asked_stand) (c_asked_answer := c_asked_answer) (c_answer_holds := c_answer_holds), PySem.W.mg_of X G a_holds, k_holds, b_holds⟩
  have c_farthest : Cal l.prog w K mg base 1 "farthest" (spW K G_farthest) := ⟨_, _, _, ok_farthest F_farthest T , PySem.W.mg_of X G a_farthest, k_farthest, b_farthest⟩
  have c_places_from : Cal l.prog w K mg base 2 "places_from" (spW K G_places_from) := ⟨_, _, _, ok_places_from F_places_from T (c_farthest := c_farthest), PySem.W.mg_of X G a_places_from, k_places_from, b_places_from⟩
  have c_fewest_places : Cal l.prog w K mg base 3 "fewest_places" (spW K G_fewest_places) := ⟨_, _, _, ok_fewest_places F_fewest_places T (c_places_from := c_places_from), PySem.W.mg_of X G a_fewest_places, k_fewest_places, b_fewest_places⟩
  have c_put_in : Cal l.prog w K mg base 7 "put_in" (spW K G_put_in) := ⟨_, _, _, ok_put_in F_put_in T (c_asked_ring := c_asked_ring) (c_is_whole := c_is_whole) (c_fewest_places := c_fewest_places), PySem.W.mg_of X G a_put_in, k_put_in, b_put_in⟩
  have c_stretches : Cal l.prog w K mg base 1 "stretches" (spG K G_stretches) := ⟨_, _, _, ok_stretches F_stretches T , PySem.W.mg_of X G a_stretches, k_stretches, b_stretches⟩
  have c_made_short : Cal l.prog w K mg base 9 "made_short" (spW K G_made_short) := ⟨_, _, _, ok_made_short F_made_short T (c_asked_task := c_asked_task) (c_asked_ring := c_asked_ring) (c_stretches := c_stretches) (c_on_holds := c_on_holds) (c_first_of := c_first_of), PySem.W.mg_of X G a_made_short, k_made_short, b_made_short⟩
  have c_share_of : Cal l.prog w K mg base 3 "share_of" (spG K G_share_of) := ⟨_, _, _, ok_share_of F_share_of T (c_common_of := c_common_of) (c_divisor := c_divisor), PySem.W.mg_of X G a_share_of, k_share_of, b_share_of⟩
  have c_share : Cal l.prog w K mg base 4 "share" (spG K G_share) := ⟨_, _, _, ok_share F_share T (c_share_of := c_share_of) (c_asked_numbers := c_asked_numbers), PySem.W.mg_of X G a_share, k_share, b_share⟩
  have c_has_room : Cal l.prog w K mg base 5 "has_room" (spG K G_has_room) := ⟨_, _, _, ok_has_room F_has_room T (c_share := c_share), PySem.W.mg_of X G a_has_room, k_has_room, b_has_room⟩
  have c_rising_things : Cal l.prog w K mg base 1 "rising_things" (spG K G_rising_things) := ⟨_, _, _, ok_rising_things F_rising_things T , PySem.W.mg_of X G a_rising_things, k_rising_things, b_rising_things⟩
  have c_divide_on : Cal l.prog w K mg base 1 "divide_on" (spG K G_divide_on) := ⟨_, _, _, ok_divide_on F_divide_on T , PySem.W.mg_of X G a_divide_on, k_divide_on, b_divide_on⟩
  have c_dividing : Cal l.prog w K mg base 6 "dividing" (spG K G_dividing) := ⟨_, _, _, ok_dividing F_dividing T (c_asked_numbers := c_asked_numbers) (c_divide_on := c_divide_on) (c_has_room := c_has_room) (c_rising_things := c_rising_things), PySem.W.mg_of X G a_dividing, k_dividing, b_dividing⟩
  have c_by_turns : Cal l.prog w K mg base 1 "by_turns" (spG K G_by_turns) := ⟨_, _, _, ok_by_turns F_by_turns T , PySem.W.mg_of X G a_by_turns, k_by_turns, b_by_turns⟩
  have c_spread : Cal l.prog w K mg base 1 "spread" (spG K G_spread) := ⟨_, _, _, ok_spread F_spread T , PySem.W.mg_of X G a_spread, k_spread, b_spread⟩
  have c_two_alone : Cal l.prog w K mg base 6 "two_alone" (spG K G_two_alone) := ⟨_, _, _, ok_two_alone F_two_alone T (c_asked_numbers := c_asked_numbers) (c_has_room := c_has_room) (c_rising_things := c_rising_things) (c_by_turns := c_by_turns) (c_spread := c_spread), PySem.W.mg_of X G a_two_alone, k_two_alone, b_two_alone⟩
  have c_doubled : Cal l.prog w K mg base 1 "doubled" (spG K G_doubled) := ⟨_, _, _, ok_doubled F_doubled T , PySem.W.mg_of X G a_doubled, k_doubled, b_doubled⟩
  have c_smaller : Cal l.prog w K mg base 7 "smaller" (spG K G_smaller) := ⟨_, _, _, ok_smaller F_smaller T (c_asked_numbers := c_asked_numbers) (c_dividing := c_dividing) (c_doubled := c_doubled) (c_has_room := c_has_room), PySem.W.mg_of X G a_smaller, k_smaller, b_smaller⟩
  have c_smaller_to_two : Cal l.prog w K mg base 7 "smaller_to_two" (spG K G_smaller_to_two) := ⟨_, _, _, ok_smaller_to_two F_smaller_to_two T (c_asked_numbers := c_asked_numbers) (c_two_alone := c_two_alone) (c_has_room := c_has_room), PySem.W.mg_of X G a_smaller_to_two, k_smaller_to_two, b_smaller_to_two⟩
  have c_at_once : Cal l.prog w K mg base 8 "at_once" (spG K G_at_once) := ⟨_, _, _, ok_at_once F_at_once T (c_two_alone := c_two_alone) (c_dividing := c_dividing) (c_smaller_to_two := c_smaller_to_two) (c_smaller := c_smaller), PySem.W.mg_of X G a_at_once, k_at_once, b_at_once⟩
  have c_law_deck : Cal l.prog w K mg base 1 "_law_deck" (spW K G_law_deck) := ⟨_, _, _, ok_law_deck F_law_deck T , PySem.W.mg_of X G a_law_deck, k_law_deck, b_law_deck⟩
  have c_law_lack : Cal l.prog w K mg base 1 "_law_lack" (spG K G_law_lack) := ⟨_, _, _, ok_law_lack F_law_lack T , PySem.W.mg_of X G a_law_lack, k_law_lack, b_law_lack⟩
  have c_law_is_kept : Cal l.prog w K mg base 10 "_law_is_kept" (spG K G_law_is_kept) := ⟨_, _, _, ok_law_is_kept F_law_is_kept T (c_law_lack := c_law_lack) (c_plain := c_plain) (c_holds := c_holds) (c_first_stand := c_first_stand), PySem.W.mg_of X G a_law_is_kept, k_law_is_kept, b_law_is_kept⟩
  have c_law_drawn : Cal l.prog w K mg base 9 "_law_drawn" (spD K) := ⟨_, _, _, ok_law_drawn F_law_drawn T (c_at_once := c_at_once), PySem.W.mg_of X G a_law_drawn, k_law_drawn, b_law_drawn⟩
  exact ok_law F_law T (c_law_deck := c_law_deck) (c_law_drawn := c_law_drawn) (c_short := c_short) (c_at_once := c_at_once) (c_law_is_kept := c_law_is_kept) (c_slowed := c_slowed) (c_paired := c_paired) (c_put_in := c_put_in) (c_made_short := c_made_short) (c_plain := c_plain)
theorem walk {l : PySem.W.OpenLaw} {q : Program} {loose : List Str} {XP : (Str → Option Value) → Heap → Prop} {YP : World → Heap → Prop} {d : DefRec} {K : Params → PySem.W.Frag} (hn : l.most = some 63) (hdf : d.params.defaults = [])
    (hY : ∀ (v : World) (g : Heap), YP v g → (K v.params).In g)
    (F : ∀ (w : World) (mg : Str → Option Value) (fa : Addr) (g : Heap), (K w.params).In g → g.Ns mainGlobals mg → mg d.name = some (.ref fa) →
      ∃ fd : FuncData, (∀ (s : Shared) (u : Value), BindsTo s fd ⟨[u], []⟩ [("_law_script", u)]) ∧ ∀ base : Heap, (K w.params).In base → base.Ns mainGlobals mg → FnOk l.prog w (K w.params) mg base CX0 11 fa fd ["_law_script"] (spG (K w.params) G_law)) :
    PySem.W.WalkO q loose XP YP l.row.toRowW d [] (fun f us => PySem.call f us) :=
  L2.walk_of (n := 63) (k := 11) (x := "_law_script") (CX := fun _ => CX0) (sp := fun w => spG (K w.params) G_law) hn (by decide) hdf ⟨rfl, by decide, by decide⟩ hY F
    (fun _ _ a ns hl _ hS => ⟨[.list (ns.map .int)], .d (.bool true), .cons (.lst hS (int_dpAll ns)) .nil, ⟨ns, rfl, hl, rfl⟩, fun v H' _ h => by
      have h' : Dp _ H' v (.bool true) := h
      cases h'
      rfl⟩) fun _ _ _ _ _ z => z
end WD

open PySem PySem.W PyProof.Rows
set_option maxRecDepth 100000 in
set_option maxHeartbeats 0 in
theorem PySem.Challenge.cw_withindays_k84_whole_put_together_holds : PySem.Challenge.rw_withindays_k84_whole_put_together.Holds := by
  w_on; o_law; k_head; (case hw => w_witness2)
  k_fill
  refine WD.walk (l := PySem.Challenge.rw_withindays_k84_whole_put_together) rfl rfl (fun w h Y => PySem.W.kIn_of Y) ?F
  case F =>
    intro w mg fa h KX G hmg
    refine' WD.all_mk KX G hmg ?a_is_whole ?l_is_whole ?q_is_whole ?k_is_whole ?a_is_row ?l_is_row ?q_is_row ?k_is_row ?a_is_rising ?l_is_rising ?q_is_rising ?k_is_rising ?a_told_rows ?l_told_rows ?q_told_rows ?k_told_rows ?a_is_day ?l_is_day ?q_is_day ?k_is_day ?a_are_days ?l_are_days ?q_are_days ?k_are_days ?a_is_ring ?l_is_ring ?q_is_ring ?k_is_ring ?a_asked_ring ?l_asked_ring ?q_asked_ring ?k_asked_ring ?a_is_numbers ?l_is_numbers ?q_is_numbers ?k_is_numbers ?a_asked_numbers ?l_asked_numbers ?q_asked_numbers ?k_asked_numbers ?a_divisor ?l_divisor ?q_divisor ?k_divisor ?a_common_of ?l_common_of ?q_common_of ?k_common_of ?a_short ?l_short ?q_short ?k_short ?a_slowed ?l_slowed ?q_slowed ?k_slowed ?a_renumbered ?l_renumbered ?q_renumbered ?k_renumbered ?a_paired ?l_paired ?q_paired ?k_paired ?a_is_off ?l_is_off ?q_is_off ?k_is_off ?a_are_pairs ?l_are_pairs ?q_are_pairs ?k_are_pairs ?a_is_task ?l_is_task ?q_is_task ?k_is_task ?a_asked_task ?l_asked_task ?q_asked_task ?k_asked_task ?a_plain ?l_plain ?q_plain ?k_plain ?a_in_ties ?l_in_ties ?q_in_ties ?k_in_ties ?a_are_waits ?l_are_waits ?q_are_waits ?k_are_waits ?a_is_some_of ?l_is_some_of ?q_is_some_of ?k_is_some_of ?a_is_stand_of ?l_is_stand_of ?q_is_stand_of ?k_is_stand_of ?a_asked_stand ?l_asked_stand ?q_asked_stand ?k_asked_stand ?a_first_of ?l_first_of ?q_first_of ?k_first_of ?a_first_stand ?l_first_stand ?q_first_stand ?k_first_stand ?a_lies_under ?l_lies_under ?q_lies_under ?k_lies_under ?a_is_tied ?l_is_tied ?q_is_tied ?k_is_tied ?a_can_be_done ?l_can_be_done ?q_can_be_done ?k_can_be_done ?a_wait_behind ?l_wait_behind ?q_wait_behind ?k_wait_behind ?a_later_stand ?l_later_stand ?q_later_stand ?k_later_stand ?a_led ?l_led ?q_led ?k_led ?a_on_holds ?l_on_holds ?q_on_holds ?k_on_holds ?a_is_lead ?l_is_lead ?q_is_lead ?k_is_lead ?a_is_on ?l_is_on ?q_is_on ?k_is_on ?a_is_answer_of ?l_is_answer_of ?q_is_answer_of ?k_is_answer_of ?a_asked_answer ?l_asked_answer ?q_asked_answer ?k_asked_answer ?a_answer_holds ?l_answer_holds ?q_answer_holds ?k_answer_holds ?a_holds ?l_holds ?q_holds ?k_holds ?a_farthest ?l_farthest ?q_farthest ?k_farthest ?a_places_from ?l_places_from ?q_places_from ?k_places_from ?a_fewest_places ?l_fewest_places ?q_fewest_places ?k_fewest_places ?a_put_in ?l_put_in ?q_put_in ?k_put_in ?a_stretches ?l_stretches ?q_stretches ?k_stretches ?a_made_short ?l_made_short ?q_made_short ?k_made_short ?a_share_of ?l_share_of ?q_share_of ?k_share_of ?a_share ?l_share ?q_share ?k_share ?a_has_room ?l_has_room ?q_has_room ?k_has_room ?a_rising_things ?l_rising_things ?q_rising_things ?k_rising_things ?a_divide_on ?l_divide_on ?q_divide_on ?k_divide_on ?a_dividing ?l_dividing ?q_dividing ?k_dividing ?a_by_turns ?l_by_turns ?q_by_turns ?k_by_turns ?a_spread ?l_spread ?q_spread ?k_spread ?a_two_alone ?l_two_alone ?q_two_alone ?k_two_alone ?a_doubled ?l_doubled ?q_doubled ?k_doubled ?a_smaller ?l_smaller ?q_smaller ?k_smaller ?a_smaller_to_two ?l_smaller_to_two ?q_smaller_to_two ?k_smaller_to_two ?a_at_once ?l_at_once ?q_at_once ?k_at_once ?a_law_deck ?l_law_deck ?q_law_deck ?k_law_deck ?a_law_lack ?l_law_lack ?q_law_lack ?k_law_lack ?a_law_is_kept ?l_law_is_kept ?q_law_is_kept ?k_law_is_kept ?a_law_drawn ?l_law_drawn ?q_law_drawn ?k_law_drawn ?a_law ?l_law ?q_law ?k_law ?z_len ?z_isinstance ?z_tuple ?z_list ?z_int ?z_bool ?z_str ?z_range ?z_sum ?z_min ?z_max ?z_sorted ?z_set ?z_enumerate ?z_all ?v_MOST_ON_A_DAY ?v_LONGEST ?v_MOST_THINGS_numbers ?v_GREATEST_numbers ?v_MOST_THINGS_turning ?v_MOST_OFF ?v_MOST_HANDS ?v_PARTS ?v_MOST_LEAD ?v_MOST_THINGS_fitting ?v_GREATEST_fitting ?v_MOST_SHORT
    (case a_is_whole => k_is)
    (case l_is_whole => k_is)
    (case q_is_whole => k_is)
    (case k_is_whole => k_is)
    (case a_is_row => k_is)
    (case l_is_row => k_is)
    (case q_is_row => k_is)
    (case k_is_row => k_is)
    (case a_is_rising => k_is)
    (case l_is_rising => k_is)
    (case q_is_rising => k_is)
    (case k_is_rising => k_is)
    (case a_told_rows => k_is)
    (case l_told_rows => k_is)
    (case q_told_rows => k_is)
    (case k_told_rows => k_is)
    (case a_is_day => k_is)
    (case l_is_day => k_is)
    (case q_is_day => k_is)
    (case k_is_day => k_is)
    (case a_are_days => k_is)
    (case l_are_days => k_is)
    (case q_are_days => k_is)
    (case k_are_days => k_is)
    (case a_is_ring => k_is)
    (case l_is_ring => k_is)
    (case q_is_ring => k_is)
    (case k_is_ring => k_is)
    (case a_asked_ring => k_is)
    (case l_asked_ring => k_is)
    (case q_asked_ring => k_is)
    (case k_asked_ring => k_is)
    (case a_is_numbers => k_is)
    (case l_is_numbers => k_is)
    (case q_is_numbers => k_is)
    (case k_is_numbers => k_is)
    (case a_asked_numbers => k_is)
    (case l_asked_numbers => k_is)
    (case q_asked_numbers => k_is)
    (case k_asked_numbers => k_is)
    (case a_divisor => k_is)
    (case l_divisor => k_is)
    (case q_divisor => k_is)
    (case k_divisor => k_is)
    (case a_common_of => k_is)
    (case l_common_of => k_is)
    (case q_common_of => k_is)
    (case k_common_of => k_is)
    (case a_short => k_is)
    (case l_short => k_is)
    (case q_short => k_is)
    (case k_short => k_is)
    (case a_slowed => k_is)
    (case l_slowed => k_is)
    (case q_slowed => k_is)
    (case k_slowed => k_is)
    (case a_renumbered => k_is)
    (case l_renumbered => k_is)
    (case q_renumbered => k_is)
    (case k_renumbered => k_is)
    (case a_paired => k_is)
    (case l_paired => k_is)
    (case q_paired => k_is)
    (case k_paired => k_is)
    (case a_is_off => k_is)
    (case l_is_off => k_is)
    (case q_is_off => k_is)
    (case k_is_off => k_is)
    (case a_are_pairs => k_is)
    (case l_are_pairs => k_is)
    (case q_are_pairs => k_is)
    (case k_are_pairs => k_is)
    (case a_is_task => k_is)
    (case l_is_task => k_is)
    (case q_is_task => k_is)
    (case k_is_task => k_is)
    (case a_asked_task => k_is)
    (case l_asked_task => k_is)
    (case q_asked_task => k_is)
    (case k_asked_task => k_is)
    (case a_plain => k_is)
    (case l_plain => k_is)
    (case q_plain => k_is)
    (case k_plain => k_is)
    (case a_in_ties => k_is)
    (case l_in_ties => k_is)
    (case q_in_ties => k_is)
    (case k_in_ties => k_is)
    (case a_are_waits => k_is)
    (case l_are_waits => k_is)
    (case q_are_waits => k_is)
    (case k_are_waits => k_is)
    (case a_is_some_of => k_is)
    (case l_is_some_of => k_is)
    (case q_is_some_of => k_is)
    (case k_is_some_of => k_is)
    (case a_is_stand_of => k_is)
    (case l_is_stand_of => k_is)
    (case q_is_stand_of => k_is)
    (case k_is_stand_of => k_is)
    (case a_asked_stand => k_is)
    (case l_asked_stand => k_is)
    (case q_asked_stand => k_is)
    (case k_asked_stand => k_is)
    (case a_first_of => k_is)
    (case l_first_of => k_is)
    (case q_first_of => k_is)
    (case k_first_of => k_is)
    (case a_first_stand => k_is)
    (case l_first_stand => k_is)
    (case q_first_stand => k_is)
    (case k_first_stand => k_is)
    (case a_lies_under => k_is)
    (case l_lies_under => k_is)
    (case q_lies_under => k_is)
    (case k_lies_under => k_is)
    (case a_is_tied => k_is)
    (case l_is_tied => k_is)
    (case q_is_tied => k_is)
    (case k_is_tied => k_is)
    (case a_can_be_done => k_is)
    (case l_can_be_done => k_is)
    (case q_can_be_done => k_is)
    (case k_can_be_done => k_is)
    (case a_wait_behind => k_is)
    (case l_wait_behind => k_is)
    (case q_wait_behind => k_is)
    (case k_wait_behind => k_is)
    (case a_later_stand => k_is)
    (case l_later_stand => k_is)
    (case q_later_stand => k_is)
    (case k_later_stand => k_is)
    (case a_led => k_is)
    (case l_led => k_is)
    (case q_led => k_is)
    (case k_led => k_is)
    (case a_on_holds => k_is)
    (case l_on_holds => k_is)
    (case q_on_holds => k_is)
    (case k_on_holds => k_is)
    (case a_is_lead => k_is)
    (case l_is_lead => k_is)
    (case q_is_lead => k_is)
    (case k_is_lead => k_is)
    (case a_is_on => k_is)
    (case l_is_on => k_is)
    (case q_is_on => k_is)
    (case k_is_on => k_is)
    (case a_is_answer_of => k_is)
    (case l_is_answer_of => k_is)
    (case q_is_answer_of => k_is)
    (case k_is_answer_of => k_is)
    (case a_asked_answer => k_is)
    (case l_asked_answer => k_is)
    (case q_asked_answer => k_is)
    (case k_asked_answer => k_is)
    (case a_answer_holds => k_is)
    (case l_answer_holds => k_is)
    (case q_answer_holds => k_is)
    (case k_answer_holds => k_is)
    (case a_holds => k_is)
    (case l_holds => k_is)
    (case q_holds => k_is)
    (case k_holds => k_is)
    (case a_farthest => k_is)
    (case l_farthest => k_is)
    (case q_farthest => k_is)
    (case k_farthest => k_is)
    (case a_places_from => k_is)
    (case l_places_from => k_is)
    (case q_places_from => k_is)
    (case k_places_from => k_is)
    (case a_fewest_places => k_is)
    (case l_fewest_places => k_is)
    (case q_fewest_places => k_is)
    (case k_fewest_places => k_is)
    (case a_put_in => k_is)
    (case l_put_in => k_is)
    (case q_put_in => k_is)
    (case k_put_in => k_is)
    (case a_stretches => k_is)
    (case l_stretches => k_is)
    (case q_stretches => k_is)
    (case k_stretches => k_is)
    (case a_made_short => k_is)
    (case l_made_short => k_is)
    (case q_made_short => k_is)
    (case k_made_short => k_is)
    (case a_share_of => k_is)
    (case l_share_of => k_is)
    (case q_share_of => k_is)
    (case k_share_of => k_is)
    (case a_share => k_is)
    (case l_share => k_is)
    (case q_share => k_is)
    (case k_share => k_is)
    (case a_has_room => k_is)
    (case l_has_room => k_is)
    (case q_has_room => k_is)
    (case k_has_room => k_is)
    (case a_rising_things => k_is)
    (case l_rising_things => k_is)
    (case q_rising_things => k_is)
    (case k_rising_things => k_is)
    (case a_divide_on => k_is)
    (case l_divide_on => k_is)
    (case q_divide_on => k_is)
    (case k_divide_on => k_is)
    (case a_dividing => k_is)
    (case l_dividing => k_is)
    (case q_dividing => k_is)
    (case k_dividing => k_is)
    (case a_by_turns => k_is)
    (case l_by_turns => k_is)
    (case q_by_turns => k_is)
    (case k_by_turns => k_is)
    (case a_spread => k_is)
    (case l_spread => k_is)
    (case q_spread => k_is)
    (case k_spread => k_is)
    (case a_two_alone => k_is)
    (case l_two_alone => k_is)
    (case q_two_alone => k_is)
    (case k_two_alone => k_is)
    (case a_doubled => k_is)
    (case l_doubled => k_is)
    (case q_doubled => k_is)
    (case k_doubled => k_is)
    (case a_smaller => k_is)
    (case l_smaller => k_is)
    (case q_smaller => k_is)
    (case k_smaller => k_is)
    (case a_smaller_to_two => k_is)
    (case l_smaller_to_two => k_is)
    (case q_smaller_to_two => k_is)
    (case k_smaller_to_two => k_is)
    (case a_at_once => k_is)
    (case l_at_once => k_is)
    (case q_at_once => k_is)
    (case k_at_once => k_is)
    (case a_law_deck => k_is)
    (case l_law_deck => k_is)
    (case q_law_deck => k_is)
    (case k_law_deck => k_is)
    (case a_law_lack => k_is)
    (case l_law_lack => k_is)
    (case q_law_lack => k_is)
    (case k_law_lack => k_is)
    (case a_law_is_kept => k_is)
    (case l_law_is_kept => k_is)
    (case q_law_is_kept => k_is)
    (case k_law_is_kept => k_is)
    (case a_law_drawn => k_is)
    (case l_law_drawn => k_is)
    (case q_law_drawn => k_is)
    (case k_law_drawn => k_is)
    (case a_law => k_is)
    (case l_law => k_is)
    (case q_law => k_is)
    (case k_law => k_is)
    (case z_len => k_is)
    (case z_isinstance => k_is)
    (case z_tuple => k_is)
    (case z_list => k_is)
    (case z_int => k_is)
    (case z_bool => k_is)
    (case z_str => k_is)
    (case z_range => k_is)
    (case z_sum => k_is)
    (case z_min => k_is)
    (case z_max => k_is)
    (case z_sorted => k_is)
    (case z_set => k_is)
    (case z_enumerate => k_is)
    (case z_all => k_is)
    (case v_MOST_ON_A_DAY => k_is)
    (case v_LONGEST => k_is)
    (case v_MOST_THINGS_numbers => k_is)
    (case v_GREATEST_numbers => k_is)
    (case v_MOST_THINGS_turning => k_is)
    (case v_MOST_OFF => k_is)
    (case v_MOST_HANDS => k_is)
    (case v_PARTS => k_is)
    (case v_MOST_LEAD => k_is)
    (case v_MOST_THINGS_fitting => k_is)
    (case v_GREATEST_fitting => k_is)
    (case v_MOST_SHORT => k_is)

