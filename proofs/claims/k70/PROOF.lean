import PyProof.Rows.All
import Wide.All
import OpenK.AllK
import Wide.FinOn
import KE.KStateDown
import Lean
import HandS.ForMost
import HandS.Flow
import HandS.Defaults
import HandS.Property
import HandS.Star
import HandS.Sort
import HandS.SortOrd
import HandS.Conv
import HandS.DictComp
import HandS.ListItems
import HandS.More
import HandS.FStr
import HandS.IsInst
import HandS.Deep
import HandS.SetKeys
import HandS.MethStar
import HandS.TupAny
import HandS.TupMul
import HandS.Walk
import HandS.Style
import HandS.Finally
import HandS.StrMore
import HandS.Head0
import HandS.Head1
import HandS.Head2
import HandS.HeadEnd
import HandS.HeadHook1
import HandS.HeadHook2
import HandS.Small
import KE.GoesEnum
import KE.GoesZip
import HandS.Zip
import KE.SortData
import PyProof.ReprRoads
import PyProof.ReprLen
import PyProof.ConsumeWalk
import HandS.RaiseMore
import KE.KDictPairs
import HandS.Codes
import HandS.MakeKwOnly
import HandS.ClsMeth
import PyProof.RulesMatch
import HandS.HeadNt
import HandS.HeadHook3
import PyProof.ByEval2
import PySem.Challenge.RW_firstfailing_k70_told_and_gone_at_once
set_option Elab.async false
set_option linter.all false
set_option maxRecDepth 100000
set_option maxHeartbeats 0
/-! Den1: plain data for Python's values, an abstract heap of changing objects, and how they stand for what HandS tracks. -/
namespace Den
open PySem PySem.Spec L2
/-- a value: tuples are plain data, so are lists that are only read (fl: the script); ref n: the n-th changing object; fn f: the f-th def of the table; cl c: the c-th class -/
inductive D where
  | non | bl (b : Bool) | int (i : Int) | str (s : List Nat) | tup (p : Bool) (xs : List D) | fl (xs : List D) | ref (n : Nat) | fn (f : Nat) | cl (c : Nat) | ty (n : String) | kd (ks : List (List Nat)) (ds : List D) | rep (p : PyData)
  deriving Inhabited
/-- a changing object: a list, a dict with int and text keys (dcl: one that is walked: read alone), an instance -/
inductive AO where
  | lst (xs : List D)
  | dct (kvs : List (D × D))
  | dcl (kvs : List (D × D))
  | ins (c : Nat) (fs : List (List Nat × D))
  deriving Inhabited
abbrev AH := List AO
abbrev E := List (Option D)
/-- an error that flies: its class, its fields -/
structure Xn where
  c : Nat
  fs : List (List Nat × D)
inductive R (α : Type) where
  | ok (a : α) (h : AH)
  | ex (x : Xn) (h : AH)
  | bad
/-- what runs: calls of the table's defs; turns allowed -/
structure Rt where
  call : Nat → List D → AH → R D
  fuel : Nat
abbrev ME := Rt → E → AH → R D
abbrev MT := Rt → E → AH → R Bool
abbrev MA := Rt → E → AH → R (List D)
inductive Sg where
  | nx (e : E) | rt (d : D) | bk (e : E) | ct (e : E)
abbrev MS := Rt → E → AH → R Sg
def R.bind {α β : Type} (r : R α) (k : α → AH → R β) : R β := match r with
  | .ok a h => k a h
  | .ex x h => .ex x h
  | .bad => .bad
@[simp] theorem R.bind_ok {α β : Type} (a : α) (h : AH) (k : α → AH → R β) : (R.ok a h).bind k = k a h := rfl
@[simp] theorem R.bind_bad {α β : Type} (k : α → AH → R β) : (R.bad : R α).bind k = R.bad := rfl
@[simp] theorem R.bind_ex {α β : Type} (x : Xn) (h : AH) (k : α → AH → R β) : (R.ex x h : R α).bind k = R.ex x h := rfl
theorem R.bind_eq_ok {α β : Type} {r : R α} {k : α → AH → R β} {b : β} {h : AH} (e : r.bind k = .ok b h) : ∃ a h1, r = .ok a h1 ∧ k a h1 = .ok b h := by
  cases r with
  | ok a h1 => exact ⟨a, h1, rfl, e⟩
  | ex x h1 => cases e
  | bad => cases e
/-! ### the written part: what the top has laid -/
/-- one class of the table -/
structure Cl where
  name : Str
/-- what stands fixed: the program, the written part, where the table's defs and classes stand -/
structure Sy where
  P : Program
  w : World
  K : PySem.W.Frag
  mg : Str → Option Value
  base : Heap
  fa : Nat → Addr
  ca : Nat → Addr
/-- a list that stays as it is -/
def SqF (K : PySem.W.Frag) (H : Hp) (a : Addr) (xs : List V) : Prop :=
  (∃ o, H a = some (.frz o (.lst xs))) ∨ ∃ (o : Obj) (its : Array Value) (n : Nat), K.lookup a = some o ∧ o.cls = .type "list" ∧ o.dict = none ∧ o.data = .seq its n ∧ its.size ≤ sizeLine ∧ Vals xs its.toList
theorem SqF.seq {K : PySem.W.Frag} {H : Hp} {a : Addr} {xs : List V} (h : SqF K H a xs) : SqL K H a xs := by
  rcases h with h | h
  · exact .inl (.inr h)
  · exact .inr h
/-- a tuple whose object is plain (tuple(..) of a list made it) -/
def SqP (K : PySem.W.Frag) (H : Hp) (a : Addr) (xs : List V) : Prop :=
  (∃ o, H a = some (.frz o (.tup xs)) ∧ o.dict = none) ∨ ∃ (o : Obj) (its : Array Value) (n : Nat), K.lookup a = some o ∧ o.cls = .type "tuple" ∧ o.dict = none ∧ o.data = .seq its n ∧ its.size ≤ sizeLine ∧ Vals xs its.toList
/-- a written dict with text keys -/
structure KDs (K : PySem.W.Frag) (w : World) (a : Addr) (ks : List (List Nat)) (vs : List V) : Prop where
  len : vs.length = ks.length
  lit : ∃ es n, KDict K w a es n
  has : ∀ (i : Nat) (s : List Nat) (v : V), ks[i]? = some s → vs[i]? = some v → ∃ u, PySem.W.nsIn K a ⟨s.toArray⟩ = some (some u) ∧ RelV v u
  not : ∀ s : List Nat, s ∉ ks → PySem.W.nsIn K a ⟨s.toArray⟩ = some none
/-! ### values -/
section
variable (S : Sy) (ρ : List Addr) (H : Hp)
mutual
def Rv : V → D → Prop
  | v, .non => v = .non
  | v, .bl b => v = .bl b
  | v, .int i => v = .int i
  | v, .str s => v = .str ⟨s.toArray⟩
  | v, .tup p xs => ∃ a vs, v = .ref a ∧ SqT S.K H a vs ∧ (p = true → SqP S.K H a vs) ∧ Rvs vs xs
  | v, .fl xs => ∃ a vs, v = .ref a ∧ SqF S.K H a vs ∧ Rvs vs xs
  | v, .ref n => ∃ a, ρ[n]? = some a ∧ v = .ref a
  | v, .fn f => v = .ref (S.fa f)
  | v, .cl c => v = .ref (S.ca c)
  | v, .ty n => v = .ty n
  | v, .kd ks ds => ∃ a vs, v = .ref a ∧ KDs S.K S.w a ks vs ∧ Rvs vs ds
  | v, .rep p => v = .str p.shown
def Rvs : List V → List D → Prop
  | vs, [] => vs = []
  | vs, d :: ds => ∃ v r, vs = v :: r ∧ Rv v d ∧ Rvs r ds
end
/-- a key -/
def Rk : Key → D → Prop
  | .inl i, .int j => i = j
  | .inr x, .str s => x = ⟨s.toArray⟩
  | _, _ => False
def Rkv : List (Key × V) → List (D × D) → Prop := fun l r => Paired (fun (p : Key × V) (q : D × D) => Rk p.1 q.1 ∧ Rv S ρ H p.2 q.2) l r
def Rfs : List (Str × V) → List (List Nat × D) → Prop := fun l r => Paired (fun (p : Str × V) (q : List Nat × D) => p.1 = ⟨q.1.toArray⟩ ∧ Rv S ρ H p.2 q.2) l r
def Ro (a : Addr) : AO → Prop
  | .lst xs => ∃ vs, H a = some (.lst vs) ∧ Rvs S ρ H vs xs
  | .dct kvs => ∃ l, H a = some (.dK l) ∧ Rkv S ρ H l kvs
  | .dcl kvs => ∃ o l, H a = some (.frz o (.dK l)) ∧ Rkv S ρ H l kvs
  | .ins c fs => ∃ dx l, H a = some (.ins (S.ca c) dx l) ∧ Rfs S ρ H l fs
end
/-- the abstract heap h stands for what is tracked at ρ -/
structure Rl (S : Sy) (ρ : List Addr) (H : Hp) (h : AH) : Prop where
  len : ρ.length = h.length
  nd : ρ.Nodup
  at_ : ∀ (n : Nat) (o : AO), h[n]? = some o → ∃ a, ρ[n]? = some a ∧ Ro S ρ H a o
/-- what comes later: new objects behind, all else kept -/
structure Xt (S : Sy) (ρ : List Addr) (H : Hp) (ρ' : List Addr) (H' : Hp) : Prop where
  pre : ρ <+: ρ'
  tup : ∀ a xs, SqT S.K H a xs → SqT S.K H' a xs
  lst : ∀ a xs, SqF S.K H a xs → SqF S.K H' a xs
  ptp : ∀ a xs, SqP S.K H a xs → SqP S.K H' a xs
  frz : ∀ a o u, H a = some (.frz o u) → H' a = some (.frz o u)
  keep : ∀ a o, H a = some o → a ∉ ρ → H' a = some o
  new : ∀ a ∈ ρ', a ∈ ρ ∨ H a = none
/-- of it, what values need -/
structure Xw (S : Sy) (ρ : List Addr) (H : Hp) (ρ' : List Addr) (H' : Hp) : Prop where
  pre : ρ <+: ρ'
  tup : ∀ a xs, SqT S.K H a xs → SqT S.K H' a xs
  lst : ∀ a xs, SqF S.K H a xs → SqF S.K H' a xs
  ptp : ∀ a xs, SqP S.K H a xs → SqP S.K H' a xs
theorem Xt.w {S : Sy} {ρ ρ' : List Addr} {H H' : Hp} (x : Xt S ρ H ρ' H') : Xw S ρ H ρ' H' := ⟨x.pre, x.tup, x.lst, x.ptp⟩
/-- the slots -/
structure Rs (S : Sy) (ρ : List Addr) (H : Hp) (σ : St) (e : E) : Prop where
  len : σ.length = e.length
  at_ : ∀ (i : Nat) (d : D), e[i]? = some (some d) → ∃ v, σ[i]? = some (some v) ∧ Rv S ρ H v d
section
variable {S : Sy} {ρ ρ' ρ'' : List Addr} {H H' H'' : Hp}
theorem pre_get {α : Type} {l l' : List α} (h : l <+: l') {n : Nat} {a : α} (e : l[n]? = some a) : l'[n]? = some a := by
  obtain ⟨t, rfl⟩ := h
  rw [List.getElem?_append_left (List.getElem?_eq_some_iff.mp e).1]; exact e
theorem Xt.refl : Xt S ρ H ρ H := ⟨List.prefix_refl _, fun _ _ q => q, fun _ _ q => q, fun _ _ q => q, fun _ _ _ q => q, fun _ _ q _ => q, fun _ q => .inl q⟩
theorem Xt.trans (a : Xt S ρ H ρ' H') (b : Xt S ρ' H' ρ'' H'') : Xt S ρ H ρ'' H'' := by
  refine ⟨a.pre.trans b.pre, fun c xs q => b.tup c xs (a.tup c xs q), fun c xs q => b.lst c xs (a.lst c xs q), fun c xs q => b.ptp c xs (a.ptp c xs q), fun c o u q => b.frz c o u (a.frz c o u q), fun c o q n => b.keep c o (a.keep c o q n) fun m => ?_, fun c m => ?_⟩
  · rcases a.new c m with z | z
    · exact n z
    · rw [z] at q; cases q
  · rcases b.new c m with z | z
    · exact a.new c z
    · by_cases hc : c ∈ ρ
      · exact .inl hc
      · refine .inr ?_
        cases q : H c with
        | none => rfl
        | some o => rw [a.keep c o q hc] at z; cases z
mutual
theorem Rv.monoW (x : Xw S ρ H ρ' H') : ∀ {v : V} {d : D}, Rv S ρ H v d → Rv S ρ' H' v d
  | v, .non, h => h
  | v, .bl b, h => h
  | v, .int i, h => h
  | v, .str s, h => h
  | v, .tup p xs, h => by
    unfold Rv at h ⊢
    obtain ⟨a, vs, e, q, z, r⟩ := h
    exact ⟨a, vs, e, x.tup a vs q, fun w => x.ptp a vs (z w), Rvs.monoW x r⟩
  | v, .fl xs, h => by
    unfold Rv at h ⊢
    obtain ⟨a, vs, e, q, r⟩ := h
    exact ⟨a, vs, e, x.lst a vs q, Rvs.monoW x r⟩
  | v, .ref n, h => by
    unfold Rv at h ⊢
    obtain ⟨a, e, q⟩ := h
    exact ⟨a, pre_get x.pre e, q⟩
  | v, .fn f, h => h
  | v, .cl c, h => h
  | v, .ty n, h => h
  | v, .kd ks ds, h => by
    unfold Rv at h ⊢
    obtain ⟨a, vs, e, q, r⟩ := h
    exact ⟨a, vs, e, q, Rvs.monoW x r⟩
  | v, .rep p, h => h
theorem Rvs.monoW (x : Xw S ρ H ρ' H') : ∀ {vs : List V} {ds : List D}, Rvs S ρ H vs ds → Rvs S ρ' H' vs ds
  | vs, [], h => h
  | vs, d :: ds, h => by
    unfold Rvs at h ⊢
    obtain ⟨v, r, e, q, t⟩ := h
    exact ⟨v, r, e, Rv.monoW x q, Rvs.monoW x t⟩
end
theorem Rv.mono (x : Xt S ρ H ρ' H') {v : V} {d : D} (r : Rv S ρ H v d) : Rv S ρ' H' v d := r.monoW x.w
theorem Rvs.mono (x : Xt S ρ H ρ' H') {vs : List V} {ds : List D} (r : Rvs S ρ H vs ds) : Rvs S ρ' H' vs ds := r.monoW x.w
theorem Rvs.length : ∀ {vs : List V} {ds : List D}, Rvs S ρ H vs ds → vs.length = ds.length
  | vs, [], h => by unfold Rvs at h; rw [h]; rfl
  | vs, d :: ds, h => by
    unfold Rvs at h
    obtain ⟨v, r, e, q, t⟩ := h
    rw [e, List.length_cons, List.length_cons, Rvs.length t]
theorem Rvs.get : ∀ {vs : List V} {ds : List D} {i : Nat} {d : D}, Rvs S ρ H vs ds → ds[i]? = some d → ∃ v, vs[i]? = some v ∧ Rv S ρ H v d
  | vs, [], i, d, h, e => by simp at e
  | vs, d :: ds, 0, d', h, e => by
    unfold Rvs at h
    obtain ⟨v, r, rfl, q, t⟩ := h
    simp at e
    subst e
    exact ⟨v, rfl, q⟩
  | vs, d :: ds, i + 1, d', h, e => by
    unfold Rvs at h
    obtain ⟨v, r, rfl, q, t⟩ := h
    obtain ⟨v', e1, e2⟩ := Rvs.get (i := i) (d := d') t (by simpa using e)
    exact ⟨v', by simpa using e1, e2⟩
theorem Rvs.append : ∀ {vs ws : List V} {ds es : List D}, Rvs S ρ H vs ds → Rvs S ρ H ws es → Rvs S ρ H (vs ++ ws) (ds ++ es)
  | vs, ws, [], es, h, g => by unfold Rvs at h; rw [h]; exact g
  | vs, ws, d :: ds, es, h, g => by
    unfold Rvs at h
    obtain ⟨v, r, rfl, q, t⟩ := h
    show Rvs S ρ H (v :: (r ++ ws)) (d :: (ds ++ es))
    unfold Rvs
    exact ⟨v, r ++ ws, rfl, q, Rvs.append t g⟩
theorem Rvs.nil : Rvs S ρ H [] [] := by unfold Rvs; rfl
theorem Rvs.cons {v : V} {d : D} {vs : List V} {ds : List D} (q : Rv S ρ H v d) (t : Rvs S ρ H vs ds) : Rvs S ρ H (v :: vs) (d :: ds) := by
  unfold Rvs; exact ⟨v, vs, rfl, q, t⟩
theorem Rvs.nil_iff {vs : List V} (h : Rvs S ρ H vs []) : vs = [] := by unfold Rvs at h; exact h
theorem Rvs.cons_iff {vs : List V} {d : D} {ds : List D} (h : Rvs S ρ H vs (d :: ds)) : ∃ v r, vs = v :: r ∧ Rv S ρ H v d ∧ Rvs S ρ H r ds := by unfold Rvs at h; exact h
theorem Rvs.one {vs : List V} {d : D} (h : Rvs S ρ H vs [d]) : ∃ v, vs = [v] ∧ Rv S ρ H v d := by
  obtain ⟨v, r, rfl, q, t⟩ := h.cons_iff
  rw [t.nil_iff]; exact ⟨v, rfl, q⟩
theorem Rvs.two {vs : List V} {d e : D} (h : Rvs S ρ H vs [d, e]) : ∃ v u, vs = [v, u] ∧ Rv S ρ H v d ∧ Rv S ρ H u e := by
  obtain ⟨v, r, rfl, q, t⟩ := h.cons_iff
  obtain ⟨u, rfl, q2⟩ := t.one
  exact ⟨v, u, rfl, q, q2⟩
theorem Rvs.take : ∀ {vs : List V} {ds : List D} (n : Nat), Rvs S ρ H vs ds → Rvs S ρ H (vs.take n) (ds.take n)
  | vs, ds, 0, h => by rw [List.take_zero, List.take_zero]; exact .nil
  | vs, [], n + 1, h => by rw [h.nil_iff]; exact .nil
  | vs, d :: ds, n + 1, h => by
    obtain ⟨v, r, rfl, q, t⟩ := h.cons_iff
    exact .cons q (t.take n)
theorem Rvs.drop : ∀ {vs : List V} {ds : List D} (n : Nat), Rvs S ρ H vs ds → Rvs S ρ H (vs.drop n) (ds.drop n)
  | vs, ds, 0, h => h
  | vs, [], n + 1, h => by rw [h.nil_iff]; exact .nil
  | vs, d :: ds, n + 1, h => by
    obtain ⟨v, r, rfl, q, t⟩ := h.cons_iff
    exact t.drop n
theorem Rvs.reverse : ∀ {vs : List V} {ds : List D}, Rvs S ρ H vs ds → Rvs S ρ H vs.reverse ds.reverse
  | vs, [], h => by rw [h.nil_iff]; exact .nil
  | vs, d :: ds, h => by
    obtain ⟨v, r, rfl, q, t⟩ := h.cons_iff
    rw [List.reverse_cons, List.reverse_cons]
    exact t.reverse.append (.cons q .nil)
theorem Rvs.set : ∀ {vs : List V} {ds : List D} {v : V} {d : D} (n : Nat), Rvs S ρ H vs ds → Rv S ρ H v d → Rvs S ρ H (vs.set n v) (ds.set n d)
  | vs, [], v, d, n, h, q => by rw [h.nil_iff]; exact .nil
  | vs, x :: ds, v, d, 0, h, q => by
    obtain ⟨u, r, rfl, q', t⟩ := h.cons_iff
    exact .cons q t
  | vs, x :: ds, v, d, n + 1, h, q => by
    obtain ⟨u, r, rfl, q', t⟩ := h.cons_iff
    exact .cons q' (t.set n q)
theorem Paired.map2 {α β γ δ : Type} {F : α → β → Prop} {G : γ → δ → Prop} {f : α → γ} {g : β → δ} (h : ∀ a b, F a b → G (f a) (g b)) : ∀ {l : List α} {r : List β}, Paired F l r → Paired G (l.map f) (r.map g)
  | _, _, .nil => .nil
  | _, _, .cons q t => .cons (h _ _ q) (Paired.map2 h t)
theorem Rvs.of_paired : ∀ {vs : List V} {ds : List D}, Paired (Rv S ρ H) vs ds → Rvs S ρ H vs ds
  | _, _, .nil => .nil
  | _, _, .cons q t => .cons q (Rvs.of_paired t)
theorem Rkv.monoW (x : Xw S ρ H ρ' H') {l : List (Key × V)} {r : List (D × D)} (h : Rkv S ρ H l r) : Rkv S ρ' H' l r := Paired.mapP h fun _ _ q => ⟨q.1, q.2.monoW x⟩
theorem Rfs.monoW (x : Xw S ρ H ρ' H') {l : List (Str × V)} {r : List (List Nat × D)} (h : Rfs S ρ H l r) : Rfs S ρ' H' l r := Paired.mapP h fun _ _ q => ⟨q.1, q.2.monoW x⟩
theorem Rs.monoW (x : Xw S ρ H ρ' H') {σ : St} {e : E} (r : Rs S ρ H σ e) : Rs S ρ' H' σ e := ⟨r.len, fun i d q => let ⟨v, a, b⟩ := r.at_ i d q; ⟨v, a, b.monoW x⟩⟩
theorem Rkv.mono (x : Xt S ρ H ρ' H') {l : List (Key × V)} {r : List (D × D)} (h : Rkv S ρ H l r) : Rkv S ρ' H' l r := h.monoW x.w
theorem Rfs.mono (x : Xt S ρ H ρ' H') {l : List (Str × V)} {r : List (List Nat × D)} (h : Rfs S ρ H l r) : Rfs S ρ' H' l r := h.monoW x.w
theorem Rs.mono (x : Xt S ρ H ρ' H') {σ : St} {e : E} (r : Rs S ρ H σ e) : Rs S ρ' H' σ e := r.monoW x.w
theorem Rs.set {σ : St} {e : E} (r : Rs S ρ H σ e) {v : V} {d : D} (q : Rv S ρ H v d) (i : Nat) : Rs S ρ H (σ.set i (some v)) (e.set i (some d)) := by
  refine ⟨by rw [List.length_set, List.length_set, r.len], fun j c ej => ?_⟩
  by_cases hj : i = j
  · subst hj
    have hl : i < e.length := by
      have := (List.getElem?_eq_some_iff.mp ej).1
      rwa [List.length_set] at this
    rw [List.getElem?_set_self hl] at ej
    cases ej
    exact ⟨v, List.getElem?_set_self (by rw [r.len]; exact hl), q⟩
  · rw [List.getElem?_set_ne hj] at ej
    obtain ⟨v', a, b⟩ := r.at_ j c ej
    exact ⟨v', by rw [List.getElem?_set_ne hj]; exact a, b⟩
theorem Rl.ne_tup {h : AH} (r : Rl S ρ H h) {n : Nat} {a : Addr} (e : ρ[n]? = some a) : ∃ o, h[n]? = some o ∧ Ro S ρ H a o := by
  have hl : n < h.length := by rw [← r.len]; exact (List.getElem?_eq_some_iff.mp e).1
  obtain ⟨a', e', q⟩ := r.at_ n h[n] (List.getElem?_eq_getElem hl)
  rw [e] at e'; cases e'
  exact ⟨_, List.getElem?_eq_getElem hl, q⟩
end
end Den
/-! Den2: what it means that a functional reading stands for an expression; allocation and stores; operators. -/
namespace Den
open PySem PySem.Spec L2
/-- where an expression stands: the names by slot, the scope that runs, which names' cells are the block's own -/
structure Sc where
  N : List Str
  sc : Scope
  fn : Str → Bool
  gd : Bool
structure XOk (S : Sy) (Γ : Sc) (lv : Nat) (X : Cx) : Prop where
  prog : X.prog = S.P
  w : X.w = S.w
  K : X.K = S.K
  mg : X.mg = S.mg
  base : X.base = S.base
  N : X.N = Γ.N
  sc : X.env.scope = Γ.sc
  fn : X.fn = Γ.fn
  nd : Γ.N.Nodup
  calm : X.calm = true
  room2 : Room (lv + 2) X.A
  xe : X.xe = fun _ _ => False
  gd : Γ.gd = true → X.A.guards = some []
theorem XOk.room {S : Sy} {Γ : Sc} {lv : Nat} {X : Cx} (ok : XOk S Γ lv X) : Room lv X.A := ok.room2.mono (by omega)
theorem XOk.room1 {S : Sy} {Γ : Sc} {lv : Nat} {X : Cx} (ok : XOk S Γ lv X) : Room (lv + 1) X.A := ok.room2.mono (by omega)
/-! ### canonical readings -/
def wE (X : Cx) (e : Expr) : TE := fun σ H Q => ∀ (pins : List (Addr × Obj)) (s : Shared), Inv X pins σ H s → wpAny (model X.prog X.w) X.A (eval e X.env) (EP X pins σ Q) X.xe s
def wT (X : Cx) (e : Expr) : TT := fun σ H Q => ∀ (pins : List (Addr × Obj)) (s : Shared), Inv X pins σ H s → wpAny (model X.prog X.w) X.A (isTrue e X.env (eval e X.env)) (TP X pins σ Q) X.xe s
def wW (X : Cx) (e : Expr) : TT := fun σ H Q => ∀ (wh : Sem Value) (pins : List (Addr × Obj)) (s : Shared), Inv X pins σ H s → wpAny (model X.prog X.w) X.A (isTrue e X.env wh) (TP X pins σ Q) X.xe s
def wA (X : Cx) (es : List Expr) : TA := fun σ H Q => ∀ (pos : Pos) (pins : List (Addr × Obj)) (s : Shared), Inv X pins σ H s → wpAny (model X.prog X.w) X.A (spliced (backTo pos (starEach es X.env))) (AP X pins σ Q) X.xe s
def wO (X : Cx) (f : Value → Value → Sem Value) : R2 := fun x y H Q => ∀ (pins : List (Addr × Obj)) (s : Shared) (σ : L2.St) (v u : Value), Inv X pins σ H s → RelV x v → RelV y u → wpAny (model X.prog X.w) X.A (f v u) (EP X pins σ Q) X.xe s
def wC (X : Cx) (f : Value) : List V → Hp → VK → Prop := fun xs H Q => ∀ (pins : List (Addr × Obj)) (s : Shared) (σ : L2.St) (us : List Value), Inv X pins σ H s → Vals xs us → wpAny (model X.prog X.w) X.A (call f us) (EP X pins σ Q) X.xe s
def wM (X : Cx) (id : String) : V → List V → Hp → VK → Prop := fun x xs H Q => ∀ (pins : List (Addr × Obj)) (s : Shared) (σ : L2.St) (v : Value) (us : List Value), Inv X pins σ H s → RelV x v → Vals xs us → wpAny (model X.prog X.w) X.A (call (.builtin id) (v :: us)) (EP X pins σ Q) X.xe s
section
variable {X : Cx} {e : Expr} {es : List Expr}
theorem pe_w : PE X e (wE X e) := ⟨fun pins s _ _ _ I h => h pins s I⟩
theorem pt_w : PT X e (wT X e) := ⟨fun pins s _ _ _ I h => h pins s I⟩
theorem pw_w : PW X e (wW X e) := ⟨fun wh pins s _ _ _ I h => h wh pins s I⟩
theorem pa_w : PA X es (wA X es) := ⟨fun pos pins s _ _ _ I h => h pos pins s I⟩
theorem op_w {f : Value → Value → Sem Value} : OpR X f (wO X f) := fun pins s σ H x y v u Q I rx ry h => h pins s σ v u I rx ry
theorem call_w {f : Value} : CallR X f (wC X f) := fun pins s σ H xs us Q I r h => h pins s σ us I r
theorem mt_w {id : String} : MtR X id (wM X id) := fun pins s σ H x xs v us Q I r1 r2 h => h pins s σ v us I r1 r2
theorem wE_of {t : TE} (p : PE X e t) {σ : L2.St} {H : Hp} {Q : VK} (h : t σ H Q) : wE X e σ H Q := fun pins s I => p.run pins s σ H Q I h
theorem wT_of {t : TT} (p : PT X e t) {σ : L2.St} {H : Hp} {Q : Bool → Hp → Prop} (h : t σ H Q) : wT X e σ H Q := fun pins s I => p.run pins s σ H Q I h
theorem wW_of {t : TT} (p : PW X e t) {σ : L2.St} {H : Hp} {Q : Bool → Hp → Prop} (h : t σ H Q) : wW X e σ H Q := fun wh pins s I => p.run wh pins s σ H Q I h
theorem wA_of {t : TA} (p : PA X es t) {σ : L2.St} {H : Hp} {Q : List V → Hp → Prop} (h : t σ H Q) : wA X es σ H Q := fun pos pins s I => p.run pos pins s σ H Q I h
theorem wO_of {f : Value → Value → Sem Value} {r : R2} (p : OpR X f r) {x y : V} {H : Hp} {Q : VK} (h : r x y H Q) : wO X f x y H Q := fun pins s σ v u I rx ry => p pins s σ H x y v u Q I rx ry h
theorem wC_of {f : Value} {r : List V → Hp → VK → Prop} (p : CallR X f r) {xs : List V} {H : Hp} {Q : VK} (h : r xs H Q) : wC X f xs H Q := fun pins s σ us I rx => p pins s σ H xs us Q I rx h
theorem wM_of {id : String} {r : V → List V → Hp → VK → Prop} (p : MtR X id r) {x : V} {xs : List V} {H : Hp} {Q : VK} (h : r x xs H Q) : wM X id x xs H Q := fun pins s σ v us I r1 r2 => p pins s σ H x xs v us Q I r1 r2 h
end
/-! ### what follows -/
/-- Q holds wherever d and h' are told behind ρ, H -/
def Po (S : Sy) (ρ : List Addr) (H : Hp) (h' : AH) (d : D) (Q : VK) : Prop := ∀ v ρ' H', Xt S ρ H ρ' H' → Rl S ρ' H' h' → Rv S ρ' H' v d → Q v H'
def PoT (S : Sy) (ρ : List Addr) (H : Hp) (h' : AH) (b : Bool) (Q : Bool → Hp → Prop) : Prop := ∀ ρ' H', Xt S ρ H ρ' H' → Rl S ρ' H' h' → Q b H'
def PoA (S : Sy) (ρ : List Addr) (H : Hp) (h' : AH) (ds : List D) (Q : List V → Hp → Prop) : Prop := ∀ vs ρ' H', Xt S ρ H ρ' H' → Rl S ρ' H' h' → Rvs S ρ' H' vs ds → Q vs H'
section
variable {S : Sy} {ρ ρ' : List Addr} {H H' : Hp} {h h' : AH}
theorem Po.later {d : D} {Q : VK} (q : Po S ρ H h' d Q) (x : Xt S ρ H ρ' H') : Po S ρ' H' h' d Q := fun v r G y rl rv => q v r G (x.trans y) rl rv
theorem PoT.later {b : Bool} {Q : Bool → Hp → Prop} (q : PoT S ρ H h' b Q) (x : Xt S ρ H ρ' H') : PoT S ρ' H' h' b Q := fun r G y rl => q r G (x.trans y) rl
theorem PoA.later {ds : List D} {Q : List V → Hp → Prop} (q : PoA S ρ H h' ds Q) (x : Xt S ρ H ρ' H') : PoA S ρ' H' h' ds Q := fun v r G y rl rv => q v r G (x.trans y) rl rv
theorem Po.here {d : D} {Q : VK} (q : Po S ρ H h d Q) (rl : Rl S ρ H h) {v : V} (rv : Rv S ρ H v d) : Q v H := q v ρ H .refl rl rv
end
/-- the reading m stands for e -/
def SE (S : Sy) (Γ : Sc) (lv : Nat) (rt : Rt) (e : Expr) (m : ME) : Prop := ∀ X, XOk S Γ lv X → ∀ σ en ρ H h d h', Rs S ρ H σ en → Rl S ρ H h → m rt en h = .ok d h' → ∀ Q, Po S ρ H h' d Q → wE X e σ H Q
def STt (S : Sy) (Γ : Sc) (lv : Nat) (rt : Rt) (e : Expr) (m : MT) : Prop := ∀ X, XOk S Γ lv X → ∀ σ en ρ H h b h', Rs S ρ H σ en → Rl S ρ H h → m rt en h = .ok b h' → ∀ Q, PoT S ρ H h' b Q → wT X e σ H Q
def STw (S : Sy) (Γ : Sc) (lv : Nat) (rt : Rt) (e : Expr) (m : MT) : Prop := ∀ X, XOk S Γ lv X → ∀ σ en ρ H h b h', Rs S ρ H σ en → Rl S ρ H h → m rt en h = .ok b h' → ∀ Q, PoT S ρ H h' b Q → wW X e σ H Q
def SA (S : Sy) (Γ : Sc) (lv : Nat) (rt : Rt) (es : List Expr) (m : MA) : Prop := ∀ X, XOk S Γ lv X → ∀ σ en ρ H h ds h', Rs S ρ H σ en → Rl S ρ H h → m rt en h = .ok ds h' → ∀ Q, PoA S ρ H h' ds Q → wA X es σ H Q
/-- an operation on data stands for one on values -/
abbrev Op2 := D → D → AH → R D
def SO (S : Sy) (lv : Nat) (f : Value → Value → Sem Value) (op : Op2) : Prop := ∀ X, (∃ Γ, XOk S Γ lv X) → ∀ x y a b ρ H h d h', Rl S ρ H h → Rv S ρ H x a → Rv S ρ H y b → op a b h = .ok d h' → ∀ Q, Po S ρ H h' d Q → wO X f x y H Q
/-! ### a new object, a store -/
section
variable {S : Sy} {ρ ρ' : List Addr} {H H' : Hp} {h h' : AH}
theorem SqT.upd {K : PySem.W.Frag} {a p : Addr} {xs : List V} {o : HO} (q : SqT K H a xs) (n : ∀ ys, H p ≠ some (.tup ys)) (n2 : ∀ ob u, H p ≠ some (.frz ob u)) : SqT K (upd H p o) a xs := by
  rcases q with (q | ⟨ob, q⟩) | q
  · refine .inl (.inl ?_)
    rw [upd_ne fun e => n xs (by rw [← e]; exact q)]; exact q
  · refine .inl (.inr ⟨ob, ?_⟩)
    rw [upd_ne fun e => n2 ob _ (by rw [← e]; exact q)]; exact q
  · exact .inr q
theorem SqF.upd {K : PySem.W.Frag} {a p : Addr} {xs : List V} {o : HO} (q : SqF K H a xs) (n2 : ∀ ob u, H p ≠ some (.frz ob u)) : SqF K (upd H p o) a xs := by
  rcases q with ⟨ob, q⟩ | q
  · refine .inl ⟨ob, ?_⟩
    rw [upd_ne fun e => n2 ob _ (by rw [← e]; exact q)]; exact q
  · exact .inr q
theorem SqP.upd {K : PySem.W.Frag} {a p : Addr} {xs : List V} {o : HO} (q : SqP K H a xs) (n2 : ∀ ob u, H p ≠ some (.frz ob u)) : SqP K (upd H p o) a xs := by
  rcases q with ⟨ob, q, d⟩ | q
  · refine .inl ⟨ob, ?_, d⟩
    rw [upd_ne fun e => n2 ob _ (by rw [← e]; exact q)]; exact q
  · exact .inr q
theorem Xt.fresh {p : Addr} {o : HO} (n : H p = none) : Xt S ρ H ρ (upd H p o) :=
  ⟨List.prefix_refl _, fun a xs q => SqT.upd q (fun ys e => by rw [n] at e; cases e) (fun ob ys e => by rw [n] at e; cases e), fun a xs q => SqF.upd q (fun ob ys e => by rw [n] at e; cases e), fun a xs q => SqP.upd q (fun ob ys e => by rw [n] at e; cases e), fun a o' u q => by rw [upd_ne (ne_of_none q n)]; exact q, fun a o' q _ => by rw [upd_ne (ne_of_none q n)]; exact q, fun _ q => .inl q⟩
theorem Xt.alloc {p : Addr} {o : HO} (n : H p = none) : Xt S ρ H (ρ ++ [p]) (upd H p o) :=
  ⟨List.prefix_append _ _, (Xt.fresh (S := S) (ρ := ρ) n).tup, (Xt.fresh (S := S) (ρ := ρ) n).lst, (Xt.fresh (S := S) (ρ := ρ) n).ptp, (Xt.fresh (S := S) (ρ := ρ) n).frz, (Xt.fresh (S := S) (ρ := ρ) n).keep, fun a q => by
    rcases List.mem_append.mp q with z | z
    · exact .inl z
    · rw [List.mem_singleton] at z
      exact .inr (by rw [z]; exact n)⟩
theorem Ro.keepW {a : Addr} {o : AO} (r : Ro S ρ H a o) (x : Xw S ρ H ρ' H') (k : H' a = H a) : Ro S ρ' H' a o := by
  cases o with
  | lst xs => obtain ⟨vs, e, q⟩ := r; exact ⟨vs, k.trans e, q.monoW x⟩
  | dct kvs => obtain ⟨l, e, q⟩ := r; exact ⟨l, k.trans e, q.monoW x⟩
  | dcl kvs => obtain ⟨o, l, e, q⟩ := r; exact ⟨o, l, k.trans e, q.monoW x⟩
  | ins c fs => obtain ⟨dx, l, e, q⟩ := r; exact ⟨dx, l, k.trans e, q.monoW x⟩
theorem Ro.keep {a : Addr} {o : AO} (r : Ro S ρ H a o) (x : Xt S ρ H ρ' H') (k : H' a = H a) : Ro S ρ' H' a o := r.keepW x.w k
theorem Rl.keep (r : Rl S ρ H h) (x : Xt S ρ H ρ H') (k : ∀ a ∈ ρ, H' a = H a) : Rl S ρ H' h :=
  ⟨r.len, r.nd, fun n o e => let ⟨a, ea, q⟩ := r.at_ n o e; ⟨a, ea, q.keep x (k a (List.mem_of_getElem? ea))⟩⟩
def AO.mut : AO → Bool
  | .dcl _ => false
  | _ => true
theorem Ro.there {a : Addr} {o : AO} (r : Ro S ρ H a o) : ∃ ob, H a = some ob ∧ (o.mut = true → Mut (some ob)) := by
  cases o with
  | lst xs => obtain ⟨vs, e, q⟩ := r; exact ⟨_, e, fun _ => trivial⟩
  | dct kvs => obtain ⟨l, e, q⟩ := r; exact ⟨_, e, fun _ => trivial⟩
  | dcl kvs => obtain ⟨o, l, e, q⟩ := r; exact ⟨_, e, fun z => nomatch z⟩
  | ins c fs => obtain ⟨dx, l, e, q⟩ := r; exact ⟨_, e, fun _ => trivial⟩
theorem Rl.mem (r : Rl S ρ H h) {a : Addr} (m : a ∈ ρ) : ∃ ob, H a = some ob := by
  obtain ⟨n, hn⟩ := List.mem_iff_getElem?.mp m
  obtain ⟨o, _, q⟩ := r.ne_tup hn
  obtain ⟨ob, e, _⟩ := q.there
  exact ⟨ob, e⟩
theorem Rl.notin (r : Rl S ρ H h) {p : Addr} (n : H p = none) : p ∉ ρ := fun m => by
  obtain ⟨ob, e⟩ := r.mem m
  rw [n] at e; cases e
/-- a new thing that is no changing object -/
theorem Rl.fresh (r : Rl S ρ H h) {p : Addr} {o : HO} (n : H p = none) : Rl S ρ (upd H p o) h := r.keep (.fresh n) fun a m => upd_ne fun e => r.notin n (by rw [← e]; exact m)
/-- a new changing object -/
theorem Rl.alloc (r : Rl S ρ H h) {p : Addr} {o : HO} {b : AO} (n : H p = none) (q : Ro S (ρ ++ [p]) (upd H p o) p b) : Rl S (ρ ++ [p]) (upd H p o) (h ++ [b]) := by
  have x : Xt S ρ H (ρ ++ [p]) (upd H p o) := .alloc n
  refine ⟨by rw [List.length_append, List.length_append, r.len]; rfl, List.nodup_append.mpr ⟨r.nd, (by simp), fun a m b mb e => ?_⟩, fun k c e => ?_⟩
  · rw [List.mem_singleton] at mb
    exact r.notin n (by rw [← mb, ← e]; exact m)
  · by_cases hk : k < h.length
    · rw [List.getElem?_append_left hk] at e
      obtain ⟨a, ea, qa⟩ := r.at_ k c e
      refine ⟨a, by rw [List.getElem?_append_left (by rw [r.len]; exact hk)]; exact ea, qa.keep x (upd_ne fun z => r.notin n ?_)⟩
      rw [← z]; exact List.mem_of_getElem? ea
    · have hk2 : k = h.length := by
        have := (List.getElem?_eq_some_iff.mp e).1
        rw [List.length_append, List.length_singleton] at this
        omega
      subst hk2
      rw [List.getElem?_append_right (Nat.le_refl _), Nat.sub_self] at e
      cases e
      exact ⟨p, by rw [← r.len, List.getElem?_append_right (Nat.le_refl _), Nat.sub_self]; rfl, q⟩
theorem Rl.ref (r : Rl S ρ H h) {p : Addr} : Rv S (ρ ++ [p]) H' (.ref p) (.ref h.length) := by
  unfold Rv
  exact ⟨p, by rw [← r.len, List.getElem?_append_right (Nat.le_refl _), Nat.sub_self]; rfl, rfl⟩
/-- a store: the n-th object, at a -/
theorem Xt.write {a : Addr} {o : HO} (m : a ∈ ρ) (mu : Mut (H a)) : Xt S ρ H ρ (upd H a o) := by
  have nf : ∀ ob u, H a ≠ some (.frz ob u) := fun ob u z => by rw [z] at mu; exact mu
  refine ⟨List.prefix_refl _, fun b xs q => SqT.upd q (fun ys z => by rw [z] at mu; exact mu) nf, fun b xs q => SqF.upd q nf, fun b xs q => SqP.upd q nf, fun b ob u q => ?_, fun b o' q nb => ?_, fun _ q => .inl q⟩
  · rw [upd_ne fun z => nf ob u (by rw [← z]; exact q)]; exact q
  · rw [upd_ne fun z => nb (by rw [z]; exact m)]; exact q
/-- the n-th object turns -/
theorem Rl.putW (r : Rl S ρ H h) {n : Nat} {a : Addr} {o : HO} {b : AO} (x : Xw S ρ H ρ (upd H a o)) (e : ρ[n]? = some a) (q : Ro S ρ (upd H a o) a b) : Rl S ρ (upd H a o) (h.set n b) := by
  refine ⟨by rw [List.length_set, r.len], r.nd, fun k c ek => ?_⟩
  by_cases hk : n = k
  · subst hk
    have hl : n < h.length := by
      have := (List.getElem?_eq_some_iff.mp ek).1
      rwa [List.length_set] at this
    rw [List.getElem?_set_self hl] at ek
    cases ek
    exact ⟨a, e, q⟩
  · rw [List.getElem?_set_ne hk] at ek
    obtain ⟨a', ea, qa⟩ := r.at_ k c ek
    refine ⟨a', ea, qa.keepW x (upd_ne fun z => hk ?_)⟩
    subst z
    obtain ⟨l1, e1⟩ := List.getElem?_eq_some_iff.mp e
    obtain ⟨l2, e2⟩ := List.getElem?_eq_some_iff.mp ea
    exact (List.getElem_inj r.nd).mp (e1.trans e2.symm)
theorem Rl.put (r : Rl S ρ H h) {n : Nat} {a : Addr} {o : HO} {b : AO} (x : Xt S ρ H ρ (upd H a o)) (e : ρ[n]? = some a) (q : Ro S ρ (upd H a o) a b) : Rl S ρ (upd H a o) (h.set n b) := r.putW x.w e q
theorem Rl.write (r : Rl S ρ H h) {n : Nat} {a : Addr} {o : HO} {b : AO} (e : ρ[n]? = some a) (mu : Mut (H a)) (q : Ro S ρ (upd H a o) a b) : Rl S ρ (upd H a o) (h.set n b) := r.put (.write (List.mem_of_getElem? e) mu) e q
end
end Den
/-! Den3: operators on data. -/
namespace Den
open PySem PySem.Spec L2
abbrev LIM : Nat := 16777216
theorem lim_eq : (sizeLine : Nat) = LIM := sizeLine_eq
/-! ### what the operators give -/
def alloc (o : AO) (h : AH) : R D := .ok (.ref h.length) (h ++ [o])
def lstAt (h : AH) (n : Nat) : Option (List D) := match h[n]? with
  | some (.lst xs) => some xs
  | _ => none
def dctAt (h : AH) (n : Nat) : Option (List (D × D)) := match h[n]? with
  | some (.dct kvs) => some kvs
  | some (.dcl kvs) => some kvs
  | _ => none
/-- a list's items, of whatever kind of list -/
def itemsL (h : AH) : D → Option (List D)
  | .fl xs => some xs
  | .ref n => lstAt h n
  | _ => none
/-- a list's or tuple's items -/
def itemsS (h : AH) : D → Option (List D)
  | .tup _ xs => some xs
  | d => itemsL h d
def opAdd : Op2 := fun a b h => match a, b with
  | .int i, .int j => .ok (.int (i + j)) h
  | .str s, .str t => if s.length + t.length ≤ LIM then .ok (.str (s ++ t)) h else .bad
  | .tup _ xs, .tup _ ys => if xs.length + ys.length ≤ LIM then .ok (.tup false (xs ++ ys)) h else .bad
  | .ref n, .ref m => match lstAt h n, lstAt h m with
    | some xs, some ys => if xs.length + ys.length ≤ LIM then alloc (.lst (xs ++ ys)) h else .bad
    | _, _ => .bad
  | _, _ => .bad
def opSub : Op2 := fun a b h => match a, b with
  | .int i, .int j => .ok (.int (i - j)) h
  | _, _ => .bad
def P64 : Int := 18446744073709551616
def mulOk (i j : Int) : Bool := (decide (-P64 < i) && decide (i < P64)) || (decide (-P64 < j) && decide (j < P64))
def opMul : Op2 := fun a b h => match a, b with
  | .int i, .int j => if mulOk i j then .ok (.int (i * j)) h else .bad
  | .ref n, .int k => match lstAt h n with
    | some xs => if -(2 ^ 63) ≤ k && k < 2 ^ 63 && decide (xs.length * k.toNat ≤ LIM) then alloc (.lst (List.replicate k.toNat xs).flatten) h else .bad
    | none => .bad
  | _, _ => .bad
def opFdiv : Op2 := fun a b h => match a, b with
  | .int i, .int j => if j != 0 && decide (j.natAbs < 1073741824) then .ok (.int (i.fdiv j)) h else .bad
  | _, _ => .bad
def opMod : Op2 := fun a b h => match a, b with
  | .int i, .int j => if j != 0 then .ok (.int (i.fmod j)) h else .bad
  | _, _ => .bad
def opPow : Op2 := fun a b h => match a, b with
  | .int i, .int j => if 0 ≤ j && decide (j ≤ 1000000) && decide (i.natAbs < 18446744073709551616) then .ok (.int (i ^ j.toNat)) h else .bad
  | _, _ => .bad
/-! ### comparisons -/
/-- flat values -/
def flatD : D → Bool
  | .non | .bl _ | .int _ | .str _ => true
  | _ => false
def leq : List Nat → List Nat → Bool
  | [], [] => true
  | a :: s, b :: t => Nat.beq a b && leq s t
  | _, _ => false
theorem leq_iff : ∀ {s t : List Nat}, leq s t = true ↔ s = t
  | [], [] => ⟨fun _ => rfl, fun _ => rfl⟩
  | [], b :: t => ⟨fun h => (by cases h), fun h => (by cases h)⟩
  | a :: s, [] => ⟨fun h => (by cases h), fun h => (by cases h)⟩
  | a :: s, b :: t => by
    have ih := @leq_iff s t
    unfold leq
    rw [Bool.and_eq_true, ih]
    constructor
    · rintro ⟨h1, h2⟩
      rw [Nat.eq_of_beq_eq_true h1, h2]
    · intro h
      injection h with h1 h2
      exact ⟨by rw [h1]; exact Nat.beq_refl b, h2⟩
theorem leq_eq {s t : List Nat} : leq s t = decide (s = t) := by
  by_cases e : s = t
  · rw [leq_iff.mpr e, decide_eq_true e]
  · rw [decide_eq_false e]
    cases q : leq s t with
    | false => rfl
    | true => exact absurd (leq_iff.mp q) e
/-- s before t, by code points -/
def slt : List Nat → List Nat → Bool
  | _, [] => false
  | [], _ :: _ => true
  | a :: s, b :: t => Nat.blt a b || (Nat.beq a b && slt s t)
theorem slt_iff : ∀ {s t : List Nat}, slt s t = true ↔ s < t
  | [], [] => ⟨fun h => (by cases h), fun h => (by cases h)⟩
  | a :: s, [] => ⟨fun h => (by cases h), fun h => (by cases h)⟩
  | [], b :: t => ⟨fun _ => List.nil_lt_cons b t, fun _ => rfl⟩
  | a :: s, b :: t => by
    have ih := @slt_iff s t
    unfold slt
    rw [Bool.or_eq_true, Bool.and_eq_true, ih, List.cons_lt_cons_iff]
    constructor
    · rintro (h | ⟨h1, h2⟩)
      · exact .inl (Nat.le_of_ble_eq_true h)
      · exact .inr ⟨Nat.eq_of_beq_eq_true h1, h2⟩
    · rintro (h | ⟨h1, h2⟩)
      · exact .inl (Nat.ble_eq_true_of_le h)
      · exact .inr ⟨by rw [h1]; exact Nat.beq_refl b, h2⟩
theorem slt_eq {s t : List Nat} : slt s t = decide (s < t) := by
  by_cases e : s < t
  · rw [slt_iff.mpr e, decide_eq_true e]
  · rw [decide_eq_false e]
    cases q : slt s t with
    | false => rfl
    | true => exact absurd (slt_iff.mp q) e
/-- == of flat values -/
def eqF : D → D → Bool
  | .non, .non => true
  | .bl a, .bl b => a == b
  | .bl a, .int b => decide ((if a then 1 else 0) = b)
  | .int a, .bl b => decide (a = (if b then 1 else 0))
  | .int a, .int b => decide (a = b)
  | .str a, .str b => leq a b
  | _, _ => false
/-- the data that a value is, lists as they stand -/
def pd (h : AH) : Nat → D → Option PyData
  | _, .non => some .none
  | _, .bl b => some (.bool b)
  | _, .int i => some (.int i)
  | _, .str s => some (.str ⟨s.toArray⟩)
  | 0, _ => none
  | n + 1, .tup _ xs => (xs.mapM (pd h n)).map .tuple
  | n + 1, .fl xs => (xs.mapM (pd h n)).map .list
  | n + 1, .ref k => match lstAt h k with
    | some xs => (xs.mapM (pd h n)).map .list
    | none => none
  | _, _ => none
/-- two flat values, not an int and a bool -/
def scalD (a b : D) : Bool := match a, b with
  | .bl _, .int _ => false
  | .int _, .bl _ => false
  | a, b => flatD a && flatD b
mutual
/-- the same data, by its form -/
def pdEq : PyData → PyData → Bool
  | .none, .none => true
  | .bool a, .bool b => a == b
  | .int a, .int b => decide (a = b)
  | .str a, .str b => leq a.cps.toList b.cps.toList
  | .list a, .list b => pdEqs a b
  | .tuple a, .tuple b => pdEqs a b
  | _, _ => false
def pdEqs : List PyData → List PyData → Bool
  | [], [] => true
  | a :: r, b :: t => pdEq a b && pdEqs r t
  | _, _ => false
end
mutual
theorem pdEq_eq : ∀ {a b : PyData}, pdEq a b = true → a = b
  | .none, b, h => by cases b <;> first | rfl | (unfold pdEq at h; cases h)
  | .bool a, b, h => by
    cases b <;> first
      | (unfold pdEq at h; cases h; done)
      | (unfold pdEq at h; rw [eq_of_beq h])
  | .int a, b, h => by
    cases b <;> first
      | (unfold pdEq at h; cases h; done)
      | (unfold pdEq at h; rw [of_decide_eq_true h])
  | .str a, b, h => by
    cases b with
    | str b =>
      unfold pdEq at h
      have e := leq_iff.mp h
      obtain ⟨a⟩ := a
      obtain ⟨b⟩ := b
      have e2 : a = b := Array.toList_inj.mp e
      rw [e2]
    | _ => unfold pdEq at h; cases h
  | .list a, b, h => by
    cases b with
    | list b => unfold pdEq at h; rw [pdEqs_eq h]
    | _ => unfold pdEq at h; cases h
  | .tuple a, b, h => by
    cases b with
    | tuple b => unfold pdEq at h; rw [pdEqs_eq h]
    | _ => unfold pdEq at h; cases h
  | .dict a, b, h => by cases b <;> (unfold pdEq at h; cases h)
theorem pdEqs_eq : ∀ {a b : List PyData}, pdEqs a b = true → a = b
  | [], [], _ => rfl
  | a :: r, [], h => by unfold pdEqs at h; cases h
  | [], b :: t, h => by unfold pdEqs at h; cases h
  | a :: r, b :: t, h => by
    unfold pdEqs at h
    rw [Bool.and_eq_true] at h
    rw [pdEq_eq h.1, pdEqs_eq h.2]
end
/-- two shown texts of the same data -/
def repD : D → D → Bool
  | .rep p, .rep q => pdEq p q
  | _, _ => false
/-- == : flat values by eqF; other data as PyData -/
def eqD (h : AH) (a b : D) : Option Bool := match scalD a b with
  | true => some (eqF a b)
  | false => (match repD a b with
    | true => some true
    | false => (match pd h 60 a, pd h 60 b with
      | some p, some q => if SeqAt.shaped p && SeqAt.shaped q then some (p.eqv q) else none
      | _, _ => none))
def ofB (o : Option Bool) (h : AH) : R D := match o with
  | some b => .ok (.bl b) h
  | none => .bad
def opEq : Op2 := fun a b h => ofB (eqD h a b) h
def opNe : Op2 := fun a b h => ofB ((eqD h a b).map (!·)) h
def ltD (a b : D) : Option Bool := match a, b with
  | .int i, .int j => some (decide (i < j))
  | .str s, .str t => some (slt s t)
  | _, _ => none
def leD (a b : D) : Option Bool := match a, b with
  | .int i, .int j => some (decide (i ≤ j))
  | .str s, .str t => some (!slt t s)
  | _, _ => none
def opLt : Op2 := fun a b h => ofB (ltD a b) h
def opLe : Op2 := fun a b h => ofB (leD a b) h
def opGt : Op2 := fun a b h => ofB (ltD b a) h
def opGe : Op2 := fun a b h => ofB (leD b a) h
def isD (a b : D) : Option Bool := match a, b with
  | .non, .non => some true
  | .bl _, .non => some false | .int _, .non => some false | .str _, .non => some false | .tup _ _, .non => some false | .ref _, .non => some false
  | .bl x, .bl y => some (x == y)
  | .non, .bl _ => some false
  | _, _ => none
def opIs : Op2 := fun a b h => ofB (isD a b) h
def opIsN : Op2 := fun a b h => ofB ((isD a b).map (!·)) h
def memF (x : D) : List D → Bool
  | [] => false
  | y :: r => eqF y x || memF x r
/-- a dict's value -/
def keyD : D → Bool
  | .int _ | .str _ => true
  | _ => false
def kget (k : D) : List (D × D) → Option D
  | [] => none
  | (a, v) :: r => if eqF a k then some v else kget k r
def inL (a : D) (xs : List D) : Option Bool := cond (flatD a && xs.all flatD) (some (memF a xs)) none
def kdGet (s : List Nat) : List (List Nat) → List D → Option D
  | k :: ks, d :: ds => if leq k s then some d else kdGet s ks ds
  | _, _ => none
def inD (h : AH) (a b : D) : Option Bool := match b with
  | .str t => (match a with
    | .str [c] => some (t.any (Nat.beq c))
    | _ => none)
  | .ref n => (match lstAt h n with
    | some xs => inL a xs
    | none => (match dctAt h n with
      | some kvs => cond (keyD a) (some (kget a kvs).isSome) none
      | none => none))
  | .tup _ xs => inL a xs
  | .fl xs => inL a xs
  | .kd ks ds => (match a with
    | .str s => some (kdGet s ks ds).isSome
    | _ => none)
  | _ => none
def opIn : Op2 := fun a b h => ofB (inD h a b) h
def opNotIn : Op2 := fun a b h => ofB ((inD h a b).map (!·)) h
/-! ### truth -/
def truthD (h : AH) : D → Option Bool
  | .non => some false
  | .bl b => some b
  | .int i => some (i != 0)
  | .str s => if s.length ≤ LIM then some (!s.isEmpty) else none
  | .tup _ xs => some (!xs.isEmpty)
  | .fl xs => some (!xs.isEmpty)
  | .ref n => match h[n]? with
    | some (.lst xs) => some (!xs.isEmpty)
    | some (.dct kvs) => some (!kvs.isEmpty)
    | _ => none
  | _ => none
/-! ### subscripts -/
def ixL (xs : List D) (k : D) (h : AH) : R D := match k with
  | .int i => (match atI xs i with
    | some d => .ok d h
    | none => .bad)
  | _ => .bad
def opIx : Op2 := fun a b h => match a with
  | .str s => (match b with
    | .int i => cond (Nat.ble s.length LIM) (match atI s i with
      | some c => .ok (.str [c]) h
      | none => .bad) .bad
    | _ => .bad)
  | .tup _ xs => ixL xs b h
  | .fl xs => ixL xs b h
  | .ref n => (match lstAt h n with
    | some xs => ixL xs b h
    | none => (match dctAt h n with
      | some kvs => cond (keyD b) (match kget b kvs with
        | some d => .ok d h
        | none => .bad) .bad
      | none => .bad))
  | .kd ks ds => (match b with
    | .str s => (match kdGet s ks ds with
      | some d => .ok d h
      | none => .bad)
    | _ => .bad)
  | _ => .bad
def cutD {α : Type} (xs : List α) (lo hi : Option Int) : List α := (xs.drop (HT.sIx xs.length 0 lo)).take (HT.sIx xs.length xs.length hi - HT.sIx xs.length 0 lo)
def opSl (a : D) (lo hi : Option Int) (h : AH) : R D := match a with
  | .str s => if s.length ≤ LIM then .ok (.str (cutD s lo hi)) h else .bad
  | .tup _ xs => .ok (.tup false (cutD xs lo hi)) h
  | .fl xs => alloc (.lst (cutD xs lo hi)) h
  | .ref n => match lstAt h n with
    | some xs => alloc (.lst (cutD xs lo hi)) h
    | none => .bad
  | _ => .bad
end Den
/-! Den4: the operators on data stand for those on values. -/
namespace Den
open PySem PySem.Spec L2
theorem str_app (s t : List Nat) : (⟨s.toArray⟩ : Str) ++ ⟨t.toArray⟩ = ⟨(s ++ t).toArray⟩ := by
  show Str.append _ _ = _
  unfold Str.append
  rw [List.append_toArray]
theorem str_len (s : List Nat) : Str.length ⟨s.toArray⟩ = s.length := by
  show s.toArray.size = _
  rw [List.size_toArray]
theorem str_inj {s t : List Nat} : ((⟨s.toArray⟩ : Str) = ⟨t.toArray⟩) ↔ s = t := by
  constructor
  · intro h
    have := congrArg (fun x : Str => x.cps.toList) h
    simpa using this
  · intro h; rw [h]
section
variable {S : Sy} {ρ ρ' : List Addr} {H H' : Hp} {h h' : AH} {lv : Nat}
theorem Rv.i {v : V} {i : Int} (q : Rv S ρ H v (.int i)) : v = .int i := by unfold Rv at q; exact q
theorem Rv.b {v : V} {i : Bool} (q : Rv S ρ H v (.bl i)) : v = .bl i := by unfold Rv at q; exact q
theorem Rv.n {v : V} (q : Rv S ρ H v .non) : v = .non := by unfold Rv at q; exact q
theorem Rv.s {v : V} {s : List Nat} (q : Rv S ρ H v (.str s)) : v = .str ⟨s.toArray⟩ := by unfold Rv at q; exact q
theorem Rv.t {v : V} {p : Bool} {xs : List D} (q : Rv S ρ H v (.tup p xs)) : ∃ a vs, v = .ref a ∧ SqT S.K H a vs ∧ Rvs S ρ H vs xs := by
  unfold Rv at q
  obtain ⟨a, vs, e, s, _, r⟩ := q
  exact ⟨a, vs, e, s, r⟩
theorem Rv.tp {v : V} {xs : List D} (q : Rv S ρ H v (.tup true xs)) : ∃ a vs, v = .ref a ∧ SqP S.K H a vs ∧ SqT S.K H a vs ∧ Rvs S ρ H vs xs := by
  unfold Rv at q
  obtain ⟨a, vs, e, s, z, r⟩ := q
  exact ⟨a, vs, e, z rfl, s, r⟩
theorem Rv.l {v : V} {xs : List D} (q : Rv S ρ H v (.fl xs)) : ∃ a vs, v = .ref a ∧ SqF S.K H a vs ∧ Rvs S ρ H vs xs := by unfold Rv at q; exact q
theorem Rv.r {v : V} {n : Nat} (q : Rv S ρ H v (.ref n)) : ∃ a, ρ[n]? = some a ∧ v = .ref a := by unfold Rv at q; exact q
theorem rv_i (i : Int) : Rv S ρ H (.int i) (.int i) := by unfold Rv; rfl
theorem rv_b (i : Bool) : Rv S ρ H (.bl i) (.bl i) := by unfold Rv; rfl
theorem rv_n : Rv S ρ H .non .non := by unfold Rv; rfl
theorem rv_s (s : List Nat) : Rv S ρ H (.str ⟨s.toArray⟩) (.str s) := by unfold Rv; rfl
theorem rv_t {a : Addr} {vs : List V} {xs : List D} (q : SqT S.K H a vs) (r : Rvs S ρ H vs xs) : Rv S ρ H (.ref a) (.tup false xs) := by unfold Rv; exact ⟨a, vs, rfl, q, (fun z => nomatch z), r⟩
theorem rv_r {a : Addr} {n : Nat} (e : ρ[n]? = some a) : Rv S ρ H (.ref a) (.ref n) := by unfold Rv; exact ⟨a, e, rfl⟩
/-- the list at n -/
theorem Rl.lst (rl : Rl S ρ H h) {n : Nat} {a : Addr} {xs : List D} (e : ρ[n]? = some a) (l : lstAt h n = some xs) : ∃ vs, H a = some (.lst vs) ∧ Rvs S ρ H vs xs := by
  unfold lstAt at l
  split at l
  · rename_i xs' q
    cases l
    obtain ⟨a', e', r⟩ := rl.at_ n _ q
    rw [e] at e'; cases e'
    exact r
  · cases l
theorem Rl.dct (rl : Rl S ρ H h) {n : Nat} {a : Addr} {kvs : List (D × D)} (e : ρ[n]? = some a) (l : dctAt h n = some kvs) : ∃ l, Rd H a (.dK l) ∧ Rkv S ρ H l kvs := by
  unfold dctAt at l
  split at l
  · rename_i xs' q
    cases l
    obtain ⟨a', e', r⟩ := rl.at_ n _ q
    rw [e] at e'; cases e'
    obtain ⟨l, e1, r1⟩ := r
    exact ⟨l, .of e1, r1⟩
  · rename_i xs' q
    cases l
    obtain ⟨a', e', r⟩ := rl.at_ n _ q
    rw [e] at e'; cases e'
    obtain ⟨o, l, e1, r1⟩ := r
    exact ⟨l, .inr ⟨o, e1⟩, r1⟩
  · cases l
/-- what follows a new object -/
theorem Po.alloc {o : AO} {d : D} {Q : VK} (rl : Rl S ρ H h) (e : alloc o h = .ok d h') (q : Po S ρ H h' d Q) {p : Addr} {ho : HO} (n : H p = none) (ro : Ro S (ρ ++ [p]) (upd H p ho) p o) : Q (.ref p) (upd H p ho) := by
  unfold Den.alloc at e
  cases e
  exact q _ _ _ (.alloc n) (rl.alloc n ro) rl.ref
theorem Po.tup {xs : List D} {Q : VK} (rl : Rl S ρ H h) (q : Po S ρ H h (.tup false xs) Q) {p : Addr} {vs : List V} (n : H p = none) (r : Rvs S ρ H vs xs) : Q (.ref p) (upd H p (.tup vs)) :=
  q _ _ _ (.fresh n) (rl.fresh n) (rv_t (.of upd_same) (r.mono (.fresh n)))
theorem ro_lst {p : Addr} {vs : List V} {xs : List D} (n : H p = none) (r : Rvs S ρ H vs xs) : Ro S (ρ ++ [p]) (upd H p (.lst vs)) p (.lst xs) := ⟨vs, upd_same, r.mono (.alloc n)⟩
theorem Po.lst {xs : List D} {d : D} {Q : VK} (rl : Rl S ρ H h) (e : Den.alloc (.lst xs) h = .ok d h') (q : Po S ρ H h' d Q) {p : Addr} {vs : List V} (n : H p = none) (r : Rvs S ρ H vs xs) : Q (.ref p) (upd H p (.lst vs)) :=
  Po.alloc rl e q n (ro_lst n r)
theorem so_add : SO S lv (binaryOp .Add) opAdd := by
  intro X hX x y a b ρ H h d h' rl rx ry e Q q
  obtain ⟨Γ, ok⟩ := hX
  unfold opAdd at e
  split at e
  · cases e
    cases rx.i; cases ry.i
    exact wO_of op_add ⟨_, _, rfl, rfl, q.here rl (rv_i _)⟩
  · rename_i s t
    split at e
    · rename_i hl
      cases e
      cases rx.s; cases ry.s
      refine wO_of op_add_str ⟨_, _, rfl, rfl, ?_, ?_⟩
      · rw [str_len, str_len, lim_eq]; exact hl
      · rw [str_app]; exact q.here rl (rv_s _)
    · cases e
  · rename_i p1 xs p2 ys
    split at e
    · rename_i hl
      cases e
      obtain ⟨a, vs, rfl, s1, r1⟩ := rx.t
      obtain ⟨b, ws, rfl, s2, r2⟩ := ry.t
      rw [← ok.K] at s1 s2
      refine wO_of op_catA ⟨a, b, vs, ws, rfl, rfl, s1, s2, ?_, fun z => ?_, fun z1 z => ?_, fun z1 z2 p n => ?_⟩
      · rw [r1.length, r2.length, lim_eq]; exact hl
      · subst z
        refine q.here rl (rv_t (by rw [← ok.K]; exact s2) ?_)
        have e1 : xs = [] := List.eq_nil_of_length_eq_zero (by rw [← r1.length]; rfl)
        rw [e1]; exact r2
      · subst z
        refine q.here rl (rv_t (by rw [← ok.K]; exact s1) ?_)
        have e1 : ys = [] := List.eq_nil_of_length_eq_zero (by rw [← r2.length]; rfl)
        rw [e1, List.append_nil]; exact r1
      · exact q.tup rl n (r1.append r2)
    · cases e
  · rename_i n m
    split at e
    · rename_i xs ys l1 l2
      split at e
      · rename_i hl
        obtain ⟨a, e1, rfl⟩ := rx.r
        obtain ⟨b, e2, rfl⟩ := ry.r
        obtain ⟨vs, h1, r1⟩ := rl.lst e1 l1
        obtain ⟨ws, h2, r2⟩ := rl.lst e2 l2
        refine wO_of op_cat ⟨a, b, vs, ws, rfl, rfl, h1, h2, ?_, fun p n => ?_⟩
        · rw [r1.length, r2.length, lim_eq]; exact hl
        · exact Po.lst rl e q n (r1.append r2)
      · cases e
    · cases e
  · cases e
theorem so_sub : SO S lv (binaryOp .Sub) opSub := by
  intro X hX x y a b ρ H h d h' rl rx ry e Q q
  unfold opSub at e
  split at e
  · cases e
    cases rx.i; cases ry.i
    exact wO_of op_sub ⟨_, _, rfl, rfl, q.here rl (rv_i _)⟩
  · cases e
theorem so_mul : SO S lv (binaryOp .Mult) opMul := by
  intro X hX x y a b ρ H h d h' rl rx ry e Q q
  unfold opMul at e
  split at e
  · split at e
    · rename_i hm
      cases e
      cases rx.i; cases ry.i
      refine wO_of op_mul ⟨_, _, rfl, rfl, ?_, q.here rl (rv_i _)⟩
      unfold mulOk at hm
      rw [Bool.or_eq_true, Bool.and_eq_true, Bool.and_eq_true] at hm
      simp only [decide_eq_true_eq] at hm
      unfold P64 at hm
      unfold CMul
      have e64 : (2 : Int) ^ 64 = 18446744073709551616 := by decide
      rw [e64]
      exact hm
    · cases e
  · split at e
    · rename_i xs l1
      split at e
      · rename_i hm
        obtain ⟨a, e1, rfl⟩ := rx.r
        cases ry.i
        obtain ⟨vs, h1, r1⟩ := rl.lst e1 l1
        rw [Bool.and_eq_true, Bool.and_eq_true] at hm
        simp only [decide_eq_true_eq] at hm
        refine wO_of op_rep ⟨a, _, vs, rfl, rfl, h1, hm.1.1, hm.1.2, ?_, fun p n => ?_⟩
        · rw [r1.length, lim_eq]; exact hm.2
        · refine Po.lst rl e q n ?_
          generalize hk : Int.toNat _ = k
          clear hk hm e
          induction k with
          | zero => exact .nil
          | succ k ih =>
            rw [List.replicate_succ, List.flatten_cons, List.replicate_succ, List.flatten_cons]
            exact r1.append ih
      · cases e
    · cases e
  · cases e
theorem so_fdiv : SO S lv (binaryOp .FloorDiv) opFdiv := by
  intro X hX x y a b ρ H h d h' rl rx ry e Q q
  unfold opFdiv at e
  split at e
  · split at e
    · rename_i hm
      cases e
      cases rx.i; cases ry.i
      rw [Bool.and_eq_true, bne_iff_ne] at hm
      simp only [decide_eq_true_eq] at hm
      exact wO_of op_fdivN ⟨_, _, rfl, rfl, hm, q.here rl (rv_i _)⟩
    · cases e
  · cases e
theorem so_mod : SO S lv (binaryOp .Mod) opMod := by
  intro X hX x y a b ρ H h d h' rl rx ry e Q q
  unfold opMod at e
  split at e
  · split at e
    · rename_i hm
      cases e
      cases rx.i; cases ry.i
      rw [bne_iff_ne] at hm
      exact wO_of op_modN ⟨_, _, rfl, rfl, hm, q.here rl (rv_i _)⟩
    · cases e
  · cases e
theorem so_pow : SO S lv (binaryOp .Pow) opPow := by
  intro X hX x y a b ρ H h d h' rl rx ry e Q q
  unfold opPow at e
  split at e
  · split at e
    · rename_i hm
      cases e
      cases rx.i; cases ry.i
      rw [Bool.and_eq_true, Bool.and_eq_true] at hm
      simp only [decide_eq_true_eq] at hm
      refine wO_of op_pow ⟨_, _, rfl, rfl, ⟨hm.1.1, hm.1.2, ?_⟩, q.here rl (rv_i _)⟩
      have e64 : (2 : Nat) ^ 64 = 18446744073709551616 := by decide
      rw [e64]; exact hm.2
    · cases e
  · cases e
/-! ### comparisons -/
theorem eqF_V {v u : V} : ∀ {a b : D}, Rv S ρ H v a → Rv S ρ H u b → flatD a = true → flatD b = true → eqV v u = eqF a b ∧ flatV v = true ∧ flatV u = true := by
  intro a b ra rb fa fb
  cases a <;> first | (cases fa; done) | skip
  all_goals (cases b <;> first | (cases fb; done) | skip)
  all_goals first
    | (cases ra.n; cases rb.n; exact ⟨rfl, rfl, rfl⟩)
    | (cases ra.n; cases rb.b; exact ⟨rfl, rfl, rfl⟩)
    | (cases ra.n; cases rb.i; exact ⟨rfl, rfl, rfl⟩)
    | (cases ra.n; cases rb.s; exact ⟨rfl, rfl, rfl⟩)
    | (cases ra.b; cases rb.n; exact ⟨rfl, rfl, rfl⟩)
    | (cases ra.b; cases rb.b; exact ⟨rfl, rfl, rfl⟩)
    | (cases ra.b; cases rb.i; exact ⟨rfl, rfl, rfl⟩)
    | (cases ra.b; cases rb.s; exact ⟨rfl, rfl, rfl⟩)
    | (cases ra.i; cases rb.n; exact ⟨rfl, rfl, rfl⟩)
    | (cases ra.i; cases rb.b; exact ⟨rfl, rfl, rfl⟩)
    | (cases ra.i; cases rb.i; exact ⟨rfl, rfl, rfl⟩)
    | (cases ra.i; cases rb.s; exact ⟨rfl, rfl, rfl⟩)
    | (cases ra.s; cases rb.n; exact ⟨rfl, rfl, rfl⟩)
    | (cases ra.s; cases rb.b; exact ⟨rfl, rfl, rfl⟩)
    | (cases ra.s; cases rb.i; exact ⟨rfl, rfl, rfl⟩)
    | (cases ra.s; cases rb.s
       refine ⟨?_, rfl, rfl⟩
       show ((_ : Str) == _) = leq _ _
       rw [leq_eq, Bool.beq_eq_decide_eq]
       exact decide_eq_decide.mpr str_inj)
/-- data that is plain -/
theorem pd_all (h : AH) {n : Nat} (ih : ∀ {v : V} {d : D} {p : PyData}, Rv S ρ H v d → pd h n d = some p → Dp S.K H v p) : ∀ {ds : List D} {vs : List V} {ps : List PyData}, Rvs S ρ H vs ds → ds.mapM (pd h n) = some ps → DpAll S.K H vs ps
  | [], vs, ps, r, e => by
    rw [r.nil_iff]
    have e2 : ps = [] := by simpa using e.symm
    rw [e2]; exact .nil
  | d :: ds, vs, ps, r, e => by
    obtain ⟨v, t, rfl, q, rt⟩ := r.cons_iff
    rw [List.mapM_cons] at e
    cases q1 : pd h n d with
    | none => rw [q1] at e; cases e
    | some p =>
      cases q2 : ds.mapM (pd h n) with
      | none => rw [q1, q2] at e; cases e
      | some qs =>
        rw [q1, q2] at e
        cases e
        exact .cons (ih q q1) (pd_all h ih rt q2)
theorem pd_ok (rl : Rl S ρ H h) : ∀ (n : Nat) {v : V} {d : D} {p : PyData}, Rv S ρ H v d → pd h n d = some p → Dp S.K H v p := by
  intro n
  induction n with
  | zero =>
    intro v d p r e
    cases d <;> first
      | (unfold pd at e; cases e; done)
      | (unfold pd at e; cases e; cases r.n; exact .non)
      | (unfold pd at e; cases e; cases r.b; exact .bl _)
      | (unfold pd at e; cases e; cases r.i; exact .int _)
      | (unfold pd at e; cases e; cases r.s; exact .str _)
  | succ n ih =>
    intro v d p r e
    cases d with
    | non => unfold pd at e; cases e; cases r.n; exact .non
    | bl b => unfold pd at e; cases e; cases r.b; exact .bl _
    | int i => unfold pd at e; cases e; cases r.i; exact .int _
    | str s => unfold pd at e; cases e; cases r.s; exact .str _
    | tup p0 xs =>
      unfold pd at e
      cases q : xs.mapM (pd h n) with
      | none => rw [q] at e; cases e
      | some ps =>
        rw [q] at e; cases e
        obtain ⟨a, vs, rfl, s1, r1⟩ := r.t
        exact .tup s1 (pd_all h ih r1 q)
    | fl xs =>
      unfold pd at e
      cases q : xs.mapM (pd h n) with
      | none => rw [q] at e; cases e
      | some ps =>
        rw [q] at e; cases e
        obtain ⟨a, vs, rfl, s1, r1⟩ := r.l
        exact .lst s1.seq (pd_all h ih r1 q)
    | ref k =>
      unfold pd at e
      cases l : lstAt h k with
      | none => rw [l] at e; cases e
      | some xs =>
        rw [l] at e
        dsimp only at e
        cases q : xs.mapM (pd h n) with
        | none => rw [q] at e; cases e
        | some ps =>
          rw [q] at e; cases e
          obtain ⟨a, ea, rfl⟩ := r.r
          obtain ⟨vs, h1, r1⟩ := rl.lst ea l
          exact .lst (.of h1) (pd_all h ih r1 q)
    | fn f => unfold pd at e; cases e
    | cl c => unfold pd at e; cases e
    | ty t => unfold pd at e; cases e
    | kd ks ds => unfold pd at e; cases e
    | rep p => unfold pd at e; cases e
theorem scal_ok {v u : V} {a b : D} (ra : Rv S ρ H v a) (rb : Rv S ρ H u b) (e : scalD a b = true) : scal v u = true ∧ decide (v = u) = eqF a b := by
  cases a <;> cases b <;> first
    | (cases e; done)
    | (cases ra.n; cases rb.n; exact ⟨rfl, rfl⟩)
    | (cases ra.n; cases rb.b; exact ⟨rfl, rfl⟩)
    | (cases ra.n; cases rb.i; exact ⟨rfl, rfl⟩)
    | (cases ra.n; cases rb.s; exact ⟨rfl, rfl⟩)
    | (cases ra.b; cases rb.n; exact ⟨rfl, rfl⟩)
    | (cases ra.b; cases rb.b
       refine ⟨rfl, ?_⟩
       rw [dec_bl] <;> rfl)
    | (cases ra.b; cases rb.s; exact ⟨rfl, rfl⟩)
    | (cases ra.i; cases rb.n; exact ⟨rfl, rfl⟩)
    | (cases ra.i; cases rb.i
       refine ⟨rfl, ?_⟩
       rw [dec_int] <;> rfl)
    | (cases ra.i; cases rb.s; exact ⟨rfl, rfl⟩)
    | (cases ra.s; cases rb.n; exact ⟨rfl, rfl⟩)
    | (cases ra.s; cases rb.b; exact ⟨rfl, rfl⟩)
    | (cases ra.s; cases rb.i; exact ⟨rfl, rfl⟩)
    | (cases ra.s; cases rb.s
       refine ⟨rfl, ?_⟩
       rw [dec_str, Bool.beq_eq_decide_eq]
       show _ = leq _ _
       rw [leq_eq]
       exact decide_eq_decide.mpr str_inj)
theorem ofB_ok {o : Option Bool} {d : D} (e : ofB o h = .ok d h') : ∃ b, o = some b ∧ d = .bl b ∧ h' = h := by
  unfold ofB at e
  split at e
  · cases e; exact ⟨_, rfl, rfl, rfl⟩
  · cases e
theorem repD_ok {x y : V} {a b : D} (rx : Rv S ρ H x a) (ry : Rv S ρ H y b) (e : repD a b = true) : scal x y = true ∧ decide (x = y) = true := by
  unfold repD at e
  split at e
  · rename_i p q
    have e1 : x = .str p.shown := by unfold Rv at rx; exact rx
    have e2 : y = .str q.shown := by unfold Rv at ry; exact ry
    rw [e1, e2, pdEq_eq e]
    exact ⟨rfl, decide_eq_true rfl⟩
  · cases e
theorem so_eq : SO S lv (compareOp .Eq) opEq := by
  intro X hX x y a b ρ H h d h' rl rx ry e Q q
  obtain ⟨Γ, ok⟩ := hX
  obtain ⟨c, eb, rfl, rfl⟩ := ofB_ok e
  replace e := eb
  unfold eqD at e
  split at e
  · rename_i hs
    cases e
    obtain ⟨s1, s2⟩ := scal_ok rx ry hs
    refine wO_of op_eq ⟨s1, ?_⟩
    rw [s2]
    exact q.here rl (rv_b _)
  · split at e
    · rename_i hr
      cases e
      obtain ⟨s1, s2⟩ := repD_ok rx ry hr
      refine wO_of op_eq ⟨s1, ?_⟩
      rw [s2]
      exact q.here rl (rv_b _)
    split at e
    · rename_i p1 p2 e1 e2
      split at e
      · rename_i hs
        cases e
        rw [Bool.and_eq_true] at hs
        have z1 := pd_ok rl 60 rx e1
        have z2 := pd_ok rl 60 ry e2
        rw [← ok.K] at z1 z2
        exact wO_of (op_eqD ok.room.units) ⟨p1, p2, z1, z2, hs.1, hs.2, q.here rl (rv_b _)⟩
      · cases e
    · cases e
theorem so_ne : SO S lv (compareOp .NotEq) opNe := by
  intro X hX x y a b ρ H h d h' rl rx ry e Q q
  obtain ⟨Γ, ok⟩ := hX
  obtain ⟨c, eb, rfl, rfl⟩ := ofB_ok e
  replace e := eb
  rw [Option.map_eq_some_iff] at e
  obtain ⟨c', e, rfl⟩ := e
  unfold eqD at e
  split at e
  · rename_i hs
    cases e
    obtain ⟨s1, s2⟩ := scal_ok rx ry hs
    refine wO_of op_ne ⟨s1, ?_⟩
    rw [s2]
    exact q.here rl (rv_b _)
  · split at e
    · rename_i hr
      cases e
      obtain ⟨s1, s2⟩ := repD_ok rx ry hr
      refine wO_of op_ne ⟨s1, ?_⟩
      rw [s2]
      exact q.here rl (rv_b _)
    split at e
    · rename_i p1 p2 e1 e2
      split at e
      · rename_i hs
        cases e
        rw [Bool.and_eq_true] at hs
        have z1 := pd_ok rl 60 rx e1
        have z2 := pd_ok rl 60 ry e2
        rw [← ok.K] at z1 z2
        exact wO_of (op_neD ok.room.units) ⟨p1, p2, z1, z2, hs.1, hs.2, q.here rl (rv_b _)⟩
      · cases e
    · cases e
theorem slt_V {s t : List Nat} : decide ((⟨s.toArray⟩ : Str).cps.toList < (⟨t.toArray⟩ : Str).cps.toList) = slt s t := by rw [slt_eq]
theorem so_lt : SO S lv (compareOp .Lt) opLt := by
  intro X hX x y a b ρ H h d h' rl rx ry e Q q
  obtain ⟨c, eb, rfl, rfl⟩ := ofB_ok e
  replace e := eb
  unfold ltD at e
  split at e
  · cases e; cases rx.i; cases ry.i
    exact wO_of op_lt ⟨_, _, rfl, rfl, q.here rl (rv_b _)⟩
  · cases e; cases rx.s; cases ry.s
    refine wO_of op_lt_str ⟨_, _, rfl, rfl, ?_⟩
    rw [slt_V]; exact q.here rl (rv_b _)
  · cases e
theorem so_le : SO S lv (compareOp .LtE) opLe := by
  intro X hX x y a b ρ H h d h' rl rx ry e Q q
  obtain ⟨c, eb, rfl, rfl⟩ := ofB_ok e
  replace e := eb
  unfold leD at e
  split at e
  · cases e; cases rx.i; cases ry.i
    exact wO_of op_le ⟨_, _, rfl, rfl, q.here rl (rv_b _)⟩
  · cases e; cases rx.s; cases ry.s
    refine wO_of op_le_str ⟨_, _, rfl, rfl, ?_⟩
    rw [slt_V]; exact q.here rl (rv_b _)
  · cases e
theorem so_gt : SO S lv (compareOp .Gt) opGt := by
  intro X hX x y a b ρ H h d h' rl rx ry e Q q
  obtain ⟨c, eb, rfl, rfl⟩ := ofB_ok e
  replace e := eb
  unfold ltD at e
  split at e
  · cases e; cases rx.i; cases ry.i
    exact wO_of op_gt ⟨_, _, rfl, rfl, q.here rl (rv_b _)⟩
  · cases e; cases rx.s; cases ry.s
    refine wO_of op_gt_str ⟨_, _, rfl, rfl, ?_⟩
    rw [slt_V]; exact q.here rl (rv_b _)
  · cases e
theorem so_ge : SO S lv (compareOp .GtE) opGe := by
  intro X hX x y a b ρ H h d h' rl rx ry e Q q
  obtain ⟨c, eb, rfl, rfl⟩ := ofB_ok e
  replace e := eb
  unfold leD at e
  split at e
  · cases e; cases rx.i; cases ry.i
    exact wO_of op_ge ⟨_, _, rfl, rfl, q.here rl (rv_b _)⟩
  · cases e; cases rx.s; cases ry.s
    refine wO_of op_ge_str ⟨_, _, rfl, rfl, ?_⟩
    rw [slt_V]; exact q.here rl (rv_b _)
  · cases e
/-- x is None, x is True -/
theorem op_isB {X : Cx} : OpR X (compareOp .Is) (fun x y H Q => ∃ b, y = .bl b ∧ (x = .non ∨ ∃ c, x = .bl c) ∧ Q (.bl (decide (x = .bl b))) H) := by
  intro pins s σ H x y v u Q I rx ry h
  obtain ⟨b, rfl, hx, q⟩ := h
  cases ry
  rcases hx with rfl | ⟨c, rfl⟩
  · cases rx
    exact wpAny_pure ⟨.bl false, H, I, rfl, q⟩
  · cases rx
    rw [dec_bl] at q
    exact wpAny_pure ⟨.bl (c == b), H, I, by cases c <;> cases b <;> rfl, q⟩
theorem op_isnB {X : Cx} : OpR X (compareOp .IsNot) (fun x y H Q => ∃ b, y = .bl b ∧ (x = .non ∨ ∃ c, x = .bl c) ∧ Q (.bl (!decide (x = .bl b))) H) := by
  intro pins s σ H x y v u Q I rx ry h
  obtain ⟨b, rfl, hx, q⟩ := h
  cases ry
  rcases hx with rfl | ⟨c, rfl⟩
  · cases rx
    exact wpAny_pure ⟨.bl true, H, I, rfl, q⟩
  · cases rx
    rw [dec_bl] at q
    exact wpAny_pure ⟨.bl (!(c == b)), H, I, by cases c <;> cases b <;> rfl, q⟩
theorem is_ok {x y : V} {a b : D} {c : Bool} (rx : Rv S ρ H x a) (ry : Rv S ρ H y b) (e : isD a b = some c) : (y = .non ∧ decide (x = .non) = c) ∨ ∃ k, y = .bl k ∧ (x = .non ∨ ∃ z, x = .bl z) ∧ decide (x = .bl k) = c := by
  unfold isD at e
  split at e
  · cases e; cases rx.n; cases ry.n; exact .inl ⟨rfl, rfl⟩
  · cases e; cases rx.b; cases ry.n; exact .inl ⟨rfl, rfl⟩
  · cases e; cases rx.i; cases ry.n; exact .inl ⟨rfl, rfl⟩
  · cases e; cases rx.s; cases ry.n; exact .inl ⟨rfl, rfl⟩
  · cases e; obtain ⟨_, _, rfl, _⟩ := rx.t; cases ry.n; exact .inl ⟨rfl, rfl⟩
  · cases e; obtain ⟨_, _, rfl⟩ := rx.r; cases ry.n; exact .inl ⟨rfl, rfl⟩
  · cases e; cases rx.b; cases ry.b; exact .inr ⟨_, rfl, .inr ⟨_, rfl⟩, dec_bl⟩
  · cases e; cases rx.n; cases ry.b; exact .inr ⟨_, rfl, .inl rfl, rfl⟩
  · cases e
theorem so_is : SO S lv (compareOp .Is) opIs := by
  intro X hX x y a b ρ H h d h' rl rx ry e Q q
  obtain ⟨c, eb, rfl, rfl⟩ := ofB_ok e
  replace e := eb
  rcases is_ok rx ry e with ⟨z, w⟩ | ⟨k, z, w, w2⟩
  · refine wO_of op_isN ⟨z, ?_⟩
    rw [w]; exact q.here rl (rv_b _)
  · refine wO_of op_isB ⟨k, z, w, ?_⟩
    rw [w2]; exact q.here rl (rv_b _)
theorem so_isn : SO S lv (compareOp .IsNot) opIsN := by
  intro X hX x y a b ρ H h d h' rl rx ry e Q q
  obtain ⟨c, eb, rfl, rfl⟩ := ofB_ok e
  replace e := eb
  rw [Option.map_eq_some_iff] at e
  obtain ⟨c', e, rfl⟩ := e
  rcases is_ok rx ry e with ⟨z, w⟩ | ⟨k, z, w, w2⟩
  · refine wO_of op_notN ⟨z, ?_⟩
    rw [w]; exact q.here rl (rv_b _)
  · refine wO_of op_isnB ⟨k, z, w, ?_⟩
    rw [w2]; exact q.here rl (rv_b _)
/-! ### in -/
theorem mem_ok {x : V} {a : D} (rx : Rv S ρ H x a) (fa : flatD a = true) : ∀ {vs : List V} {xs : List D}, Rvs S ρ H vs xs → xs.all flatD = true → inV x vs = memF a xs ∧ vs.all flatV = true
  | vs, [], r, _ => by rw [r.nil_iff]; exact ⟨rfl, rfl⟩
  | vs, d :: xs, r, f => by
    obtain ⟨v, t, rfl, q, rt⟩ := r.cons_iff
    rw [List.all_cons, Bool.and_eq_true] at f
    obtain ⟨h1, h2⟩ := mem_ok rx fa rt f.2
    obtain ⟨k1, k2, _⟩ := eqF_V q rx f.1 fa
    refine ⟨?_, ?_⟩
    · unfold inV memF
      rw [List.any_cons, k1]
      show (eqF d a || inV x t) = _
      rw [h1]
    · rw [List.all_cons, k2, h2]; rfl
theorem flat_V {x : V} {a : D} (rx : Rv S ρ H x a) (fa : flatD a = true) : flatV x = true := by
  cases a <;> first | (cases fa; done) | (cases rx.n; rfl) | (cases rx.b; rfl) | (cases rx.i; rfl) | (cases rx.s; rfl)
/-- a key stands for itself -/
def keyV : D → Key
  | .int i => .inl i
  | .str s => .inr ⟨s.toArray⟩
  | _ => .inl 0
theorem key_V {x : V} {a : D} (rx : Rv S ρ H x a) (fa : keyD a = true) : x = kV (keyV a) := by
  cases a <;> first | (cases fa; done) | (cases rx.i; rfl) | (cases rx.s; rfl)
theorem Rk_key : ∀ {k : Key} {a : D}, Rk k a → keyD a = true ∧ k = keyV a
  | .inl i, .int j, h => ⟨rfl, by cases h; rfl⟩
  | .inr x, .str s, h => ⟨rfl, by cases h; rfl⟩
theorem Rk_of {a : D} (fa : keyD a = true) : Rk (keyV a) a := by
  cases a <;> first | (cases fa; done) | rfl
theorem keyV_eq {a b : D} (ha : keyD a = true) (hb : keyD b = true) : (keyV a = keyV b) ↔ eqF a b = true := by
  cases a <;> first | (cases ha; done) | skip
  · cases b <;> first | (cases hb; done) | skip
    · constructor
      · intro e; cases e; exact decide_eq_true rfl
      · intro e; rw [of_decide_eq_true e]
    · exact ⟨fun e => (by cases e), fun e => (by cases e)⟩
  · cases b <;> first | (cases hb; done) | skip
    · exact ⟨fun e => (by cases e), fun e => (by cases e)⟩
    · constructor
      · intro e
        have e2 := Sum.inr.inj e
        exact leq_iff.mpr (str_inj.mp e2)
      · intro e; rw [leq_iff.mp e]
theorem kget_ok {k : D} (hk : keyD k = true) : ∀ {l : List (Key × V)} {kvs : List (D × D)}, Rkv S ρ H l kvs → (match kget k kvs with
    | some d => ∃ v, valV l (keyV k) = some v ∧ Rv S ρ H v d
    | none => valV l (keyV k) = none)
  | _, _, .nil => rfl
  | (a, v) :: l, (b, d) :: kvs, .cons q t => by
    obtain ⟨q1, q2⟩ := q
    obtain ⟨kb, ka⟩ := Rk_key q1
    have ih := kget_ok hk t
    unfold kget
    cases e : eqF b k with
    | true =>
      have e2 := (keyV_eq kb hk).mpr e
      refine ⟨v, ?_, q2⟩
      show valV ((a, v) :: l) (keyV k) = some v
      have ka' : a = keyV b := ka
      subst ka'
      rw [e2]
      unfold valV
      simp
    | false =>
      have e2 : keyV b ≠ keyV k := fun z => by
        rw [(keyV_eq kb hk).mp z] at e; cases e
      have e3 : valV ((a, v) :: l) (keyV k) = valV l (keyV k) := by
        have ka' : a = keyV b := ka
        subst ka'
        unfold valV
        simp [e2]
      show (match kget k kvs with
        | some d => ∃ v_1, valV ((a, v) :: l) (keyV k) = some v_1 ∧ Rv S ρ H v_1 d
        | none => valV ((a, v) :: l) (keyV k) = none)
      rw [e3]
      exact ih
end
end Den
/-! Den5: expressions and tests. -/
namespace Den
open PySem PySem.Spec L2
section
variable {S : Sy} {ρ ρ' : List Addr} {H H' : Hp} {h h' : AH} {lv : Nat}
/-! ### in, truth -/
theorem op_inDict {X : Cx} (hu : X.A.units + 1 < cLine) : OpR X (compareOp .In) (fun y x H Q => ∃ a o, x = .ref a ∧ DGet H a y o ∧ Q (.bl o.isSome) H) := by
  intro pins s σ H y x v u Q I ry rx ⟨a, o, ex, g, q⟩
  subst ex
  obtain rfl : u = Value.ref a := rx
  exact d_in hu I g ry fun s3 I3 => ⟨.bl o.isSome, H, I3, rfl, q⟩
theorem op_notInDict {X : Cx} (hu : X.A.units + 1 < cLine) : OpR X (compareOp .NotIn) (fun y x H Q => ∃ a o, x = .ref a ∧ DGet H a y o ∧ Q (.bl (!o.isSome)) H) := by
  intro pins s σ H y x v u Q I ry rx ⟨a, o, ex, g, q⟩
  subst ex
  obtain rfl : u = Value.ref a := rx
  exact d_notIn hu I g ry fun s3 I3 => ⟨.bl (!o.isSome), H, I3, rfl, q⟩
theorem XOk.hu {Γ : Sc} {X : Cx} (ok : XOk S Γ lv X) : X.A.units + 1 < cLine := hu_of ok.room
theorem any_beq {c : Nat} {t : List Nat} : decide (c ∈ (⟨t.toArray⟩ : Str).cps.toList) = t.any (Nat.beq c) := by
  show decide (c ∈ t) = _
  induction t with
  | nil => rfl
  | cons a t ih =>
    rw [List.any_cons, ← ih]
    by_cases e : c = a
    · subst e
      rw [Nat.beq_refl, decide_eq_true (List.mem_cons_self)]
      rfl
    · have e2 : Nat.beq c a = false := by
        cases z : Nat.beq c a with
        | false => rfl
        | true => exact absurd (Nat.eq_of_beq_eq_true z) e
      rw [e2]
      simp [e]
theorem in_seq_ok {X : Cx} {Γ : Sc} (ok : XOk S Γ lv X) {x y : V} {a : D} {p : Addr} {vs : List V} {xs : List D} {neg : Bool} {op : CmpOp} (hop : OpR X (compareOp op) (rIn X.K neg)) (rx : Rv S ρ H x a) (ey : y = .ref p)
    (sq : SqL S.K H p vs ∨ SqT S.K H p vs) (r : Rvs S ρ H vs xs) {c : Bool} (f : inL a xs = some c) {Q : VK} (q : Q (.bl (if neg = true then !c else c)) H) : wO X (compareOp op) x y H Q := by
  unfold inL at f
  cases f0 : (flatD a && xs.all flatD) with
  | false => rw [f0] at f; cases f
  | true =>
  rw [f0] at f
  have f1 : some (memF a xs) = some c := f
  cases f1
  replace f := f0
  rw [Bool.and_eq_true] at f
  obtain ⟨m1, m2⟩ := mem_ok rx f.1 r f.2
  rw [← ok.K] at sq
  refine wO_of hop ⟨p, vs, ey, sq, flat_V rx f.1, m2, ?_⟩
  rw [m1]; exact q
theorem dget_ok {a : Addr} {l : List (Key × V)} {kvs : List (D × D)} {x : V} {k : D} (e : Rd H a (.dK l)) (r : Rkv S ρ H l kvs) (rx : Rv S ρ H x k) (hk : keyD k = true) : ∃ o, DGet H a x o ∧ o.isSome = (kget k kvs).isSome ∧ ∀ d, kget k kvs = some d → ∃ v, o = some v ∧ Rv S ρ H v d := by
  have q := kget_ok hk r
  refine ⟨valV l (keyV k), .inl ⟨l, keyV k, e, key_V rx hk, rfl⟩, ?_, fun d ed => ?_⟩
  · cases z : kget k kvs with
    | none => rw [z] at q; rw [q]; rfl
    | some d => rw [z] at q; obtain ⟨v, q1, _⟩ := q; rw [q1]; rfl
  · rw [ed] at q; exact q
theorem kdGet_some {s : List Nat} {d : D} {w : World} {a : Addr} {vs : List V} : ∀ {ks : List (List Nat)} {ds : List D} {vs : List V}, vs.length = ks.length → Rvs S ρ H vs ds → kdGet s ks ds = some d → ∃ (i : Nat) (v : V), ks[i]? = some s ∧ vs[i]? = some v ∧ Rv S ρ H v d
  | [], ds, vs, l, r, e => by unfold kdGet at e; cases e
  | k :: ks, [], vs, l, r, e => by unfold kdGet at e; cases e
  | k :: ks, d' :: ds, vs, l, r, e => by
    obtain ⟨v, vr, rfl, r1, r2⟩ := r.cons_iff
    unfold kdGet at e
    split at e
    · rename_i hk
      cases e
      exact ⟨0, v, by rw [leq_iff.mp hk]; rfl, rfl, r1⟩
    · obtain ⟨i, u, e1, e2, e3⟩ := kdGet_some (w := w) (a := a) (vs := vs) (by simpa using l) r2 e
      exact ⟨i + 1, u, by simpa using e1, by simpa using e2, e3⟩
theorem kdGet_none {s : List Nat} : ∀ {ks : List (List Nat)} {ds : List D}, ks.length = ds.length → kdGet s ks ds = none → s ∉ ks
  | [], ds, l, e => (by simp)
  | k :: ks, [], l, e => by cases l
  | k :: ks, d' :: ds, l, e => by
    unfold kdGet at e
    split at e
    · cases e
    · rename_i hk
      rw [List.mem_cons, not_or]
      exact ⟨fun z => hk (leq_iff.mpr z.symm), kdGet_none (by simpa using l) e⟩
theorem Rv.k {v : V} {ks : List (List Nat)} {ds : List D} (q : Rv S ρ H v (.kd ks ds)) : ∃ a vs, v = .ref a ∧ KDs S.K S.w a ks vs ∧ Rvs S ρ H vs ds := by unfold Rv at q; exact q
theorem kd_in {a : Addr} {ks : List (List Nat)} {ds : List D} {vs : List V} (k : KDs S.K S.w a ks vs) (r : Rvs S ρ H vs ds) (s : List Nat) : ∃ o, PySem.W.nsIn S.K a ⟨s.toArray⟩ = some o ∧ o.isSome = (kdGet s ks ds).isSome := by
  cases e : kdGet s ks ds with
  | some d =>
    obtain ⟨i, v, e1, e2, _⟩ := kdGet_some (w := S.w) (a := a) (vs := []) k.len r e
    obtain ⟨u, hu, _⟩ := k.has i s v e1 e2
    exact ⟨_, hu, rfl⟩
  | none => exact ⟨_, k.not s (kdGet_none (by rw [← k.len, r.length]) e), rfl⟩
theorem so_in : SO S lv (compareOp .In) opIn := by
  intro X hX x y a b ρ H h d h' rl rx ry e Q q
  obtain ⟨Γ, ok⟩ := hX
  obtain ⟨c, eb, rfl, rfl⟩ := ofB_ok e
  unfold inD at eb
  split at eb
  · rename_i t
    split at eb
    · rename_i k
      cases eb; cases rx.s; cases ry.s
      refine wO_of op_in_sign ⟨k, _, rfl, rfl, ?_⟩
      rw [any_beq]; exact q.here rl (rv_b _)
    · cases eb
  · rename_i n
    split at eb
    · rename_i xs hn
      obtain ⟨p, ep, rfl⟩ := ry.r
      obtain ⟨vs, h1, r1⟩ := rl.lst ep hn
      exact in_seq_ok ok op_in_seq rx rfl (.inl (.of h1)) r1 eb (by rw [if_neg (by decide)]; exact q.here rl (rv_b _))
    · split at eb
      · rename_i kvs hn
        cases hk : keyD a with
        | false => rw [hk] at eb; cases eb
        | true =>
          rw [hk] at eb
          obtain ⟨p, ep, rfl⟩ := ry.r
          obtain ⟨l, h1, r1⟩ := rl.dct ep hn
          obtain ⟨o, g, g2, _⟩ := dget_ok h1 r1 rx hk
          have eb2 : some (kget a kvs).isSome = some _ := eb
          rw [← g2] at eb2
          refine wO_of (op_inDict ok.hu) ⟨p, o, rfl, g, ?_⟩
          cases eb2
          exact q.here rl (rv_b _)
      · cases eb
  · obtain ⟨p, vs, rfl, s1, r1⟩ := ry.t
    exact in_seq_ok ok op_in_seq rx rfl (.inr s1) r1 eb (by rw [if_neg (by decide)]; exact q.here rl (rv_b _))
  · obtain ⟨p, vs, rfl, s1, r1⟩ := ry.l
    exact in_seq_ok ok op_in_seq rx rfl (.inl s1.seq) r1 eb (by rw [if_neg (by decide)]; exact q.here rl (rv_b _))
  · split at eb
    · cases eb
      cases rx.s
      obtain ⟨p, vs, rfl, kk, r1⟩ := ry.k
      obtain ⟨o, e1, e2⟩ := kd_in kk r1 _
      obtain ⟨es, n, kdi⟩ := kk.lit
      rw [← ok.K] at e1 kdi
      rw [← ok.w] at kdi
      refine wO_of (op_in_kd kdi) ⟨_, o, rfl, rfl, e1, ?_⟩
      rw [e2]; exact q.here rl (rv_b _)
    · cases eb
  · cases eb
theorem so_notIn : SO S lv (compareOp .NotIn) opNotIn := by
  intro X hX x y a b ρ H h d h' rl rx ry e Q q
  obtain ⟨Γ, ok⟩ := hX
  obtain ⟨c, eb, rfl, rfl⟩ := ofB_ok e
  rw [Option.map_eq_some_iff] at eb
  obtain ⟨c', eb, rfl⟩ := eb
  unfold inD at eb
  split at eb
  · rename_i t
    split at eb
    · rename_i k
      cases eb; cases rx.s; cases ry.s
      refine wO_of op_notIn_sign ⟨k, _, rfl, rfl, ?_⟩
      rw [any_beq]; exact q.here rl (rv_b _)
    · cases eb
  · rename_i n
    split at eb
    · rename_i xs hn
      obtain ⟨p, ep, rfl⟩ := ry.r
      obtain ⟨vs, h1, r1⟩ := rl.lst ep hn
      exact in_seq_ok ok op_notIn_seq rx rfl (.inl (.of h1)) r1 eb (by rw [if_pos rfl]; exact q.here rl (rv_b _))
    · split at eb
      · rename_i kvs hn
        cases hk : keyD a with
        | false => rw [hk] at eb; cases eb
        | true =>
          rw [hk] at eb
          obtain ⟨p, ep, rfl⟩ := ry.r
          obtain ⟨l, h1, r1⟩ := rl.dct ep hn
          obtain ⟨o, g, g2, _⟩ := dget_ok h1 r1 rx hk
          have eb2 : some (kget a kvs).isSome = some _ := eb
          rw [← g2] at eb2
          refine wO_of (op_notInDict ok.hu) ⟨p, o, rfl, g, ?_⟩
          cases eb2
          exact q.here rl (rv_b _)
      · cases eb
  · obtain ⟨p, vs, rfl, s1, r1⟩ := ry.t
    exact in_seq_ok ok op_notIn_seq rx rfl (.inr s1) r1 eb (by rw [if_pos rfl]; exact q.here rl (rv_b _))
  · obtain ⟨p, vs, rfl, s1, r1⟩ := ry.l
    exact in_seq_ok ok op_notIn_seq rx rfl (.inl s1.seq) r1 eb (by rw [if_pos rfl]; exact q.here rl (rv_b _))
  · split at eb
    · cases eb
      cases rx.s
      obtain ⟨p, vs, rfl, kk, r1⟩ := ry.k
      obtain ⟨o, e1, e2⟩ := kd_in kk r1 _
      obtain ⟨es, n, kdi⟩ := kk.lit
      rw [← ok.K] at e1 kdi
      rw [← ok.w] at kdi
      refine wO_of (op_notIn_kd kdi) ⟨_, o, rfl, rfl, e1, ?_⟩
      rw [e2]; exact q.here rl (rv_b _)
    · cases eb
  · cases eb
theorem Rvs.isEmpty {vs : List V} {xs : List D} (r : Rvs S ρ H vs xs) : vs.isEmpty = xs.isEmpty := by
  cases xs with
  | nil => rw [r.nil_iff]; rfl
  | cons d t => obtain ⟨v, u, rfl, _, _⟩ := r.cons_iff; rfl
theorem paired_isEmpty {α β : Type} {F : α → β → Prop} {l : List α} {r : List β} (p : Paired F l r) : l.isEmpty = r.isEmpty := by cases p <;> rfl
theorem truth_ok (rl : Rl S ρ H h) {x : V} {a : D} {b : Bool} (rx : Rv S ρ H x a) (e : truthD h a = some b) : TruV S.K x H b := by
  unfold truthD at e
  split at e
  · cases e; cases rx.n; rfl
  · cases e; cases rx.b; rfl
  · cases e; cases rx.i; rfl
  · rename_i s
    split at e
    · rename_i hl
      cases e; cases rx.s
      refine ⟨by rw [str_len, lim_eq]; exact hl, ?_⟩
      rw [str_len]
      cases s <;> rfl
    · cases e
  · cases e
    obtain ⟨p, vs, rfl, s1, r1⟩ := rx.t
    exact .inr (.inl ⟨vs, s1, by rw [r1.isEmpty]⟩)
  · cases e
    obtain ⟨p, vs, rfl, s1, r1⟩ := rx.l
    exact .inl ⟨vs, s1.seq, by rw [r1.isEmpty]⟩
  · rename_i n
    split at e
    · rename_i xs hn
      cases e
      obtain ⟨p, ep, rfl⟩ := rx.r
      obtain ⟨vs, h1, r1⟩ := rl.lst ep (show lstAt h n = some xs by unfold lstAt; rw [hn])
      exact .inl ⟨vs, .of h1, by rw [r1.isEmpty]⟩
    · rename_i kvs hn
      cases e
      obtain ⟨p, ep, rfl⟩ := rx.r
      obtain ⟨p', ep', l, h1, r1⟩ := rl.at_ n _ hn
      rw [ep] at ep'; cases ep'
      exact .inr (.inr ⟨l, h1, by rw [paired_isEmpty r1]⟩)
    · cases e
  · cases e
end
/-! ### readings of expressions -/
def mVar (i : Nat) : ME := fun _ e h => match e[i]? with
  | some (some d) => .ok d h
  | _ => .bad
def mC (d : D) : ME := fun _ _ h => .ok d h
def mBin (op : Op2) (a b : ME) : ME := fun rt e h => (a rt e h).bind fun x h1 => (b rt e h1).bind fun y h2 => op x y h2
def mNeg (a : ME) : ME := fun rt e h => (a rt e h).bind fun x h1 => match x with
  | .int i => .ok (.int (-i)) h1
  | _ => .bad
def mNot (a : ME) : ME := fun rt e h => (a rt e h).bind fun x h1 => match truthD h1 x with
  | some b => .ok (.bl (!b)) h1
  | none => .bad
def mAnd (a b : ME) : ME := fun rt e h => (a rt e h).bind fun x h1 => match truthD h1 x with
  | some c => cond c (b rt e h1) (.ok x h1)
  | none => .bad
def mOr (a b : ME) : ME := fun rt e h => (a rt e h).bind fun x h1 => match truthD h1 x with
  | some c => cond c (.ok x h1) (b rt e h1)
  | none => .bad
def mIf (t : MT) (a b : ME) : ME := fun rt e h => (t rt e h).bind fun c h1 => cond c (a rt e h1) (b rt e h1)
def tVal (a : ME) : MT := fun rt e h => (a rt e h).bind fun x h1 => match truthD h1 x with
  | some b => .ok b h1
  | none => .bad
def tCmp (op : Op2) (a b : ME) : MT := fun rt e h => (a rt e h).bind fun x h1 => (b rt e h1).bind fun y h2 => (op x y h2).bind fun z h3 => match z with
  | .bl c => .ok c h3
  | _ => .bad
def tNot (t : MT) : MT := fun rt e h => (t rt e h).bind fun c h1 => .ok (!c) h1
def tAnd (t u : MT) : MT := fun rt e h => (t rt e h).bind fun c h1 => cond c (u rt e h1) (.ok false h1)
def tOr (t u : MT) : MT := fun rt e h => (t rt e h).bind fun c h1 => cond c (.ok true h1) (u rt e h1)
def mChain (op op' : Op2) (a b c : ME) : ME := fun rt e h => (a rt e h).bind fun x h1 => (b rt e h1).bind fun y h2 => (op x y h2).bind fun z h3 => match z with
  | .bl k => cond k ((c rt e h3).bind fun u h4 => op' y u h4) (.ok (.bl false) h3)
  | _ => .bad
def aNil : MA := fun _ _ h => .ok [] h
def aCons (a : ME) (r : MA) : MA := fun rt e h => (a rt e h).bind fun x h1 => (r rt e h1).bind fun xs h2 => .ok (x :: xs) h2
def mTup (a : MA) : ME := fun rt e h => (a rt e h).bind fun xs h1 => cond (Nat.ble xs.length LIM) (.ok (.tup false xs) h1) .bad
def mLst (a : MA) : ME := fun rt e h => (a rt e h).bind fun xs h1 => cond (Nat.ble xs.length LIM) (alloc (.lst xs) h1) .bad
def partD : D → Option (Option Int)
  | .int i => some (some i)
  | _ => none
def oPart (o : Option ME) : Rt → E → AH → R (Option Int) := fun rt e h => match o with
  | none => .ok none h
  | some a => (a rt e h).bind fun x h1 => match x with
    | .int i => .ok (some i) h1
    | _ => .bad
def mSl (a : ME) (lo hi : Option ME) : ME := fun rt e h => (a rt e h).bind fun x h1 => (oPart lo rt e h1).bind fun l h2 => (oPart hi rt e h2).bind fun u h3 => opSl x l u h3
def mRev (a : ME) : ME := fun rt e h => (a rt e h).bind fun x h1 => match itemsL h1 x with
  | some xs => alloc (.lst xs.reverse) h1
  | none => (match x with
    | .tup _ xs => .ok (.tup false xs.reverse) h1
    | _ => .bad)
/-! ### that they stand -/
section
variable {S : Sy} {Γ : Sc} {lv : Nat} {rt : Rt} {a b c : Expr} {ma mb mc : ME} {ta tb : MT} {pos : Pos}
theorem se_var {i : Nat} {x : Str} (hN : Γ.N[i]? = some x) (hv : Vis Γ.sc x) (hd : (x == ("__debug__" : Str)) = false) (hcd : (x == ("__classdict__" : Str)) = false) : SE S Γ lv rt (.Name x pos) (mVar i) := by
  intro X ok σ en ρ H h d h' rs rl e Q q
  unfold mVar at e
  split at e
  · rename_i d' hi
    cases e
    obtain ⟨v, e1, r⟩ := rs.at_ i d hi
    exact wE_of (pe_var (i := i) (by rw [ok.N]; exact hN) (by rw [ok.sc]; exact hv) hd hcd) ⟨v, e1, q.here rl r⟩
  · cases e
theorem se_int {i : Int} {k : Nat} : SE S Γ lv rt (.Constant (.int i) k pos) (mC (.int i)) := by
  intro X ok σ en ρ H h d h' rs rl e Q q
  cases e
  exact wE_of pe_int (show Q (.int i) H from q.here rl (rv_i _))
theorem se_bl {i : Bool} {k : Nat} : SE S Γ lv rt (.Constant (.bool i) k pos) (mC (.bl i)) := by
  intro X ok σ en ρ H h d h' rs rl e Q q
  cases e
  exact wE_of pe_bl (show Q (.bl i) H from q.here rl (rv_b _))
theorem se_non {k : Nat} : SE S Γ lv rt (.Constant .none k pos) (mC .non) := by
  intro X ok σ en ρ H h d h' rs rl e Q q
  cases e
  exact wE_of pe_non (show Q .non H from q.here rl rv_n)
theorem se_str {x : Str} {k : Nat} : SE S Γ lv rt (.Constant (.str x) k pos) (mC (.str x.cps.toList)) := by
  intro X ok σ en ρ H h d h' rs rl e Q q
  cases e
  have r : Rv S ρ H (.str x) (.str x.cps.toList) := by unfold Rv; rw [Array.toArray_toList]
  exact wE_of pe_str (show Q (.str x) H from q.here rl r)
theorem se_bin {op : Operator} {f : Op2} (ho : SO S lv (binaryOp op) f) (ha : SE S Γ lv rt a ma) (hb : SE S Γ lv rt b mb) : SE S Γ lv rt (.BinOp a op b pos) (mBin f ma mb) := by
  intro X ok σ en ρ H h d h' rs rl e Q q
  obtain ⟨x, h1, e1, e⟩ := R.bind_eq_ok e
  obtain ⟨y, h2, e2, e⟩ := R.bind_eq_ok e
  refine wE_of (pe_op op_w pe_w pe_w) (ha X ok σ en ρ H h x h1 rs rl e1 _ fun v ρ1 H1 x1 rl1 rv => ?_)
  refine hb X ok σ en ρ1 H1 h1 y h2 (rs.mono x1) rl1 e2 _ fun u ρ2 H2 x2 rl2 ru => ?_
  exact ho X ⟨Γ, ok⟩ v u x y ρ2 H2 h2 d h' rl2 (rv.mono x2) ru e Q (q.later (x1.trans x2))
theorem se_cmp {op : CmpOp} {f : Op2} (ho : SO S lv (compareOp op) f) (ha : SE S Γ lv rt a ma) (hb : SE S Γ lv rt b mb) (hm : behindInMarks op b = false) : SE S Γ lv rt (.Compare a [op] [b] pos) (mBin f ma mb) := by
  intro X ok σ en ρ H h d h' rs rl e Q q
  obtain ⟨x, h1, e1, e⟩ := R.bind_eq_ok e
  obtain ⟨y, h2, e2, e⟩ := R.bind_eq_ok e
  refine wE_of (pe_cmpR op_w pe_w pe_w hm) (ha X ok σ en ρ H h x h1 rs rl e1 _ fun v ρ1 H1 x1 rl1 rv => ?_)
  refine hb X ok σ en ρ1 H1 h1 y h2 (rs.mono x1) rl1 e2 _ fun u ρ2 H2 x2 rl2 ru => ?_
  exact ho X ⟨Γ, ok⟩ v u x y ρ2 H2 h2 d h' rl2 (rv.mono x2) ru e Q (q.later (x1.trans x2))
theorem st_cmp {op : CmpOp} {f : Op2} (ho : SO S lv (compareOp op) f) (ha : SE S Γ lv rt a ma) (hb : SE S Γ lv rt b mb) (hm : behindInMarks op b = false) : STt S Γ lv rt (.Compare a [op] [b] pos) (tCmp f ma mb) := by
  intro X ok σ en ρ H h d h' rs rl e Q q
  obtain ⟨x, h1, e1, e⟩ := R.bind_eq_ok e
  obtain ⟨y, h2, e2, e⟩ := R.bind_eq_ok e
  obtain ⟨z, h3, e3, e⟩ := R.bind_eq_ok e
  refine wT_of (pt_cmpR op_w pe_w pe_w hm) (ha X ok σ en ρ H h x h1 rs rl e1 _ fun v ρ1 H1 x1 rl1 rv => ?_)
  refine hb X ok σ en ρ1 H1 h1 y h2 (rs.mono x1) rl1 e2 _ fun u ρ2 H2 x2 rl2 ru => ?_
  refine ho X ⟨Γ, ok⟩ v u x y ρ2 H2 h2 z h3 rl2 (rv.mono x2) ru e3 _ fun w ρ3 H3 x3 rl3 rw' => ?_
  split at e
  · rename_i k
    cases e
    cases rw'.b
    exact ⟨_, rfl, q ρ3 H3 ((x1.trans x2).trans x3) rl3⟩
  · cases e
theorem se_chain {op op' : CmpOp} {f f' : Op2} (ho : SO S lv (compareOp op) f) (ho' : SO S lv (compareOp op') f') (ha : SE S Γ lv rt a ma) (hb : SE S Γ lv rt b mb) (hc : SE S Γ lv rt c mc) (hm : lastMarks [op, op'] [b, c] = false) :
    SE S Γ lv rt (.Compare a [op, op'] [b, c] pos) (mChain f f' ma mb mc) := by
  intro X ok σ en ρ H h d h' rs rl e Q q
  obtain ⟨x, h1, e1, e⟩ := R.bind_eq_ok e
  obtain ⟨y, h2, e2, e⟩ := R.bind_eq_ok e
  obtain ⟨z, h3, e3, e⟩ := R.bind_eq_ok e
  refine wE_of (pe_chain op_w op_w pe_w pe_w pe_w hm) (ha X ok σ en ρ H h x h1 rs rl e1 _ fun v ρ1 H1 x1 rl1 rv => ?_)
  refine hb X ok σ en ρ1 H1 h1 y h2 (rs.mono x1) rl1 e2 _ fun u ρ2 H2 x2 rl2 ru => ?_
  refine ho X ⟨Γ, ok⟩ v u x y ρ2 H2 h2 z h3 rl2 (rv.mono x2) ru e3 _ fun w ρ3 H3 x3 rl3 rw' => ?_
  split at e
  · rename_i k
    cases rw'.b
    refine ⟨_, rfl, ?_⟩
    cases k with
    | true =>
      rw [if_pos rfl]
      obtain ⟨u4, h4, e4, e⟩ := R.bind_eq_ok (show ((mc rt en h3).bind fun u h4 => f' y u h4) = .ok d h' from e)
      refine hc X ok σ en ρ3 H3 h3 u4 h4 (rs.mono ((x1.trans x2).trans x3)) rl3 e4 _ fun w4 ρ4 H4 x4 rl4 rv4 => ?_
      exact ho' X ⟨Γ, ok⟩ _ w4 y u4 ρ4 H4 h4 d h' rl4 (ru.mono (x3.trans x4)) rv4 e Q (q.later (((x1.trans x2).trans x3).trans x4))
    | false =>
      rw [if_neg (by decide)]
      have e' : R.ok (D.bl false) h3 = .ok d h' := e
      cases e'
      exact (q.later ((x1.trans x2).trans x3)).here rl3 (rv_b _)
  · cases e
theorem se_neg (ha : SE S Γ lv rt a ma) : SE S Γ lv rt (.UnaryOp .USub a pos) (mNeg ma) := by
  intro X ok σ en ρ H h d h' rs rl e Q q
  obtain ⟨x, h1, e1, e⟩ := R.bind_eq_ok e
  refine wE_of (pe_un un_neg pe_w) (ha X ok σ en ρ H h x h1 rs rl e1 _ fun v ρ1 H1 x1 rl1 rv => ?_)
  split at e
  · cases e
    cases rv.i
    exact ⟨_, rfl, (q.later x1).here rl1 (rv_i _)⟩
  · cases e
theorem se_not (ha : SE S Γ lv rt a ma) : SE S Γ lv rt (.UnaryOp .Not a pos) (mNot ma) := by
  intro X ok σ en ρ H h d h' rs rl e Q q
  obtain ⟨x, h1, e1, e⟩ := R.bind_eq_ok e
  refine wE_of (pe_notT pe_w) (ha X ok σ en ρ H h x h1 rs rl e1 _ fun v ρ1 H1 x1 rl1 rv => ?_)
  split at e
  · rename_i b hb
    cases e
    rw [ok.K]
    exact ⟨b, truth_ok rl1 rv hb, (q.later x1).here rl1 (rv_b _)⟩
  · cases e
theorem se_one {op : BoolOp} (ha : SE S Γ lv rt a ma) : SE S Γ lv rt (.BoolOp op [a] pos) ma := by
  intro X ok σ en ρ H h d h' rs rl e Q q
  exact wE_of (pe_one pe_w) (ha X ok σ en ρ H h d h' rs rl e Q q)
theorem se_and {r : List Expr} (ha : SE S Γ lv rt a ma) (hb : SE S Γ lv rt (.BoolOp .And (b :: r) pos) mb) : SE S Γ lv rt (.BoolOp .And (a :: b :: r) pos) (mAnd ma mb) := by
  intro X ok σ en ρ H h d h' rs rl e Q q
  obtain ⟨x, h1, e1, e⟩ := R.bind_eq_ok e
  refine wE_of (pe_andT pe_w pe_w) (ha X ok σ en ρ H h x h1 rs rl e1 _ fun v ρ1 H1 x1 rl1 rv => ?_)
  split at e
  · rename_i k hk
    rw [ok.K]
    refine ⟨k, truth_ok rl1 rv hk, ?_⟩
    cases k with
    | true => rw [if_pos rfl]; exact hb X ok σ en ρ1 H1 h1 d h' (rs.mono x1) rl1 e Q (q.later x1)
    | false =>
      rw [if_neg (by decide)]
      have e' : R.ok x h1 = .ok d h' := e
      cases e'
      exact (q.later x1).here rl1 rv
  · cases e
theorem se_or {r : List Expr} (ha : SE S Γ lv rt a ma) (hb : SE S Γ lv rt (.BoolOp .Or (b :: r) pos) mb) : SE S Γ lv rt (.BoolOp .Or (a :: b :: r) pos) (mOr ma mb) := by
  intro X ok σ en ρ H h d h' rs rl e Q q
  obtain ⟨x, h1, e1, e⟩ := R.bind_eq_ok e
  refine wE_of (pe_orT pe_w pe_w) (ha X ok σ en ρ H h x h1 rs rl e1 _ fun v ρ1 H1 x1 rl1 rv => ?_)
  split at e
  · rename_i k hk
    rw [ok.K]
    refine ⟨k, truth_ok rl1 rv hk, ?_⟩
    cases k with
    | false => rw [if_neg (by decide)]; exact hb X ok σ en ρ1 H1 h1 d h' (rs.mono x1) rl1 e Q (q.later x1)
    | true =>
      rw [if_pos rfl]
      have e' : R.ok x h1 = .ok d h' := e
      cases e'
      exact (q.later x1).here rl1 rv
  · cases e
theorem se_if (ht : STt S Γ lv rt c ta) (ha : SE S Γ lv rt a ma) (hb : SE S Γ lv rt b mb) : SE S Γ lv rt (.IfExp c a b pos) (mIf ta ma mb) := by
  intro X ok σ en ρ H h d h' rs rl e Q q
  obtain ⟨x, h1, e1, e⟩ := R.bind_eq_ok e
  refine wE_of (pe_ifExp pt_w pe_w pe_w) (ht X ok σ en ρ H h x h1 rs rl e1 _ fun ρ1 H1 x1 rl1 => ?_)
  cases x with
  | true => rw [if_pos rfl]; exact ha X ok σ en ρ1 H1 h1 d h' (rs.mono x1) rl1 e Q (q.later x1)
  | false => rw [if_neg (by decide)]; exact hb X ok σ en ρ1 H1 h1 d h' (rs.mono x1) rl1 e Q (q.later x1)
theorem st_val (ha : SE S Γ lv rt a ma) (he : ∀ (env : Env) (whole : Sem Value), isTrue a env whole = (do let v ← whole; standAt a.pos; holding [v] (truthy v))) : STt S Γ lv rt a (tVal ma) := by
  intro X ok σ en ρ H h d h' rs rl e Q q
  obtain ⟨x, h1, e1, e⟩ := R.bind_eq_ok e
  refine wT_of (pt_truth pe_w (he X.env)) (ha X ok σ en ρ H h x h1 rs rl e1 _ fun v ρ1 H1 x1 rl1 rv => ?_)
  split at e
  · rename_i k hk
    cases e
    rw [ok.K]
    exact ⟨d, truth_ok rl1 rv hk, q ρ1 H1 x1 rl1⟩
  · cases e
theorem st_not (ht : STt S Γ lv rt a ta) : STt S Γ lv rt (.UnaryOp .Not a pos) (tNot ta) := by
  intro X ok σ en ρ H h d h' rs rl e Q q
  obtain ⟨x, h1, e1, e⟩ := R.bind_eq_ok e
  cases e
  exact wT_of (pt_not pt_w) (ht X ok σ en ρ H h x _ rs rl e1 _ fun ρ1 H1 x1 rl1 => q ρ1 H1 x1 rl1)
theorem stw_and1 (ht : STt S Γ lv rt a ta) : STw S Γ lv rt (.BoolOp .And [a] pos) ta := by
  intro X ok σ en ρ H h d h' rs rl e Q q
  exact wW_of (pw_and1 pt_w) (ht X ok σ en ρ H h d h' rs rl e Q q)
theorem stw_or1 (ht : STt S Γ lv rt a ta) : STw S Γ lv rt (.BoolOp .Or [a] pos) ta := by
  intro X ok σ en ρ H h d h' rs rl e Q q
  exact wW_of (pw_or1 pt_w) (ht X ok σ en ρ H h d h' rs rl e Q q)
theorem stw_and {r : List Expr} (ht : STt S Γ lv rt a ta) (hu : STw S Γ lv rt (.BoolOp .And (b :: r) pos) tb) : STw S Γ lv rt (.BoolOp .And (a :: b :: r) pos) (tAnd ta tb) := by
  intro X ok σ en ρ H h d h' rs rl e Q q
  obtain ⟨x, h1, e1, e⟩ := R.bind_eq_ok e
  refine wW_of (pw_and pt_w pw_w) (ht X ok σ en ρ H h x h1 rs rl e1 _ fun ρ1 H1 x1 rl1 => ?_)
  cases x with
  | true => rw [if_pos rfl]; exact hu X ok σ en ρ1 H1 h1 d h' (rs.mono x1) rl1 e Q (q.later x1)
  | false =>
    rw [if_neg (by decide)]
    have e' : R.ok false h1 = .ok d h' := e
    cases e'
    exact q ρ1 H1 x1 rl1
theorem stw_or {r : List Expr} (ht : STt S Γ lv rt a ta) (hu : STw S Γ lv rt (.BoolOp .Or (b :: r) pos) tb) : STw S Γ lv rt (.BoolOp .Or (a :: b :: r) pos) (tOr ta tb) := by
  intro X ok σ en ρ H h d h' rs rl e Q q
  obtain ⟨x, h1, e1, e⟩ := R.bind_eq_ok e
  refine wW_of (pw_or pt_w pw_w) (ht X ok σ en ρ H h x h1 rs rl e1 _ fun ρ1 H1 x1 rl1 => ?_)
  cases x with
  | false => rw [if_neg (by decide)]; exact hu X ok σ en ρ1 H1 h1 d h' (rs.mono x1) rl1 e Q (q.later x1)
  | true =>
    rw [if_pos rfl]
    have e' : R.ok true h1 = .ok d h' := e
    cases e'
    exact q ρ1 H1 x1 rl1
theorem st_w (h : STw S Γ lv rt a ta) : STt S Γ lv rt a ta := by
  intro X ok σ en ρ H hh d h' rs rl e Q q
  have w := h X ok σ en ρ H hh d h' rs rl e Q q
  exact fun pins s I => w _ pins s I
theorem sa_nil : SA S Γ lv rt [] aNil := by
  intro X ok σ en ρ H h d h' rs rl e Q q
  cases e
  exact wA_of pa_nil (show Q [] H from q [] ρ H .refl rl .nil)
theorem sa_cons {es : List Expr} {m : MA} (ha : SE S Γ lv rt a ma) (hr : SA S Γ lv rt es m) (hs : ∀ env, starEach (a :: es) env = (false, eval a env) :: starEach es env) : SA S Γ lv rt (a :: es) (aCons ma m) := by
  intro X ok σ en ρ H h d h' rs rl e Q q
  obtain ⟨x, h1, e1, e⟩ := R.bind_eq_ok e
  obtain ⟨xs, h2, e2, e⟩ := R.bind_eq_ok e
  cases e
  refine wA_of (pa_cons pe_w pa_w (hs _)) (ha X ok σ en ρ H h x h1 rs rl e1 _ fun v ρ1 H1 x1 rl1 rv => ?_)
  refine hr X ok σ en ρ1 H1 h1 xs _ (rs.mono x1) rl1 e2 _ fun vs ρ2 H2 x2 rl2 rvs => ?_
  exact q (v :: vs) ρ2 H2 (x1.trans x2) rl2 (.cons (rv.mono x2) rvs)
theorem se_tup {es : List Expr} {m : MA} {k : Nat} (ha : SA S Γ lv rt es m) : SE S Γ lv rt (.Tuple es k pos) (mTup m) := by
  intro X ok σ en ρ H h d h' rs rl e Q q
  obtain ⟨xs, h1, e1, e⟩ := R.bind_eq_ok e
  refine wE_of (pe_tup pa_w) (ha X ok σ en ρ H h xs h1 rs rl e1 _ fun vs ρ1 H1 x1 rl1 rvs => ?_)
  cases hl : Nat.ble xs.length LIM with
  | false => rw [hl] at e; cases e
  | true =>
    rw [hl] at e
    have e' : R.ok (D.tup false xs) h1 = .ok d h' := e
    cases e'
    exact ⟨by rw [rvs.length, lim_eq]; exact Nat.le_of_ble_eq_true hl, fun p n => Po.tup rl1 (q.later x1) n rvs⟩
theorem se_lst {es : List Expr} {m : MA} (ha : SA S Γ lv rt es m) : SE S Γ lv rt (.List es pos) (mLst m) := by
  intro X ok σ en ρ H h d h' rs rl e Q q
  obtain ⟨xs, h1, e1, e⟩ := R.bind_eq_ok e
  refine wE_of (pe_lst pa_w) (ha X ok σ en ρ H h xs h1 rs rl e1 _ fun vs ρ1 H1 x1 rl1 rvs => ?_)
  cases hl : Nat.ble xs.length LIM with
  | false => rw [hl] at e; cases e
  | true =>
    rw [hl] at e
    exact ⟨by rw [rvs.length, lim_eq]; exact Nat.le_of_ble_eq_true hl, fun p n => Po.lst rl1 e (q.later x1) n rvs⟩
end
end Den
/-! Den6: targets, statements, loops. -/
namespace Den
open PySem PySem.Spec L2
/-! ### readings -/
abbrev MG := D → Rt → E → AH → R E
abbrev MGs := List D → Rt → E → AH → R E
def gN (i : Nat) : MG := fun d _ e h => .ok (e.set i (some d)) h
def gsNil : MGs := fun ds _ e h => match ds with
  | [] => .ok e h
  | _ => .bad
def gsCons (g : MG) (r : MGs) : MGs := fun ds rt e h => match ds with
  | d :: ds => (g d rt e h).bind fun e1 h1 => r ds rt e1 h1
  | [] => .bad
def gT (g : MGs) : MG := fun d rt e h => match d with
  | .tup _ xs => g xs rt e h
  | _ => .bad
/-- o[i] = v -/
def khas (k : D) : List (D × D) → Bool
  | [] => false
  | (a, _) :: r => eqF a k || khas k r
def krep (k v : D) : List (D × D) → List (D × D)
  | [] => []
  | (a, u) :: r => (a, cond (eqF a k) v u) :: krep k v r
def kput (k v : D) (l : List (D × D)) : List (D × D) := cond (khas k l) (krep k v l) (l ++ [(k, v)])
def opPut (o i v : D) (h : AH) : R Unit := match o with
  | .ref n => (match h[n]? with
    | some (.lst xs) => (match i with
      | .int k => (match ixN xs.length k with
        | some j => .ok () (h.set n (.lst (xs.set j v)))
        | none => .bad)
      | _ => .bad)
    | some (.dct kvs) => cond (keyD i && Nat.blt kvs.length LIM) (.ok () (h.set n (.dct (kput i v kvs)))) .bad
    | _ => .bad)
  | _ => .bad
def gS (o i : ME) : MG := fun d rt e h => (o rt e h).bind fun x h1 => (i rt e h1).bind fun y h2 => (opPut x y d h2).bind fun _ h3 => .ok e h3
def sPass : MS := fun _ e h => .ok (.nx e) h
def sBreak : MS := fun _ e h => .ok (.bk e) h
def sCont : MS := fun _ e h => .ok (.ct e) h
def sRet (m : ME) : MS := fun rt e h => (m rt e h).bind fun d h1 => .ok (.rt d) h1
def sRetN : MS := fun _ _ h => .ok (.rt .non) h
def sExpr (m : ME) : MS := fun rt e h => (m rt e h).bind fun _ h1 => .ok (.nx e) h1
def sAsg (m : ME) (g : MG) : MS := fun rt e h => (m rt e h).bind fun d h1 => (g d rt e h1).bind fun e1 h2 => .ok (.nx e1) h2
/-- a, b = x, y at two (three) names -/
def sPar (is : List Nat) (a : MA) : MS := fun rt e h => (a rt e h).bind fun ds h1 => .ok (.nx ((is.zip ds).foldl (fun e p => e.set p.1 (some p.2)) e)) h1
def sSeq (a b : MS) : MS := fun rt e h => (a rt e h).bind fun sg h1 => match sg with
  | .nx e1 => b rt e1 h1
  | sg => .ok sg h1
def sIf (t : MT) (a b : MS) : MS := fun rt e h => (t rt e h).bind fun c h1 => cond c (a rt e h1) (b rt e h1)
def whileF (t : MT) (b : MS) (rt : Rt) : Nat → E → AH → R Sg
  | 0, _, _ => .bad
  | n + 1, e, h => (t rt e h).bind fun c h1 => cond c ((b rt e h1).bind fun sg h2 => match sg with
      | .nx e1 => whileF t b rt n e1 h2
      | .ct e1 => whileF t b rt n e1 h2
      | .bk e1 => .ok (.nx e1) h2
      | .rt d => .ok (.rt d) h2) (.ok (.nx e) h1)
def sWhile (t : MT) (b : MS) : MS := fun rt e h => whileF t b rt rt.fuel e h
/-- what is walked: at a turn, what is yielded, or the end -/
abbrev DIt := Nat → AH → Option (Option D)
abbrev MI := Rt → E → AH → R DIt
def forF (it : DIt) (g : MG) (b : MS) (rt : Rt) : Nat → Nat → E → AH → R Sg
  | 0, _, _, _ => .bad
  | n + 1, i, e, h => match it i h with
    | none => .bad
    | some none => .ok (.nx e) h
    | some (some d) => (g d rt e h).bind fun e1 h1 => (b rt e1 h1).bind fun sg h2 => match sg with
      | .nx e2 => forF it g b rt n (i + 1) e2 h2
      | .ct e2 => forF it g b rt n (i + 1) e2 h2
      | .bk e2 => .ok (.nx e2) h2
      | .rt d => .ok (.rt d) h2
def sFor (it : MI) (g : MG) (b : MS) : MS := fun rt e h => (it rt e h).bind fun J h1 => forF J g b rt rt.fuel 0 e h1
/-! ### canonical readings -/
def wS (X : Cx) (st : Stmt) : TS := fun D σ H => ∀ (pins : List (Addr × Obj)) (s : Shared), Inv X pins σ H s → wpAny (model X.prog X.w) X.A (exec st X.env) (SP X pins D) X.xe s
def wSs (X : Cx) (st : List Stmt) : TS := fun D σ H => ∀ (pins : List (Addr × Obj)) (s : Shared), Inv X pins σ H s → wpAny (model X.prog X.w) X.A (execs st X.env) (SP X pins D) X.xe s
def wG (X : Cx) (t : Expr) : TG := fun v σ H Q => ∀ (pins : List (Addr × Obj)) (s : Shared) (u : Value), Inv X pins σ H s → RelV v u → wpAny (model X.prog X.w) X.A (assign t X.env u) (fun _ s' => ∃ σ' H', Inv X pins σ' H' s' ∧ Q σ' H') X.xe s
def wGs (X : Cx) (ts : List Expr) : TGs := fun vs σ H Q => ∀ (pins : List (Addr × Obj)) (s : Shared) (us : List Value), Inv X pins σ H s → Vals vs us → wpAny (model X.prog X.w) X.A (assignInOrder ((assignEach ts X.env).map (·.2)) us) (fun _ s' => ∃ σ' H', Inv X pins σ' H' s' ∧ Q σ' H') X.xe s
def wI (X : Cx) (tg iter : Expr) : TI := fun σ H R => ∀ (pins : List (Addr × Obj)) (s : Shared), Inv X pins σ H s → wpAny (model X.prog X.w) X.A (eval iter X.env) (fun v s1 => wpAny (model X.prog X.w) X.A (pyIter v) (PIE X pins σ tg R) X.xe s1) X.xe s
def wPs (X : Cx) : TSet := fun o i v H Q => ∀ (pins : List (Addr × Obj)) (s : Shared) (σ : L2.St) (ov iv u : Value), Inv X pins σ H s → RelV o ov → RelV i iv → RelV v u → wpAny (model X.prog X.w) X.A (setItem ov iv u) (fun _ s' => ∃ H', Inv X pins σ H' s' ∧ Q H') X.xe s
section
variable {X : Cx}
theorem ps_w {st : Stmt} : PS X st (wS X st) := ⟨fun pins s _ _ _ I h => h pins s I⟩
theorem pss_w {st : List Stmt} : PSs X st (wSs X st) := ⟨fun pins s _ _ _ I h => h pins s I⟩
theorem pg_w {t : Expr} : PG X t (wG X t) := ⟨fun pins s _ _ _ u _ I r h => h pins s u I r⟩
theorem pgs_w {ts : List Expr} : PGs X ts (wGs X ts) := ⟨fun pins s _ _ _ us _ I r h => h pins s us I r⟩
theorem pi_w {tg iter : Expr} : PI X tg iter (wI X tg iter) := ⟨fun pins s _ _ _ I h => h pins s I⟩
theorem pset_w : PSet X (wPs X) := fun pins s σ _ _ _ _ ov iv u _ I r1 r2 r3 h => h pins s σ ov iv u I r1 r2 r3
theorem wS_of {st : Stmt} {t : TS} (p : PS X st t) {D : Ends} {σ : L2.St} {H : Hp} (h : t D σ H) : wS X st D σ H := fun pins s I => p.run pins s σ H D I h
theorem wSs_of {st : List Stmt} {t : TS} (p : PSs X st t) {D : Ends} {σ : L2.St} {H : Hp} (h : t D σ H) : wSs X st D σ H := fun pins s I => p.run pins s σ H D I h
theorem wG_of {tg : Expr} {t : TG} (p : PG X tg t) {v : V} {σ : L2.St} {H : Hp} {Q : L2.St → Hp → Prop} (h : t v σ H Q) : wG X tg v σ H Q := fun pins s u I r => p.run pins s σ H v u Q I r h
theorem wGs_of {tg : List Expr} {t : TGs} (p : PGs X tg t) {v : List V} {σ : L2.St} {H : Hp} {Q : L2.St → Hp → Prop} (h : t v σ H Q) : wGs X tg v σ H Q := fun pins s u I r => p.run pins s σ H v u Q I r h
theorem wI_of {tg iter : Expr} {t : TI} (p : PI X tg iter t) {σ : L2.St} {H : Hp} {R : It → Hp → Prop} (h : t σ H R) : wI X tg iter σ H R := fun pins s I => p.run pins s σ H R I h
theorem wPs_of {t : TSet} (p : PSet X t) {o i v : V} {H : Hp} {Q : Hp → Prop} (h : t o i v H Q) : wPs X o i v H Q := fun pins s σ ov iv u I r1 r2 r3 => p pins s σ H o i v ov iv u Q I r1 r2 r3 h
end
/-! ### what follows -/
def PoG (S : Sy) (ρ : List Addr) (H : Hp) (h' : AH) (e' : E) (Q : L2.St → Hp → Prop) : Prop := ∀ σ' ρ' H', Xt S ρ H ρ' H' → Rl S ρ' H' h' → Rs S ρ' H' σ' e' → Q σ' H'
def PoS (S : Sy) (ρ : List Addr) (H : Hp) (h' : AH) : Sg → Ends → Prop
  | .nx e, D => PoG S ρ H h' e D.nx
  | .bk e, D => PoG S ρ H h' e D.bk
  | .ct e, D => PoG S ρ H h' e D.ct
  | .rt d, D => Po S ρ H h' d D.rt
section
variable {S : Sy} {ρ ρ' : List Addr} {H H' : Hp} {h h' : AH}
theorem PoG.later {e : E} {Q : L2.St → Hp → Prop} (q : PoG S ρ H h' e Q) (x : Xt S ρ H ρ' H') : PoG S ρ' H' h' e Q := fun σ r G y rl rs => q σ r G (x.trans y) rl rs
theorem PoS.later {sg : Sg} {D : Ends} (q : PoS S ρ H h' sg D) (x : Xt S ρ H ρ' H') : PoS S ρ' H' h' sg D := by
  cases sg with
  | nx e => exact PoG.later q x
  | bk e => exact PoG.later q x
  | ct e => exact PoG.later q x
  | rt d => exact Po.later q x
/-- the iterator J goes as it does -/
def ItOk (S : Sy) (ρ : List Addr) (H : Hp) (J : It) (it : DIt) : Prop := ∀ (i : Nat) ρ' H' h', Xt S ρ H ρ' H' → Rl S ρ' H' h' →
  (it i h' = some none → J.stop i H') ∧ ∀ d, it i h' = some (some d) → J.go i H' ∧ ∀ x H'', J.yld i H' x H'' → ∃ ρ'', Xt S ρ' H' ρ'' H'' ∧ Rl S ρ'' H'' h' ∧ Rv S ρ'' H'' x d
theorem ItOk.later {J : It} {it : DIt} (q : ItOk S ρ H J it) (x : Xt S ρ H ρ' H') : ItOk S ρ' H' J it := fun i r G hh y rl => q i r G hh (x.trans y) rl
end
/-- a target's stores: only slots of ws turn -/
def PoW (S : Sy) (ρ : List Addr) (H : Hp) (h' : AH) (e' : E) (ws : List Nat) (σ : L2.St) (Q : L2.St → Hp → Prop) : Prop := ∀ σ' ρ' H', Xt S ρ H ρ' H' → Rl S ρ' H' h' → Rs S ρ' H' σ' e' → wipe σ' ws = wipe σ ws → Q σ' H'
def SG (S : Sy) (Γ : Sc) (lv : Nat) (rt : Rt) (ws : List Nat) (t : Expr) (m : MG) : Prop := ∀ X, XOk S Γ lv X → ∀ σ en ρ H h v d e' h', Rs S ρ H σ en → Rl S ρ H h → Rv S ρ H v d → m d rt en h = .ok e' h' → ∀ Q, PoW S ρ H h' e' ws σ Q → wG X t v σ H Q
def SGs (S : Sy) (Γ : Sc) (lv : Nat) (rt : Rt) (ws : List Nat) (t : List Expr) (m : MGs) : Prop := ∀ X, XOk S Γ lv X → ∀ σ en ρ H h vs ds e' h', Rs S ρ H σ en → Rl S ρ H h → Rvs S ρ H vs ds → m ds rt en h = .ok e' h' → ∀ Q, PoW S ρ H h' e' ws σ Q → wGs X t vs σ H Q
def SI (S : Sy) (Γ : Sc) (lv : Nat) (rt : Rt) (tg iter : Expr) (m : MI) : Prop := ∀ X, XOk S Γ lv X → ∀ σ en ρ H h it h', Rs S ρ H σ en → Rl S ρ H h → m rt en h = .ok it h' → ∀ R, (∀ J ρ' H', Xt S ρ H ρ' H' → Rl S ρ' H' h' → ItOk S ρ' H' J it → R J H') → wI X tg iter σ H R
def SS (S : Sy) (Γ : Sc) (lv : Nat) (rt : Rt) (st : Stmt) (m : MS) : Prop := ∀ X, XOk S Γ lv X → ∀ σ en ρ H h sg h', Rs S ρ H σ en → Rl S ρ H h → m rt en h = .ok sg h' → ∀ D, PoS S ρ H h' sg D → wS X st D σ H
def SSs (S : Sy) (Γ : Sc) (lv : Nat) (rt : Rt) (st : List Stmt) (m : MS) : Prop := ∀ X, XOk S Γ lv X → ∀ σ en ρ H h sg h', Rs S ρ H σ en → Rl S ρ H h → m rt en h = .ok sg h' → ∀ D, PoS S ρ H h' sg D → wSs X st D σ H
section
variable {S : Sy} {Γ : Sc} {lv : Nat} {rt : Rt} {a b c : Expr} {ma mb mc : ME} {ta tb : MT} {pos : Pos} {ws : List Nat}
/-! ### targets -/
theorem PoW.later {ρ ρ' : List Addr} {H H' : Hp} {h' : AH} {e : E} {σ : L2.St} {Q : L2.St → Hp → Prop} (q : PoW S ρ H h' e ws σ Q) (x : Xt S ρ H ρ' H') : PoW S ρ' H' h' e ws σ Q := fun s r G y rl rs w => q s r G (x.trans y) rl rs w
theorem PoG.w {ρ : List Addr} {H : Hp} {h' : AH} {e : E} {σ : L2.St} {Q : L2.St → Hp → Prop} (q : PoG S ρ H h' e Q) : PoW S ρ H h' e ws σ Q := fun s r G y rl rs _ => q s r G y rl rs
theorem wipe_set_out {α : Type} {i : Nat} {x : Option V} : ∀ {vs : List Nat} {σ : L2.St}, i ∉ vs → wipe (σ.set i x) vs = (wipe σ vs).set i x
  | [], σ, _ => rfl
  | v :: vs, σ, h => by
    rw [List.mem_cons, not_or] at h
    unfold wipe
    rw [wipe_set_out (α := α) h.2, List.set_comm _ _ h.1]
theorem wipe_set {i : Nat} {x : Option V} : ∀ {vs : List Nat} {σ : L2.St}, i ∈ vs → wipe (σ.set i x) vs = wipe σ vs
  | v :: vs, σ, h => by
    unfold wipe
    by_cases hi : i ∈ vs
    · rw [wipe_set hi]
    · have e : i = v := by
        rcases List.mem_cons.mp h with z | z
        · exact z
        · exact absurd z hi
      subst e
      rw [wipe_set_out (α := Unit) hi, List.set_set]
theorem sg_name {i : Nat} {x : Str} (hN : Γ.N[i]? = some x) (hx : L2.Loc Γ.sc x) (hf : Γ.fn x = true ∨ Γ.sc.names.lookup x = some .local) (hw : i ∈ ws) : SG S Γ lv rt ws (.Name x pos) (gN i) := by
  intro X ok σ en ρ H h v d e' h' rs rl rv e Q q
  cases e
  refine wG_of (pg_name (i := i) (by rw [ok.N]; exact ok.nd) (by rw [ok.N]; exact hN) (by rw [ok.sc]; exact hx) (by rw [ok.fn, ok.sc]; exact hf)) ?_
  exact q _ ρ H .refl rl (rs.set rv i) (wipe_set hw)
theorem sgs_nil : SGs S Γ lv rt ws [] gsNil := by
  intro X ok σ en ρ H h vs ds e' h' rs rl rv e Q q
  unfold gsNil at e
  split at e
  · cases e
    exact wGs_of pgs_nil ⟨rv.nil_iff, q σ ρ H .refl rl rs rfl⟩
  · cases e
theorem sgs_cons {t : Expr} {ts : List Expr} {g : MG} {r : MGs} (hg : SG S Γ lv rt ws t g) (hr : SGs S Γ lv rt ws ts r) (hs : ∀ env, (assignEach (t :: ts) env).map (·.2) = assign t env :: (assignEach ts env).map (·.2)) : SGs S Γ lv rt ws (t :: ts) (gsCons g r) := by
  intro X ok σ en ρ H h vs ds e' h' rs rl rv e Q q
  unfold gsCons at e
  split at e
  · rename_i d ds
    obtain ⟨e1, h1, q1, e⟩ := R.bind_eq_ok e
    obtain ⟨v, vr, rfl, rd, rr⟩ := rv.cons_iff
    refine wGs_of (pgs_cons pg_w pgs_w (hs _)) ⟨v, vr, rfl, ?_⟩
    refine hg X ok σ en ρ H h v d e1 h1 rs rl rd q1 _ fun σ1 ρ1 H1 x1 rl1 rs1 w1 => ?_
    exact hr X ok σ1 e1 ρ1 H1 h1 vr ds e' h' rs1 rl1 (rr.mono x1) e Q fun s r G y rl rs w => q s r G (x1.trans y) rl rs (w.trans w1)
  · cases e
theorem assignEach_length (es : List Expr) (env : Env) : (assignEach es env).length = es.length := by
  induction es with
  | nil => rfl
  | cons t ts ih =>
    cases t <;> (show (_ :: assignEach ts env).length = _; rw [List.length_cons, List.length_cons, ih])
theorem sg_tup {ts : List Expr} {g : MGs} {k n : Nat} (hg : SGs S Γ lv rt ws ts g) (hn : ts.length = n) (hst : ∀ env, (assignEach ts env).findIdx? (·.1) = none) (hl : ∀ ds en h e' h', g ds rt en h = .ok e' h' → ds.length = n) : SG S Γ lv rt ws (.Tuple ts k pos) (gT g) := by
  intro X ok σ en ρ H h v d e' h' rs rl rv e Q q
  unfold gT at e
  split at e
  · rename_i xs
    obtain ⟨a, vs, rfl, s1, r1⟩ := rv.t
    refine wG_of (pg_tup (n := n) ok.calm pgs_w (by rw [assignEach_length]; exact hn) (hst _)) ⟨a, vs, rfl, by rw [ok.K]; exact s1, by rw [r1.length]; exact hl _ _ _ _ _ e, ?_⟩
    exact hg X ok σ en ρ H h vs xs e' h' rs rl r1 e Q q
  · cases e
theorem khas_ok {ρ : List Addr} {H : Hp} {k : D} (hk : keyD k = true) : ∀ {l : List (Key × V)} {kvs : List (D × D)}, Rkv S ρ H l kvs → (l.any fun kv => decide (kv.1 = keyV k)) = khas k kvs
  | _, _, .nil => rfl
  | (a, u) :: l, (b, w) :: kvs, .cons q t => by
    obtain ⟨kb, ka⟩ := Rk_key q.1
    have ka' : a = keyV b := ka
    subst ka'
    unfold khas
    rw [List.any_cons, khas_ok hk t]
    congr 1
    cases e : eqF b k with
    | true => exact decide_eq_true ((keyV_eq kb hk).mpr e)
    | false => exact decide_eq_false fun z => by rw [(keyV_eq kb hk).mp z] at e; cases e
theorem krep_ok {ρ : List Addr} {H : Hp} {k d : D} {v : V} (hk : keyD k = true) (rv : Rv S ρ H v d) : ∀ {l : List (Key × V)} {kvs : List (D × D)}, Rkv S ρ H l kvs → Rkv S ρ H (l.map fun kv => if kv.1 = keyV k then (kv.1, v) else kv) (krep k d kvs)
  | _, _, .nil => .nil
  | (a, u) :: l, (b, w) :: kvs, .cons q t => by
    obtain ⟨q1, q2⟩ := q
    obtain ⟨kb, ka⟩ := Rk_key q1
    have ka' : a = keyV b := ka
    subst ka'
    unfold krep
    rw [List.map_cons]
    refine .cons ?_ (krep_ok hk rv t)
    cases e : eqF b k with
    | true =>
      rw [if_pos ((keyV_eq kb hk).mpr e)]
      exact ⟨q1, rv⟩
    | false =>
      rw [if_neg fun z => by rw [(keyV_eq kb hk).mp z] at e; cases e]
      exact ⟨q1, q2⟩
theorem paired_append {α β : Type} {F : α → β → Prop} : ∀ {l l' : List α} {r r' : List β}, Paired F l r → Paired F l' r' → Paired F (l ++ l') (r ++ r')
  | _, _, _, _, .nil, q => q
  | _, _, _, _, .cons p t, q => .cons p (paired_append t q)
theorem kput_ok {ρ : List Addr} {H : Hp} {k d : D} {v : V} (hk : keyD k = true) (rv : Rv S ρ H v d) {l : List (Key × V)} {kvs : List (D × D)} (r : Rkv S ρ H l kvs) : Rkv S ρ H (putK l (keyV k) v) (kput k d kvs) := by
  unfold putK kput
  rw [khas_ok hk r]
  cases khas k kvs with
  | true => rw [if_pos rfl]; exact krep_ok hk rv r
  | false =>
    rw [if_neg (by decide)]
    exact paired_append r (.cons ⟨Rk_of hk, rv⟩ .nil)
theorem put_ok {X : Cx} (ok : XOk S Γ lv X) {ρ : List Addr} {H : Hp} {h h' : AH} {x y z : V} {o i v : D} (rl : Rl S ρ H h) (rx : Rv S ρ H x o) (ry : Rv S ρ H y i) (rz : Rv S ρ H z v) (e : opPut o i v h = .ok () h') {Q : Hp → Prop}
    (q : ∀ ρ' H', Xt S ρ H ρ' H' → Rl S ρ' H' h' → Q H') : wPs X x y z H Q := by
  unfold opPut at e
  split at e
  · rename_i n
    split at e
    · rename_i xs hn
      split at e
      · rename_i k
        split at e
        · rename_i j hj
          cases e
          obtain ⟨p, ep, rfl⟩ := rx.r
          obtain ⟨vs, h1, r1⟩ := rl.lst ep (show lstAt h n = some xs by unfold lstAt; rw [hn])
          cases ry.i
          have x1 : Xt S ρ H ρ (upd H p (.lst (vs.set j z))) := .write (List.mem_of_getElem? ep) (by rw [h1]; trivial)
          refine wPs_of set_list ⟨p, vs, k, j, rfl, rfl, h1, by rw [r1.length]; exact hj, q ρ _ x1 (rl.put x1 ep ⟨vs.set j z, upd_same, ?_⟩)⟩
          exact (r1.mono x1).set j (rz.mono x1)
        · cases e
      · cases e
    · rename_i kvs hn
      cases hk : (keyD i && Nat.blt kvs.length LIM) with
      | false => rw [hk] at e; cases e
      | true =>
        rw [hk] at e
        have e' : R.ok () (h.set n (.dct (kput i v kvs))) = .ok () h' := e
        cases e'
        rw [Bool.and_eq_true] at hk
        obtain ⟨p, ep, rfl⟩ := rx.r
        obtain ⟨p', ep', l, h1, r1⟩ := rl.at_ n _ hn
        rw [ep] at ep'; cases ep'
        have hlen : l.length = kvs.length := Paired.length r1
        have x1 : Xt S ρ H ρ (upd H p (.dK (putK l (keyV i) z))) := .write (List.mem_of_getElem? ep) (by rw [h1]; trivial)
        refine wPs_of (set_dict ok.hu) ⟨p, _, rfl, .inl ⟨l, keyV i, h1, key_V ry hk.1, ?_, rfl⟩, q ρ _ x1 (rl.put x1 ep ⟨_, upd_same, ?_⟩)⟩
        · rw [hlen, lim_eq]; exact Nat.le_of_ble_eq_true hk.2
        · exact kput_ok hk.1 (rz.mono x1) (r1.mono x1)
    · cases e
  · cases e
theorem sg_sub (ha : SE S Γ lv rt a ma) (hb : SE S Γ lv rt b mb) (hs : ∀ env v, assign (.Subscript a b pos) env v = (do
      let ov ← holding [v] (eval a env)
      let iv ← holding [v, ov] (eval b env)
      standAt pos
      holding [v, ov, iv] (setItem ov iv v)
      release [v, ov, iv] [])) : SG S Γ lv rt ws (.Subscript a b pos) (gS ma mb) := by
  intro X ok σ en ρ H h v d e' h' rs rl rv e Q q
  obtain ⟨x, h1, e1, e⟩ := R.bind_eq_ok e
  obtain ⟨y, h2, e2, e⟩ := R.bind_eq_ok e
  obtain ⟨_, h3, e3, e⟩ := R.bind_eq_ok e
  cases e
  refine wG_of (pg_sub pe_w pe_w pset_w (hs _)) (ha X ok σ en ρ H h x h1 rs rl e1 _ fun v1 ρ1 H1 x1 rl1 rv1 => ?_)
  refine hb X ok σ en ρ1 H1 h1 y h2 (rs.mono x1) rl1 e2 _ fun v2 ρ2 H2 x2 rl2 rv2 => ?_
  refine put_ok ok rl2 (rv1.mono x2) rv2 (rv.mono (x1.trans x2)) e3 fun ρ3 H3 x3 rl3 => ?_
  exact q σ ρ3 H3 ((x1.trans x2).trans x3) rl3 (rs.mono ((x1.trans x2).trans x3)) rfl
/-! ### statements -/
theorem ss_pass : SS S Γ lv rt (.Pass pos) sPass := by
  intro X ok σ en ρ H h sg h' rs rl e D q
  cases e
  exact wS_of ps_pass (show D.nx σ H from q σ ρ H .refl rl rs)
theorem ss_break : SS S Γ lv rt (.Break pos) sBreak := by
  intro X ok σ en ρ H h sg h' rs rl e D q
  cases e
  exact wS_of ps_break (show D.bk σ H from q σ ρ H .refl rl rs)
theorem ss_cont : SS S Γ lv rt (.Continue pos) sCont := by
  intro X ok σ en ρ H h sg h' rs rl e D q
  cases e
  exact wS_of ps_continue (show D.ct σ H from q σ ρ H .refl rl rs)
theorem ss_ret (ha : SE S Γ lv rt a ma) : SS S Γ lv rt (.Return (some a) pos) (sRet ma) := by
  intro X ok σ en ρ H h sg h' rs rl e D q
  obtain ⟨d, h1, e1, e⟩ := R.bind_eq_ok e
  cases e
  exact wS_of (ps_ret pe_w) (ha X ok σ en ρ H h d _ rs rl e1 _ q)
theorem ss_retN : SS S Γ lv rt (.Return none pos) sRetN := by
  intro X ok σ en ρ H h sg h' rs rl e D q
  cases e
  exact wS_of ps_retN (show D.rt .non H from Po.here q rl rv_n)
theorem ss_expr (ha : SE S Γ lv rt a ma) (hs : ∀ env, swapsWith a none pos.line env = pure false) : SS S Γ lv rt (.Expr a pos) (sExpr ma) := by
  intro X ok σ en ρ H h sg h' rs rl e D q
  obtain ⟨d, h1, e1, e⟩ := R.bind_eq_ok e
  cases e
  exact wS_of (ps_expr pe_w (hs _)) (ha X ok σ en ρ H h d _ rs rl e1 _ fun v ρ1 H1 x1 rl1 rv => q σ ρ1 H1 x1 rl1 (rs.mono x1))
theorem ss_asg {t : Expr} {g : MG} (ha : SE S Γ lv rt a ma) (hg : SG S Γ lv rt ws t g) (hs : ∀ env, env.scope = Γ.sc → swapsWithSole [t] a pos.line env = pure false) (hw : ∀ env, env.scope = Γ.sc → swappedStores [t] a env = pure none) (hst : ∀ env, (assignEach [t] env).map (·.2) = [assign t env]) :
    SS S Γ lv rt (.Assign [t] a pos) (sAsg ma g) := by
  intro X ok σ en ρ H h sg h' rs rl e D q
  obtain ⟨d, h1, e1, e⟩ := R.bind_eq_ok e
  obtain ⟨en1, h2, e2, e⟩ := R.bind_eq_ok e
  cases e
  refine wS_of (ps_asg pe_w pg_w (hs _ ok.sc) (hw _ ok.sc) (hst _)) (ha X ok σ en ρ H h d h1 rs rl e1 _ fun v ρ1 H1 x1 rl1 rv => ?_)
  exact hg X ok σ en ρ1 H1 h1 v d en1 _ (rs.mono x1) rl1 rv e2 _ (PoG.w (PoG.later q x1))
theorem ss_set {i : Nat} {x : Str} {p : Pos} (ha : SE S Γ lv rt a ma) (hN : Γ.N[i]? = some x) (hx : L2.Loc Γ.sc x) (hf : Γ.fn x = true ∨ Γ.sc.names.lookup x = some .local) (hs : ∀ env, env.scope = Γ.sc → swapsWith a (some (.Name x p)) pos.line env = pure false) :
    SS S Γ lv rt (.Assign [.Name x p] a pos) (sAsg ma (gN i)) := by
  intro X ok σ en ρ H h sg h' rs rl e D q
  obtain ⟨d, h1, e1, e⟩ := R.bind_eq_ok e
  obtain ⟨en1, h2, e2, e⟩ := R.bind_eq_ok e
  cases e
  cases e2
  refine wS_of (ps_set (i := i) (by rw [ok.N]; exact ok.nd) (by rw [ok.N]; exact hN) (by rw [ok.sc]; exact hx) pe_w (hs _ ok.sc) (by rw [ok.fn, ok.sc]; exact hf)) (ha X ok σ en ρ H h d _ rs rl e1 _ fun v ρ1 H1 x1 rl1 rv => ?_)
  exact q _ ρ1 H1 x1 rl1 ((rs.mono x1).set rv i)
theorem sss_nil : SSs S Γ lv rt [] sPass := by
  intro X ok σ en ρ H h sg h' rs rl e D q
  cases e
  exact wSs_of pss_nil (show D.nx σ H from q σ ρ H .refl rl rs)
theorem sss_one {st : Stmt} {m : MS} (h : SS S Γ lv rt st m) : SSs S Γ lv rt [st] m := by
  intro X ok σ en ρ H hh sg h' rs rl e D q
  exact wSs_of (pss_one ps_w) (h X ok σ en ρ H hh sg h' rs rl e D q)
theorem sss_cons {st : Stmt} {r : List Stmt} {m n : MS} (hm : SS S Γ lv rt st m) (hn : SSs S Γ lv rt r n) : SSs S Γ lv rt (st :: r) (sSeq m n) := by
  intro X ok σ en ρ H h sg h' rs rl e D q
  obtain ⟨s1, h1, e1, e⟩ := R.bind_eq_ok e
  refine wSs_of (pss_cons ps_w pss_w) (hm X ok σ en ρ H h s1 h1 rs rl e1 _ ?_)
  cases s1 with
  | nx en1 => exact fun σ1 ρ1 H1 x1 rl1 rs1 => hn X ok σ1 en1 ρ1 H1 h1 sg h' rs1 rl1 e D (q.later x1)
  | bk en1 => cases e; exact q
  | ct en1 => cases e; exact q
  | rt d => cases e; exact q
theorem ss_if {x y : List Stmt} {m n : MS} (ht : STt S Γ lv rt a ta) (hm : SSs S Γ lv rt x m) (hn : SSs S Γ lv rt y n) : SS S Γ lv rt (.If a x y pos) (sIf ta m n) := by
  intro X ok σ en ρ H h sg h' rs rl e D q
  obtain ⟨c, h1, e1, e⟩ := R.bind_eq_ok e
  refine wS_of (ps_if pt_w pss_w pss_w) (ht X ok σ en ρ H h c h1 rs rl e1 _ fun ρ1 H1 x1 rl1 => ?_)
  cases c with
  | true => rw [if_pos rfl]; exact hm X ok σ en ρ1 H1 h1 sg h' (rs.mono x1) rl1 e D (q.later x1)
  | false => rw [if_neg (by decide)]; exact hn X ok σ en ρ1 H1 h1 sg h' (rs.mono x1) rl1 e D (q.later x1)
theorem XOk.never {X : Cx} (ok : XOk S Γ lv X) : PassesOwn (model X.prog X.w) X.A X.env X.xe := by rw [ok.xe]; exact PassesOwn.never
theorem ss_while {x : List Stmt} {m : MS} (ht : STt S Γ lv rt a ta) (hm : SSs S Γ lv rt x m) : SS S Γ lv rt (.While a x [] pos) (sWhile ta m) := by
  intro X ok σ en ρ H h sg h' rs rl e D q
  unfold sWhile at e
  refine wS_of (ps_while ok.never pt_w pss_w) ⟨fun n σ1 H1 => ∃ en1 ρ1 h1, Xt S ρ H ρ1 H1 ∧ Rs S ρ1 H1 σ1 en1 ∧ Rl S ρ1 H1 h1 ∧ whileF ta m rt n en1 h1 = .ok sg h', ⟨rt.fuel, en, ρ, h, .refl, rs, rl, e⟩, ?_⟩
  rintro n σ1 H1 ⟨en1, ρ1, h1, x1, rs1, rl1, e1⟩
  cases n with
  | zero => cases e1
  | succ n =>
    unfold whileF at e1
    obtain ⟨c, h2, e2, e1⟩ := R.bind_eq_ok e1
    refine ht X ok σ1 en1 ρ1 H1 h1 c h2 rs1 rl1 e2 _ fun ρ2 H2 x2 rl2 => ?_
    cases c with
    | false =>
      rw [if_neg (by decide)]
      have e3 : R.ok (Sg.nx en1) h2 = .ok sg h' := e1
      cases e3
      exact q σ1 ρ2 H2 (x1.trans x2) rl2 (rs1.mono x2)
    | true =>
      rw [if_pos rfl]
      obtain ⟨s3, h3, e3, e1⟩ := R.bind_eq_ok (show ((m rt en1 h2).bind _) = .ok sg h' from e1)
      refine ⟨fun σ4 H4 => ∃ en4 ρ4 h4, Xt S ρ H ρ4 H4 ∧ Rs S ρ4 H4 σ4 en4 ∧ Rl S ρ4 H4 h4 ∧ whileF ta m rt n en4 h4 = .ok sg h', fun σ4 H4 w => ⟨n, Nat.lt_succ_self n, w⟩, ?_⟩
      refine hm X ok σ1 en1 ρ2 H2 h2 s3 h3 (rs1.mono x2) rl2 e3 _ ?_
      cases s3 with
      | nx en4 => exact fun σ4 ρ4 H4 x4 rl4 rs4 => ⟨en4, ρ4, h3, (x1.trans x2).trans x4, rs4, rl4, e1⟩
      | ct en4 => exact fun σ4 ρ4 H4 x4 rl4 rs4 => ⟨en4, ρ4, h3, (x1.trans x2).trans x4, rs4, rl4, e1⟩
      | bk en4 => cases e1; exact PoG.later q (x1.trans x2)
      | rt d => cases e1; exact Po.later q (x1.trans x2)
theorem ss_for {t : Expr} {x : List Stmt} {m : MS} {mi : MI} {g : MG} (hi : SI S Γ lv rt t a mi) (hg : SG S Γ lv rt ws t g) (hm : SSs S Γ lv rt x m) (hs : ∀ env (v : Value), foldedSetIterable a env v = pure v) : SS S Γ lv rt (.For t a x [] pos) (sFor mi g m) := by
  intro X ok σ en ρ H h sg h' rs rl e D q
  obtain ⟨it, h0, e0, e⟩ := R.bind_eq_ok e
  refine wS_of (ps_for ok.never ok.calm pi_w pg_w pss_w (hs _)) (hi X ok σ en ρ H h it h0 rs rl e0 _ fun J ρ0 H0 x0 rl0 jo => ?_)
  refine ⟨fun i n σ1 H1 => ∃ en1 ρ1 h1, Xt S ρ0 H0 ρ1 H1 ∧ Rs S ρ1 H1 σ1 en1 ∧ Rl S ρ1 H1 h1 ∧ forF it g m rt n i en1 h1 = .ok sg h', ⟨rt.fuel, en, ρ0, h0, .refl, rs.mono x0, rl0, e⟩, ?_⟩
  rintro i n σ1 H1 ⟨en1, ρ1, h1, x1, rs1, rl1, e1⟩
  cases n with
  | zero => cases e1
  | succ n =>
    unfold forF at e1
    obtain ⟨j1, j2⟩ := jo i ρ1 H1 h1 x1 rl1
    split at e1
    · cases e1
    · rename_i hit
      cases e1
      exact .inl ⟨j1 hit, q σ1 ρ1 H1 (x0.trans x1) rl1 rs1⟩
    · rename_i d hit
      obtain ⟨go, yl⟩ := j2 d hit
      obtain ⟨en2, h2, e2, e1⟩ := R.bind_eq_ok e1
      obtain ⟨s3, h3, e3, e1⟩ := R.bind_eq_ok e1
      refine .inr ⟨go, fun σ4 H4 => ∃ en4 ρ4 h4, Xt S ρ0 H0 ρ4 H4 ∧ Rs S ρ4 H4 σ4 en4 ∧ Rl S ρ4 H4 h4 ∧ forF it g m rt n (i + 1) en4 h4 = .ok sg h', fun σ4 H4 w => ⟨n, Nat.lt_succ_self n, w⟩, fun v H2 yd => ?_⟩
      obtain ⟨ρ2, x2, rl2, rv2⟩ := yl v H2 yd
      refine hg X ok σ1 en1 ρ2 H2 h1 v d en2 h2 (rs1.mono x2) rl2 rv2 e2 _ fun σ3 ρ3 H3 x3 rl3 rs3 _ => ?_
      refine hm X ok σ3 en2 ρ3 H3 h2 s3 h3 rs3 rl3 e3 _ ?_
      cases s3 with
      | nx en4 => exact fun σ4 ρ4 H4 x4 rl4 rs4 => ⟨en4, ρ4, h3, ((x1.trans x2).trans x3).trans x4, rs4, rl4, e1⟩
      | ct en4 => exact fun σ4 ρ4 H4 x4 rl4 rs4 => ⟨en4, ρ4, h3, ((x1.trans x2).trans x3).trans x4, rs4, rl4, e1⟩
      | bk en4 => cases e1; exact PoG.later q (x0.trans ((x1.trans x2).trans x3))
      | rt d => cases e1; exact Po.later q (x0.trans ((x1.trans x2).trans x3))
end
end Den
/-! Den7: subscripts, slices, stars, parallel and augmented stores. -/
namespace Den
open PySem PySem.Spec L2
def wX (X : Cx) (slice : Expr) : R2 := fun x y H Q => ∀ (value : Expr) (pins : List (Addr × Obj)) (s : Shared) (σ : L2.St) (v u : Value), Inv X pins σ H s → RelV x v → RelV y u → subscripted slice false v u = operate [v, u] (getItem v u) → wpAny (model X.prog X.w) X.A (PyProof.Rows.subscriptTail value slice v u) (EP X pins σ Q) X.xe s
theorem wX_of {X : Cx} {slice : Expr} {r : R2} (p : IxR X r) {x y : V} {H : Hp} {Q : VK} (h : r x y H Q) : wX X slice x y H Q := fun value pins s σ v u I rx ry hs => p value slice pins s σ H x y v u Q I rx ry h hs
theorem ix_dct {X : Cx} (hu : X.A.units + 1 < cLine) : IxR X (fun x y H Q => ∃ a v, x = .ref a ∧ DGet H a y (some v) ∧ Q v H) := by
  intro value slice pins s σ H x y v u Q I rx ry h hs
  obtain ⟨a, z, rfl, g, q⟩ := h
  obtain rfl : v = Value.ref a := rx
  exact PyProof.Rows.tail_any (dict_typeIs I g) PySem.F.slot_dict_getitem.lookup (d_getItem hu I g ry fun w' s3 I3 rw' => ⟨z, H, I3, rw', q⟩) hs
section
variable {S : Sy} {Γ : Sc} {lv : Nat} {rt : Rt} {a b c : Expr} {ma mb mc : ME} {ta tb : MT} {pos : Pos} {ρ : List Addr} {H : Hp} {h h' : AH}
theorem atI_ok {vs : List V} {xs : List D} {i : Int} {d : D} (r : Rvs S ρ H vs xs) (e : atI xs i = some d) : ∃ v, atI vs i = some v ∧ Rv S ρ H v d := by
  unfold atI at e ⊢
  rw [r.length]
  cases z : ixN xs.length i with
  | none => rw [z] at e; cases e
  | some j =>
    rw [z] at e
    exact r.get e
theorem ixL_ok {xs : List D} {k d : D} (e : ixL xs k h = .ok d h') : ∃ i, k = .int i ∧ atI xs i = some d ∧ h' = h := by
  unfold ixL at e
  split at e
  · split at e
    · rename_i z
      cases e
      exact ⟨_, rfl, z, rfl⟩
    · cases e
  · cases e
theorem ix_ok {X : Cx} (ok : XOk S Γ lv X) {sl : Expr} {x y : V} {o i d : D} (rl : Rl S ρ H h) (rx : Rv S ρ H x o) (ry : Rv S ρ H y i) (e : opIx o i h = .ok d h') {Q : VK} (q : Po S ρ H h' d Q) : wX X sl x y H Q := by
  unfold opIx at e
  split at e
  · rename_i s
    split at e
    · rename_i k
      cases hl : Nat.ble s.length LIM with
      | false => rw [hl] at e; cases e
      | true =>
        rw [hl] at e
        have e' : (match atI s k with | some c => R.ok (D.str [c]) h | none => .bad) = .ok d h' := e
        split at e'
        · rename_i c hc
          cases e'
          cases rx.s; cases ry.i
          exact wX_of ix_str ⟨_, k, c, rfl, rfl, by rw [str_len, lim_eq]; exact Nat.le_of_ble_eq_true hl, hc, q.here rl (rv_s [c])⟩
        · cases e'
    · cases e
  · obtain ⟨k, rfl, z, rfl⟩ := ixL_ok e
    obtain ⟨p, vs, rfl, s1, r1⟩ := rx.t
    cases ry.i
    obtain ⟨v, ev, rv⟩ := atI_ok r1 z
    exact wX_of ix_tup ⟨p, vs, k, v, rfl, rfl, by rw [ok.K]; exact s1, ev, q.here rl rv⟩
  · obtain ⟨k, rfl, z, rfl⟩ := ixL_ok e
    obtain ⟨p, vs, rfl, s1, r1⟩ := rx.l
    cases ry.i
    obtain ⟨v, ev, rv⟩ := atI_ok r1 z
    exact wX_of ix_list ⟨p, vs, k, v, rfl, rfl, by rw [ok.K]; exact s1.seq, ev, q.here rl rv⟩
  · rename_i n
    split at e
    · rename_i xs hn
      obtain ⟨k, rfl, z, rfl⟩ := ixL_ok e
      obtain ⟨p, ep, rfl⟩ := rx.r
      obtain ⟨vs, h1, r1⟩ := rl.lst ep hn
      cases ry.i
      obtain ⟨v, ev, rv⟩ := atI_ok r1 z
      exact wX_of ix_list ⟨p, vs, k, v, rfl, rfl, .of h1, ev, q.here rl rv⟩
    · split at e
      · rename_i kvs hn
        cases hk : keyD i with
        | false => rw [hk] at e; cases e
        | true =>
          rw [hk] at e
          have e' : (match kget i kvs with | some d => R.ok d h | none => .bad) = .ok d h' := e
          split at e'
          · rename_i d' hd
            cases e'
            obtain ⟨p, ep, rfl⟩ := rx.r
            obtain ⟨l, h1, r1⟩ := rl.dct ep hn
            obtain ⟨ov, g, _, g3⟩ := dget_ok h1 r1 ry hk
            obtain ⟨v, rfl, rv⟩ := g3 _ hd
            exact wX_of (ix_dct ok.hu) ⟨p, v, rfl, g, q.here rl rv⟩
          · cases e'
      · cases e
  · split at e
    · rename_i s
      split at e
      · rename_i d' hd
        cases e
        obtain ⟨p, vs, rfl, kk, r1⟩ := rx.k
        cases ry.s
        obtain ⟨i, v, e1, e2, e3⟩ := kdGet_some (w := S.w) (a := p) (vs := []) kk.len r1 hd
        obtain ⟨u, hu, ru⟩ := kk.has i s v e1 e2
        obtain ⟨es, n, kdi⟩ := kk.lit
        rw [← ok.K] at hu kdi
        rw [← ok.w] at kdi
        exact wX_of ix_kdict ⟨p, _, v, rfl, rfl, ⟨es, n, u, kdi.at_, kdi.lit, hu, ru⟩, q.here rl e3⟩
      · cases e
    · cases e
  · cases e
theorem se_ix (ha : SE S Γ lv rt a ma) (hb : SE S Γ lv rt b mb) (hs : PlainIx b) : SE S Γ lv rt (.Subscript a b pos) (mBin opIx ma mb) := by
  intro X ok σ en ρ H h d h' rs rl e Q q
  obtain ⟨x, h1, e1, e⟩ := R.bind_eq_ok e
  obtain ⟨y, h2, e2, e⟩ := R.bind_eq_ok e
  have hw : PE X (.Subscript a b pos) (fun σ H Q => wE X a σ H fun x H1 => wE X b σ H1 fun y H2 => wX X b x y H2 Q) := by
    refine ⟨fun pins s σ H Q I h => ?_⟩
    exact PyProof.Rows.Subscript_ (binT pe_w pe_w I h fun v u s2 x y H2 I2 rx ry q => q a pins s2 σ v u I2 rx ry (hs _ _))
  refine wE_of hw (ha X ok σ en ρ H h x h1 rs rl e1 _ fun v ρ1 H1 x1 rl1 rv => ?_)
  refine hb X ok σ en ρ1 H1 h1 y h2 (rs.mono x1) rl1 e2 _ fun u ρ2 H2 x2 rl2 ru => ?_
  exact ix_ok ok rl2 (rv.mono x2) ru e (q.later (x1.trans x2))
/-! ### slices -/
def wSl (X : Cx) : V → Option Int → Option Int → Hp → VK → Prop := fun x lo hi H Q => ∀ (pins : List (Addr × Obj)) (s : Shared) (σ : L2.St) (v vl vu : Value) (sl : Addr), Inv X pins σ H s → RelV x v → s.heap.IsSliceOf sl vl vu .none → IsPart vl lo → IsPart vu hi →
    ∃ T id, typeLookup (.type T) "__getitem__" = pure (some (.builtin id)) ∧ s.TypeIs v T ∧ wpAny (model X.prog X.w) X.A (getItem v (.ref sl)) (EP X pins σ Q) X.xe s
theorem sl_w {X : Cx} : SlR X (wSl X) := fun pins s σ _ _ v vl vu _ _ sl _ I rx hs pl pu q => q pins s σ v vl vu sl I rx hs pl pu
theorem wSl_of {X : Cx} {r : V → Option Int → Option Int → Hp → VK → Prop} (p : SlR X r) {x : V} {lo hi : Option Int} {H : Hp} {Q : VK} (q : r x lo hi H Q) : wSl X x lo hi H Q := fun pins s σ v vl vu sl I rx hs pl pu => p pins s σ H x v vl vu lo hi sl Q I rx hs pl pu q
def wP (X : Cx) (e : Option Expr) : TO := fun σ H Q => ∀ (pins : List (Addr × Obj)) (s : Shared), Inv X pins σ H s → wpAny (model X.prog X.w) X.A (evalPart e X.env) (fun u s' => ∃ o H', Inv X pins σ H' s' ∧ IsPart u o ∧ Q o H') X.xe s
theorem po_w {X : Cx} {e : Option Expr} : PO X e (wP X e) := ⟨fun pins s _ _ _ I h => h pins s I⟩
theorem wP_of {X : Cx} {e : Option Expr} {t : TO} (p : PO X e t) {σ : L2.St} {H : Hp} {Q : Option Int → Hp → Prop} (h : t σ H Q) : wP X e σ H Q := fun pins s I => p.run pins s σ H Q I h
def SP (S : Sy) (Γ : Sc) (lv : Nat) (rt : Rt) (e : Option Expr) (m : Option ME) : Prop := ∀ X, XOk S Γ lv X → ∀ σ en ρ H h o h', Rs S ρ H σ en → Rl S ρ H h → oPart m rt en h = .ok o h' → ∀ Q, (∀ ρ' H', Xt S ρ H ρ' H' → Rl S ρ' H' h' → Q o H') → wP X e σ H Q
theorem sp_none : SP S Γ lv rt none none := by
  intro X ok σ en ρ H h o h' rs rl e Q q
  cases e
  exact wP_of po_none (show Q none H from q ρ H .refl rl)
theorem sp_some (ha : SE S Γ lv rt a ma) : SP S Γ lv rt (some a) (some ma) := by
  intro X ok σ en ρ H h o h' rs rl e Q q
  obtain ⟨x, h1, e1, e⟩ := R.bind_eq_ok (show ((ma rt en h).bind fun x h1 => match x with
    | .int i => .ok (some i) h1
    | _ => .bad) = .ok o h' from e)
  refine wP_of (po_some pe_w) (ha X ok σ en ρ H h x h1 rs rl e1 _ fun v ρ1 H1 x1 rl1 rv => ?_)
  split at e
  · cases e
    cases rv.i
    exact ⟨_, rfl, q ρ1 H1 x1 rl1⟩
  · cases e
theorem Rvs.cut {vs : List V} {xs : List D} (r : Rvs S ρ H vs xs) (lo hi : Option Int) : Rvs S ρ H (cutV vs lo hi) (cutD xs lo hi) := by
  unfold cutV cutD
  rw [r.length]
  exact (r.drop _).take _
theorem sIx_le (n : Nat) (lo : Option Int) : HT.sIx n 0 lo ≤ n := HT.sIx_le _ _ (Nat.zero_le _) _
theorem sl_ok {X : Cx} (ok : XOk S Γ lv X) {x : V} {o d : D} {lo hi : Option Int} (rl : Rl S ρ H h) (rx : Rv S ρ H x o) (e : opSl o lo hi h = .ok d h') {Q : VK} (q : Po S ρ H h' d Q) : wSl X x lo hi H Q := by
  unfold opSl at e
  split at e
  · rename_i s
    split at e
    · rename_i hl
      cases e
      cases rx.s
      refine wSl_of sl_str ⟨_, rfl, by rw [str_len, lim_eq]; exact hl, ?_⟩
      refine q.here rl ?_
      unfold cutS cutD
      rw [str_len]
      exact rv_s _
    · cases e
  · rename_i xs
    cases e
    obtain ⟨p, vs, rfl, s1, r1⟩ := rx.t
    refine wSl_of sl_tupA ⟨p, vs, rfl, by rw [ok.K]; exact s1, fun w => ?_, fun w p n => q.tup rl n (r1.cut lo hi)⟩
    have e1 : cutD xs lo hi = xs := by
      unfold cutD
      rw [← r1.length, w.1, w.2, List.drop_zero, Nat.sub_zero, r1.length, List.take_length]
    rw [e1] at q
    exact q.here rl (rv_t s1 r1)
  · rename_i xs
    obtain ⟨p, vs, rfl, s1, r1⟩ := rx.l
    exact wSl_of sl_list ⟨p, vs, rfl, by rw [ok.K]; exact s1.seq, fun p n => Po.lst rl e q n (r1.cut lo hi)⟩
  · rename_i n
    split at e
    · rename_i xs hn
      obtain ⟨p, ep, rfl⟩ := rx.r
      obtain ⟨vs, h1, r1⟩ := rl.lst ep hn
      exact wSl_of sl_list ⟨p, vs, rfl, .of h1, fun p n => Po.lst rl e q n (r1.cut lo hi)⟩
    · cases e
  · cases e
theorem se_sl {lo hi : Option Expr} {ml mh : Option ME} {p2 : Pos} (ha : SE S Γ lv rt a ma) (hl : SP S Γ lv rt lo ml) (hh : SP S Γ lv rt hi mh) : SE S Γ lv rt (.Subscript a (.Slice lo hi none p2) pos) (mSl ma ml mh) := by
  intro X ok σ en ρ H h d h' rs rl e Q q
  obtain ⟨x, h1, e1, e⟩ := R.bind_eq_ok e
  obtain ⟨l, h2, e2, e⟩ := R.bind_eq_ok e
  obtain ⟨u, h3, e3, e⟩ := R.bind_eq_ok e
  refine wE_of (pe_slice sl_w pe_w po_w po_w) (ha X ok σ en ρ H h x h1 rs rl e1 _ fun v ρ1 H1 x1 rl1 rv => ?_)
  refine hl X ok σ en ρ1 H1 h1 l h2 (rs.mono x1) rl1 e2 _ fun ρ2 H2 x2 rl2 => ?_
  refine hh X ok σ en ρ2 H2 h2 u h3 (rs.mono (x1.trans x2)) rl2 e3 _ fun ρ3 H3 x3 rl3 => ?_
  exact sl_ok ok rl3 (rv.mono (x2.trans x3)) e (q.later ((x1.trans x2).trans x3))
/-- xs[::-1] of a list -/
def mRevL (a : ME) : ME := fun rt e h => (a rt e h).bind fun x h1 => match itemsL h1 x with
  | some xs => alloc (.lst xs.reverse) h1
  | none => .bad
/-- a list of whatever kind -/
theorem itemsL_ok {X : Cx} (ok : XOk S Γ lv X) (rl : Rl S ρ H h) {x : V} {a : D} {xs : List D} (rx : Rv S ρ H x a) (e : itemsL h a = some xs) : ∃ p vs, x = .ref p ∧ SqL X.K H p vs ∧ Rvs S ρ H vs xs := by
  unfold itemsL at e
  split at e
  · cases e
    obtain ⟨p, vs, rfl, s1, r1⟩ := rx.l
    exact ⟨p, vs, rfl, by rw [ok.K]; exact s1.seq, r1⟩
  · obtain ⟨p, ep, rfl⟩ := rx.r
    obtain ⟨vs, h1, r1⟩ := rl.lst ep e
    exact ⟨p, vs, rfl, .of h1, r1⟩
  · cases e
theorem itemsS_ok {X : Cx} (ok : XOk S Γ lv X) (rl : Rl S ρ H h) {x : V} {a : D} {xs : List D} (rx : Rv S ρ H x a) (e : itemsS h a = some xs) : ∃ p vs, x = .ref p ∧ (SqT X.K H p vs ∨ SqL X.K H p vs) ∧ Rvs S ρ H vs xs := by
  unfold itemsS at e
  split at e
  · cases e
    obtain ⟨p, vs, rfl, s1, r1⟩ := rx.t
    exact ⟨p, vs, rfl, .inl (by rw [ok.K]; exact s1), r1⟩
  · obtain ⟨p, vs, rfl, s1, r1⟩ := itemsL_ok ok rl rx e
    exact ⟨p, vs, rfl, .inr s1, r1⟩
theorem se_revL {k : Nat} {p1 p2 p3 : Pos} (ha : SE S Γ lv rt a ma) : SE S Γ lv rt (.Subscript a (.Slice none none (some (.UnaryOp .USub (.Constant (.int 1) k p1) p2)) p3) pos) (mRevL ma) := by
  intro X ok σ en ρ H h d h' rs rl e Q q
  obtain ⟨x, h1, e1, e⟩ := R.bind_eq_ok e
  refine wE_of (pe_revL pe_w) (ha X ok σ en ρ H h x h1 rs rl e1 _ fun v ρ1 H1 x1 rl1 rv => ?_)
  split at e
  · rename_i xs hx
    obtain ⟨p, vs, rfl, s1, r1⟩ := itemsL_ok ok rl1 rv hx
    exact ⟨p, vs, rfl, s1, fun p n => Po.lst rl1 e (q.later x1) n r1.reverse⟩
  · cases e
/-! ### stars -/
def aStar (a : ME) (r : MA) : MA := fun rt e h => (a rt e h).bind fun x h1 => match itemsS h1 x with
  | some xs => (r rt e h1).bind fun ys h2 => .ok (xs ++ ys) h2
  | none => .bad
theorem sa_star {es : List Expr} {m : MA} (ha : SE S Γ lv rt a ma) (hr : SA S Γ lv rt es m) (hs : ∀ env, starEach (.Starred a pos :: es) env = (true, eval a env) :: starEach es env) : SA S Γ lv rt (.Starred a pos :: es) (aStar ma m) := by
  intro X ok σ en ρ H h ds h' rs rl e Q q
  obtain ⟨x, h1, e1, e⟩ := R.bind_eq_ok e
  refine wA_of (StX.pa_star pe_w pa_w (hs _)) (ha X ok σ en ρ H h x h1 rs rl e1 _ fun v ρ1 H1 x1 rl1 rv => ?_)
  split at e
  · rename_i xs hx
    obtain ⟨ys, h2, e2, e⟩ := R.bind_eq_ok e
    cases e
    obtain ⟨p, vs, rfl, s1, r1⟩ := itemsS_ok ok rl1 rv hx
    refine ⟨p, vs, rfl, s1, hr X ok σ en ρ1 H1 h1 ys _ (rs.mono x1) rl1 e2 _ fun ws ρ2 H2 x2 rl2 rws => ?_⟩
    exact q _ ρ2 H2 (x1.trans x2) rl2 ((r1.mono x2).append rws)
  · cases e
/-! ### a, b = x, y -/
def sPar2 (i j : Nat) (a : MA) : MS := fun rt e h => (a rt e h).bind fun ds h1 => match ds with
  | [x, y] => .ok (.nx ((e.set i (some x)).set j (some y))) h1
  | _ => .bad
def sPar3 (i j k : Nat) (a : MA) : MS := fun rt e h => (a rt e h).bind fun ds h1 => match ds with
  | [x, y, z] => .ok (.nx (((e.set i (some x)).set j (some y)).set k (some z))) h1
  | _ => .bad
theorem ss_par {i j : Nat} {x y : Str} {px py pt : Pos} {kt k2 : Nat} {pt2 : Pos} {m : MA} (hi : Γ.N[i]? = some x) (hj : Γ.N[j]? = some y) (hij : i ≠ j) (hx : Γ.sc.names.lookup x = some .local) (hy : Γ.sc.names.lookup y = some .local) (ha : SA S Γ lv rt [a, b] m)
    (hw : ∀ env, env.scope = Γ.sc → swappedStores [.Tuple [.Name x px, .Name y py] kt pt] (.Tuple [a, b] k2 pt2) env = pure (some [x, y]))
    (hs : ∀ env, env.scope = Γ.sc → swapsWithSole [.Tuple [.Name x px, .Name y py] kt pt] (.Tuple [a, b] k2 pt2) pos.line env = pure false) :
    SS S Γ lv rt (.Assign [.Tuple [.Name x px, .Name y py] kt pt] (.Tuple [a, b] k2 pt2) pos) (sPar2 i j m) := by
  intro X ok σ en ρ H h sg h' rs rl e D q
  obtain ⟨ds, h1, e1, e⟩ := R.bind_eq_ok e
  refine wS_of (ps_par (i := i) (j := j) ok.calm (by rw [ok.N]; exact ok.nd) (by rw [ok.N]; exact hi) (by rw [ok.N]; exact hj) hij (by rw [ok.sc]; exact hx) (by rw [ok.sc]; exact hy) pa_w (hw _ ok.sc) (hs _ ok.sc)) (ha X ok σ en ρ H h ds _ rs rl e1 _ fun vs ρ1 H1 x1 rl1 rvs => ?_)
  split at e
  · rename_i d1 d2
    cases e
    obtain ⟨v, w, rfl, r1, r2⟩ := rvs.two
    exact ⟨v, w, rfl, q _ ρ1 H1 x1 rl1 (((rs.mono x1).set r1 i).set r2 j)⟩
  · cases e
theorem ss_par3 {i j l : Nat} {x y z : Str} {px py pz pt : Pos} {kt k2 : Nat} {pt2 : Pos} {m : MA} (hi : Γ.N[i]? = some x) (hj : Γ.N[j]? = some y) (hl : Γ.N[l]? = some z) (hij : i ≠ j) (hil : i ≠ l) (hjl : j ≠ l) (hx : Γ.sc.names.lookup x = some .local) (hy : Γ.sc.names.lookup y = some .local) (hz : Γ.sc.names.lookup z = some .local) (ha : SA S Γ lv rt [a, b, c] m)
    (hw : ∀ env, env.scope = Γ.sc → swappedStores [.Tuple [.Name x px, .Name y py, .Name z pz] kt pt] (.Tuple [a, b, c] k2 pt2) env = pure (some [x, y, z]))
    (hs : ∀ env, env.scope = Γ.sc → swapsWithSole [.Tuple [.Name x px, .Name y py, .Name z pz] kt pt] (.Tuple [a, b, c] k2 pt2) pos.line env = pure false) :
    SS S Γ lv rt (.Assign [.Tuple [.Name x px, .Name y py, .Name z pz] kt pt] (.Tuple [a, b, c] k2 pt2) pos) (sPar3 i j l m) := by
  intro X ok σ en ρ H h sg h' rs rl e D q
  obtain ⟨ds, h1, e1, e⟩ := R.bind_eq_ok e
  refine wS_of (ps_par3 (i := i) (j := j) (l := l) ok.calm (by rw [ok.N]; exact ok.nd) (by rw [ok.N]; exact hi) (by rw [ok.N]; exact hj) (by rw [ok.N]; exact hl) hij hil hjl (by rw [ok.sc]; exact hx) (by rw [ok.sc]; exact hy) (by rw [ok.sc]; exact hz) pa_w (hw _ ok.sc) (hs _ ok.sc)) (ha X ok σ en ρ H h ds _ rs rl e1 _ fun vs ρ1 H1 x1 rl1 rvs => ?_)
  split at e
  · rename_i d1 d2 d3
    cases e
    obtain ⟨v, r, rfl, r1, rr⟩ := rvs.cons_iff
    obtain ⟨w, u, rfl, r2, r3⟩ := rr.two
    exact ⟨v, w, u, rfl, q _ ρ1 H1 x1 rl1 ((((rs.mono x1).set r1 i).set r2 j).set r3 l)⟩
  · cases e
/-! ### x op= y, o[i] op= y -/
def SOi (S : Sy) (lv : Nat) (op : Operator) (f : Op2) : Prop := SO S lv (inplaceOp op) f
theorem pip_w {X : Cx} {op : Operator} : PIp X op (wO X (inplaceOp op)) := fun pins s σ H x y v u Q I rx ry h => h pins s σ v u I rx ry
def sAug (i : Nat) (f : Op2) (m : ME) : MS := fun rt e h => match e[i]? with
  | some (some x) => (m rt e h).bind fun y h1 => (f x y h1).bind fun z h2 => .ok (.nx (e.set i (some z))) h2
  | _ => .bad
theorem ss_aug {i : Nat} {x : Str} {op : Operator} {f : Op2} {p : Pos} (ho : SO S lv (inplaceOp op) f) (ha : SE S Γ lv rt a ma) (hN : Γ.N[i]? = some x) (hx : L2.Loc Γ.sc x) (hf : Γ.fn x = true ∨ Γ.sc.names.lookup x = some .local) : SS S Γ lv rt (.AugAssign (.Name x p) op a pos) (sAug i f ma) := by
  intro X ok σ en ρ H h sg h' rs rl e D q
  unfold sAug at e
  split at e
  · rename_i dx hdx
    obtain ⟨y, h1, e1, e⟩ := R.bind_eq_ok e
    obtain ⟨z, h2, e2, e⟩ := R.bind_eq_ok e
    cases e
    obtain ⟨v, ev, rv⟩ := rs.at_ i dx hdx
    refine wS_of (ps_aug (i := i) (by rw [ok.N]; exact ok.nd) (by rw [ok.N]; exact hN) (by rw [ok.sc]; exact hx) pe_w pip_w (by rw [ok.fn, ok.sc]; exact hf)) ⟨v, ev, ha X ok σ en ρ H h y h1 rs rl e1 _ fun u ρ1 H1 x1 rl1 ru => ?_⟩
    refine ho X ⟨Γ, ok⟩ v u dx y ρ1 H1 h1 z _ rl1 (rv.mono x1) ru e2 _ fun w ρ2 H2 x2 rl2 rw' => ?_
    exact q _ ρ2 H2 (x1.trans x2) rl2 ((rs.mono (x1.trans x2)).set rw' i)
  · cases e
/-- += : ints, text; a list grows -/
def opIadd : Op2 := fun a b h => match a, b with
  | .int i, .int j => .ok (.int (i + j)) h
  | .str s, .str t => if s.length + t.length ≤ LIM then .ok (.str (s ++ t)) h else .bad
  | .ref n, .ref m => match lstAt h n, lstAt h m with
    | some xs, some ys => if xs.length + ys.length ≤ LIM then .ok (.ref n) (h.set n (.lst (xs ++ ys))) else .bad
    | _, _ => .bad
  | _, _ => .bad
theorem lstAt_eq {n : Nat} {xs : List D} (e : lstAt h n = some xs) : h[n]? = some (.lst xs) := by
  unfold lstAt at e
  split at e
  · rename_i ys z; cases e; exact z
  · cases e
theorem so_iadd' : SO S lv (inplaceOp .Add) opIadd := by
  intro X hX x y a b ρ H h d h' rl rx ry e Q q
  unfold opIadd at e
  split at e
  · cases e
    cases rx.i; cases ry.i
    exact wO_of iop_add ⟨_, _, rfl, rfl, q.here rl (rv_i _)⟩
  · rename_i s t
    split at e
    · rename_i hl
      cases e
      cases rx.s; cases ry.s
      refine wO_of iop_add_str ⟨_, _, rfl, rfl, ?_, ?_⟩
      · rw [str_len, str_len, lim_eq]; exact hl
      · rw [str_app]; exact q.here rl (rv_s _)
    · cases e
  · rename_i n m
    split at e
    · rename_i xs ys l1 l2
      split at e
      · rename_i hl
        cases e
        obtain ⟨a, e1, rfl⟩ := rx.r
        obtain ⟨b, e2, rfl⟩ := ry.r
        obtain ⟨vs, h1, r1⟩ := rl.lst e1 l1
        obtain ⟨ws, h2, r2⟩ := rl.lst e2 l2
        have x1 : Xt S ρ H ρ (upd H a (.lst (vs ++ ws))) := .write (List.mem_of_getElem? e1) (by rw [h1]; trivial)
        refine wO_of iop_ext ⟨a, b, vs, ws, rfl, rfl, h1, h2, by rw [r1.length, r2.length, lim_eq]; exact hl, ?_⟩
        exact q _ ρ _ x1 (rl.put x1 e1 ⟨_, upd_same, (r1.append r2).mono x1⟩) (rv_r e1)
      · cases e
    · cases e
  · cases e
theorem so_isub : SO S lv (inplaceOp .Sub) opSub := by
  intro X hX x y a b ρ H h d h' rl rx ry e Q q
  unfold opSub at e
  split at e
  · cases e
    cases rx.i; cases ry.i
    exact wO_of iop_sub ⟨_, _, rfl, rfl, q.here rl (rv_i _)⟩
  · cases e
end
end Den
/-! Den8: enumerate over anything (the model's side). -/
namespace Den
open PySem PySem.Spec L2
def IteG (gAt vAt : Nat → Hp → V → Prop) (stopAt : Nat → Hp → Prop) : It :=
  ⟨fun i H => ∃ x, gAt i H x, fun i H v H' => ∃ T x, v = .ref T ∧ H T = none ∧ H' = upd H T (.tup [.int (i : Nat), x]) ∧ vAt i H x, stopAt⟩
theorem turn_enumG {P : Program} {w : World} {K : PySem.W.Frag} {elts : List Expr} {kk : Nat} {tpos : Pos} (gAt vAt : Nat → Hp → V → Prop) (stopAt : Nat → Hp → Prop) (St : Nat → Heap → Prop) (e it : Addr)
    (hobj : ∀ i h, St i h → ∃ o, h.get? it = some o ∧ ∀ v, o.data ≠ .cell v)
    (hkeep : ∀ i h h', St i h → (∀ o, h.get? it = some o → h'.get? it = some o) → St i h')
    (hD : ∀ (X : Cx), X.prog = P → X.w = w → X.K = K → X.calm = true → ∀ (pins : List (Addr × Obj)) (σ : L2.St) (H : Hp) (s : Shared) (i : Nat), Inv X pins σ H s → St i s.heap → (∃ old, IsEnum s.heap e it ((i : Nat) : Int) old) →
      (∀ x, gAt i H x → ∃ (fp : List Addr) (n : Nat) (Pv : Nat → Value → Prop) (St' : Nat → Heap → Prop), Draws X.prog X.w X.A.in1 it fp n Pv St' ∧ St' i s.heap ∧ i < n ∧ e ∉ fp ∧ (∀ v, Pv i v → ∃ y, RelV y v ∧ vAt i H y) ∧ ∀ h', St' (i + 1) h' → St (i + 1) h') ∧
      (stopAt i H → ∃ (fp : List Addr) (n : Nat) (Pv : Nat → Value → Prop) (St' : Nat → Heap → Prop), Draws X.prog X.w X.A.in1 it fp n Pv St' ∧ St' n s.heap)) :
    Turn P w K (.Tuple elts kk tpos) (IteG gAt vAt stopAt) [e, it] e (fun i h => (∃ old, IsEnum h e it ((i : Nat) : Int) old) ∧ St i h ∧ e ≠ it) where
  mem := by simp
  obj := fun i h st b hb => by
    obtain ⟨⟨old, he⟩, hs, _⟩ := st
    have e' : b = e ∨ b = it := by simpa using hb
    rcases e' with z | z
    · rw [z]; exact ⟨_, he, fun v q => nomatch q⟩
    · rw [z]; exact hobj i h hs
  keep := fun i h h' st k => let ⟨⟨old, he⟩, hi, hne⟩ := st; ⟨⟨old, k e (by simp) _ he⟩, hkeep i h h' hi fun o q => k it (by simp) o q, hne⟩
  item := by
    intro X hP hw hK hc i pins s σ H E I hf st hg
    obtain ⟨⟨old, he⟩, hit, hne⟩ := st
    obtain ⟨x0, hx0⟩ := hg
    obtain ⟨fp, n, Pv, St', D, hst, hlt, hef, hPv, hnx⟩ := (hD X hP hw hK hc pins σ H s i I hit ⟨old, he⟩).1 x0 hx0
    subst hP hw hK
    have hel : e < s.heap.objs.size := Heap.lt_size he
    have hil : it < s.heap.objs.size := by obtain ⟨_, q, _⟩ := hobj _ _ hit; exact Heap.lt_size q
    refine wpAny_pyNext_enum_itemD D he hst hlt hne hef fun u h' tk hP ho hs' hT hsz hk => ?_
    obtain ⟨x, ru, hx⟩ := hPv u hP
    refine ⟨_, rfl, wpAny_letOwnedTupleGo_enum (s := { s with heap := h', toks := tk + 1 }) ho fun h'' he' sb => ?_⟩
    have hT2 : h''.get? s.heap.objs.size = some { cls := .type "tuple", data := .seq #[.int i tk, u] } := (sb.2 _ (Nat.ne_of_gt hel)).trans hT
    have new : ObjOk X.prog X.w (upd H s.heap.objs.size (.tup [.int (i : Nat), x])) h'' s.heap.objs.size (.tup [.int (i : Nat), x]) :=
      ⟨by show 2 ≤ sizeLine; decide, [.int i tk, u], .cons ⟨_, rfl⟩ (.cons ru .nil), ⟨_, hT2, rfl, _, rfl⟩⟩
    have I1 : Inv X pins σ (upd H s.heap.objs.size (.tup [.int (i : Nat), x])) { s with heap := h'', toks := tk + 1 } :=
      I.turnedNew (ch := [e, it]) (fun b ob hb q => (sb.2 b (fun z => hb (by simp [z]))).trans (hk b ob (fun z => hb (by simp [z])) (fun z => hb (by simp [z])) q)) hf (Nat.le_refl _) new
    refine ⟨.ref s.heap.objs.size, _, I1, rfl, ⟨_, x, rfl, I.hok.fresh (Nat.le_refl _), rfl, hx⟩, ⟨⟨u, ?_⟩, hkeep _ _ _ (hnx _ hs') fun o q => (sb.2 it (Ne.symm hne)).trans q, hne⟩, fun b hb => ?_⟩
    · have e1 : ((i + 1 : Nat) : Int) = (i : Int) + 1 := by omega
      rw [e1]; exact he'
    · have hb' : b < s.heap.objs.size := by
        have e' : b = e ∨ b = it := by simpa using hb
        rcases e' with z | z
        · rw [z]; exact hel
        · rw [z]; exact hil
      rw [upd_ne (Nat.ne_of_lt hb')]
      exact (hf b hb).1
  done := by
    intro X hP hw hK hc i pins s σ H E I hf st hg
    obtain ⟨⟨old, he⟩, hit, hne⟩ := st
    obtain ⟨fp, n, Pv, St', D, hst⟩ := (hD X hP hw hK hc pins σ H s i I hit ⟨old, he⟩).2 hg
    subst hP hw hK
    obtain ⟨f0, f1, f2, f3, f4, f5⟩ := hf it (by simp)
    exact wpAny_pyNext_enum_endD D he hst fun h' eb => ⟨rfl, I.turned (t' := s.toks) (fun b o hb q => eb b o hb q) f0 f1 f3 f4 f5⟩
  self := fun A i s Q E st h => let ⟨⟨_, he⟩, _⟩ := st; wpAny_pyIter_enum he h
theorem in1_hd {X : Cx} {pins : List (Addr × Obj)} {σ : L2.St} {H : Hp} {s : Shared} (I : Inv X pins σ H s) (hc : X.calm = true) : X.A.in1.handled = none := I.ok.hd hc
theorem turn_enumT {P : Program} {w : World} {K : PySem.W.Frag} {elts : List Expr} {kk : Nat} {tpos : Pos} (a e it : Addr) :
    Turn P w K (.Tuple elts kk tpos) (IteG (fun i H x => ∃ xs, SqT K H a xs ∧ xs[i]? = some x) (fun i H x => ∀ xs, SqT K H a xs → xs[i]? = some x) (fun i H => ∃ xs, SqT K H a xs ∧ xs.length = i)) [e, it] e (fun i h => (∃ old, IsEnum h e it ((i : Nat) : Int) old) ∧ h.IsTupleIter it a i ∧ e ≠ it) := by
  refine turn_enumG _ _ _ (fun i h => h.IsTupleIter it a i) e it (fun i h st => ?_) (fun i h h' st k => st.at k) fun X hP hw hK hc pins σ H s i I st he => ⟨fun x hx => ?_, fun hs => ?_⟩
  · obtain ⟨o, h1, h2, h3⟩ := st
    exact ⟨o, h1, fun v z => by rw [h3] at z; cases z⟩
  · subst hK
    obtain ⟨xs, hq, hx⟩ := hx
    obtain ⟨its, rv, p, hz⟩ := I.tuple hq
    obtain ⟨u, hu, ru⟩ := rv.get hx
    obtain ⟨old, he⟩ := he
    have hat : a ≠ it := fun z => by
      obtain ⟨o, h1, h2, _⟩ := p
      obtain ⟨o', h1', h2', _⟩ := st
      rw [← z, h1] at h1'
      cases h1'
      rw [h2] at h2'
      exact absurd h2' (by decide)
    have hea : e ∉ [it, a] := fun z => by
      rcases List.mem_cons.mp z with z | z
      · obtain ⟨o', h1', h2', _⟩ := st
        rw [← z, he] at h1'
        cases h1'
        have q : Value.type "enumerate" = Value.type "tuple_iterator" := h2'
        injection q with q
        exact absurd q (by decide)
      · rw [List.mem_singleton] at z
        obtain ⟨o, h1, h2, _⟩ := p
        rw [← z, he] at h1
        cases h1
        have q : Value.type "enumerate" = Value.type "tuple" := h2
        injection q with q
        exact absurd q (by decide)
    refine ⟨[it, a], _, _, _, Draws.tuple (in1_hd I hc) it a hat its.toArray, ⟨st, p⟩, ?_, hea, fun v hv => ?_, fun h' z => z.1⟩
    · have := (List.getElem?_eq_some_iff.mp hx).1
      rw [List.size_toArray, ← rv.length]; exact this
    · have hv' : its.toArray[i]? = some v := hv
      rw [List.getElem?_toArray, hu] at hv'
      cases hv'
      exact ⟨x, ru, fun ys hy => by rw [I.tuple_inj hy hq]; exact hx⟩
  · subst hK
    obtain ⟨xs, hq, hx⟩ := hs
    obtain ⟨its, rv, p, hz⟩ := I.tuple hq
    have hat : a ≠ it := fun z => by
      obtain ⟨o, h1, h2, _⟩ := p
      obtain ⟨o', h1', h2', _⟩ := st
      rw [← z, h1] at h1'
      cases h1'
      rw [h2] at h2'
      exact absurd h2' (by decide)
    refine ⟨[it, a], _, _, _, Draws.tuple (in1_hd I hc) it a hat its.toArray, ?_, p⟩
    have e1 : its.toArray.size = i := by rw [List.size_toArray, ← rv.length]; exact hx
    rw [e1]; exact st
theorem turn_enumS {P : Program} {w : World} {K : PySem.W.Frag} {elts : List Expr} {kk : Nat} {tpos : Pos} (x : Str) (t : Tok) (e it : Addr) :
    Turn P w K (.Tuple elts kk tpos) (IteG (fun i _ v => ∃ c, x.cps[i]? = some c ∧ v = .str ⟨#[c]⟩) (fun i _ v => ∃ c, x.cps[i]? = some c ∧ v = .str ⟨#[c]⟩) (fun i _ => x.cps.size = i)) [e, it] e (fun i h => (∃ old, IsEnum h e it ((i : Nat) : Int) old) ∧ h.IsStrIter it (strIterType x) x t i ∧ e ≠ it) := by
  refine turn_enumG _ _ _ (fun i h => h.IsStrIter it (strIterType x) x t i) e it (fun i h st => ?_) (fun i h h' st k => ?_) fun X hP hw hK hc pins σ H s i I st he => ⟨fun v hv => ?_, fun hs => ?_⟩
  · obtain ⟨o, h1, h2, h3⟩ := st
    exact ⟨o, h1, fun v z => by rw [h3] at z; cases z⟩
  · obtain ⟨o, h1, h2⟩ := st
    exact ⟨o, k o h1, h2⟩
  · obtain ⟨c, hc', rfl⟩ := hv
    obtain ⟨old, he⟩ := he
    have hei : e ∉ [it] := fun z => by
      rw [List.mem_singleton] at z
      obtain ⟨o', h1', h2', _⟩ := st
      rw [← z, he] at h1'
      cases h1'
      have h3 : ("enumerate" : String) = strIterType x := by injection h2'
      unfold strIterType at h3
      split at h3 <;> exact absurd h3 (by decide)
    refine ⟨[it], _, _, _, Draws.text (in1_hd I hc) it x t, st, ?_, hei, fun v hv => ?_, fun h' z => z⟩
    · exact (Array.getElem?_eq_some_iff.mp hc').1
    · obtain ⟨c', u, h1, rfl⟩ := hv
      exact ⟨.str ⟨#[c']⟩, ⟨u, rfl⟩, c', h1, rfl⟩
  · refine ⟨[it], _, _, _, Draws.text (in1_hd I hc) it x t, ?_⟩
    have hs' : x.cps.size = i := hs
    rw [hs']; exact st
section
variable {prog : Program} {w : World} {A : Around} {E : Value → Shared → Prop} {s : Shared}
theorem meets_enumerate_new1 {v : Value} {o : Obj} {Hh : Heap → Prop} (B : Begins v o Hh) :
    Meets (Builtin.«enumerate.__new__» ⟨[.type "enumerate", v], []⟩) (fun _ R s => Hh s.heap ∧
      R (.ok (.ret (.ref (s.heap.push o).objs.size))) { s with heap := (s.heap.push o).push { cls := .type "enumerate", data := .fields #[.none, .bool false, .ref s.heap.objs.size, rawInt 0, .none, .none] } }) :=
  .of_wp fun prog w A R s h => by
    obtain ⟨hp, g, d, tk, os⟩ := s; obtain ⟨h1, h⟩ := h
    have hsub := sub_enumerate
    have q1 : ∀ {A' : Around} {E : Value → Shared → Prop} {Q : Value → Shared → Prop}, Q (.ref hp.objs.size) ⟨hp.push o, g, d, tk, os⟩ → wpAny (model prog w) A' (pyIter v) Q E ⟨hp, g, d, tk, os⟩ :=
      fun q => B.iter prog w _ _ ⟨hp, g, d, tk, os⟩ _ h1 q
    wp_walk using q1
    refine wpAny_stack_any fun st => wpAny_pure ?_
    split
    · rename_i c _ _ _ _ _
      cases (c == Value.type "enumerate")
      · wp_walk using q1
        exact ⟨_, rfl, h⟩
      · wp_walk using q1
        exact ⟨_, rfl, h⟩
    · wp_walk using q1
      exact ⟨_, rfl, h⟩
theorem enum1_begins {v : Value} {o : Obj} {Hh : Heap → Prop} {Q : Value → Shared → Prop} (B : Begins v o Hh) (h1 : Hh s.heap)
    (h : ∀ h', IsEnum h' (s.heap.objs.size + 1) s.heap.objs.size 0 .none → h'.get? s.heap.objs.size = some o → h'.objs.size = s.heap.objs.size + 2 →
      (∀ b o, s.heap.get? b = some o → h'.get? b = some o) → Q (.ref (s.heap.objs.size + 1)) { s with heap := h' }) :
    wpAny (model prog w) A (call (.type "enumerate") [v]) Q E s := by
  refine callType_new F.called_enumerate (by decide) (F.typeCall_enumerate_1 _) (F.newCall_enumerate_1 _) (fun obj => F.args_object_init_2 obj _) F.entry_enumerate_new
    (meets_enumerate_new1 B) ⟨h1, ?_⟩
  have hz : (s.heap.push o).objs.size = s.heap.objs.size + 1 := Heap.size_push ..
  show _ ∧ _
  rw [hz]
  have he : IsEnum ((s.heap.push o).push { cls := .type "enumerate", data := .fields #[.none, .bool false, .ref s.heap.objs.size, rawInt 0, .none, .none] }) (s.heap.objs.size + 1) s.heap.objs.size 0 .none := by
    have := Heap.get?_push_size (s.heap.push o) (o := { cls := .type "enumerate", data := .fields #[.none, .bool false, .ref s.heap.objs.size, rawInt 0, .none, .none] }) rfl
    rw [hz] at this; exact this
  refine ⟨⟨_, he, rfl⟩, h _ he (Heap.get?_push_of_some _ (Heap.get?_push_size _ B.free)) (by rw [Heap.size_push, hz]) fun b o x => Heap.get?_push_of_some _ (Heap.get?_push_of_some _ x)⟩
end
/-- enumerate(x), x a list, a tuple, a text -/
def iEnumA (K : PySem.W.Frag) (ta : TA) : TI := fun σ H R => ta σ H fun vs H1 => ∃ v, vs = [v] ∧ ((∃ a xs, v = .ref a ∧ SqL K H1 a xs ∧ R (Ite K a) H1) ∨
  (∃ a xs, v = .ref a ∧ SqT K H1 a xs ∧ R (IteG (fun i H x => ∃ xs, SqT K H a xs ∧ xs[i]? = some x) (fun i H x => ∀ xs, SqT K H a xs → xs[i]? = some x) (fun i H => ∃ xs, SqT K H a xs ∧ xs.length = i)) H1) ∨
  ∃ x, v = .str x ∧ R (IteG (fun i _ v => ∃ c, x.cps[i]? = some c ∧ v = .str ⟨#[c]⟩) (fun i _ v => ∃ c, x.cps[i]? = some c ∧ v = .str ⟨#[c]⟩) (fun i _ => x.cps.size = i)) H1)
theorem pi_enumA {X : Cx} {e : Expr} {ta : TA} {p pos tpos : Pos} {elts : List Expr} {kk : Nat} (hg : Gl X "enumerate") (hm : X.mg "enumerate" = none) (ha : PA X [e] ta) (hs : starEach [e] X.env = [(false, eval e X.env)]) :
    PI X (.Tuple elts kk tpos) (.Call (.Name "enumerate" p) [e] [] pos) (iEnumA X.K ta) := by
  refine ⟨fun pins s σ H R I h => ?_⟩
  refine PyProof.Rows.Call_ (ld_blt I hg hm PyProof.Rows.boot_enumerate (PyProof.Rows.callWith_type1 (thn (ha.run pos pins s σ H _ I h) fun us s1 ⟨vs, H1, I1, r1, q1⟩ => ?_) hs rfl))
  obtain ⟨v, ex, q1⟩ := q1
  subst ex
  cases r1 with
  | cons r rr =>
    cases rr
    have fp : ∀ b ∈ [s1.heap.objs.size + 1, s1.heap.objs.size], FpOk X pins H1 b := fun b hb => by
      have e' : b = s1.heap.objs.size + 1 ∨ b = s1.heap.objs.size := by simpa using hb
      have hle : s1.heap.objs.size ≤ b := by
        rcases e' with z | z
        · rw [z]; exact Nat.le_add_right _ _
        · rw [z]; exact Nat.le_refl _
      exact I1.fpOk hle (I1.hok.fresh hle)
    rcases q1 with ⟨a, xs, rfl, hq, q⟩ | ⟨a, xs, rfl, hq, q⟩ | ⟨x, rfl, q⟩
    · cases r
      obtain ⟨its, rv, p', hz⟩ := I1.list hq
      refine call_enumerate_list p'.isList fun h' he hit hsz hk => wpAny_pyIter_enum he ?_
      have I2 : Inv X pins σ H1 { s1 with heap := h' } := I1.kept (t' := s1.toks) hk
      exact ⟨s1.heap.objs.size + 1, [s1.heap.objs.size + 1, s1.heap.objs.size], _, _, H1, rfl, I2, turn_enum a (s1.heap.objs.size + 1) s1.heap.objs.size, ⟨⟨.none, he⟩, hit, Nat.succ_ne_self _⟩, fp, q⟩
    · cases r
      obtain ⟨its, rv, p', hz⟩ := I1.tuple hq
      refine enum1_begins (begins_tuple a its.toArray) p' fun h' he hit hsz hk => wpAny_pyIter_enum he ?_
      have I2 : Inv X pins σ H1 { s1 with heap := h' } := I1.kept (t' := s1.toks) hk
      exact ⟨s1.heap.objs.size + 1, [s1.heap.objs.size + 1, s1.heap.objs.size], _, _, H1, rfl, I2, turn_enumT a (s1.heap.objs.size + 1) s1.heap.objs.size, ⟨⟨.none, he⟩, ⟨_, hit, rfl, rfl⟩, Nat.succ_ne_self _⟩, fp, q⟩
    · obtain ⟨t, rfl⟩ := r
      refine enum1_begins (begins_text x t) trivial fun h' he hit hsz hk => wpAny_pyIter_enum he ?_
      have I2 : Inv X pins σ H1 { s1 with heap := h' } := I1.kept (t' := s1.toks) hk
      exact ⟨s1.heap.objs.size + 1, [s1.heap.objs.size + 1, s1.heap.objs.size], _, _, H1, rfl, I2, turn_enumS x t (s1.heap.objs.size + 1) s1.heap.objs.size, ⟨⟨.none, he⟩, ⟨_, hit, rfl, rfl⟩, Nat.succ_ne_self _⟩, fp, q⟩
end Den
/-! Den9: what is walked. -/
namespace Den
open PySem PySem.Spec L2
/-! ### readings -/
def seqIt (xs : List D) : DIt := fun i _ => some xs[i]?
def lstIt (n : Nat) : DIt := fun i h => match lstAt h n with
  | some xs => some xs[i]?
  | none => none
def strIt (s : List Nat) : DIt := fun i _ => some (match s[i]? with
  | some c => some (.str [c])
  | none => none)
/-- a list, a tuple, a text, a locked dict's keys -/
def dIt (x : D) (h : AH) : Option DIt := match x with
  | .tup _ xs => some (seqIt xs)
  | .fl xs => some (seqIt xs)
  | .str s => some (strIt s)
  | .ref n => (match h[n]? with
    | some (.lst _) => some (lstIt n)
    | some (.dcl kvs) => some (seqIt (kvs.map (·.1)))
    | _ => none)
  | _ => none
def jSeq (a : ME) : MI := fun rt e h => (a rt e h).bind fun x h1 => match dIt x h1 with
  | some it => .ok it h1
  | none => .bad
def rngIt (lo c : Int) (n : Nat) : DIt := fun i _ => some (cond (Nat.blt i n) (some (.int (lo + (i : Nat) * c))) none)
def P62 : Int := 4611686018427387904
def r62 (i : Int) : Bool := decide (-P62 ≤ i) && decide (i < P62)
def jRng1 (a : MA) : MI := fun rt e h => (a rt e h).bind fun xs h1 => match xs with
  | [.int j] => cond (r62 j) (.ok (rngIt 0 1 j.toNat) h1) .bad
  | _ => .bad
def jRng2 (a : MA) : MI := fun rt e h => (a rt e h).bind fun xs h1 => match xs with
  | [.int i, .int j] => cond (r62 i && r62 j) (.ok (rngIt i 1 (j - i).toNat) h1) .bad
  | _ => .bad
/-- range(i, j, -1) -/
def jRng3 (a : MA) : MI := fun rt e h => (a rt e h).bind fun xs h1 => match xs with
  | [.int i, .int j, .int (-1)] => cond (r62 i && r62 j) (.ok (rngIt i (-1) (i - j).toNat) h1) .bad
  | _ => .bad
/-- (i, x) -/
def enmIt (J : DIt) : DIt := fun i h => match J i h with
  | some (some d) => some (some (.tup false [.int (i : Nat), d]))
  | r => r
def exIt (xs : List D) : DIt := fun i _ => cond (Nat.ble i xs.length) (some xs[i]?) none
def eIt (x : D) (h : AH) : Option DIt := match x with
  | .tup _ xs => some (enmIt (exIt xs))
  | .fl xs => some (enmIt (seqIt xs))
  | .str s => some (enmIt (exIt (s.map fun c => .str [c])))
  | .ref n => (match h[n]? with
    | some (.lst _) => some (enmIt (lstIt n))
    | _ => none)
  | _ => none
def jEnum (a : ME) : MI := fun rt e h => (a rt e h).bind fun x h1 => match eIt x h1 with
  | some it => .ok it h1
  | none => .bad
def zipIt (J K : DIt) : DIt := fun i h => match J i h, K i h with
  | some (some a), some (some b) => some (some (.tup false [a, b]))
  | some none, some _ => some none
  | some _, some none => some none
  | _, _ => none
def lIt (x : D) (h : AH) : Option DIt := match x with
  | .fl xs => some (seqIt xs)
  | .ref n => (match h[n]? with
    | some (.lst _) => some (lstIt n)
    | _ => none)
  | _ => none
def jZip (a b : ME) : MI := fun rt e h => (a rt e h).bind fun x h1 => (b rt e h1).bind fun y h2 => match x, y with
  | .tup _ xs, .tup _ ys => .ok (zipIt (seqIt xs) (seqIt ys)) h2
  | x, y => match lIt x h2, lIt y h2 with
    | some J, some K => .ok (zipIt J K) h2
    | _, _ => .bad
def itemsIt (kvs : List (D × D)) : DIt := fun i _ => some (match kvs[i]? with
  | some (k, v) => some (.tup false [k, v])
  | none => none)
def jItems (a : ME) : MI := fun rt e h => (a rt e h).bind fun x h1 => match x with
  | .ref n => (match h1[n]? with
    | some (.dcl kvs) => .ok (itemsIt kvs) h1
    | _ => .bad)
  | _ => .bad
/-! ### that they stand -/
section
variable {S : Sy} {Γ : Sc} {lv : Nat} {rt : Rt} {a b c tg : Expr} {ma mb mc : ME} {pos : Pos} {ρ ρ' : List Addr} {H H' : Hp} {h h' : AH}
theorem Rvs.none {vs : List V} {ds : List D} {i : Nat} (r : Rvs S ρ H vs ds) (e : ds[i]? = none) : vs.length ≤ i := by
  rw [r.length]; exact List.getElem?_eq_none_iff.mp e
/-- a tuple's iterator -/
theorem it_tup {p : Addr} {vs : List V} {xs : List D} (s1 : SqT S.K H p vs) (r1 : Rvs S ρ H vs xs) : ItOk S ρ H (Itt S.K p) (seqIt xs) := by
  intro i ρ' H' h' x rl
  refine ⟨fun e => ⟨vs, x.tup _ _ s1, r1.none (Option.some.inj e)⟩, fun d e => ?_⟩
  obtain ⟨v, ev, rv⟩ := r1.get (Option.some.inj e)
  refine ⟨⟨vs, v, x.tup _ _ s1, ev⟩, fun y H'' yd => ?_⟩
  obtain ⟨rfl, hy⟩ := yd
  have hy := hy vs (x.tup _ _ s1)
  rw [ev] at hy
  cases hy
  exact ⟨ρ', .refl, rl, rv.mono x⟩
/-- a written list's -/
theorem it_fl {p : Addr} {vs : List V} {xs : List D} (s1 : SqF S.K H p vs) (r1 : Rvs S ρ H vs xs) : ItOk S ρ H (Itl S.K p) (seqIt xs) := by
  intro i ρ' H' h' x rl
  refine ⟨fun e => ⟨vs, (x.lst _ _ s1).seq, r1.none (Option.some.inj e)⟩, fun d e => ?_⟩
  obtain ⟨v, ev, rv⟩ := r1.get (Option.some.inj e)
  refine ⟨⟨vs, v, (x.lst _ _ s1).seq, ev⟩, fun y H'' yd => ?_⟩
  obtain ⟨rfl, hy⟩ := yd
  have hy := hy vs (x.lst _ _ s1).seq
  rw [ev] at hy
  cases hy
  exact ⟨ρ', .refl, rl, rv.mono x⟩
theorem it_lst {n : Nat} {p : Addr} (ep : ρ[n]? = some p) : ItOk S ρ H (Itl S.K p) (lstIt n) := by
  intro i ρ' H' h' x rl
  have ep' := pre_get x.pre ep
  unfold lstIt
  cases hn : lstAt h' n with
  | none => exact ⟨fun e => (by cases e), fun d e => (by cases e)⟩
  | some xs =>
    obtain ⟨vs, h1, r1⟩ := rl.lst ep' hn
    refine ⟨fun e => ⟨vs, .of h1, r1.none (Option.some.inj e)⟩, fun d e => ?_⟩
    obtain ⟨v, ev, rv⟩ := r1.get (Option.some.inj e)
    refine ⟨⟨vs, v, .of h1, ev⟩, fun y H'' yd => ?_⟩
    obtain ⟨rfl, hy⟩ := yd
    have hy := hy vs (.of h1)
    rw [ev] at hy
    cases hy
    exact ⟨ρ', .refl, rl, rv⟩
theorem it_str {s : List Nat} : ItOk S ρ H (Its ⟨s.toArray⟩) (strIt s) := by
  intro i ρ' H' h' x rl
  unfold strIt
  cases hs : s[i]? with
  | none =>
    refine ⟨fun _ => ?_, fun d e => (by cases e)⟩
    show s.toArray.size ≤ i
    rw [List.size_toArray]; exact List.getElem?_eq_none_iff.mp hs
  | some c =>
    refine ⟨fun e => (by cases e), fun d e => ?_⟩
    cases e
    refine ⟨?_, fun y H'' yd => ?_⟩
    · show i < s.toArray.size
      rw [List.size_toArray]; exact (List.getElem?_eq_some_iff.mp hs).1
    · obtain ⟨rfl, c', hc, rfl⟩ := yd
      have hc : s.toArray[i]? = some c' := hc
      rw [List.getElem?_toArray, hs] at hc
      cases hc
      exact ⟨ρ', .refl, rl, rv_s [c]⟩
theorem rkv_get {l : List (Key × V)} {kvs : List (D × D)} : ∀ {i : Nat} {k d : D}, Rkv S ρ H l kvs → kvs[i]? = some (k, d) → ∃ kk v, l[i]? = some (kk, v) ∧ Rk kk k ∧ Rv S ρ H v d := by
  intro i k d r
  induction r generalizing i with
  | nil => intro e; simp at e
  | cons q t ih =>
    intro e
    cases i with
    | zero =>
      simp at e
      subst e
      exact ⟨_, _, rfl, q.1, q.2⟩
    | succ i =>
      obtain ⟨kk, v, e1, e2⟩ := ih (i := i) (by simpa using e)
      exact ⟨kk, v, by simpa using e1, e2⟩
theorem rk_rv {kk : Key} {k : D} (r : Rk kk k) : Rv S ρ H (kV kk) k := by
  unfold Rk at r
  split at r
  · subst r; exact rv_i _
  · subst r; exact rv_s _
  · cases r
theorem it_keys {p : Addr} {o : Obj} {l : List (Key × V)} {kvs : List (D × D)} (e : H p = some (.frz o (.dK l))) (r1 : Rkv S ρ H l kvs) : ItOk S ρ H (Itk p o l) (seqIt (kvs.map (·.1))) := by
  intro i ρ' H' h' x rl
  have e' := x.frz _ _ _ e
  have hl : l.length = kvs.length := Paired.length r1
  refine ⟨fun q => ⟨e', ?_⟩, fun d q => ?_⟩
  · have := List.getElem?_eq_none_iff.mp (Option.some.inj q)
    rw [List.length_map] at this
    rw [hl]; exact this
  · have q' := Option.some.inj q
    rw [List.getElem?_map, Option.map_eq_some_iff] at q'
    obtain ⟨⟨k, d'⟩, q1, q2⟩ := q'
    subst q2
    obtain ⟨kk, v, e1, e2, e3⟩ := rkv_get r1 q1
    refine ⟨⟨e', (List.getElem?_eq_some_iff.mp e1).1⟩, fun y H'' yd => ?_⟩
    obtain ⟨rfl, k', v', z1, rfl⟩ := yd
    rw [e1] at z1
    cases z1
    exact ⟨ρ', .refl, rl, rk_rv e2⟩
theorem it_items {p : Addr} {o : Obj} {l : List (Key × V)} {kvs : List (D × D)} (e : H p = some (.frz o (.dK l))) (r1 : Rkv S ρ H l kvs) : ItOk S ρ H (Iti p o l) (itemsIt kvs) := by
  intro i ρ' H' h' x rl
  have e' := x.frz _ _ _ e
  have hl : l.length = kvs.length := Paired.length r1
  unfold itemsIt
  cases q1 : kvs[i]? with
  | none =>
    refine ⟨fun _ => ⟨e', ?_⟩, fun d q => (by cases q)⟩
    rw [hl]; exact List.getElem?_eq_none_iff.mp q1
  | some kd =>
    obtain ⟨k, d'⟩ := kd
    refine ⟨fun q => (by cases q), fun d q => ?_⟩
    cases q
    obtain ⟨kk, v, e1, e2, e3⟩ := rkv_get r1 q1
    refine ⟨⟨e', (List.getElem?_eq_some_iff.mp e1).1⟩, fun y H'' yd => ?_⟩
    obtain ⟨T, k', v', z1, rfl, nT, rfl⟩ := yd
    rw [e1] at z1
    cases z1
    have xx : Xt S ρ' H' ρ' (upd H' T (.tup [kV kk, v])) := .fresh nT
    exact ⟨ρ', xx, rl.fresh nT, rv_t (.of upd_same) (.cons (rk_rv e2) (.cons ((e3.mono x).mono xx) .nil))⟩
theorem it_rng {lo : Int} {n : Nat} : ItOk S ρ H (Itr lo n) (rngIt lo 1 n) := by
  intro i ρ' H' h' x rl
  unfold rngIt
  cases hb : Nat.blt i n with
  | false =>
    refine ⟨fun _ => ?_, fun d e => (by cases e)⟩
    show n ≤ i
    refine Nat.le_of_not_lt fun z => ?_
    have z' : Nat.blt i n = true := Nat.ble_eq_true_of_le z
    rw [z'] at hb; cases hb
  | true =>
    refine ⟨fun e => (by cases e), fun d e => ?_⟩
    cases e
    refine ⟨Nat.le_of_ble_eq_true hb, fun y H'' yd => ?_⟩
    obtain ⟨rfl, rfl⟩ := yd
    refine ⟨ρ', .refl, rl, ?_⟩
    rw [Int.mul_one]; exact rv_i _
theorem it_rngC {lo c : Int} {n : Nat} : ItOk S ρ H (Itc lo c n) (rngIt lo c n) := by
  intro i ρ' H' h' x rl
  unfold rngIt
  cases hb : Nat.blt i n with
  | false =>
    refine ⟨fun _ => ?_, fun d e => (by cases e)⟩
    show n ≤ i
    refine Nat.le_of_not_lt fun z => ?_
    have z' : Nat.blt i n = true := Nat.ble_eq_true_of_le z
    rw [z'] at hb; cases hb
  | true =>
    refine ⟨fun e => (by cases e), fun d e => ?_⟩
    cases e
    refine ⟨Nat.le_of_ble_eq_true hb, fun y H'' yd => ?_⟩
    obtain ⟨rfl, rfl⟩ := yd
    exact ⟨ρ', .refl, rl, rv_i _⟩
theorem pair_new {T : Addr} {u v : V} {d1 d2 : D} {ρ : List Addr} {H : Hp} {h : AH} (nT : H T = none) (rl : Rl S ρ H h) (r1 : Rv S ρ H u d1) (r2 : Rv S ρ H v d2) : ∃ ρ'', Xt S ρ H ρ'' (upd H T (.tup [u, v])) ∧ Rl S ρ'' (upd H T (.tup [u, v])) h ∧ Rv S ρ'' (upd H T (.tup [u, v])) (.ref T) (.tup false [d1, d2]) := by
  have xx : Xt S ρ H ρ (upd H T (.tup [u, v])) := .fresh nT
  exact ⟨ρ, xx, rl.fresh nT, rv_t (.of upd_same) (.cons (r1.mono xx) (.cons (r2.mono xx) .nil))⟩
/-- enumerate over a list -/
theorem it_enL {p : Addr} {it : DIt} (q : ItOk S ρ H (Itl S.K p) it) : ItOk S ρ H (Ite S.K p) (enmIt it) := by
  intro i ρ' H' h' x rl
  obtain ⟨q1, q2⟩ := q i ρ' H' h' x rl
  unfold enmIt
  cases e : it i h' with
  | none => exact ⟨fun z => (by cases z), fun d z => (by cases z)⟩
  | some o =>
    cases o with
    | none => exact ⟨fun _ => q1 e, fun d z => (by cases z)⟩
    | some d0 =>
      refine ⟨fun z => (by cases z), fun d z => ?_⟩
      cases z
      obtain ⟨go, yl⟩ := q2 d0 e
      refine ⟨go, fun y H'' yd => ?_⟩
      obtain ⟨T, x0, rfl, nT, rfl, hx⟩ := yd
      obtain ⟨ρ2, x2, rl2, rv2⟩ := yl x0 H' ⟨rfl, hx⟩
      obtain ⟨ρ3, x3, rl3, rv3⟩ := pair_new nT rl2 (rv_i (i : Nat)) rv2
      exact ⟨ρ3, x2.trans x3, rl3, rv3⟩
theorem it_enT {p : Addr} {vs : List V} {xs : List D} (s1 : SqT S.K H p vs) (r1 : Rvs S ρ H vs xs) : ItOk S ρ H (IteG (fun i H x => ∃ xs, SqT S.K H p xs ∧ xs[i]? = some x) (fun i H x => ∀ xs, SqT S.K H p xs → xs[i]? = some x) (fun i H => ∃ xs, SqT S.K H p xs ∧ xs.length = i)) (enmIt (exIt xs)) := by
  intro i ρ' H' h' x rl
  unfold enmIt exIt
  cases hb : Nat.ble i xs.length with
  | false => exact ⟨fun z => (by cases z), fun d z => (by cases z)⟩
  | true =>
    have hle := Nat.le_of_ble_eq_true hb
    cases e : xs[i]? with
    | none =>
      refine ⟨fun _ => ⟨vs, x.tup _ _ s1, ?_⟩, fun d z => (by cases z)⟩
      have := r1.none e
      rw [r1.length] at this ⊢
      omega
    | some d0 =>
      refine ⟨fun z => (by cases z), fun d z => ?_⟩
      cases z
      obtain ⟨v, ev, rv⟩ := r1.get e
      refine ⟨⟨v, vs, x.tup _ _ s1, ev⟩, fun y H'' yd => ?_⟩
      obtain ⟨T, x0, rfl, nT, rfl, hx⟩ := yd
      have hx := hx vs (x.tup _ _ s1)
      rw [ev] at hx
      cases hx
      exact pair_new nT rl (rv_i (i : Nat)) (rv.mono x)
theorem it_enS {s : List Nat} : ItOk S ρ H (IteG (fun i _ v => ∃ c, (⟨s.toArray⟩ : Str).cps[i]? = some c ∧ v = .str ⟨#[c]⟩) (fun i _ v => ∃ c, (⟨s.toArray⟩ : Str).cps[i]? = some c ∧ v = .str ⟨#[c]⟩) (fun i _ => (⟨s.toArray⟩ : Str).cps.size = i)) (enmIt (exIt (s.map fun c => .str [c]))) := by
  intro i ρ' H' h' x rl
  unfold enmIt exIt
  rw [List.length_map]
  cases hb : Nat.ble i s.length with
  | false => exact ⟨fun z => (by cases z), fun d z => (by cases z)⟩
  | true =>
    have hle := Nat.le_of_ble_eq_true hb
    rw [List.getElem?_map]
    cases e : s[i]? with
    | none =>
      refine ⟨fun _ => ?_, fun d z => (by cases z)⟩
      have := List.getElem?_eq_none_iff.mp e
      show s.toArray.size = i
      rw [List.size_toArray]
      omega
    | some c =>
      refine ⟨fun z => (by cases z), fun d z => ?_⟩
      cases z
      refine ⟨⟨_, c, by show s.toArray[i]? = some c; rw [List.getElem?_toArray]; exact e, rfl⟩, fun y H'' yd => ?_⟩
      obtain ⟨T, x0, rfl, nT, rfl, c', hc, rfl⟩ := yd
      have hc : s.toArray[i]? = some c' := hc
      rw [List.getElem?_toArray, e] at hc
      cases hc
      exact pair_new nT rl (rv_i (i : Nat)) (rv_s [c])
theorem it_zipL {p q : Addr} {J K : DIt} (hJ : ItOk S ρ H (Itl S.K p) J) (hK : ItOk S ρ H (Itl S.K q) K) : ItOk S ρ H (Itz S.K p q) (zipIt J K) := by
  intro i ρ' H' h' x rl
  obtain ⟨j1, j2⟩ := hJ i ρ' H' h' x rl
  obtain ⟨k1, k2⟩ := hK i ρ' H' h' x rl
  unfold zipIt
  cases e1 : J i h' with
  | none => exact ⟨fun z => (by cases z), fun d z => (by cases z)⟩
  | some o1 =>
    cases e2 : K i h' with
    | none => cases o1 <;> exact ⟨fun z => (by cases z), fun d z => (by cases z)⟩
    | some o2 =>
      cases o1 with
      | none =>
        cases o2 with
        | none =>
          obtain ⟨xs, a1, a2⟩ := j1 e1
          obtain ⟨ys, b1, b2⟩ := k1 e2
          exact ⟨fun _ => ⟨xs, ys, a1, b1, .inl a2⟩, fun d z => (by cases z)⟩
        | some d2 =>
          obtain ⟨xs, a1, a2⟩ := j1 e1
          obtain ⟨⟨ys, y, b1, b2⟩, _⟩ := k2 d2 e2
          exact ⟨fun _ => ⟨xs, ys, a1, b1, .inl a2⟩, fun d z => (by cases z)⟩
      | some d1 =>
        cases o2 with
        | none =>
          obtain ⟨⟨xs, x0, a1, a2⟩, _⟩ := j2 d1 e1
          obtain ⟨ys, b1, b2⟩ := k1 e2
          exact ⟨fun _ => ⟨xs, ys, a1, b1, .inr b2⟩, fun d z => (by cases z)⟩
        | some d2 =>
          refine ⟨fun z => (by cases z), fun d z => ?_⟩
          cases z
          obtain ⟨⟨xs, x0, a1, a2⟩, y1⟩ := j2 d1 e1
          obtain ⟨⟨ys, y0, b1, b2⟩, y2⟩ := k2 d2 e2
          refine ⟨⟨xs, ys, x0, y0, a1, b1, a2, b2⟩, fun y H'' yd => ?_⟩
          obtain ⟨T, u, v, rfl, nT, rfl, hu, hv⟩ := yd
          obtain ⟨ρ2, x2, rl2, ru⟩ := y1 u H' ⟨rfl, hu⟩
          obtain ⟨ρ3, x3, rl3, rv⟩ := y2 v H' ⟨rfl, hv⟩
          have e23 : ρ2 = ρ3 := by
            have l2 := rl2.len
            have l3 := rl3.len
            obtain ⟨t2, h2⟩ := x2.pre
            obtain ⟨t3, h3⟩ := x3.pre
            have z2 : t2 = [] := List.eq_nil_of_length_eq_zero (by have := congrArg List.length h2; rw [List.length_append, l2, rl.len] at this; omega)
            have z3 : t3 = [] := List.eq_nil_of_length_eq_zero (by have := congrArg List.length h3; rw [List.length_append, l3, rl.len] at this; omega)
            rw [← h2, ← h3, z2, z3]
          subst e23
          obtain ⟨ρ4, x4, rl4, rv4⟩ := pair_new nT rl2 ru rv
          exact ⟨ρ4, x2.trans x4, rl4, rv4⟩
theorem it_zipT {p q : Addr} {vs ws : List V} {xs ys : List D} (s1 : SqT S.K H p vs) (r1 : Rvs S ρ H vs xs) (s2 : SqT S.K H q ws) (r2 : Rvs S ρ H ws ys) : ItOk S ρ H (RZ.ItzT S.K p q) (zipIt (seqIt xs) (seqIt ys)) := by
  intro i ρ' H' h' x rl
  have s1' := x.tup _ _ s1
  have s2' := x.tup _ _ s2
  unfold zipIt seqIt
  cases e1 : xs[i]? with
  | none =>
    refine ⟨fun _ => ⟨vs, ws, s1', s2', .inl (r1.none e1)⟩, fun d z => ?_⟩
    cases e2 : ys[i]? <;> (rw [e2] at z; cases z)
  | some d1 =>
    cases e2 : ys[i]? with
    | none => exact ⟨fun _ => ⟨vs, ws, s1', s2', .inr (r2.none e2)⟩, fun d z => (by cases z)⟩
    | some d2 =>
      refine ⟨fun z => (by cases z), fun d z => ?_⟩
      cases z
      obtain ⟨u, eu, ru⟩ := r1.get e1
      obtain ⟨v, ev, rv⟩ := r2.get e2
      refine ⟨⟨vs, ws, u, v, s1', s2', eu, ev⟩, fun y H'' yd => ?_⟩
      obtain ⟨T, u', v', rfl, nT, rfl, hu, hv⟩ := yd
      have hu := hu vs s1'
      have hv := hv ws s2'
      rw [eu] at hu
      rw [ev] at hv
      cases hu; cases hv
      exact pair_new nT rl (ru.mono x) (rv.mono x)
/-! ### the walks -/
def SIx (S : Sy) (Γ : Sc) (lv : Nat) (rt : Rt) (tg iter : Expr) (m : MI) : Prop := SI S Γ lv rt tg iter m
theorem lstAt_of {n : Nat} {xs : List D} (e : h[n]? = some (.lst xs)) : lstAt h n = some xs := by unfold lstAt; rw [e]
theorem si_seq (ha : SE S Γ lv rt a ma) : SI S Γ lv rt tg a (jSeq ma) := by
  intro X ok σ en ρ H h it h' rs rl e Q q
  obtain ⟨x, h1, e1, e⟩ := R.bind_eq_ok e
  split at e
  · rename_i it' hi
    cases e
    unfold dIt at hi
    split at hi
    · cases hi
      refine wI_of (pi_tup pe_w) (ha X ok σ en ρ H h _ _ rs rl e1 _ fun v ρ1 H1 x1 rl1 rv => ?_)
      obtain ⟨p, vs, rfl, s1, r1⟩ := rv.t
      rw [ok.K]
      exact ⟨p, rfl, ⟨vs, s1⟩, q _ ρ1 H1 x1 rl1 (it_tup s1 r1)⟩
    · cases hi
      refine wI_of (pi_list pe_w) (ha X ok σ en ρ H h _ _ rs rl e1 _ fun v ρ1 H1 x1 rl1 rv => ?_)
      obtain ⟨p, vs, rfl, s1, r1⟩ := rv.l
      rw [ok.K]
      exact ⟨p, rfl, ⟨vs, s1.seq⟩, q _ ρ1 H1 x1 rl1 (it_fl s1 r1)⟩
    · cases hi
      refine wI_of (pi_str pe_w) (ha X ok σ en ρ H h _ _ rs rl e1 _ fun v ρ1 H1 x1 rl1 rv => ?_)
      cases rv.s
      exact ⟨_, rfl, q _ ρ1 H1 x1 rl1 it_str⟩
    · split at hi
      · rename_i xs hn
        cases hi
        refine wI_of (pi_list pe_w) (ha X ok σ en ρ H h _ _ rs rl e1 _ fun v ρ1 H1 x1 rl1 rv => ?_)
        obtain ⟨p, ep, rfl⟩ := rv.r
        obtain ⟨vs, h1, r1⟩ := rl1.lst ep (lstAt_of hn)
        rw [ok.K]
        exact ⟨p, rfl, ⟨vs, .of h1⟩, q _ ρ1 H1 x1 rl1 (it_lst ep)⟩
      · rename_i kvs hn
        cases hi
        refine wI_of (pi_keys pe_w) (ha X ok σ en ρ H h _ _ rs rl e1 _ fun v ρ1 H1 x1 rl1 rv => ?_)
        obtain ⟨p, ep, rfl⟩ := rv.r
        obtain ⟨p', ep', o, l, h1, r1⟩ := rl1.at_ _ _ hn
        rw [ep] at ep'; cases ep'
        exact ⟨p, o, rfl, .inl ⟨l, h1, q _ ρ1 H1 x1 rl1 (it_keys h1 r1)⟩⟩
      · cases hi
    · cases hi
  · cases e
theorem r62_ok {i : Int} (e : r62 i = true) : -(2 ^ 62) ≤ i ∧ i < 2 ^ 62 := by
  unfold r62 P62 at e
  rw [Bool.and_eq_true] at e
  simp only [decide_eq_true_eq] at e
  have e62 : (2 : Int) ^ 62 = 4611686018427387904 := by decide
  rw [e62]
  exact e
variable {m : MA}
theorem Rvs.three {vs : List V} {d e f : D} (r : Rvs S ρ H vs [d, e, f]) : ∃ v u w, vs = [v, u, w] ∧ Rv S ρ H v d ∧ Rv S ρ H u e ∧ Rv S ρ H w f := by
  obtain ⟨v, r1, rfl, q, t⟩ := r.cons_iff
  obtain ⟨u, w, rfl, q2, q3⟩ := t.two
  exact ⟨v, u, w, rfl, q, q2, q3⟩
theorem si_rng1 {p : Pos} (hg : ∀ X, XOk S Γ lv X → Gl X "range") (hm : S.mg "range" = none) (ha : SA S Γ lv rt [a] m) (hs : ∀ env, starEach [a] env = [(false, eval a env)]) : SI S Γ lv rt tg (.Call (.Name "range" p) [a] [] pos) (jRng1 m) := by
  intro X ok σ en ρ H h it h' rs rl e Q q
  obtain ⟨xs, h1, e1, e⟩ := R.bind_eq_ok e
  refine wI_of (pi_range1 (hg X ok) (by rw [ok.mg]; exact hm) pa_w (hs _)) (ha X ok σ en ρ H h xs h1 rs rl e1 _ fun vs ρ1 H1 x1 rl1 rvs => ?_)
  split at e
  · rename_i j
    cases hc : r62 j with
    | false => rw [hc] at e; cases e
    | true =>
      rw [hc] at e
      have e' : R.ok (rngIt 0 1 j.toNat) h1 = .ok it h' := e
      cases e'
      obtain ⟨v, rfl, rv⟩ := rvs.one
      cases rv.i
      obtain ⟨c1, c2⟩ := r62_ok hc
      exact ⟨j, rfl, c1, c2, q _ ρ1 H1 x1 rl1 it_rng⟩
  · cases e
theorem si_rng2 {p : Pos} (hg : ∀ X, XOk S Γ lv X → Gl X "range") (hm : S.mg "range" = none) (ha : SA S Γ lv rt [a, b] m) (hs : ∀ env, starEach [a, b] env = [(false, eval a env), (false, eval b env)]) (hs2 : ∀ env, starEach [b] env = [(false, eval b env)]) : SI S Γ lv rt tg (.Call (.Name "range" p) [a, b] [] pos) (jRng2 m) := by
  intro X ok σ en ρ H h it h' rs rl e Q q
  obtain ⟨xs, h1, e1, e⟩ := R.bind_eq_ok e
  refine wI_of (pi_range2 (hg X ok) (by rw [ok.mg]; exact hm) pa_w (hs _) (hs2 _)) (ha X ok σ en ρ H h xs h1 rs rl e1 _ fun vs ρ1 H1 x1 rl1 rvs => ?_)
  split at e
  · rename_i i j
    cases hc : (r62 i && r62 j) with
    | false => rw [hc] at e; cases e
    | true =>
      rw [hc] at e
      have e' : R.ok (rngIt i 1 (j - i).toNat) h1 = .ok it h' := e
      cases e'
      rw [Bool.and_eq_true] at hc
      obtain ⟨v, u, rfl, rv, ru⟩ := rvs.two
      cases rv.i; cases ru.i
      obtain ⟨c1, c2⟩ := r62_ok hc.1
      obtain ⟨c3, c4⟩ := r62_ok hc.2
      exact ⟨i, j, rfl, ⟨c1, c2, c3, c4⟩, q _ ρ1 H1 x1 rl1 it_rng⟩
  · cases e
theorem si_rng3 {p : Pos} (hg : ∀ X, XOk S Γ lv X → Gl X "range") (hm : S.mg "range" = none) (ha : SA S Γ lv rt [a, b, c] m) (hs : ∀ env, starEach [a, b, c] env = (false, eval a env) :: starEach [b, c] env) (hpl : ∀ env, (backTo pos (starEach [b, c] env)).any (·.1) = false) : SI S Γ lv rt tg (.Call (.Name "range" p) [a, b, c] [] pos) (jRng3 m) := by
  intro X ok σ en ρ H h it h' rs rl e Q q
  obtain ⟨xs, h1, e1, e⟩ := R.bind_eq_ok e
  refine wI_of (pi_range3 (hg X ok) (by rw [ok.mg]; exact hm) pa_w (hs _) (hpl _)) (ha X ok σ en ρ H h xs h1 rs rl e1 _ fun vs ρ1 H1 x1 rl1 rvs => ?_)
  split at e
  · rename_i i j
    cases hc : (r62 i && r62 j) with
    | false => rw [hc] at e; cases e
    | true =>
      rw [hc] at e
      have e' : R.ok (rngIt i (-1) (i - j).toNat) h1 = .ok it h' := e
      cases e'
      rw [Bool.and_eq_true] at hc
      obtain ⟨v, u, w, rfl, rv, ru, rw'⟩ := rvs.three
      cases rv.i; cases ru.i; cases rw'.i
      obtain ⟨c1, c2⟩ := r62_ok hc.1
      obtain ⟨c3, c4⟩ := r62_ok hc.2
      exact ⟨i, j, -1, _, rfl, RgC.neg c1 c2 c3 c4, q _ ρ1 H1 x1 rl1 it_rngC⟩
  · cases e
theorem si_enum {p tpos : Pos} {elts : List Expr} {kk : Nat} (hg : ∀ X, XOk S Γ lv X → Gl X "enumerate") (hm : S.mg "enumerate" = none) (ha : SE S Γ lv rt a ma) (hs : ∀ env, starEach [a] env = [(false, eval a env)]) (hs0 : ∀ env, starEach [a] env = (false, eval a env) :: starEach [] env) :
    SI S Γ lv rt (.Tuple elts kk tpos) (.Call (.Name "enumerate" p) [a] [] pos) (jEnum ma) := by
  intro X ok σ en ρ H h it h' rs rl e Q q
  obtain ⟨x, h1, e1, e⟩ := R.bind_eq_ok e
  have aa : ∀ (Q : List V → Hp → Prop), PoA S ρ H h1 [x] Q → wA X [a] σ H Q := fun Q qq => wA_of (pa_cons pe_w pa_nil (hs0 _)) (ha X ok σ en ρ H h x h1 rs rl e1 _ fun v ρ1 H1 x1 rl1 rv => qq [v] ρ1 H1 x1 rl1 (.cons rv .nil))
  refine wI_of (pi_enumA (hg X ok) (by rw [ok.mg]; exact hm) pa_w (hs _)) (aa _ fun vs ρ1 H1 x1 rl1 rvs => ?_)
  obtain ⟨v, rfl, rv⟩ := rvs.one
  refine ⟨v, rfl, ?_⟩
  rw [ok.K]
  split at e
  · rename_i it' hi
    cases e
    unfold eIt at hi
    split at hi
    · cases hi
      obtain ⟨p, vs, rfl, s1, r1⟩ := rv.t
      exact .inr (.inl ⟨p, vs, rfl, s1, q _ ρ1 H1 x1 rl1 (it_enT s1 r1)⟩)
    · cases hi
      obtain ⟨p, vs, rfl, s1, r1⟩ := rv.l
      exact .inl ⟨p, vs, rfl, s1.seq, q _ ρ1 H1 x1 rl1 (it_enL (it_fl s1 r1))⟩
    · cases hi
      cases rv.s
      exact .inr (.inr ⟨_, rfl, q _ ρ1 H1 x1 rl1 it_enS⟩)
    · split at hi
      · rename_i xs hn
        cases hi
        obtain ⟨p, ep, rfl⟩ := rv.r
        obtain ⟨vs, h1, r1⟩ := rl1.lst ep (lstAt_of hn)
        exact .inl ⟨p, vs, rfl, .of h1, q _ ρ1 H1 x1 rl1 (it_enL (it_lst ep))⟩
      · cases hi
    · cases hi
  · cases e
theorem lIt_ok {x : V} {d : D} {J : DIt} (rl : Rl S ρ H h) (rv : Rv S ρ H x d) (e : lIt d h = some J) : ∃ p vs, x = .ref p ∧ SqL S.K H p vs ∧ ItOk S ρ H (Itl S.K p) J := by
  unfold lIt at e
  split at e
  · cases e
    obtain ⟨p, vs, rfl, s1, r1⟩ := rv.l
    exact ⟨p, vs, rfl, s1.seq, it_fl s1 r1⟩
  · split at e
    · rename_i xs hn
      cases e
      obtain ⟨p, ep, rfl⟩ := rv.r
      obtain ⟨vs, h1, r1⟩ := rl.lst ep (lstAt_of hn)
      exact ⟨p, vs, rfl, .of h1, it_lst ep⟩
    · cases e
  · cases e
theorem si_zip {p tpos : Pos} {elts : List Expr} {kk : Nat} (hg : ∀ X, XOk S Γ lv X → Gl X "zip") (hm : S.mg "zip" = none) (ha : SE S Γ lv rt a ma) (hb : SE S Γ lv rt b mb) (hs : ∀ env, starEach [a, b] env = (false, eval a env) :: starEach [b] env) (hs0 : ∀ env, starEach [b] env = (false, eval b env) :: starEach [] env)
    (hpl : ∀ env, (backTo pos (starEach [b] env)).any (·.1) = false) :
    SI S Γ lv rt (.Tuple elts kk tpos) (.Call (.Name "zip" p) [a, b] [] pos) (jZip ma mb) := by
  intro X ok σ en ρ H h it h' rs rl e Q q
  obtain ⟨x, h1, e1, e⟩ := R.bind_eq_ok e
  obtain ⟨y, h2, e2, e⟩ := R.bind_eq_ok e
  have aa : ∀ (Q : List V → Hp → Prop), PoA S ρ H h2 [x, y] Q → wA X [a, b] σ H Q := fun Q qq => wA_of (pa_cons pe_w (pa_cons pe_w pa_nil (hs0 _)) (hs _)) (ha X ok σ en ρ H h x h1 rs rl e1 _ fun v ρ1 H1 x1 rl1 rv =>
    hb X ok σ en ρ1 H1 h1 y h2 (rs.mono x1) rl1 e2 _ fun u ρ2 H2 x2 rl2 ru => qq [v, u] ρ2 H2 (x1.trans x2) rl2 (.cons (rv.mono x2) (.cons ru .nil)))
  refine wI_of (RZ.pi_zipA (hg X ok) (by rw [ok.mg]; exact hm) pa_w (hs _) (hpl _)) (aa _ fun vs ρ1 H1 x1 rl1 rvs => ?_)
  obtain ⟨v, u, rfl, rv, ru⟩ := rvs.two
  rw [ok.K]
  split at e
  · cases e
    obtain ⟨p, vs, rfl, s1, r1⟩ := rv.t
    obtain ⟨p2, ws, rfl, s2, r2⟩ := ru.t
    exact ⟨p, p2, vs, ws, rfl, .inr ⟨s1, s2, q _ ρ1 H1 x1 rl1 (it_zipT s1 r1 s2 r2)⟩⟩
  · split at e
    · rename_i J K hJ hK
      cases e
      obtain ⟨p, vs, rfl, s1, i1⟩ := lIt_ok rl1 rv hJ
      obtain ⟨p2, ws, rfl, s2, i2⟩ := lIt_ok rl1 ru hK
      exact ⟨p, p2, vs, ws, rfl, .inl ⟨s1, s2, q _ ρ1 H1 x1 rl1 (it_zipL i1 i2)⟩⟩
    · cases e
theorem si_items {elts : List Expr} {kk : Nat} {tpos apos cpos : Pos} (ha : SE S Γ lv rt a ma) (hbase : ∀ env, attributeBase a "items" env (eval a env) = eval a env) (hline : (apos.endLine == cpos.line) = true) :
    SI S Γ lv rt (.Tuple elts kk tpos) (.Call (.Attribute a "items" apos) [] [] cpos) (jItems ma) := by
  intro X ok σ en ρ H h it h' rs rl e Q q
  obtain ⟨x, h1, e1, e⟩ := R.bind_eq_ok e
  refine wI_of (pi_items pe_w (hbase _) hline) (ha X ok σ en ρ H h x h1 rs rl e1 _ fun v ρ1 H1 x1 rl1 rv => ?_)
  split at e
  · split at e
    · rename_i kvs hn
      cases e
      obtain ⟨p, ep, rfl⟩ := rv.r
      obtain ⟨p', ep', o, l, hh1, r1⟩ := rl1.at_ _ _ hn
      rw [ep] at ep'; cases ep'
      exact ⟨p, o, l, rfl, hh1, q _ ρ1 H1 x1 rl1 (it_items hh1 r1)⟩
    · cases e
  · cases e
end
end Den
/-! Den10: comprehensions, locks. -/
namespace Den
open PySem PySem.Spec L2
/-! ### readings -/
def wipeE (e : E) : List Nat → E
  | [] => e
  | v :: vs => (wipeE e vs).set v none
def compF (it : DIt) (body : D → AH → R Unit) : Nat → Nat → AH → R Unit
  | 0, _, _ => .bad
  | n + 1, i, h => match it i h with
    | none => .bad
    | some none => .ok () h
    | some (some d) => (body d h).bind fun _ h1 => compF it body n (i + 1) h1
abbrev MK := Rt → E → AH → R Unit
def bodyL (g : MG) (t : MT) (k : MK) (rt : Rt) (e0 : E) : D → AH → R Unit := fun d h => (g d rt e0 h).bind fun e1 h1 => (t rt e1 h1).bind fun c h2 => cond c (k rt e1 h2) (.ok () h2)
def kApp (m : ME) (n : Nat) : MK := fun rt e h => (m rt e h).bind fun y h3 => match h3[n]? with
  | some (.lst acc) => cond (Nat.blt acc.length LIM) (.ok () (h3.set n (.lst (acc ++ [y])))) .bad
  | _ => .bad
def kIn (it : MI) (g : MG) (t : MT) (k : MK) (vs : List Nat) : MK := fun rt e h => (it rt e h).bind fun J h1 => compF J (bodyL g t k rt (wipeE e vs)) rt.fuel 0 h1
def kPut (mk mv : ME) (n : Nat) : MK := fun rt e h => (mk rt e h).bind fun k h2 => (mv rt e h2).bind fun v h3 => match h3[n]? with
  | some (.dct kvs) => cond (keyD k && Nat.blt kvs.length LIM) (.ok () (h3.set n (.dct (kput k v kvs)))) .bad
  | _ => .bad
def mLc (it : MI) (g : MG) (t : MT) (m : ME) (vs : List Nat) : ME := fun rt e h => (it rt e h).bind fun J h1 => (compF J (bodyL g t (kApp m h1.length) rt (wipeE e vs)) rt.fuel 0 (h1 ++ [.lst []])).bind fun _ h2 => .ok (.ref h1.length) h2
def mLc2 (it : MI) (g : MG) (t : MT) (it1 : MI) (g1 : MG) (t1 : MT) (m : ME) (vs vs1 : List Nat) : ME := fun rt e h => (it rt e h).bind fun J h1 =>
  (compF J (bodyL g t (kIn it1 g1 t1 (kApp m h1.length) vs1) rt (wipeE e vs)) rt.fuel 0 (h1 ++ [.lst []])).bind fun _ h2 => .ok (.ref h1.length) h2
def mDc (it : MI) (g : MG) (t : MT) (mk mv : ME) (vs : List Nat) : ME := fun rt e h => (it rt e h).bind fun J h1 => (compF J (bodyL g t (kPut mk mv h1.length) rt (wipeE e vs)) rt.fuel 0 (h1 ++ [.dct []])).bind fun _ h2 => .ok (.ref h1.length) h2
def tYesM : MT := fun _ _ h => .ok true h
/-! ### slots forgotten -/
theorem wipeE_length (e : E) : ∀ vs : List Nat, (wipeE e vs).length = e.length
  | [] => rfl
  | v :: vs => by unfold wipeE; rw [List.length_set, wipeE_length e vs]
theorem wipeE_some {e : E} {i : Nat} {x : D} : ∀ {vs : List Nat}, (wipeE e vs)[i]? = some (some x) → e[i]? = some (some x) ∧ i ∉ vs
  | [], h => ⟨h, by simp⟩
  | v :: vs, h => by
    unfold wipeE at h
    by_cases hi : v = i
    · subst hi
      by_cases hv : v < (wipeE e vs).length
      · rw [List.getElem?_set_self hv] at h; cases h
      · rw [List.getElem?_eq_none (by simpa using hv)] at h; cases h
    · rw [List.getElem?_set_ne hi] at h
      obtain ⟨h1, h2⟩ := wipeE_some h
      exact ⟨h1, by simp only [List.mem_cons, not_or]; exact ⟨fun e => hi e.symm, h2⟩⟩
theorem wipe_notin {σ : L2.St} {i : Nat} : ∀ {vs : List Nat}, i ∉ vs → (wipe σ vs)[i]? = σ[i]?
  | [], _ => rfl
  | v :: vs, h => by
    rw [List.mem_cons, not_or] at h
    unfold wipe
    rw [List.getElem?_set_ne (fun e => h.1 e.symm)]
    exact wipe_notin h.2
theorem wipe_idem {σ : L2.St} : ∀ {vs : List Nat}, wipe (wipe σ vs) vs = wipe σ vs
  | [] => rfl
  | v :: vs => by
    show (wipe ((wipe σ vs).set v none) vs).set v none = (wipe σ vs).set v none
    by_cases h : v ∈ vs
    · rw [wipe_set h, wipe_idem]
    · rw [wipe_set_out (α := Unit) h, wipe_idem, List.set_set]
section
variable {S : Sy} {Γ : Sc} {lv : Nat} {rt : Rt} {ρ ρ' : List Addr} {H H' : Hp} {h h' : AH}
theorem Rs.wiped {σ : L2.St} {e : E} (r : Rs S ρ H σ e) (vs : List Nat) : Rs S ρ H (wipe σ vs) (wipeE e vs) := by
  refine ⟨by rw [wipe_length, wipeE_length, r.len], fun i d q => ?_⟩
  obtain ⟨q1, q2⟩ := wipeE_some q
  obtain ⟨v, a, b⟩ := r.at_ i d q1
  exact ⟨v, by rw [wipe_notin q2]; exact a, b⟩
/-! ### blocks -/
def Sc.blk (Γ : Sc) (scope : Scope) : Sc := ⟨Γ.N, relS scope Γ.sc, fun x => scope.names.lookup x == some .cell, Γ.gd⟩
theorem XOk.blk {X : Cx} (ok : XOk S Γ lv X) {scope : Scope} (s : Shared) (H : Hp) (C : Addr) (cl : List (Str × Addr)) (fp : List Addr) : XOk S (Γ.blk scope) lv (X.blk s H scope (compEnvC scope cl C X.env) fp) :=
  ⟨ok.prog, ok.w, ok.K, ok.mg, ok.base, ok.N, by rw [show (Sc.blk Γ scope).sc = relS scope Γ.sc from rfl, ← ok.sc]; rfl, rfl, ok.nd, ok.calm, ok.room2, rfl, ok.gd⟩
def wTs (X : Cx) (ifs : List Expr) : TT := fun σ H Q => ∀ (pins : List (Addr × Obj)) (s : Shared), Inv X pins σ H s → wpAny (model X.prog X.w) X.A (forIn ifs true fun c r => if r = true then do let ok ← isTrue c X.env (eval c X.env); pure (ForInStep.yield ok) else pure (ForInStep.yield r)) (TP X pins σ Q) X.xe s
theorem wTs_of {X : Cx} {ifs : List Expr} {t : TT} (p : PTs X ifs t) {σ : L2.St} {H : Hp} {Q : Bool → Hp → Prop} (h : t σ H Q) : wTs X ifs σ H Q := fun pins s I => p.run pins s σ H Q I h
def STs (S : Sy) (Γ : Sc) (lv : Nat) (rt : Rt) (ifs : List Expr) (m : MT) : Prop := ∀ X, XOk S Γ lv X → ∀ σ en ρ H h b h', Rs S ρ H σ en → Rl S ρ H h → m rt en h = .ok b h' → ∀ Q, PoT S ρ H h' b Q → wTs X ifs σ H Q
theorem sts_nil : STs S Γ lv rt [] tYesM := by
  intro X ok σ en ρ H h b h' rs rl e Q q
  cases e
  exact wTs_of pts_nil (show Q true H from q ρ H .refl rl)
theorem sts_one {c : Expr} {m : MT} (hc : STt S Γ lv rt c m) : STs S Γ lv rt [c] m := by
  intro X ok σ en ρ H h b h' rs rl e Q q
  exact wTs_of (pts_one pt_w) (hc X ok σ en ρ H h b h' rs rl e Q q)
def bG (X : Cx) (scope : Scope) (tg : Expr) : TG := fun v σ H Q => ∀ s H0 C cl fp, wG (X.blk s H0 scope (compEnvC scope cl C X.env) fp) tg v σ H Q
def bT (X : Cx) (scope : Scope) (ifs : List Expr) : TT := fun σ H Q => ∀ s H0 C cl fp, wTs (X.blk s H0 scope (compEnvC scope cl C X.env) fp) ifs σ H Q
def bE (X : Cx) (scope : Scope) (e : Expr) : TE := fun σ H Q => ∀ s H0 C cl fp, wE (X.blk s H0 scope (compEnvC scope cl C X.env) fp) e σ H Q
def bI (X : Cx) (scope : Scope) (tg iter : Expr) : TI := fun σ H Q => ∀ s H0 C cl fp, wI (X.blk s H0 scope (compEnvC scope cl C X.env) fp) tg iter σ H Q
section
variable {X : Cx} {scope : Scope}
theorem bg_w {tg : Expr} (s : Shared) (H : Hp) (C : Addr) (cl : List (Str × Addr)) (fp : List Addr) : PG (X.blk s H scope (compEnvC scope cl C X.env) fp) tg (bG X scope tg) := ⟨fun pins s0 _ _ _ u _ I r h => h s H C cl fp pins s0 u I r⟩
theorem bt_w {ifs : List Expr} (s : Shared) (H : Hp) (C : Addr) (cl : List (Str × Addr)) (fp : List Addr) : PTs (X.blk s H scope (compEnvC scope cl C X.env) fp) ifs (bT X scope ifs) := ⟨fun pins s0 _ _ _ I h => h s H C cl fp pins s0 I⟩
theorem be_w {e : Expr} (s : Shared) (H : Hp) (C : Addr) (cl : List (Str × Addr)) (fp : List Addr) : PE (X.blk s H scope (compEnvC scope cl C X.env) fp) e (bE X scope e) := ⟨fun pins s0 _ _ _ I h => h s H C cl fp pins s0 I⟩
theorem bi_w {tg e : Expr} (s : Shared) (H : Hp) (C : Addr) (cl : List (Str × Addr)) (fp : List Addr) : PI (X.blk s H scope (compEnvC scope cl C X.env) fp) tg e (bI X scope tg e) := ⟨fun pins s0 _ _ _ I h => h s H C cl fp pins s0 I⟩
end
variable {tg iter elt tg1 iter1 kx : Expr} {ifs ifs1 : List Expr} {scope : Scope} {it it1 : MI} {g g1 : MG} {t t1 : MT} {m mk : ME} {vs vs1 : List Nat}
/-- one turn's target and test -/
theorem turn_ok {X : Cx} (ok : XOk S Γ lv X) (hg : SG S (Γ.blk scope) lv rt vs tg g) (ht : STs S (Γ.blk scope) lv rt ifs t) {σ : L2.St} {en : E} {k : MK} {v : V} {d : D} (rs : Rs S ρ H (wipe σ vs) (wipeE en vs)) (rl : Rl S ρ H h) (rv : Rv S ρ H v d)
    (e : bodyL g t k rt (wipeE en vs) d h = .ok () h') {Q : L2.St → Bool → Hp → Prop} (q1 : ∀ σ2 en2 ρ2 H2 h2, Xt S ρ H ρ2 H2 → Rs S ρ2 H2 σ2 en2 → Rl S ρ2 H2 h2 → k rt en2 h2 = .ok () h' → Q σ2 true H2) (q2 : ∀ σ2 ρ2 H2, Xt S ρ H ρ2 H2 → Rl S ρ2 H2 h' → Q σ2 false H2) :
    bG X scope tg v (wipe σ vs) H fun σ2 H2 => wipe σ2 vs = wipe σ vs ∧ bT X scope ifs σ2 H2 fun b H3 => Q σ2 b H3 := by
  unfold bodyL at e
  obtain ⟨en1, h1, e1, e⟩ := R.bind_eq_ok e
  obtain ⟨c, h2, e2, e⟩ := R.bind_eq_ok e
  intro s H0 C cl fp
  refine hg _ (ok.blk s H0 C cl fp) _ _ ρ H h v d en1 h1 rs rl rv e1 _ fun σ2 ρ2 H2 x2 rl2 rs2 w2 => ⟨w2.trans wipe_idem, ?_⟩
  intro s' H0' C' cl' fp'
  refine ht _ (ok.blk s' H0' C' cl' fp') _ _ ρ2 H2 h1 c h2 rs2 rl2 e2 _ fun ρ3 H3 x3 rl3 => ?_
  cases c with
  | true => exact q1 σ2 en1 ρ3 H3 h2 (x2.trans x3) (rs2.mono x3) rl3 e
  | false =>
    have e' : R.ok () h2 = .ok () h' := e
    cases e'
    exact q2 σ2 ρ3 H3 (x2.trans x3) rl3
/-- the new list grows -/
theorem app_ok {X : Cx} (ok : XOk S Γ lv X) (he : SE S (Γ.blk scope) lv rt elt m) {σ : L2.St} {en : E} {n : Nat} {A : Addr} (en1 : ρ[n]? = some A) (rs : Rs S ρ H σ en) (rl : Rl S ρ H h) (e : kApp m n rt en h = .ok () h') {Nx : Hp → Prop} (nx : ∀ ρ2 H2, Xt S ρ H ρ2 H2 → Rl S ρ2 H2 h' → Nx H2) :
    bE X scope elt σ H fun y H4 => ∃ acc, H4 A = some (.lst acc) ∧ acc.length < sizeLine ∧ Nx (upd H4 A (.lst (acc ++ [y]))) := by
  unfold kApp at e
  obtain ⟨y, h3, e1, e⟩ := R.bind_eq_ok e
  intro s H0 C cl fp
  refine he _ (ok.blk s H0 C cl fp) _ _ ρ H h y h3 rs rl e1 _ fun v ρ4 H4 x4 rl4 rv => ?_
  split at e
  · rename_i acc hacc
    cases hl : Nat.blt acc.length LIM with
    | false => rw [hl] at e; cases e
    | true =>
      rw [hl] at e
      have e' : R.ok () (h3.set n (.lst (acc ++ [y]))) = .ok () h' := e
      cases e'
      have en4 := pre_get x4.pre en1
      obtain ⟨vs, a1, a2⟩ := rl4.lst en4 (lstAt_of hacc)
      have x5 : Xt S ρ4 H4 ρ4 (upd H4 A (.lst (vs ++ [v]))) := .write (List.mem_of_getElem? en4) (by rw [a1]; trivial)
      refine ⟨vs, a1, by rw [a2.length, lim_eq]; exact Nat.le_of_ble_eq_true hl, nx ρ4 _ (x4.trans x5) (rl4.put x5 en4 ⟨_, upd_same, (a2.append (.cons rv .nil)).mono x5⟩)⟩
  · cases e
theorem lc_t {X : Cx} (ok : XOk S Γ lv X) (hi : SI S Γ lv rt tg iter it) (hg : SG S (Γ.blk scope) lv rt vs tg g) (ht : STs S (Γ.blk scope) lv rt ifs t) (he : SE S (Γ.blk scope) lv rt elt m) {σ : L2.St} {en : E} {d : D} (rs : Rs S ρ H σ en) (rl : Rl S ρ H h)
    (e : mLc it g t m vs rt en h = .ok d h') {Q : VK} (q : Po S ρ H h' d Q) : tLc (wI X tg iter) (bG X scope tg) (bT X scope ifs) (bE X scope elt) vs σ H Q := by
  obtain ⟨J, h1, e1, e⟩ := R.bind_eq_ok e
  obtain ⟨_, h2, e2, e⟩ := R.bind_eq_ok e
  cases e
  refine hi X ok σ en ρ H h J h1 rs rl e1 _ fun JJ ρ1 H1 x1 rl1 jo => ?_
  intro A nA
  have xA : Xt S ρ1 H1 (ρ1 ++ [A]) (upd H1 A (.lst [])) := .alloc nA
  have rlA : Rl S (ρ1 ++ [A]) (upd H1 A (.lst [])) (h1 ++ [.lst []]) := rl1.alloc nA ⟨[], upd_same, .nil⟩
  have eA : (ρ1 ++ [A])[h1.length]? = some A := by rw [← rl1.len, List.getElem?_append_right (Nat.le_refl _), Nat.sub_self]; rfl
  refine ⟨fun i n H2 => ∃ ρ2 h2, Xt S (ρ1 ++ [A]) (upd H1 A (.lst [])) ρ2 H2 ∧ Rl S ρ2 H2 h2 ∧ compF J (bodyL g t (kApp m h1.length) rt (wipeE en vs)) n i h2 = .ok () h', ⟨rt.fuel, _, _, .refl, rlA, e2⟩, ?_⟩
  rintro i n H2 ⟨ρ2, h2, x2, rl2, e2⟩
  cases n with
  | zero => cases e2
  | succ n =>
    unfold compF at e2
    obtain ⟨j1, j2⟩ := jo i ρ2 H2 h2 (xA.trans x2) rl2
    split at e2
    · cases e2
    · rename_i hit
      cases e2
      refine .inl ⟨j1 hit, q _ ρ2 H2 ((x1.trans xA).trans x2) rl2 (rv_r (pre_get x2.pre eA))⟩
    · rename_i d hit
      obtain ⟨go, yl⟩ := j2 d hit
      obtain ⟨_, h3, e3, e2⟩ := R.bind_eq_ok e2
      refine .inr ⟨go, fun H4 => ∃ ρ4 h4, Xt S (ρ1 ++ [A]) (upd H1 A (.lst [])) ρ4 H4 ∧ Rl S ρ4 H4 h4 ∧ compF J (bodyL g t (kApp m h1.length) rt (wipeE en vs)) n (i + 1) h4 = .ok () h', fun H4 w => ⟨n, Nat.lt_succ_self n, w⟩, fun v H3 yd => ?_⟩
      obtain ⟨ρ3, x3, rl3, rv3⟩ := yl v H3 yd
      refine turn_ok ok hg ht ((rs.mono (((x1.trans xA).trans x2).trans x3)).wiped vs) rl3 rv3 e3 (Q := fun σ2 b H3 => if b = true then bE X scope elt σ2 H3 fun y H4 => ∃ acc, H4 A = some (.lst acc) ∧ acc.length < sizeLine ∧ _ else _) (fun σ4 en4 ρ4 H4 h4 x4 rs4 rl4 e4 => ?_) fun σ4 ρ4 H4 x4 rl4 => ?_
      · rw [if_pos rfl]
        refine app_ok (Nx := fun H4 => ∃ ρ4 h4, Xt S (ρ1 ++ [A]) (upd H1 A (.lst [])) ρ4 H4 ∧ Rl S ρ4 H4 h4 ∧ compF J (bodyL g t (kApp m h1.length) rt (wipeE en vs)) n (i + 1) h4 = .ok () h') ok he (pre_get ((x2.trans x3).trans x4).pre eA) rs4 rl4 e4 fun ρ5 H5 x5 rl5 => ⟨ρ5, h3, ((x2.trans x3).trans x4).trans x5, rl5, e2⟩
      · rw [if_neg (by decide)]
        exact ⟨ρ4, h3, (x2.trans x3).trans x4, rl4, e2⟩
theorem se_lc {own : List (Str × Nat)} {pos : Pos} (hb : blkC Γ.N Γ.sc scope own = true) (hi : SI S Γ lv rt tg iter it) (hg : SG S (Γ.blk scope) lv rt (own.map (·.2)) tg g) (ht : STs S (Γ.blk scope) lv rt ifs t) (he : SE S (Γ.blk scope) lv rt elt m)
    (hs : ∀ env x, foldedSetIterable iter env x = pure x) : SE S Γ lv rt (.ListComp elt [⟨tg, iter, ifs, 0⟩] scope pos) (mLc it g t m (own.map (·.2))) := by
  intro X ok σ en ρ H h d h' rs rl e Q q
  exact wE_of (pe_lc ok.calm (by rw [ok.N]; exact ok.nd) pi_w (by rw [ok.N, ok.sc]; exact blkOk_by hb) bg_w bt_w be_w (hs _)) (lc_t ok hi hg ht he rs rl e q)
theorem ss_lc {own : List (Str × Nat)} {i : Nat} {y : Str} {pos spos py : Pos} (hN : Γ.N[i]? = some y) (hyl : Γ.sc.names.lookup y = some .local) (hsw : ∀ env, env.scope = Γ.sc → swapsWith (.ListComp elt [⟨tg, iter, ifs, 0⟩] scope pos) (some (.Name y py)) spos.line env = pure true)
    (hb : blkC Γ.N Γ.sc scope own = true) (hi : SI S Γ lv rt tg iter it) (hg : SG S (Γ.blk scope) lv rt (own.map (·.2)) tg g) (ht : STs S (Γ.blk scope) lv rt ifs t) (he : SE S (Γ.blk scope) lv rt elt m)
    (hs : ∀ env x, foldedSetIterable iter env x = pure x) : SS S Γ lv rt (.Assign [.Name y py] (.ListComp elt [⟨tg, iter, ifs, 0⟩] scope pos) spos) (sAsg (mLc it g t m (own.map (·.2))) (gN i)) := by
  intro X ok σ en ρ H h sg h' rs rl e D q
  obtain ⟨d, h1, e1, e⟩ := R.bind_eq_ok e
  obtain ⟨en1, h2, e2, e⟩ := R.bind_eq_ok e
  cases e
  cases e2
  refine wS_of (ps_setLc (i := i) ok.calm (by rw [ok.N]; exact ok.nd) (by rw [ok.N]; exact hN) (by rw [ok.sc]; exact hyl) (hsw _ ok.sc) pi_w (by rw [ok.N, ok.sc]; exact blkOk_by hb) bg_w bt_w be_w (hs _)) ?_
  exact lc_t ok hi hg ht he rs rl e1 fun v ρ1 H1 x1 rl1 rv => q _ ρ1 H1 x1 rl1 ((rs.mono x1).set rv i)
theorem lc2_t {X : Cx} (ok : XOk S Γ lv X) (hi : SI S Γ lv rt tg iter it) (hg : SG S (Γ.blk scope) lv rt vs tg g) (ht : STs S (Γ.blk scope) lv rt ifs t) (hi1 : SI S (Γ.blk scope) lv rt tg1 iter1 it1) (hg1 : SG S (Γ.blk scope) lv rt vs1 tg1 g1) (ht1 : STs S (Γ.blk scope) lv rt ifs1 t1) (he : SE S (Γ.blk scope) lv rt elt m)
    {σ : L2.St} {en : E} {d : D} (rs : Rs S ρ H σ en) (rl : Rl S ρ H h) (e : mLc2 it g t it1 g1 t1 m vs vs1 rt en h = .ok d h') {Q : VK} (q : Po S ρ H h' d Q) : tLc2 (wI X tg iter) (bG X scope tg) (bT X scope ifs) (bI X scope tg1 iter1) (bG X scope tg1) (bT X scope ifs1) (bE X scope elt) vs vs1 σ H Q := by
  obtain ⟨J, h1, e1, e⟩ := R.bind_eq_ok e
  obtain ⟨_, h2, e2, e⟩ := R.bind_eq_ok e
  cases e
  refine hi X ok σ en ρ H h J h1 rs rl e1 _ fun JJ ρ1 H1 x1 rl1 jo => ?_
  intro A nA
  have xA : Xt S ρ1 H1 (ρ1 ++ [A]) (upd H1 A (.lst [])) := .alloc nA
  have rlA : Rl S (ρ1 ++ [A]) (upd H1 A (.lst [])) (h1 ++ [.lst []]) := rl1.alloc nA ⟨[], upd_same, .nil⟩
  have eA : (ρ1 ++ [A])[h1.length]? = some A := by rw [← rl1.len, List.getElem?_append_right (Nat.le_refl _), Nat.sub_self]; rfl
  refine ⟨fun i n H2 => ∃ ρ2 h2, Xt S (ρ1 ++ [A]) (upd H1 A (.lst [])) ρ2 H2 ∧ Rl S ρ2 H2 h2 ∧ compF J (bodyL g t (kIn it1 g1 t1 (kApp m h1.length) vs1) rt (wipeE en vs)) n i h2 = .ok () h', ⟨rt.fuel, _, _, .refl, rlA, e2⟩, ?_⟩
  rintro i n H2 ⟨ρ2, h2, x2, rl2, e2⟩
  cases n with
  | zero => cases e2
  | succ n =>
    unfold compF at e2
    obtain ⟨j1, j2⟩ := jo i ρ2 H2 h2 (xA.trans x2) rl2
    split at e2
    · cases e2
    · rename_i hit
      cases e2
      refine .inl ⟨j1 hit, q _ ρ2 H2 ((x1.trans xA).trans x2) rl2 (rv_r (pre_get x2.pre eA))⟩
    · rename_i d hit
      obtain ⟨go, yl⟩ := j2 d hit
      obtain ⟨_, h3, e3, e2⟩ := R.bind_eq_ok e2
      refine .inr ⟨go, fun H4 => ∃ ρ4 h4, Xt S (ρ1 ++ [A]) (upd H1 A (.lst [])) ρ4 H4 ∧ Rl S ρ4 H4 h4 ∧ compF J (bodyL g t (kIn it1 g1 t1 (kApp m h1.length) vs1) rt (wipeE en vs)) n (i + 1) h4 = .ok () h', fun H4 w => ⟨n, Nat.lt_succ_self n, w⟩, fun v H3 yd => ?_⟩
      obtain ⟨ρ3, x3, rl3, rv3⟩ := yl v H3 yd
      refine turn_ok ok hg ht ((rs.mono (((x1.trans xA).trans x2).trans x3)).wiped vs) rl3 rv3 e3 (Q := fun σ2 b H3 => if b = true then bI X scope tg1 iter1 σ2 H3 fun J1 H4 => ∃ W1 : Nat → Nat → Hp → Prop, (∃ m, W1 0 m H4) ∧ ∀ j k H, W1 j k H →
        (J1.stop j H ∧ _) ∨ (J1.go j H ∧ ∃ Nx1 : Hp → Prop, (∀ H', Nx1 H' → ∃ k', k' < k ∧ W1 (j + 1) k' H') ∧ ∀ x H', J1.yld j H x H' → bG X scope tg1 x (wipe σ2 vs1) H' fun σ3 H5 => wipe σ3 vs1 = wipe σ2 vs1 ∧ bT X scope ifs1 σ3 H5 fun b H6 =>
          if b = true then bE X scope elt σ3 H6 fun y H7 => ∃ acc, H7 A = some (.lst acc) ∧ acc.length < sizeLine ∧ Nx1 (upd H7 A (.lst (acc ++ [y]))) else Nx1 H6) else _) (fun σ4 en4 ρ4 H4 h4 x4 rs4 rl4 e4 => ?_) fun σ4 ρ4 H4 x4 rl4 => ?_
      · rw [if_pos rfl]
        unfold kIn at e4
        obtain ⟨J1, h5, e5, e4⟩ := R.bind_eq_ok e4
        intro s H0 C cl fp
        refine hi1 _ (ok.blk s H0 C cl fp) σ4 en4 ρ4 H4 h4 J1 h5 rs4 rl4 e5 _ fun JJ1 ρ5 H5 x5 rl5 jo1 => ?_
        have x05 := ((x2.trans x3).trans x4).trans x5
        refine ⟨fun j k H6 => ∃ ρ6 h6, Xt S ρ5 H5 ρ6 H6 ∧ Rl S ρ6 H6 h6 ∧ compF J1 (bodyL g1 t1 (kApp m h1.length) rt (wipeE en4 vs1)) k j h6 = .ok () h3, ⟨rt.fuel, ρ5, h5, .refl, rl5, e4⟩, ?_⟩
        rintro j k H6 ⟨ρ6, h6, x6, rl6, e6⟩
        cases k with
        | zero => cases e6
        | succ k =>
          unfold compF at e6
          obtain ⟨l1, l2⟩ := jo1 j ρ6 H6 h6 x6 rl6
          split at e6
          · cases e6
          · rename_i hit1
            cases e6
            exact .inl ⟨l1 hit1, ρ6, _, x05.trans x6, rl6, e2⟩
          · rename_i d1 hit1
            obtain ⟨go1, yl1⟩ := l2 d1 hit1
            obtain ⟨_, h7, e7, e6⟩ := R.bind_eq_ok e6
            refine .inr ⟨go1, fun H8 => ∃ ρ8 h8, Xt S ρ5 H5 ρ8 H8 ∧ Rl S ρ8 H8 h8 ∧ compF J1 (bodyL g1 t1 (kApp m h1.length) rt (wipeE en4 vs1)) k (j + 1) h8 = .ok () h3, fun H8 w => ⟨k, Nat.lt_succ_self k, w⟩, fun v1 H7 yd1 => ?_⟩
            obtain ⟨ρ7, x7, rl7, rv7⟩ := yl1 v1 H7 yd1
            refine turn_ok ok hg1 ht1 ((rs4.mono ((x5.trans x6).trans x7)).wiped vs1) rl7 rv7 e7 (Q := fun σ2 b H3 => if b = true then bE X scope elt σ2 H3 fun y H4 => ∃ acc, H4 A = some (.lst acc) ∧ acc.length < sizeLine ∧ _ else _) (fun σ8 en8 ρ8 H8 h8 x8 rs8 rl8 e8 => ?_) fun σ8 ρ8 H8 x8 rl8 => ?_
            · rw [if_pos rfl]
              refine app_ok (Nx := fun H8 => ∃ ρ8 h8, Xt S ρ5 H5 ρ8 H8 ∧ Rl S ρ8 H8 h8 ∧ compF J1 (bodyL g1 t1 (kApp m h1.length) rt (wipeE en4 vs1)) k (j + 1) h8 = .ok () h3) ok he (pre_get ((((x05.trans x6).trans x7).trans x8).pre) eA) rs8 rl8 e8 fun ρ9 H9 x9 rl9 => ⟨ρ9, h7, ((x6.trans x7).trans x8).trans x9, rl9, e6⟩
            · rw [if_neg (by decide)]
              exact ⟨ρ8, h7, (x6.trans x7).trans x8, rl8, e6⟩
      · rw [if_neg (by decide)]
        exact ⟨ρ4, h3, (x2.trans x3).trans x4, rl4, e2⟩
theorem se_lc2 {own : List (Str × Nat)} {pos : Pos} (hb : blkC Γ.N Γ.sc scope own = true) (hv : ∀ i ∈ vs1, i ∈ own.map (·.2)) (hi : SI S Γ lv rt tg iter it) (hg : SG S (Γ.blk scope) lv rt (own.map (·.2)) tg g) (ht : STs S (Γ.blk scope) lv rt ifs t)
    (hi1 : SI S (Γ.blk scope) lv rt tg1 iter1 it1) (hg1 : SG S (Γ.blk scope) lv rt vs1 tg1 g1) (ht1 : STs S (Γ.blk scope) lv rt ifs1 t1) (he : SE S (Γ.blk scope) lv rt elt m)
    (hs : ∀ env x, foldedSetIterable iter env x = pure x) (hs1 : ∀ env x, foldedSetIterable iter1 env x = pure x) : SE S Γ lv rt (.ListComp elt [⟨tg, iter, ifs, 0⟩, ⟨tg1, iter1, ifs1, 0⟩] scope pos) (mLc2 it g t it1 g1 t1 m (own.map (·.2)) vs1) := by
  intro X ok σ en ρ H h d h' rs rl e Q q
  exact wE_of (pe_lc2 ok.calm (by rw [ok.N]; exact ok.nd) pi_w (by rw [ok.N, ok.sc]; exact blkOk_by hb) hv bg_w bt_w bi_w bg_w bt_w be_w (hs _) hs1) (lc2_t ok hi hg ht hi1 hg1 ht1 he rs rl e q)
theorem ss_lc2 {own : List (Str × Nat)} {i : Nat} {y : Str} {pos spos py : Pos} (hN : Γ.N[i]? = some y) (hyl : Γ.sc.names.lookup y = some .local) (hsw : ∀ env, env.scope = Γ.sc → swapsWith (.ListComp elt [⟨tg, iter, ifs, 0⟩, ⟨tg1, iter1, ifs1, 0⟩] scope pos) (some (.Name y py)) spos.line env = pure true)
    (hb : blkC Γ.N Γ.sc scope own = true) (hv : ∀ i ∈ vs1, i ∈ own.map (·.2)) (hi : SI S Γ lv rt tg iter it) (hg : SG S (Γ.blk scope) lv rt (own.map (·.2)) tg g) (ht : STs S (Γ.blk scope) lv rt ifs t)
    (hi1 : SI S (Γ.blk scope) lv rt tg1 iter1 it1) (hg1 : SG S (Γ.blk scope) lv rt vs1 tg1 g1) (ht1 : STs S (Γ.blk scope) lv rt ifs1 t1) (he : SE S (Γ.blk scope) lv rt elt m)
    (hs : ∀ env x, foldedSetIterable iter env x = pure x) (hs1 : ∀ env x, foldedSetIterable iter1 env x = pure x) : SS S Γ lv rt (.Assign [.Name y py] (.ListComp elt [⟨tg, iter, ifs, 0⟩, ⟨tg1, iter1, ifs1, 0⟩] scope pos) spos) (sAsg (mLc2 it g t it1 g1 t1 m (own.map (·.2)) vs1) (gN i)) := by
  intro X ok σ en ρ H h sg h' rs rl e D q
  obtain ⟨d, h1, e1, e⟩ := R.bind_eq_ok e
  obtain ⟨en1, h2, e2, e⟩ := R.bind_eq_ok e
  cases e
  cases e2
  refine wS_of (ps_setLc2 (i := i) ok.calm (by rw [ok.N]; exact ok.nd) (by rw [ok.N]; exact hN) (by rw [ok.sc]; exact hyl) (hsw _ ok.sc) pi_w (by rw [ok.N, ok.sc]; exact blkOk_by hb) hv bg_w bt_w bi_w bg_w bt_w be_w (hs _) hs1) ?_
  exact lc2_t ok hi hg ht hi1 hg1 ht1 he rs rl e1 fun v ρ1 H1 x1 rl1 rv => q _ ρ1 H1 x1 rl1 ((rs.mono x1).set rv i)
/-! ### dicts -/
theorem kput_t {X : Cx} (ok : XOk S Γ lv X) (hk : SE S (Γ.blk scope) lv rt kx mk) (he : SE S (Γ.blk scope) lv rt elt m) {σ : L2.St} {en : E} {n : Nat} {A : Addr} (en1 : ρ[n]? = some A) (rs : Rs S ρ H σ en) (rl : Rl S ρ H h) (e : kPut mk m n rt en h = .ok () h') {Nx : Hp → Prop} (nx : ∀ ρ2 H2, Xt S ρ H ρ2 H2 → Rl S ρ2 H2 h' → Nx H2) :
    bE X scope kx σ H fun y H4 => bE X scope elt σ H4 fun z H5 => ∃ kvs k, y = kV k ∧ H5 A = some (.dK kvs) ∧ kvs.length < sizeLine ∧ Nx (upd H5 A (.dK (putK kvs k z))) := by
  unfold kPut at e
  obtain ⟨k, h2, e1, e⟩ := R.bind_eq_ok e
  obtain ⟨v, h3, e2, e⟩ := R.bind_eq_ok e
  intro s H0 C cl fp
  refine hk _ (ok.blk s H0 C cl fp) _ _ ρ H h k h2 rs rl e1 _ fun y ρ2 H2 x2 rl2 ry => ?_
  intro s' H0' C' cl' fp'
  refine he _ (ok.blk s' H0' C' cl' fp') _ _ ρ2 H2 h2 v h3 (rs.mono x2) rl2 e2 _ fun z ρ3 H3 x3 rl3 rz => ?_
  split at e
  · rename_i kvs hk0
    cases hl : (keyD k && Nat.blt kvs.length LIM) with
    | false => rw [hl] at e; cases e
    | true =>
      rw [hl] at e
      have e' : R.ok () (h3.set n (.dct (kput k v kvs))) = .ok () h' := e
      cases e'
      rw [Bool.and_eq_true] at hl
      have en3 := pre_get (x2.trans x3).pre en1
      obtain ⟨p', ep', l, a1, a2⟩ := rl3.at_ _ _ hk0
      rw [en3] at ep'; cases ep'
      have x5 : Xt S ρ3 H3 ρ3 (upd H3 A (.dK (putK l (keyV k) z))) := .write (List.mem_of_getElem? en3) (by rw [a1]; trivial)
      refine ⟨l, keyV k, key_V ry hl.1, a1, by rw [Paired.length a2, lim_eq]; exact Nat.le_of_ble_eq_true hl.2, nx ρ3 _ ((x2.trans x3).trans x5) (rl3.put x5 en3 ⟨_, upd_same, ?_⟩)⟩
      exact kput_ok hl.1 (rz.mono x5) (a2.mono x5)
  · cases e
theorem dc_t {X : Cx} (ok : XOk S Γ lv X) (hi : SI S Γ lv rt tg iter it) (hg : SG S (Γ.blk scope) lv rt vs tg g) (ht : STs S (Γ.blk scope) lv rt ifs t) (hk : SE S (Γ.blk scope) lv rt kx mk) (he : SE S (Γ.blk scope) lv rt elt m) {σ : L2.St} {en : E} {d : D} (rs : Rs S ρ H σ en) (rl : Rl S ρ H h)
    (e : mDc it g t mk m vs rt en h = .ok d h') {Q : VK} (q : Po S ρ H h' d Q) : tDc (wI X tg iter) (bG X scope tg) (bT X scope ifs) (bE X scope kx) (bE X scope elt) vs σ H Q := by
  obtain ⟨J, h1, e1, e⟩ := R.bind_eq_ok e
  obtain ⟨_, h2, e2, e⟩ := R.bind_eq_ok e
  cases e
  refine hi X ok σ en ρ H h J h1 rs rl e1 _ fun JJ ρ1 H1 x1 rl1 jo => ?_
  intro A nA
  have xA : Xt S ρ1 H1 (ρ1 ++ [A]) (upd H1 A (.dK [])) := .alloc nA
  have rlA : Rl S (ρ1 ++ [A]) (upd H1 A (.dK [])) (h1 ++ [.dct []]) := rl1.alloc nA ⟨[], upd_same, .nil⟩
  have eA : (ρ1 ++ [A])[h1.length]? = some A := by rw [← rl1.len, List.getElem?_append_right (Nat.le_refl _), Nat.sub_self]; rfl
  refine ⟨fun i n H2 => ∃ ρ2 h2, Xt S (ρ1 ++ [A]) (upd H1 A (.dK [])) ρ2 H2 ∧ Rl S ρ2 H2 h2 ∧ compF J (bodyL g t (kPut mk m h1.length) rt (wipeE en vs)) n i h2 = .ok () h', ⟨rt.fuel, _, _, .refl, rlA, e2⟩, ?_⟩
  rintro i n H2 ⟨ρ2, h2, x2, rl2, e2⟩
  cases n with
  | zero => cases e2
  | succ n =>
    unfold compF at e2
    obtain ⟨j1, j2⟩ := jo i ρ2 H2 h2 (xA.trans x2) rl2
    split at e2
    · cases e2
    · rename_i hit
      cases e2
      refine .inl ⟨j1 hit, q _ ρ2 H2 ((x1.trans xA).trans x2) rl2 (rv_r (pre_get x2.pre eA))⟩
    · rename_i d hit
      obtain ⟨go, yl⟩ := j2 d hit
      obtain ⟨_, h3, e3, e2⟩ := R.bind_eq_ok e2
      refine .inr ⟨go, fun H4 => ∃ ρ4 h4, Xt S (ρ1 ++ [A]) (upd H1 A (.dK [])) ρ4 H4 ∧ Rl S ρ4 H4 h4 ∧ compF J (bodyL g t (kPut mk m h1.length) rt (wipeE en vs)) n (i + 1) h4 = .ok () h', fun H4 w => ⟨n, Nat.lt_succ_self n, w⟩, fun v H3 yd => ?_⟩
      obtain ⟨ρ3, x3, rl3, rv3⟩ := yl v H3 yd
      refine turn_ok ok hg ht ((rs.mono (((x1.trans xA).trans x2).trans x3)).wiped vs) rl3 rv3 e3 (Q := fun σ2 b H3 => if b = true then bE X scope kx σ2 H3 fun y H4 => bE X scope elt σ2 H4 fun z H5 => ∃ kvs k, y = kV k ∧ H5 A = some (.dK kvs) ∧ kvs.length < sizeLine ∧ _ else _) (fun σ4 en4 ρ4 H4 h4 x4 rs4 rl4 e4 => ?_) fun σ4 ρ4 H4 x4 rl4 => ?_
      · rw [if_pos rfl]
        exact kput_t (Nx := fun H4 => ∃ ρ4 h4, Xt S (ρ1 ++ [A]) (upd H1 A (.dK [])) ρ4 H4 ∧ Rl S ρ4 H4 h4 ∧ compF J (bodyL g t (kPut mk m h1.length) rt (wipeE en vs)) n (i + 1) h4 = .ok () h') ok hk he (pre_get ((x2.trans x3).trans x4).pre eA) rs4 rl4 e4 fun ρ5 H5 x5 rl5 => ⟨ρ5, h3, ((x2.trans x3).trans x4).trans x5, rl5, e2⟩
      · rw [if_neg (by decide)]
        exact ⟨ρ4, h3, (x2.trans x3).trans x4, rl4, e2⟩
theorem se_dc {own : List (Str × Nat)} {pos : Pos} (hb : blkC Γ.N Γ.sc scope own = true) (hi : SI S Γ lv rt tg iter it) (hg : SG S (Γ.blk scope) lv rt (own.map (·.2)) tg g) (ht : STs S (Γ.blk scope) lv rt ifs t) (hk : SE S (Γ.blk scope) lv rt kx mk) (he : SE S (Γ.blk scope) lv rt elt m)
    (hs : ∀ env x, foldedSetIterable iter env x = pure x) : SE S Γ lv rt (.DictComp kx elt [⟨tg, iter, ifs, 0⟩] scope pos) (mDc it g t mk m (own.map (·.2))) := by
  intro X ok σ en ρ H h d h' rs rl e Q q
  exact wE_of (pe_dc ok.calm (by rw [ok.N]; exact ok.nd) pi_w (by rw [ok.N, ok.sc]; exact blkOk_by hb) bg_w bt_w be_w be_w (hs _)) (dc_t ok hi hg ht hk he rs rl e q)
end
end Den
/-! Den11: a dict comprehension stored at a name; walked dicts stand locked. -/
namespace Den
open PySem PySem.Spec L2
theorem ps_setDc {X : Cx} {i : Nat} {y : Str} {py : Pos} {kx elt tg iter : Expr} {ifs : List Expr} {scope : Scope} {own : List (Str × Nat)} {pos spos : Pos} {wi : TI} {g : TG} {tt : TT} {tk te : TE} (hc : X.calm = true) (hN : X.N.Nodup) (hy : X.N[i]? = some y) (hyl : X.env.scope.names.lookup y = some .local)
    (hsw : swapsWith (.DictComp kx elt [⟨tg, iter, ifs, 0⟩] scope pos) (some (.Name y py)) spos.line X.env = pure true) (hi : PI X tg iter wi) (ok : BlkOk X.N X.env.scope scope own)
    (hg : ∀ (s : Shared) (H : Hp) (C : Addr) (cl : List (Str × Addr)) (fp : List Addr), PG (X.blk s H scope (compEnvC scope cl C X.env) fp) tg g) (ht : ∀ (s : Shared) (H : Hp) (C : Addr) (cl : List (Str × Addr)) (fp : List Addr), PTs (X.blk s H scope (compEnvC scope cl C X.env) fp) ifs tt)
    (hk : ∀ (s : Shared) (H : Hp) (C : Addr) (cl : List (Str × Addr)) (fp : List Addr), PE (X.blk s H scope (compEnvC scope cl C X.env) fp) kx tk)
    (he : ∀ (s : Shared) (H : Hp) (C : Addr) (cl : List (Str × Addr)) (fp : List Addr), PE (X.blk s H scope (compEnvC scope cl C X.env) fp) elt te) (hs : ∀ x, foldedSetIterable iter X.env x = pure x) :
    PS X (.Assign [.Name y py] (.DictComp kx elt [⟨tg, iter, ifs, 0⟩] scope pos) spos) (tAsg (tDc wi g tt tk te (own.map (·.2))) (gName i)) := by
  refine ⟨fun pins s σ H D I h => ?_⟩
  rw [exec_Assign_Name_used _ _ _ _ hsw]
  refine wpAny_bind (wpAny_standAt (wpAny_bind ?_))
  show wpAny _ X.A (do let _ ← comprehension (.DictComp kx elt [⟨tg, iter, ifs, 0⟩] scope pos) scope X.env (firstIterPos [⟨tg, iter, ifs, 0⟩] pos) newDict false (eval iter X.env) (some (assign (.Name y py) X.env))) _ _ s
  have h : tDc wi g tt tk te (own.map (·.2)) σ H (fun x H1 => gName i x σ H1 D.nx) := h
  refine wpAny_bind (thn (dc_core (Qf := fun _ s' => L2.SP X pins D .next s') hc hN I hi ok hg ht hk he hs h fun L C s' m H' I' q hn f => ?_) fun _ s' hq => wpAny_pure (wpAny_pure hq))
  show wpAny _ _ (assign (.Name y py) X.env (.ref L)) _ _ _
  refine wpAny_assign_Name (store_ok2 (v := V.ref L) I' hN hy (.inl hyl) rfl (fun s2 I2 ⟨a, sb, ha⟩ => ?_) (.inr hyl))
  obtain ⟨f0, f1, f2, f3, f4, f5⟩ := f
  have haC : C ≠ a := by
    rcases ha with z | z
    · rw [z]; exact f1
    · exact fun e => f4 y a z e.symm
  refine ⟨m, hn.sameBut sb haC, fun h3 sb3 => ?_⟩
  exact ⟨_, H', I2.turned (t' := s2.toks) (fun b o hb e => (sb3.2 b hb).trans e) f0 f1 f3 f4 f5, q⟩
section
variable {S : Sy} {Γ : Sc} {lv : Nat} {rt : Rt} {ρ ρ' : List Addr} {H H' : Hp} {h h' : AH}
variable {tg iter elt kx a : Expr} {ifs : List Expr} {scope : Scope} {it : MI} {g : MG} {t : MT} {m mk : ME}
theorem ss_dc {own : List (Str × Nat)} {i : Nat} {y : Str} {pos spos py : Pos} (hN : Γ.N[i]? = some y) (hyl : Γ.sc.names.lookup y = some .local) (hsw : ∀ env, env.scope = Γ.sc → swapsWith (.DictComp kx elt [⟨tg, iter, ifs, 0⟩] scope pos) (some (.Name y py)) spos.line env = pure true)
    (hb : blkC Γ.N Γ.sc scope own = true) (hi : SI S Γ lv rt tg iter it) (hg : SG S (Γ.blk scope) lv rt (own.map (·.2)) tg g) (ht : STs S (Γ.blk scope) lv rt ifs t) (hk : SE S (Γ.blk scope) lv rt kx mk) (he : SE S (Γ.blk scope) lv rt elt m)
    (hs : ∀ env x, foldedSetIterable iter env x = pure x) : SS S Γ lv rt (.Assign [.Name y py] (.DictComp kx elt [⟨tg, iter, ifs, 0⟩] scope pos) spos) (sAsg (mDc it g t mk m (own.map (·.2))) (gN i)) := by
  intro X ok σ en ρ H h sg h' rs rl e D q
  obtain ⟨d, h1, e1, e⟩ := R.bind_eq_ok e
  obtain ⟨en1, h2, e2, e⟩ := R.bind_eq_ok e
  cases e
  cases e2
  refine wS_of (ps_setDc (i := i) ok.calm (by rw [ok.N]; exact ok.nd) (by rw [ok.N]; exact hN) (by rw [ok.sc]; exact hyl) (hsw _ ok.sc) pi_w (by rw [ok.N, ok.sc]; exact blkOk_by hb) bg_w bt_w be_w be_w (hs _)) ?_
  exact dc_t ok hi hg ht hk he rs rl e1 fun v ρ1 H1 x1 rl1 rv => q _ ρ1 H1 x1 rl1 ((rs.mono x1).set rv i)
/-! ### locks -/
/-- the dict that stands in slot i -/
def lockAt (i : Nat) (e : E) (h : AH) : Option (Nat × List (D × D)) := match e[i]? with
  | some (some (.ref n)) => (match h[n]? with
    | some (.dct kvs) => some (n, kvs)
    | _ => none)
  | _ => none
def mLock (i : Nat) (m : ME) : ME := fun rt e h => match lockAt i e h with
  | some (n, kvs) => (m rt e (h.set n (.dcl kvs))).bind fun d h1 => .ok d (h1.set n (.dct kvs))
  | none => .bad
def sLock (i : Nat) (m : MS) : MS := fun rt e h => match lockAt i e h with
  | some (n, kvs) => (m rt e (h.set n (.dcl kvs))).bind fun d h1 => .ok d (h1.set n (.dct kvs))
  | none => .bad
theorem lock_ok {σ : L2.St} {en : E} {i n : Nat} {kvs : List (D × D)} (rs : Rs S ρ H σ en) (rl : Rl S ρ H h) (e : lockAt i en h = some (n, kvs)) : ∃ A l, ρ[n]? = some A ∧ H A = some (.dK l) ∧ Rkv S ρ H l kvs ∧ n < h.length := by
  unfold lockAt at e
  split at e
  · rename_i k hk
    split at e
    · rename_i kvs' hn
      cases e
      obtain ⟨v, e1, rv⟩ := rs.at_ i _ hk
      obtain ⟨A, eA, rfl⟩ := rv.r
      obtain ⟨A', eA', l, h1, r1⟩ := rl.at_ _ _ hn
      rw [eA] at eA'; cases eA'
      exact ⟨A, l, eA, h1, r1, (List.getElem?_eq_some_iff.mp hn).1⟩
    · cases e
  · cases e
theorem locked {A : Addr} {l : List (Key × V)} {n : Nat} {kvs : List (D × D)} (od : Obj) (rl : Rl S ρ H h) (eA : ρ[n]? = some A) (hA : H A = some (.dK l)) (r1 : Rkv S ρ H l kvs) :
    Xt S ρ H ρ (upd H A (.frz od (.dK l))) ∧ Rl S ρ (upd H A (.frz od (.dK l))) (h.set n (.dcl kvs)) := by
  have x : Xt S ρ H ρ (upd H A (.frz od (.dK l))) := .write (List.mem_of_getElem? eA) (by rw [hA]; trivial)
  exact ⟨x, rl.put x eA ⟨od, l, upd_same, r1.mono x⟩⟩
theorem sqT_unl {K : PySem.W.Frag} {a p : Addr} {xs : List V} {o : HO} {od : Obj} {l : List (Key × V)} {H : Hp} (q : SqT K H a xs) (hp : H p = some (.frz od (.dK l))) : SqT K (upd H p o) a xs := by
  rcases q with (q | ⟨ob, q⟩) | q
  · refine .inl (.inl ?_)
    rw [upd_ne fun e => by rw [e, hp] at q; cases q]; exact q
  · refine .inl (.inr ⟨ob, ?_⟩)
    rw [upd_ne fun e => by rw [e, hp] at q; cases q]; exact q
  · exact .inr q
theorem sqP_unl {K : PySem.W.Frag} {a p : Addr} {xs : List V} {o : HO} {od : Obj} {l : List (Key × V)} {H : Hp} (q : SqP K H a xs) (hp : H p = some (.frz od (.dK l))) : SqP K (upd H p o) a xs := by
  rcases q with ⟨ob, q, d⟩ | q
  · refine .inl ⟨ob, ?_, d⟩
    rw [upd_ne fun e => by rw [e, hp] at q; cases q]; exact q
  · exact .inr q
theorem sqF_unl {K : PySem.W.Frag} {a p : Addr} {xs : List V} {o : HO} {od : Obj} {l : List (Key × V)} {H : Hp} (q : SqF K H a xs) (hp : H p = some (.frz od (.dK l))) : SqF K (upd H p o) a xs := by
  rcases q with ⟨ob, q⟩ | q
  · refine .inl ⟨ob, ?_⟩
    rw [upd_ne fun e => by rw [e, hp] at q; cases q]; exact q
  · exact .inr q
/-- and unlocked -/
theorem unlocked {A : Addr} {l : List (Key × V)} {n : Nat} {kvs : List (D × D)} {od : Obj} {h1 : AH} (rl : Rl S ρ H h) (eA : ρ[n]? = some A) (hA : H A = some (.dK l)) (r1 : Rkv S ρ H l kvs) (x : Xt S ρ (upd H A (.frz od (.dK l))) ρ' H') (rl1 : Rl S ρ' H' h1) :
    H' A = some (.frz od (.dK l)) ∧ Xt S ρ H ρ' (upd H' A (.dK l)) ∧ Rl S ρ' (upd H' A (.dK l)) (h1.set n (.dct kvs)) ∧ Xw S ρ' H' ρ' (upd H' A (.dK l)) := by
  have hf : H' A = some (.frz od (.dK l)) := x.frz A od (.dK l) upd_same
  have x0 : Xt S ρ H ρ (upd H A (.frz od (.dK l))) := .write (List.mem_of_getElem? eA) (by rw [hA]; trivial)
  have xw : Xw S ρ' H' ρ' (upd H' A (.dK l)) := ⟨List.prefix_refl _, fun a xs q => sqT_unl q hf, fun a xs q => sqF_unl q hf, fun a xs q => sqP_unl q hf⟩
  have xt : Xt S ρ H ρ' (upd H' A (.dK l)) := by
    refine ⟨x.pre, fun a xs q => sqT_unl (x.tup a xs (x0.tup a xs q)) hf, fun a xs q => sqF_unl (x.lst a xs (x0.lst a xs q)) hf, fun a xs q => sqP_unl (x.ptp a xs (x0.ptp a xs q)) hf, fun a o u q => ?_, fun a o q nm => ?_, fun a m => ?_⟩
    · have ne : a ≠ A := fun z => by rw [z, hA] at q; cases q
      rw [upd_ne ne]
      exact x.frz a o u (by rw [upd_ne ne]; exact q)
    · have ne : a ≠ A := fun z => nm (by rw [z]; exact List.mem_of_getElem? eA)
      rw [upd_ne ne]
      exact x.keep a o (by rw [upd_ne ne]; exact q) nm
    · rcases x.new a m with z | z
      · exact .inl z
      · by_cases ne : a = A
        · exact .inl (by rw [ne]; exact List.mem_of_getElem? eA)
        · rw [upd_ne ne] at z
          exact .inr z
  exact ⟨hf, xt, rl1.putW xw (pre_get x.pre eA) ⟨l, upd_same, (r1.mono x0).mono x |>.monoW xw⟩, xw⟩
theorem se_lock {i : Nat} (he : SE S Γ lv rt a m) : SE S Γ lv rt a (mLock i m) := by
  intro X ok σ en ρ H h d h' rs rl e Q q
  unfold mLock at e
  split at e
  · rename_i n kvs hl
    obtain ⟨d1, h1, e1, e⟩ := R.bind_eq_ok e
    cases e
    obtain ⟨A, l, eA, hA, r1, hn⟩ := lock_ok rs rl hl
    refine wE_of (pe_lock pe_w) ⟨A, .dK l, hA, trivial, fun od => ?_⟩
    obtain ⟨x0, rl0⟩ := locked od rl eA hA r1
    refine he X ok σ en ρ _ _ _ h1 (rs.mono x0) rl0 e1 _ fun v ρ1 H1 x1 rl1 rv => ?_
    obtain ⟨hf, xt, rlu, xw⟩ := unlocked rl eA hA r1 x1 rl1
    exact ⟨hf, q v ρ1 _ xt rlu (rv.monoW xw)⟩
  · cases e
theorem ss_lock {i : Nat} {st : Stmt} {ms : MS} (he : SS S Γ lv rt st ms) : SS S Γ lv rt st (sLock i ms) := by
  intro X ok σ en ρ H h sg h' rs rl e D q
  unfold sLock at e
  split at e
  · rename_i n kvs hl
    obtain ⟨d1, h1, e1, e⟩ := R.bind_eq_ok e
    cases e
    obtain ⟨A, l, eA, hA, r1, hn⟩ := lock_ok rs rl hl
    refine wS_of (ps_lock ps_w) ⟨A, .dK l, hA, trivial, fun od => ?_⟩
    obtain ⟨x0, rl0⟩ := locked od rl eA hA r1
    refine he X ok σ en ρ _ _ _ h1 (rs.mono x0) rl0 e1 _ ?_
    cases sg with
    | nx e => exact fun σ1 ρ1 H1 x1 rl1 rs1 => let ⟨hf, xt, rlu, xw⟩ := unlocked rl eA hA r1 x1 rl1; ⟨hf, q σ1 ρ1 _ xt rlu (rs1.monoW xw)⟩
    | bk e => exact fun σ1 ρ1 H1 x1 rl1 rs1 => let ⟨hf, xt, rlu, xw⟩ := unlocked rl eA hA r1 x1 rl1; ⟨hf, q σ1 ρ1 _ xt rlu (rs1.monoW xw)⟩
    | ct e => exact fun σ1 ρ1 H1 x1 rl1 rs1 => let ⟨hf, xt, rlu, xw⟩ := unlocked rl eA hA r1 x1 rl1; ⟨hf, q σ1 ρ1 _ xt rlu (rs1.monoW xw)⟩
    | rt d => exact fun v ρ1 H1 x1 rl1 rv => let ⟨hf, xt, rlu, xw⟩ := unlocked rl eA hA r1 x1 rl1; ⟨hf, q v ρ1 _ xt rlu (rv.monoW xw)⟩
  · cases e
end
end Den
/-! Den12: the defs of the table, their calls. -/
namespace Den
open PySem PySem.Spec L2
/-! ### readings -/
def startE (k : Nat) (args : List D) : E := args.map some ++ List.replicate (k - args.length) none
/-- a def of the table: its body, how many slots, how many parameters -/
structure FD where
  m : MS
  k : Nat
  n : Nat
/-- a def's body run at its arguments -/
def callM (f : FD) (rt : Rt) (args : List D) (h : AH) : R D := cond (Nat.beq args.length f.n) ((f.m rt (startE f.k args) h).bind fun sg h1 => match sg with
  | .rt d => .ok d h1
  | .nx _ => .ok .non h1
  | _ => .bad) .bad
theorem callM_len {f : FD} {rt : Rt} {args : List D} {h h' : AH} {d : D} (e : callM f rt args h = .ok d h') : args.length = f.n := by
  unfold callM at e
  cases q : Nat.beq args.length f.n with
  | true => exact Nat.eq_of_beq_eq_true q
  | false => rw [q] at e; cases e
/-- the table's defs, n deep -/
def rtN (F : Nat) (tab : Nat → FD) : Nat → Rt
  | 0 => ⟨fun _ _ _ => .bad, F⟩
  | n + 1 => ⟨fun i args h => callM (tab i) (rtN F tab n) args h, F⟩
def mCall (i : Nat) (a : MA) : ME := fun rt e h => (a rt e h).bind fun xs h1 => rt.call i xs h1
/-- dd behind the written arguments -/
def mCallD (i : Nat) (a : MA) (dd : List D) : ME := fun rt e h => (a rt e h).bind fun xs h1 => rt.call i (xs ++ dd) h1
/-- a def's promise: what the reading gives -/
def spC (S : Sy) (c : List D → AH → R D) (n : Nat) : Sp := fun vs H Q _ => vs.length = n ∧ ∃ ds ρ h d h', Rl S ρ H h ∧ Rvs S ρ H vs ds ∧ c ds h = .ok d h' ∧ Po S ρ H h' d Q
/-- what stands of the i-th def, calls that give all but dd -/
structure FnF (S : Sy) (lv : Nat) (rt : Rt) (i : Nat) (ps : List Str) (dd : List D) : Prop where
  ex : ∃ (fd : FuncData) (dvs : List V) (ds : List Value), FnOk S.P S.w S.K S.mg S.base CX0 lv (S.fa i) fd ps (spC S (rt.call i) ps.length) ∧ Binds S.K fd ps ds ∧ Vals dvs ds ∧ ∀ ρ H, Rvs S ρ H dvs dd
  kp : PySem.W.keepIn S.K (.ref (S.fa i)) = true
  ar : ∀ args h d h', rt.call i args h = .ok d h' → args.length = ps.length
section
variable {S : Sy} {Γ : Sc} {lv : Nat} {rt : Rt} {ρ ρ' : List Addr} {H H' : Hp} {h h' : AH} {m : MA} {pos : Pos}
theorem XOk.gl {X : Cx} (ok : XOk S Γ lv X) {x : Str} (h : Γ.sc.names.lookup x = some .globalImplicit) : Gl X x := by
  show X.env.scope.names.lookup x = _
  rw [ok.sc]; exact h
theorem rs_start {N : List Str} {vs : List V} {ds : List D} {k : Nat} (hk : k = N.length) (r : Rvs S ρ H vs ds) : Rs S ρ H (L2.start N vs) (startE k ds) := by
  subst hk
  have hl := r.length
  refine ⟨?_, fun i d e => ?_⟩
  · unfold L2.start startE
    rw [List.length_append, List.length_append, List.length_map, List.length_map, List.length_replicate, List.length_replicate, hl]
  · unfold startE at e
    by_cases hi : i < ds.length
    · rw [List.getElem?_append_left (by rw [List.length_map]; exact hi), List.getElem?_map] at e
      cases q : ds[i]? with
      | none => rw [q] at e; cases e
      | some d' =>
        rw [q] at e
        cases e
        obtain ⟨v, ev, rv⟩ := r.get q
        refine ⟨v, ?_, rv⟩
        unfold L2.start
        rw [List.getElem?_append_left (by rw [List.length_map, hl]; exact hi), List.getElem?_map, ev]
        rfl
    · rw [List.getElem?_append_right (by rw [List.length_map]; omega), List.getElem?_replicate] at e
      split at e <;> cases e
/-- f(e, ..) of the i-th def -/
theorem se_call {i : Nat} {x : Str} {p : Pos} {a : Expr} {es : List Expr} {ps : List Str} {dd : List D} (F : FnF S lv rt i ps dd) (hm : S.mg x = some (.ref (S.fa i))) (hg : Γ.sc.names.lookup x = some .globalImplicit) (ha : SA S Γ lv rt (a :: es) m) (hdb : (x == ("__debug__" : Str)) = false)
    (he : ∀ env, starEach (a :: es) env = (false, eval a env) :: starEach es env) (hpl : ∀ env, (backTo pos (starEach es env)).any (·.1) = false) : SE S Γ lv rt (.Call (.Name x p) (a :: es) [] pos) (mCallD i m dd) := by
  intro X ok σ en ρ H h d h' rs rl e Q q
  obtain ⟨xs, h1, e1, e⟩ := R.bind_eq_ok e
  obtain ⟨fd, dvs, ds, F0, hb, hd, hdd⟩ := F.ex
  rw [← ok.prog, ← ok.w, ← ok.K, ← ok.mg, ← ok.base] at F0
  refine wE_of (pe_call (E := E0) F0 ok.room (ok.gl hg) (by rw [ok.mg]; exact hm) (by rw [ok.K]; exact F.kp) (by rw [ok.K]; exact hb) hd pass0 pa_w hdb (he _) (hpl _)) (ha X ok σ en ρ H h xs h1 rs rl e1 _ fun vs ρ1 H1 x1 rl1 rvs => ?_)
  have r := rvs.append (hdd ρ1 H1)
  exact ⟨by rw [r.length]; exact F.ar _ _ _ _ e, xs ++ dd, ρ1, h1, d, h', rl1, r, e, q.later x1⟩
/-- f() -/
theorem se_call0 {i : Nat} {x : Str} {p : Pos} {ps : List Str} {dd : List D} (F : FnF S lv rt i ps dd) (hm : S.mg x = some (.ref (S.fa i))) (hg : Γ.sc.names.lookup x = some .globalImplicit) (hdb : (x == ("__debug__" : Str)) = false) : SE S Γ lv rt (.Call (.Name x p) [] [] pos) (mCallD i aNil dd) := by
  intro X ok σ en ρ H h d h' rs rl e Q q
  obtain ⟨xs, h1, e1, e⟩ := R.bind_eq_ok e
  cases e1
  obtain ⟨fd, dvs, ds, F0, hb, hd, hdd⟩ := F.ex
  rw [← ok.prog, ← ok.w, ← ok.K, ← ok.mg, ← ok.base] at F0
  refine wE_of (pe_call0 (E := E0) F0 ok.room (ok.gl hg) (by rw [ok.mg]; exact hm) (by rw [ok.K]; exact F.kp) (by rw [ok.K]; exact hb) hd pass0 hdb) ?_
  have r := Rvs.append (.nil (S := S) (ρ := ρ) (H := H)) (hdd ρ H)
  exact ⟨by rw [r.length]; exact F.ar _ _ _ _ e, [] ++ dd, ρ, h, d, h', rl, r, e, q⟩
/-- g(e, ..), g a local name that holds a def -/
theorem call_ok {X : Cx} (ok : XOk S Γ lv X) {i : Nat} {ps : List Str} {dd : List D} (F : FnF S lv rt i ps dd) {vs : List V} {xs : List D} {d : D} (rl : Rl S ρ H h) (r : Rvs S ρ H vs xs) (e : rt.call i (xs ++ dd) h = .ok d h') {Q : VK} (q : Po S ρ H h' d Q) : wC X (.ref (S.fa i)) vs H Q := by
  intro pins s σ us I rx
  obtain ⟨fd, dvs, ds, F0, hb, hd, hdd⟩ := F.ex
  rw [← ok.prog, ← ok.w, ← ok.K, ← ok.mg, ← ok.base] at F0
  have r2 := r.append (hdd ρ H)
  exact run_fn (E := E0) F0 ok.room (by rw [ok.K]; exact hb) hd pass0 I rx ⟨by rw [r2.length]; exact F.ar _ _ _ _ e, xs ++ dd, ρ, h, d, h', rl, r2, e, q⟩
/-- THE STEP: a def keeps the promise that its reading makes -/
theorem fn_step {x qual : Str} {params : Arguments} {body : List Stmt} {scope : Scope} {dvs : List V} {kws : List (Str × V)} {f : Addr} {fd : FuncData} {N ps : List Str} {F : FD} (D : FunD S.K x qual params body scope dvs kws f fd) (Sc : FnScope N ps scope) (hk : F.k = N.length) (hn : F.n = ps.length)
    (hb : SSs S ⟨N, scope, fun _ => true, false⟩ lv rt body F.m) : FnOk S.P S.w S.K S.mg S.base CX0 (lv + 3) f fd ps (spC S (callM F rt) ps.length) := by
  refine D.ok Sc (fun vs H Q E q => q.1) fun cdv A outer s H vs Q E hr ⟨_, ds, ρ, h, d, h', rl, rvs, e, q⟩ => ?_
  refine ⟨_, PSs.nox pss_w, ?_⟩
  unfold callM at e
  cases hl : Nat.beq ds.length F.n with
  | false => rw [hl] at e; cases e
  | true =>
    rw [hl] at e
    obtain ⟨sg, h1, e1, e⟩ := R.bind_eq_ok (show ((F.m rt (startE F.k ds) h).bind _) = .ok d h' from e)
    have ok : XOk S ⟨N, scope, fun _ => true, false⟩ lv (cxOf CX0 S.P S.w S.K S.mg S.base N qual scope f cdv A outer s H E).nox := ⟨rfl, rfl, rfl, rfl, rfl, rfl, rfl, rfl, Sc.nd, rfl, hr, rfl, fun z => nomatch z⟩
    refine hb _ ok _ _ ρ H h sg h1 (rs_start hk rvs) rl e1 _ ?_
    cases sg with
    | rt d1 => cases e; exact q
    | nx e1 => cases e; exact fun σ1 ρ1 H1 x1 rl1 _ => q _ _ _ x1 rl1 rv_n
    | bk e1 => cases e
    | ct e1 => cases e
end
end Den
/-! Den13: defs that ask for repr: called where no repr runs (the guards are known); the law's end. -/
namespace Den
open PySem PySem.Spec L2 PyProof.Rows
/-- a def's promise where no repr runs -/
structure FnG (S : Sy) (lv : Nat) (f : Addr) (fd : FuncData) (ps : List Str) (sp : Sp) : Prop where
  run : ∀ (A : Around) (outer : List Env) (s : Shared) (H : Hp) (args : Args) (us : List Value) (vs : List V) (Q : VK), Room lv A → A.guards = some [] → Env0 S.P S.w S.K S.mg S.base A outer s H → BindsTo s fd args (ps.zip us) → Vals vs us → sp vs H Q E0 →
    codeAny (model S.P S.w) A (.call (.ref f) args) (CR CX0 outer S.P S.w H s Q E0) s
structure FnGF (S : Sy) (lv : Nat) (rt : Rt) (i : Nat) (ps : List Str) (dd : List D) : Prop where
  ex : ∃ (fd : FuncData) (dvs : List V) (ds : List Value), FnG S lv (S.fa i) fd ps (spC S (rt.call i) ps.length) ∧ Binds S.K fd ps ds ∧ Vals dvs ds ∧ ∀ ρ H, Rvs S ρ H dvs dd
  kp : PySem.W.keepIn S.K (.ref (S.fa i)) = true
  ar : ∀ args h d h', rt.call i args h = .ok d h' → args.length = ps.length
section
variable {S : Sy} {Γ : Sc} {lv : Nat} {rt : Rt} {ρ ρ' : List Addr} {H H' : Hp} {h h' : AH} {m : MA} {pos : Pos}
/-- the step, guards known -/
theorem fn_stepG {x qual : Str} {params : Arguments} {body : List Stmt} {scope : Scope} {dvs : List V} {kws : List (Str × V)} {f : Addr} {fd : FuncData} {N ps : List Str} {F : FD} (D : FunD S.K x qual params body scope dvs kws f fd) (Sc : FnScope N ps scope) (hk : F.k = N.length) (hn : F.n = ps.length)
    (hb : SSs S ⟨N, scope, fun _ => true, true⟩ lv rt body F.m) : FnG S (lv + 3) f fd ps (spC S (callM F rt) ps.length) := by
  obtain ⟨oc, od, dV, kV, doc, pm, an, cdv, ct, osl, rfl, lk, hcd, _, _⟩ := D.ex
  refine ⟨fun A outer s H args us vs Q room gd en bd rel ⟨hl, ds, ρ, h, d, h', rl, rvs, e, q⟩ => ?_⟩
  have inK : S.K.In s.heap := en.mod.kin.keeps fun b o e => (en.bs b o e).1
  have par : ∀ y ∈ ps.zip us, scope.names.lookup y.1 = some .local ∨ (scope.names.lookup y.1 = some .cell ∧ ((cellsFrom (s.heap.objs.size + 1) scope.names []).lookup y.1).isSome = true) := by
    rintro ⟨n, v⟩ hy
    cases Sc.par n (List.of_mem_zip hy).1 with
    | inl q => exact .inl q
    | inr q => exact .inr ⟨q, PySem.W.cellsFrom_some _ _ _ (.inl q)⟩
  refine codeAny_call_function room.depth (inK _ _ lk) rfl Sc.co Sc.gen rfl (PySem.W.codeRec_of inK hcd) (bd _ _ _ _ ?_)
  refine wpAny_newFunctionEnv_cells Sc.kind par fun env he s1 x1 => ?_
  subst he
  refine ⟨(en.mod.nolimit.keeps fun b o e => (en.bs b o e).1).keeps x1.toInCall.keep, codeAny_func ?_⟩
  have I : Inv (cxOf CX0 S.P S.w S.K S.mg S.base N qual scope f cdv A outer s H E0) [] (L2.start N vs) H s1 := inv_start Sc room.hd en hl rel x1
  have ok : XOk S ⟨N, scope, fun _ => true, true⟩ lv (cxOf CX0 S.P S.w S.K S.mg S.base N qual scope f cdv A outer s H E0).nox := ⟨rfl, rfl, rfl, rfl, rfl, rfl, rfl, rfl, Sc.nd, rfl, room.deeper _, rfl, fun _ => gd⟩
  have wish : ∃ t, PSs (cxOf CX0 S.P S.w S.K S.mg S.base N qual scope f cdv A outer s H E0) body t ∧ t { nx := fun _ H' => Q .non H', rt := Q } (L2.start N vs) H := by
    refine ⟨_, PSs.nox pss_w, ?_⟩
    unfold callM at e
    cases hlen : Nat.beq ds.length F.n with
    | false => rw [hlen] at e; cases e
    | true =>
      rw [hlen] at e
      obtain ⟨sg, h1, e1, e⟩ := R.bind_eq_ok (show ((F.m rt (startE F.k ds) h).bind _) = .ok d h' from e)
      refine hb _ ok _ _ ρ H h sg h1 (rs_start hk rvs) rl e1 _ ?_
      cases sg with
      | rt d1 => cases e; exact q
      | nx e1 => cases e; exact fun σ1 ρ1 H1 x1 rl1 _ => q _ _ _ x1 rl1 rv_n
      | bk e1 => cases e
      | ct e1 => cases e
  obtain ⟨t, ht, hq⟩ := wish
  refine wpAny_mono (ht.run [] s1 _ H _ I hq) (fun fl s' hs => ?_) fun _ _ z => z
  cases fl with
  | ret u =>
    obtain ⟨v, σ', H', J, rv, qq⟩ := hs
    exact ⟨v, H', J.os, J.bare, J.base, J.hok, rv, qq⟩
  | next =>
    obtain ⟨σ', H', J, qq⟩ := hs
    exact ⟨.non, H', J.os, J.bare, J.base, J.hok, rfl, qq⟩
  | brk => obtain ⟨_, _, _, z⟩ := hs; exact False.elim z
  | cont => obtain ⟨_, _, _, z⟩ := hs; exact False.elim z
theorem runG {X : Cx} (ok : XOk S Γ lv X) (hgd : Γ.gd = true) {f : Addr} {fd : FuncData} {ps : List Str} {sp : Sp} {ds : List Value} {dvs : List V} (F : FnG S lv f fd ps sp) (hb : Binds S.K fd ps ds) (hd : Vals dvs ds) {pins : List (Addr × Obj)} {σ : L2.St} {s : Shared} {Q : VK} {us : List Value} {vs : List V}
    (I : Inv X pins σ H s) (r : Vals vs us) (hl : (vs ++ dvs).length = ps.length) (q : sp (vs ++ dvs) H Q E0) : wpAny (model X.prog X.w) X.A (call (.ref f) us) (EP X pins σ Q) X.xe s := by
  have both : Vals (vs ++ dvs) (us ++ ds) := r.append hd
  have en := I.env0
  rw [ok.prog, ok.w, ok.K, ok.mg, ok.base] at en
  have kin : S.K.In s.heap := by rw [← ok.K]; exact I.kIn
  have run := F.run X.A X.stack s H ⟨us, []⟩ (us ++ ds) (vs ++ dvs) Q ok.room (ok.gd hgd) en (hb s us kin (by rw [← both.length]; exact hl)) both q
  rw [ok.prog, ok.w]
  refine wpAny_call (codeAny_mono run fun r s' hq => ?_)
  cases r with
  | error e => exact False.elim hq
  | ok fl =>
    cases fl with
    | ret u => rw [← ok.prog, ← ok.w] at hq; exact I.after hq
    | next => exact hq.elim
    | brk => exact hq.elim
    | cont => exact hq.elim
theorem pe_callG {X : Cx} (ok : XOk S Γ lv X) (hgd : Γ.gd = true) {f : Addr} {fd : FuncData} {ps : List Str} {sp : Sp} {ds : List Value} {dvs : List V} {x : Str} {p : Pos} {a : Expr} {es : List Expr} {t : TA} (F : FnG S lv f fd ps sp) (hl : ∀ vs H Q E, sp vs H Q E → vs.length = ps.length) (hb : Binds S.K fd ps ds) (hd : Vals dvs ds) (hg : Gl X x)
    (hm : X.mg x = some (.ref f)) (hk : PySem.W.keepIn X.K (.ref f) = true) (ha : PA X (a :: es) t) (hdb : (x == ("__debug__" : Str)) = false) (he : starEach (a :: es) X.env = (false, eval a X.env) :: starEach es X.env) (hpl : (backTo pos (starEach es X.env)).any (·.1) = false) :
    PE X (.Call (.Name x p) (a :: es) [] pos) (tCall sp dvs E0 t) := by
  constructor
  intro pins s σ H Q I w
  refine wpAny_Call_Name_kw (ld_glob I hg hm ?_ hdb)
  refine PySem.W.callWith_K (h₀ := X.base) I.ok.mod.kin hk (thn (ha.run pos pins s σ H _ I w) fun us s1 ⟨vs, H1, I1, r, q⟩ => ⟨I1.kIn, runG ok hgd F hb hd I1 r (hl _ _ _ _ q) q⟩) he hpl
theorem se_callG {i : Nat} {x : Str} {p : Pos} {a : Expr} {es : List Expr} {ps : List Str} {dd : List D} (hgd : Γ.gd = true) (F : FnGF S lv rt i ps dd) (hm : S.mg x = some (.ref (S.fa i))) (hg : Γ.sc.names.lookup x = some .globalImplicit) (ha : SA S Γ lv rt (a :: es) m) (hdb : (x == ("__debug__" : Str)) = false)
    (he : ∀ env, starEach (a :: es) env = (false, eval a env) :: starEach es env) (hpl : ∀ env, (backTo pos (starEach es env)).any (·.1) = false) : SE S Γ lv rt (.Call (.Name x p) (a :: es) [] pos) (mCallD i m dd) := by
  intro X ok σ en ρ H h d h' rs rl e Q q
  obtain ⟨xs, h1, e1, e⟩ := R.bind_eq_ok e
  obtain ⟨fd, dvs, ds, F0, hb, hd, hdd⟩ := F.ex
  refine wE_of (pe_callG ok hgd F0 (fun _ _ _ _ q => q.1) hb hd (ok.gl hg) (by rw [ok.mg]; exact hm) (by rw [ok.K]; exact F.kp) pa_w hdb (he _) (hpl _)) (ha X ok σ en ρ H h xs h1 rs rl e1 _ fun vs ρ1 H1 x1 rl1 rvs => ?_)
  have r := rvs.append (hdd ρ1 H1)
  exact ⟨by rw [r.length]; exact F.ar _ _ _ _ e, xs ++ dd, ρ1, h1, d, h', rl1, r, e, q.later x1⟩
end
end Den
namespace Den
open PySem PySem.Spec L2 PyProof.Rows
/-- the law's call, from the heap that its script lies in -/
theorem law_callG {P : Program} {w : World} {K : PySem.W.Frag} {mg mb : Str → Option Value} {k : Nat} {fa a : Addr} {fd : FuncData} {x : Str} {sp : Sp} {s₁ : Shared} {vs : List Value} {ns : List Int}
    (inK : K.In s₁.heap) (gl : s₁.heap.Ns mainGlobals mg) (bl : s₁.heap.Ns builtinsNs mb) (bb : ∀ y : Str, y ≠ "__name__" → mb y = bootBuiltins y) (lim : s₁.heap.NoLimit) (hg : s₁.gens = #[])
    (ha : s₁.heap.get? a = some { cls := .type "list", data := .seq vs.toArray }) (hin : IntsAre vs ns) (hl : ns.length ≤ sizeLine) (room : Room k callerA)
    (F : ∀ base : Heap, K.In base → base.Ns mainGlobals mg → ∃ S : Sy, S.P = P ∧ S.w = w ∧ S.K = K ∧ S.mg = mg ∧ S.base = base ∧ FnG S k fa fd [x] sp) (bind : ∀ (s : Shared) (u : Value), BindsTo s fd ⟨[u], []⟩ [(x, u)])
    (prom : ∀ H : Hp, SqF K H a (ns.map V.int) → sp [.ref a] H (fun v _ => v = .bl true) E0) :
    codeAny (model P w) callerA (.call (.ref fa) ⟨[.ref a], []⟩) (fun r s' => r = .ok (.ret (.bool true)) ∧ OldK s₁.heap s'.heap ∧ s'.os = s₁.os ∧ AllBare s'.gens) s₁ := by
  have rv := vals_ints hin
  have lenV := hin.length
  have main : ∀ H : Hp, Only H → SqF K H a (ns.map V.int) → HOk P w H s₁.heap → (∀ b, b ≠ a → H b = none) → (K.lookup a ≠ none → H a = none) →
      codeAny (model P w) callerA (.call (.ref fa) ⟨[.ref a], []⟩) (fun r s' => r = .ok (.ret (.bool true)) ∧ OldK s₁.heap s'.heap ∧ s'.os = s₁.os ∧ AllBare s'.gens) s₁ := by
    intro H only sq hok out inn
    -- what is no list keeps out of H's way
    have bare : ∀ {b : Addr} {o : Obj} {es : Array DictEntry} {ep : Nat}, s₁.heap.get? b = some o → o.data = .dict es ep → H b = none := by
      intro b o es ep e d
      by_cases eb : b = a
      · subst eb
        rw [ha] at e
        cases e
        have d' : Data.seq vs.toArray _ = Data.dict es ep := d
        cases d'
      · exact out b eb
    have nsB : ∀ {b : Addr} {g : Str → Option Value}, s₁.heap.Ns b g → (hidT s₁.heap H).Ns b g := fun ⟨o, es, ep, e, d, r⟩ => ⟨o, es, ep, hidT_get e (bare e d), d, r⟩
    have kB : K.In (hidT s₁.heap H) := fun b o e => hidT_get (inK b o e) (by
      by_cases eb : b = a
      · subst eb; exact inn (by rw [e]; exact fun z => nomatch z)
      · exact out b eb)
    have md : Mod K mg (hidT s₁.heap H) := ⟨kB, nsB gl, ⟨mb, nsB bl, bb⟩, let ⟨mc, h1, h2⟩ := lim; ⟨mc, nsB h1, h2⟩⟩
    have en : Env0 P w K mg (hidT s₁.heap H) callerA [] s₁ H := ⟨rfl, md, fun b o e => of_hidT e, Nat.le_of_eq (hidT_size _ _), trivial, fun b hb => (by cases (show b ∈ ([] : List Addr) from hb)), hok, .of_eq hg⟩
    obtain ⟨S, e1, e2, e3, e4, e5, G⟩ := F _ kB (nsB gl)
    have en' : Env0 S.P S.w S.K S.mg S.base callerA [] s₁ H := by rw [e1, e2, e3, e4, e5]; exact en
    have go := G.run callerA [] s₁ H ⟨[.ref a], []⟩ [.ref a] [.ref a] _ room rfl en' (bind s₁ (.ref a)) (.cons rfl .nil) (prom H sq)
    rw [e1, e2] at go
    refine codeAny_mono go fun r s' h => ?_
    cases r with
    | error e => exact h.elim
    | ok fl =>
      cases fl with
      | ret u =>
        obtain ⟨v, H', os, gens, un, hok', r', q⟩ := h
        have q' : v = .bl true := q
        subst q'
        obtain rfl : u = Value.bool true := r'
        refine ⟨rfl, OldK.of_keep fun b o e => ?_, os, gens⟩
        rcases only b with z | ⟨ob, xs, z⟩
        · exact un.keep b o e z (fun q => (by cases (show b ∈ ([] : List Addr) from q))) (by simp)
        · have z2 := un.frzs b ob _ z
          have a1 := (hok b _ z).1
          have a2 := (hok' b _ z2).1
          rw [a2, ← a1]; exact e
      | next => exact h.elim
      | brk => exact h.elim
      | cont => exact h.elim
  cases hk : K.lookup a with
  | some o =>
    have e := inK a o hk
    rw [ha] at e
    cases e
    exact main (fun _ => none) (fun _ => .inl rfl) (.inr ⟨_, vs.toArray, _, hk, rfl, rfl, rfl, by rw [List.size_toArray, lenV]; exact hl, by simpa using rv⟩) (fun b u z => (by cases z)) (fun b _ => rfl) fun _ => rfl
  | none =>
    refine main (fun b => if b = a then some (.frz { cls := .type "list", data := .seq vs.toArray } (.lst (ns.map V.int))) else none) (fun b => ?_) (.inl ⟨{ cls := .type "list", data := .seq vs.toArray }, if_pos rfl⟩) (fun b u z => ?_) (fun b hb => if_neg hb) fun z => absurd hk z
    · by_cases hb : b = a
      · exact .inr ⟨_, _, if_pos hb⟩
      · exact .inl (if_neg hb)
    · by_cases hb : b = a
      · have z := (if_pos hb).symm.trans z
        cases z
        subst hb
        exact ⟨ha, by rw [List.length_map]; exact hl, vs, _, rv, ha⟩
      · have z := (if_neg hb).symm.trans z
        cases z
/-- the walk of a law -/
theorem walk_G {l : PySem.W.OpenLaw} {n k : Nat} {q : Program} {loose : List Str} {XP : (Str → Option Value) → Heap → Prop} {YP : World → Heap → Prop} {d : DefRec} {x : Str}
    (hn : l.most = some n) (hn2 : n ≤ sizeLine) (hdf : d.params.defaults = []) (room : Room k callerA)
    (F : ∀ (w : World) (mg : Str → Option Value) (fa : Addr) (h : Heap), YP w h → h.Ns mainGlobals mg → mg d.name = some (.ref fa) →
      ∃ (K : PySem.W.Frag) (fd : FuncData) (sp : Sp), K.In h ∧ (∀ (s : Shared) (u : Value), BindsTo s fd ⟨[u], []⟩ [(x, u)]) ∧
        (∀ (H : Hp) (a : Addr) (ns : List Int), ns.length ≤ n → SqF K H a (ns.map V.int) → sp [.ref a] H (fun v _ => v = .bl true) E0) ∧
        ∀ base : Heap, K.In base → base.Ns mainGlobals mg → ∃ S : Sy, S.P = l.prog ∧ S.w = w ∧ S.K = K ∧ S.mg = mg ∧ S.base = base ∧ FnG S k fa fd [x] sp) :
    PySem.W.WalkO q loose XP YP l.row.toRowW d [] (fun f vs => PySem.call f vs) := by
  refine Att.attach_call hn hdf fun w s₀ s₁ mg mb fa o pm cd doc a vs ns G Y ho hd hcd hmg hobj hints hlen hg => ?_
  obtain ⟨K, fd, sp, kin, bd, hsp, hF⟩ := F w mg fa _ Y G.T.g hmg
  exact law_callG kin G.T.g G.T.b G.T.builtins G.T.nolimit hg hobj hints (Nat.le_trans hlen hn2) room hF bd fun H sq => hsp H a ns hlen sq
end Den
/-! Den14: built-in functions. -/
namespace Den
open PySem PySem.Spec L2
open PySem.W (alike dataLe EachIs sorted_data)
abbrev BF := List D → AH → R D
def SC (S : Sy) (Γ : Sc) (lv : Nat) (f : Value) (op : BF) : Prop := ∀ X, XOk S Γ lv X → ∀ vs ds ρ H h d h', Rl S ρ H h → Rvs S ρ H vs ds → op ds h = .ok d h' → ∀ Q, Po S ρ H h' d Q → wC X f vs H Q
def mB (op : BF) (m : MA) : ME := fun rt e h => (m rt e h).bind fun xs h1 => op xs h1
/-! ### what they give -/
def bLen : BF := fun xs h => match xs with
  | [.str s] => cond (Nat.ble s.length LIM) (.ok (.int (s.length : Nat)) h) .bad
  | [.tup _ ys] => .ok (.int (ys.length : Nat)) h
  | [.fl ys] => .ok (.int (ys.length : Nat)) h
  | [.ref n] => (match h[n]? with
    | some (.lst ys) => .ok (.int (ys.length : Nat)) h
    | some (.dct kvs) => .ok (.int (kvs.length : Nat)) h
    | some (.dcl kvs) => .ok (.int (kvs.length : Nat)) h
    | _ => .bad)
  | _ => .bad
def bList : BF := fun xs h => match xs with
  | [.tup _ ys] => alloc (.lst ys) h
  | [.fl ys] => alloc (.lst ys) h
  | [.ref n] => (match h[n]? with
    | some (.lst ys) => alloc (.lst ys) h
    | some (.dct kvs) => alloc (.lst (kvs.map (·.1))) h
    | some (.dcl kvs) => alloc (.lst (kvs.map (·.1))) h
    | _ => .bad)
  | _ => .bad
def bTuple : BF := fun xs h => match xs with
  | [.tup p ys] => .ok (.tup p ys) h
  | [.fl ys] => .ok (.tup true ys) h
  | [.ref n] => (match lstAt h n with
    | some ys => .ok (.tup true ys) h
    | _ => .bad)
  | _ => .bad
def bInt : BF := fun xs h => match xs with
  | [.int i] => .ok (.int i) h
  | [.bl b] => .ok (.int (if b then 1 else 0)) h
  | _ => .bad
def bMax2 : BF := fun xs h => match xs with
  | [.int i, .int j] => .ok (.int (if j > i then j else i)) h
  | _ => .bad
def bMin2 : BF := fun xs h => match xs with
  | [.int i, .int j] => .ok (.int (if j < i then j else i)) h
  | _ => .bad
def bAbs : BF := fun xs h => match xs with
  | [.int i] => .ok (.int (if i < 0 then -i else i)) h
  | _ => .bad
def pdOf (h : AH) (d : D) : PyData := match pd h 60 d with
  | some p => p
  | none => .none
def bools : List D → Option (List Bool)
  | [] => some []
  | .bl b :: r => (match bools r with
    | some bs => some (b :: bs)
    | none => none)
  | _ => none
def allB : List Bool → Bool
  | [] => true
  | b :: r => b && allB r
def anyB : List Bool → Bool
  | [] => false
  | b :: r => b || anyB r
def bAll : BF := fun xs h => match xs with
  | [x] => (match itemsL h x with
    | some ys => (match bools ys with
      | some bs => .ok (.bl (allB bs)) h
      | none => .bad)
    | none => .bad)
  | _ => .bad
def bAny : BF := fun xs h => match xs with
  | [x] => (match itemsL h x with
    | some ys => (match bools ys with
      | some bs => .ok (.bl (anyB bs)) h
      | none => .bad)
    | none => .bad)
  | _ => .bad
def pds (h : AH) : List D → Option (List PyData)
  | [] => some []
  | d :: r => (match pd h 60 d, pds h r with
    | some p, some ps => some (p :: ps)
    | _, _ => none)
def tupsB : List PyData → Bool
  | [] => true
  | .tuple (_ :: _) :: r => tupsB r
  | _ => false
def noTupB : List PyData → Bool
  | [] => true
  | .none :: _ => false
  | .tuple _ :: _ => false
  | _ :: r => noTupB r
def sortOk (ps : List PyData) : Bool := (ps.all fun p => ps.all fun q => alike p q) && (tupsB ps || noTupB ps) && ps.all fun p => Nat.ble p.depth 60
def sortD (h : AH) (xs : List D) : List D := PySem.W.mergeSortF (dataLe false (pdOf h)) xs.length xs
def bSorted : BF := fun xs h => match xs with
  | [x] => (match itemsL h x with
    | some ys => (match pds h ys with
      | some ps => cond (sortOk ps) (alloc (.lst (sortD h ys)) h) .bad
      | none => .bad)
    | none => .bad)
  | _ => .bad
mutual
def shortB : PyData → Bool
  | .none => true
  | .bool _ => true
  | .int i => Nat.blt i.natAbs 1000000000000
  | .str x => x.cps.toList.all fun c => Nat.blt c 4294967296
  | .list xs => shortsB xs
  | .tuple xs => shortsB xs
  | .dict _ => false
def shortsB : List PyData → Bool
  | [] => true
  | x :: xs => shortB x && shortsB xs
end
def bRepr : BF := fun xs h => match xs with
  | [x] => (match pd h 60 x with
    | some p => cond (shortB p && (Nat.ble p.weight 1048576 && Nat.ble p.depth 60)) (.ok (.rep p) h) .bad
    | none => .bad)
  | _ => .bad
/-! ### that they stand -/
section
variable {S : Sy} {Γ : Sc} {lv : Nat} {rt : Rt} {ρ ρ' : List Addr} {H H' : Hp} {h h' : AH} {m : MA} {pos : Pos} {op : BF}
theorem se_bf {x : Str} {id : String} {p : Pos} {a : Expr} {es : List Expr} (hop : SC S Γ lv (.builtin id) op) (hm : S.mg x = none) (hv : bootBuiltins x = some (.builtin id)) (hg : Γ.sc.names.lookup x = some .globalImplicit) (ha : SA S Γ lv rt (a :: es) m) (hn : x ≠ "__name__") (hdb : (x == ("__debug__" : Str)) = false)
    (he : ∀ env, starEach (a :: es) env = (false, eval a env) :: starEach es env) (hpl : ∀ env, (backTo pos (starEach es env)).any (·.1) = false) : SE S Γ lv rt (.Call (.Name x p) (a :: es) [] pos) (mB op m) := by
  intro X ok σ en ρ H h d h' rs rl e Q q
  obtain ⟨xs, h1, e1, e⟩ := R.bind_eq_ok e
  refine wE_of (pe_callB call_w (ok.gl hg) (by rw [ok.mg]; exact hm) hv pa_w hn hdb (he _) (hpl _)) (ha X ok σ en ρ H h xs h1 rs rl e1 _ fun vs ρ1 H1 x1 rl1 rvs => ?_)
  exact hop X ok vs xs ρ1 H1 h1 d h' rl1 rvs e Q (q.later x1)
theorem se_ty {x : Str} {T : String} {p : Pos} {a : Expr} {es : List Expr} (hop : SC S Γ lv (.type T) op) (hm : S.mg x = none) (hv : bootBuiltins x = some (.type T)) (hg : Γ.sc.names.lookup x = some .globalImplicit) (ha : SA S Γ lv rt (a :: es) m) (hn : x ≠ "__name__") (hdb : (x == ("__debug__" : Str)) = false)
    (he : ∀ env, starEach (a :: es) env = (false, eval a env) :: starEach es env) (hpl : ∀ env, (backTo pos (starEach es env)).any (·.1) = false) : SE S Γ lv rt (.Call (.Name x p) (a :: es) [] pos) (mB op m) := by
  intro X ok σ en ρ H h d h' rs rl e Q q
  obtain ⟨xs, h1, e1, e⟩ := R.bind_eq_ok e
  refine wE_of (pe_callTy call_w (ok.gl hg) (by rw [ok.mg]; exact hm) hv pa_w hn hdb (he _) (hpl _)) (ha X ok σ en ρ H h xs h1 rs rl e1 _ fun vs ρ1 H1 x1 rl1 rvs => ?_)
  exact hop X ok vs xs ρ1 H1 h1 d h' rl1 rvs e Q (q.later x1)
theorem sc_len : SC S Γ lv (.builtin "len") bLen := by
  intro X ok vs ds ρ H h d h' rl rvs e Q q
  unfold bLen at e
  split at e
  · rename_i s
    cases hl : Nat.ble s.length LIM with
    | false => rw [hl] at e; cases e
    | true =>
      rw [hl] at e
      have e' : R.ok (D.int (s.length : Nat)) h = .ok d h' := e
      cases e'
      obtain ⟨v, rfl, rv⟩ := rvs.one
      cases rv.s
      refine wC_of call_len_str ⟨_, rfl, by rw [str_len, lim_eq]; exact Nat.le_of_ble_eq_true hl, ?_⟩
      rw [str_len]; exact q.here rl (rv_i _)
  · cases e
    obtain ⟨v, rfl, rv⟩ := rvs.one
    obtain ⟨p, ws, rfl, s1, r1⟩ := rv.t
    refine wC_of call_len_seq ⟨p, ws, rfl, .inr (by rw [ok.K]; exact s1), ?_⟩
    rw [r1.length]; exact q.here rl (rv_i _)
  · cases e
    obtain ⟨v, rfl, rv⟩ := rvs.one
    obtain ⟨p, ws, rfl, s1, r1⟩ := rv.l
    refine wC_of call_len_seq ⟨p, ws, rfl, .inl (by rw [ok.K]; exact s1.seq), ?_⟩
    rw [r1.length]; exact q.here rl (rv_i _)
  · rename_i n
    obtain ⟨v, rfl, rv⟩ := rvs.one
    obtain ⟨p, ep, rfl⟩ := rv.r
    split at e
    · rename_i ys hn
      cases e
      obtain ⟨ws, h1, r1⟩ := rl.lst ep (lstAt_of hn)
      refine wC_of call_len_seq ⟨p, ws, rfl, .inl (.of h1), ?_⟩
      rw [r1.length]; exact q.here rl (rv_i _)
    · rename_i kvs hn
      cases e
      obtain ⟨p', ep', l, h1, r1⟩ := rl.at_ n _ hn
      rw [ep] at ep'; cases ep'
      intro pins s σ us I rx
      obtain rfl := Vals.ref1 rx
      refine d_len I (.of h1) fun t s' I' => ⟨.int l.length, H, I', ⟨t, rfl⟩, ?_⟩
      have e1 : l.length = kvs.length := Paired.length r1
      rw [e1]; exact q.here rl (rv_i _)
    · rename_i kvs hn
      cases e
      obtain ⟨p', ep', o, l, h1, r1⟩ := rl.at_ n _ hn
      rw [ep] at ep'; cases ep'
      intro pins s σ us I rx
      obtain rfl := Vals.ref1 rx
      refine d_len I (.inr ⟨o, h1⟩) fun t s' I' => ⟨.int l.length, H, I', ⟨t, rfl⟩, ?_⟩
      have e1 : l.length = kvs.length := Paired.length r1
      rw [e1]; exact q.here rl (rv_i _)
    · cases e
  · cases e
theorem rkv_keys {l : List (Key × V)} {kvs : List (D × D)} (r : Rkv S ρ H l kvs) : Rvs S ρ H (l.map fun kv => kV kv.1) (kvs.map (·.1)) := by
  induction r with
  | nil => exact .nil
  | cons q t ih => exact .cons (rk_rv q.1) ih
theorem sc_list : SC S Γ lv (.type "list") bList := by
  intro X ok vs ds ρ H h d h' rl rvs e Q q
  unfold bList at e
  split at e
  · obtain ⟨v, rfl, rv⟩ := rvs.one
    obtain ⟨p, ws, rfl, s1, r1⟩ := rv.t
    exact wC_of call_list_of ⟨p, ws, rfl, .inr (by rw [ok.K]; exact s1), fun l n => Po.lst rl e q n r1⟩
  · obtain ⟨v, rfl, rv⟩ := rvs.one
    obtain ⟨p, ws, rfl, s1, r1⟩ := rv.l
    exact wC_of call_list_of ⟨p, ws, rfl, .inl (by rw [ok.K]; exact s1.seq), fun l n => Po.lst rl e q n r1⟩
  · rename_i n
    obtain ⟨v, rfl, rv⟩ := rvs.one
    obtain ⟨p, ep, rfl⟩ := rv.r
    split at e
    · rename_i ys hn
      obtain ⟨ws, h1, r1⟩ := rl.lst ep (lstAt_of hn)
      exact wC_of call_list_of ⟨p, ws, rfl, .inl (.of h1), fun l n => Po.lst rl e q n r1⟩
    · rename_i kvs hn
      obtain ⟨p', ep', l, h1, r1⟩ := rl.at_ n _ hn
      rw [ep] at ep'; cases ep'
      exact wC_of (call_listD ok.calm) ⟨p, l, rfl, .of h1, fun b nb => Po.lst rl e q nb (rkv_keys r1)⟩
    · rename_i kvs hn
      obtain ⟨p', ep', o, l, h1, r1⟩ := rl.at_ n _ hn
      rw [ep] at ep'; cases ep'
      exact wC_of (call_listD ok.calm) ⟨p, l, rfl, .inr ⟨o, h1⟩, fun b nb => Po.lst rl e q nb (rkv_keys r1)⟩
    · cases e
  · cases e
/-- tuple(list): the new tuple is plain -/
theorem call_tupleP {X : Cx} : CallR X (.type "tuple") (fun xs H Q => ∃ p ys, xs = [.ref p] ∧ SqL X.K H p ys ∧ ∀ (l : Addr) (o : Obj), H l = none → o.dict = none → Q (.ref l) (upd H l (.frz o (.tup ys)))) := by
  intro pins s σ H xs us Q I r ⟨p, ys, ex, hq, q⟩
  subst ex
  obtain rfl := Vals.ref1 r
  obtain ⟨its, rv, pl, hz⟩ := I.list hq
  have hn := line63
  have hl := rv.length
  refine call_tuple_list pl.isList (fun h2 kp => ?_) (by simp only [List.size_toArray]; omega)
  have I1 : Inv X pins σ H { s with heap := h2 } := I.kept (t' := s.toks) kp
  have new : (h2.push { cls := .type "tuple", data := .seq its.toArray }).get? h2.objs.size = some { cls := .type "tuple", data := .seq its.toArray } := Heap.get?_push_size _ rfl
  refine ⟨.ref h2.objs.size, upd H h2.objs.size (.frz { cls := .type "tuple", data := .seq its.toArray } (.tup ys)), I1.laid (t' := s.toks) (fun b o e => Heap.get?_push_of_some _ e) (Nat.le_refl _) ?_, rfl, q _ _ (I1.hok.fresh (Nat.le_refl _)) rfl⟩
  exact ⟨new, hz, its, rv, ⟨_, new, rfl, _, rfl⟩⟩
theorem Po.tupP {xs : List D} {Q : VK} (rl : Rl S ρ H h) (q : Po S ρ H h (.tup true xs) Q) {p : Addr} {o : Obj} {vs : List V} (n : H p = none) (d : o.dict = none) (r : Rvs S ρ H vs xs) : Q (.ref p) (upd H p (.frz o (.tup vs))) := by
  refine q _ ρ _ (.fresh n) (rl.fresh n) ?_
  unfold Rv
  exact ⟨p, vs, rfl, .inl (.inr ⟨o, upd_same⟩), fun _ => .inl ⟨o, upd_same, d⟩, r.mono (.fresh n)⟩
theorem sc_tuple : SC S Γ lv (.type "tuple") bTuple := by
  intro X ok vs ds ρ H h d h' rl rvs e Q q
  unfold bTuple at e
  split at e
  · cases e
    obtain ⟨v, rfl, rv⟩ := rvs.one
    have rv0 := rv
    obtain ⟨p, ws, rfl, s1, r1⟩ := rv.t
    exact wC_of call_tuple_of ⟨p, ws, rfl, .inr ⟨by rw [ok.K]; exact s1, q.here rl rv0⟩⟩
  · cases e
    obtain ⟨v, rfl, rv⟩ := rvs.one
    obtain ⟨p, ws, rfl, s1, r1⟩ := rv.l
    exact wC_of call_tupleP ⟨p, ws, rfl, by rw [ok.K]; exact s1.seq, fun l o n d => q.tupP rl n d r1⟩
  · obtain ⟨v, rfl, rv⟩ := rvs.one
    obtain ⟨p, ep, rfl⟩ := rv.r
    split at e
    · rename_i ys hn
      cases e
      obtain ⟨ws, h1, r1⟩ := rl.lst ep hn
      exact wC_of call_tupleP ⟨p, ws, rfl, .of h1, fun l o n d => q.tupP rl n d r1⟩
    · cases e
  · cases e
theorem sc_int : SC S Γ lv (.type "int") bInt := by
  intro X ok vs ds ρ H h d h' rl rvs e Q q
  unfold bInt at e
  split at e
  · cases e
    obtain ⟨v, rfl, rv⟩ := rvs.one
    cases rv.i
    exact wC_of call_int1 (.inl ⟨_, rfl, q.here rl (rv_i _)⟩)
  · cases e
    obtain ⟨v, rfl, rv⟩ := rvs.one
    cases rv.b
    exact wC_of call_int1 (.inr ⟨_, rfl, q.here rl (rv_i _)⟩)
  · cases e
theorem sc_max2 : SC S Γ lv (.builtin "max") bMax2 := by
  intro X ok vs ds ρ H h d h' rl rvs e Q q
  unfold bMax2 at e
  split at e
  · cases e
    obtain ⟨v, u, rfl, rv, ru⟩ := rvs.two
    cases rv.i; cases ru.i
    exact wC_of (call_max2 ok.calm) ⟨_, _, rfl, q.here rl (rv_i _)⟩
  · cases e
theorem sc_min2 : SC S Γ lv (.builtin "min") bMin2 := by
  intro X ok vs ds ρ H h d h' rl rvs e Q q
  unfold bMin2 at e
  split at e
  · cases e
    obtain ⟨v, u, rfl, rv, ru⟩ := rvs.two
    cases rv.i; cases ru.i
    exact wC_of (call_min2 ok.calm) ⟨_, _, rfl, q.here rl (rv_i _)⟩
  · cases e
theorem sc_abs : SC S Γ lv (.builtin "abs") bAbs := by
  intro X ok vs ds ρ H h d h' rl rvs e Q q
  unfold bAbs at e
  split at e
  · cases e
    obtain ⟨v, rfl, rv⟩ := rvs.one
    cases rv.i
    exact wC_of call_abs ⟨_, rfl, q.here rl (rv_i _)⟩
  · cases e
/-! ### all, any -/
theorem bools_ok : ∀ {ys : List D} {bs : List Bool} {vs : List V} {us : List Value}, bools ys = some bs → Rvs S ρ H vs ys → Vals vs us → us = bs.map Value.bool
  | [], bs, vs, us, e, r, w => by
    unfold bools at e
    cases e
    rw [r.nil_iff] at w
    cases w; rfl
  | d :: ys, bs, vs, us, e, r, w => by
    obtain ⟨v, vr, rfl, r1, r2⟩ := r.cons_iff
    cases w with
    | cons w1 w2 =>
      cases d with
      | bl b =>
        unfold bools at e
        cases e2 : bools ys with
        | none => rw [e2] at e; cases e
        | some bs' =>
          rw [e2] at e
          cases e
          rw [bools_ok e2 r2 w2]
          cases r1.b
          cases w1
          rfl
      | _ => unfold bools at e; cases e
theorem allB_range : ∀ (bs : List Bool) (tr : Nat → Bool), (∀ i, i < bs.length → bs[i]? = some (tr i)) → (List.range bs.length).all tr = allB bs
  | [], tr, _ => rfl
  | b :: bs, tr, h => by
    have h0 : tr 0 = b := by
      have := h 0 (by simp)
      simp at this
      exact this.symm
    rw [List.length_cons, List.range_succ_eq_map, List.all_cons, List.all_map, h0]
    unfold allB
    rw [← allB_range bs (tr ∘ Nat.succ) fun i hi => by
      have := h (i + 1) (by simpa using hi)
      simpa using this]
theorem anyB_range : ∀ (bs : List Bool) (tr : Nat → Bool), (∀ i, i < bs.length → bs[i]? = some (tr i)) → (List.range bs.length).any tr = anyB bs
  | [], tr, _ => rfl
  | b :: bs, tr, h => by
    have h0 : tr 0 = b := by
      have := h 0 (by simp)
      simp at this
      exact this.symm
    rw [List.length_cons, List.range_succ_eq_map, List.any_cons, List.any_map, h0]
    unfold anyB
    rw [← anyB_range bs (tr ∘ Nat.succ) fun i hi => by
      have := h (i + 1) (by simpa using hi)
      simpa using this]
theorem list_it {P : Program} {w : World} {A : Around} {E : Value → Shared → Prop} {s : Shared} {a : Addr} {items : Array Value} (hh : A.handled = none) (hl : s.heap.IsList a items) {Q : Value → Shared → Prop}
    (q : ∀ s2 : Shared, (∀ b o, s.heap.get? b = some o → s2.heap.get? b = some o) → s2 = { s with heap := s2.heap } → Walks P w A s.heap.objs.size [s.heap.objs.size, a] [s.heap.objs.size] items.size (fun i v => items[i]? = some v) (fun i h => h.IsListIter s.heap.objs.size a i ∧ h.IsList a items) →
      s2.heap.IsListIter s.heap.objs.size a 0 ∧ s2.heap.IsList a items → s2.heap.objs.size = s.heap.objs.size + 1 → Q (.ref s.heap.objs.size) s2) : wpAny (model P w) A (pyIter (.ref a)) Q E s := by
  have hlt : a < s.heap.objs.size := by obtain ⟨o, e, _⟩ := hl; exact Heap.lt_size e
  refine wpAny_pyIter_list hl (q _ (fun b o e => Heap.get?_push_of_some _ e) rfl (Walks.list hh _ a (Nat.ne_of_lt hlt) items) ⟨⟨_, Heap.get?_push_size _ rfl, rfl, rfl⟩, hl.at fun o e => Heap.get?_push_of_some _ e⟩ (Heap.size_push ..))
theorem new_keep {N : Addr} {h1 h2 h3 : Heap} (k1 : ∀ b o, h1.get? b = some o → h2.get? b = some o) (hN : N = h1.objs.size) (k2 : ∀ b o, b ∉ [N] → h2.get? b = some o → h3.get? b = some o) : ∀ b o, h1.get? b = some o → h3.get? b = some o := fun b o e =>
  k2 b o (by rw [List.mem_singleton, hN]; exact Nat.ne_of_lt (Heap.lt_size e)) (k1 b o e)
theorem bools_get {bs : List Bool} {tr : Nat → Bool} (h : tr = fun i => (bs[i]?).getD false) : ∀ i, i < bs.length → bs[i]? = some (tr i) := fun i hi => by
  rw [h]
  simp [hi]
theorem truth_bools {P : Program} {w : World} {A : Around} {bs : List Bool} {items : Array Value} (hi : items.toList = bs.map Value.bool) : TruthOf P w A (fun i v => items[i]? = some v) (fun i => (bs[i]?).getD false) := by
  intro i v s Q E e q
  rw [← Array.getElem?_toList, hi, List.getElem?_map, Option.map_eq_some_iff] at e
  obtain ⟨b, e1, rfl⟩ := e
  have eb : (bs[i]?).getD false = b := by rw [e1]; rfl
  rw [← eb]
  exact wpAny_truthy_bool q
theorem sc_all : SC S Γ lv (.builtin "all") bAll := by
  intro X ok vs ds ρ H h d h' rl rvs e Q q
  unfold bAll at e
  split at e
  · split at e
    · rename_i ys hy
      split at e
      · rename_i bs hb
        cases e
        obtain ⟨v, rfl, rv⟩ := rvs.one
        obtain ⟨p, ws, rfl, s1, r1⟩ := itemsL_ok ok rl rv hy
        intro pins s σ us I rx
        obtain rfl := Vals.ref1 rx
        obtain ⟨its, rv', pl, hz⟩ := I.list s1
        have ei := bools_ok hb r1 rv'
        refine call_all_walk (list_it (in1_hd I ok.calm) pl.isList fun s2 k es W st sz => ?_)
        refine ⟨_, _, _, _, _, _, fun i => (bs[i]?).getD false, rfl, W, st, truth_bools (by simpa using ei), fun h3 tk k3 => ?_⟩
        have hsz : its.toArray.size = bs.length := by rw [List.size_toArray, ei, List.length_map]
        rw [hsz, allB_range bs _ (bools_get rfl)]
        rw [es]
        exact ⟨.bl (allB bs), H, I.kept (t' := tk) (new_keep k rfl k3), rfl, q.here rl (rv_b _)⟩
      · cases e
    · cases e
  · cases e
theorem sc_any : SC S Γ lv (.builtin "any") bAny := by
  intro X ok vs ds ρ H h d h' rl rvs e Q q
  unfold bAny at e
  split at e
  · split at e
    · rename_i ys hy
      split at e
      · rename_i bs hb
        cases e
        obtain ⟨v, rfl, rv⟩ := rvs.one
        obtain ⟨p, ws, rfl, s1, r1⟩ := itemsL_ok ok rl rv hy
        intro pins s σ us I rx
        obtain rfl := Vals.ref1 rx
        obtain ⟨its, rv', pl, hz⟩ := I.list s1
        have ei := bools_ok hb r1 rv'
        refine call_any_walk (list_it (in1_hd I ok.calm) pl.isList fun s2 k es W st sz => ?_)
        refine ⟨_, _, _, _, _, _, fun i => (bs[i]?).getD false, rfl, W, st, truth_bools (by simpa using ei), fun h3 tk k3 => ?_⟩
        have hsz : its.toArray.size = bs.length := by rw [List.size_toArray, ei, List.length_map]
        rw [hsz, anyB_range bs _ (bools_get rfl)]
        rw [es]
        exact ⟨.bl (anyB bs), H, I.kept (t' := tk) (new_keep k rfl k3), rfl, q.here rl (rv_b _)⟩
      · cases e
    · cases e
  · cases e
/-! ### sorted -/
theorem pds_ok : ∀ {ys : List D} {ps : List PyData}, pds h ys = some ps → ps = ys.map (pdOf h) ∧ ∀ d ∈ ys, pd h 60 d = some (pdOf h d)
  | [], ps, e => by unfold pds at e; cases e; exact ⟨rfl, fun d m => by cases m⟩
  | d :: ys, ps, e => by
    unfold pds at e
    split at e
    · rename_i p ps' e1 e2
      cases e
      obtain ⟨a, b⟩ := pds_ok e2
      have ep : pdOf h d = p := by unfold pdOf; rw [e1]
      refine ⟨by rw [List.map_cons, ep, a], fun d' m => ?_⟩
      rcases List.mem_cons.mp m with rfl | m
      · rw [ep, e1]
      · exact b d' m
    · cases e
theorem tupsB_ok : ∀ {ps : List PyData}, tupsB ps = true → ∀ d ∈ ps, ∃ x r, d = .tuple (x :: r)
  | [], _, d, m => by cases m
  | p :: ps, e, d, m => by
    unfold tupsB at e
    split at e
    · rename_i heq; cases heq
    · rename_i x r rest heq
      cases heq
      rcases List.mem_cons.mp m with rfl | m
      · exact ⟨x, r, rfl⟩
      · exact tupsB_ok e d m
    · cases e
theorem noTupB_ok : ∀ {ps : List PyData}, noTupB ps = true → ∀ d ∈ ps, d ≠ .none ∧ ∀ xs, d ≠ .tuple xs
  | [], _, d, m => by cases m
  | p :: ps, e, d, m => by
    unfold noTupB at e
    split at e
    · rename_i heq; cases heq
    · cases e
    · cases e
    · rename_i x rest h1 h2 heq
      cases heq
      rcases List.mem_cons.mp m with rfl | m
      · exact ⟨fun z => h1 z, fun xs z => h2 xs z⟩
      · exact noTupB_ok e d m
theorem each_of {X : Cx} {pins : List (Addr × Obj)} {σ : L2.St} {s : Shared} (ok : XOk S Γ lv X) (I : Inv X pins σ H s) (rl : Rl S ρ H h) : ∀ {ys : List D} {vs : List V} {us : List Value}, Rvs S ρ H vs ys → Vals vs us → (∀ d ∈ ys, pd h 60 d = some (pdOf h d)) →
    EachIs (fun u d => ∃ x, RelV x u ∧ Rv S ρ H x d) us ys ∧ EachIs (fun u d => ∃ as, Reads s.heap u (pdOf h d) as) us ys
  | [], vs, us, r, w, _ => by rw [r.nil_iff] at w; cases w; exact ⟨.nil, .nil⟩
  | d :: ys, vs, us, r, w, a => by
    obtain ⟨v, vr, rfl, r1, r2⟩ := r.cons_iff
    cases w with
    | cons w1 w2 =>
      obtain ⟨b1, b2⟩ := each_of ok I rl r2 w2 fun d' m => a d' (List.mem_cons_of_mem _ m)
      have z := pd_ok rl 60 r1 (a d List.mem_cons_self)
      rw [← ok.K] at z
      exact ⟨.cons ⟨v, w1, r1⟩ b1, .cons (Dp.reads I _ _ _ z w1) b2⟩
theorem each_back : ∀ {us : List Value} {ys : List D}, EachIs (fun u d => ∃ x, RelV x u ∧ Rv S ρ H x d) us ys → ∃ vs, Vals vs us ∧ Rvs S ρ H vs ys
  | _, _, .nil => ⟨[], .nil, .nil⟩
  | _, _, .cons q t => let ⟨x, a, b⟩ := q; let ⟨vs, c, d⟩ := each_back t; ⟨x :: vs, .cons a c, .cons b d⟩
theorem sc_sorted : SC S Γ lv (.builtin "sorted") bSorted := by
  intro X ok vs ds ρ H h d h' rl rvs e Q q
  unfold bSorted at e
  split at e
  · split at e
    · rename_i ys hy
      split at e
      · rename_i ps hp
        cases hs : sortOk ps with
        | false => rw [hs] at e; cases e
        | true =>
          rw [hs] at e
          have e : Den.alloc (.lst (sortD h ys)) h = .ok d h' := e
          obtain ⟨v, rfl, rv⟩ := rvs.one
          obtain ⟨p, ws, rfl, s1, r1⟩ := itemsL_ok ok rl rv hy
          intro pins s σ us I rx
          obtain rfl := Vals.ref1 rx
          obtain ⟨its, rv', pl, hz⟩ := I.list s1
          obtain ⟨ep, hpd⟩ := pds_ok hp
          obtain ⟨E1, E2⟩ := each_of ok I rl r1 rv' hpd
          unfold sortOk at hs
          rw [Bool.and_eq_true, Bool.and_eq_true] at hs
          obtain ⟨⟨hs1, hs2⟩, hs3⟩ := hs
          rw [ep] at hs1 hs2 hs3
          have hL : ys.length ≤ sizeLine := by rw [← r1.length]; exact hz
          refine sorted_data (bs := ys) (enc := pdOf h) (R := fun u d => ∃ x, RelV x u ∧ Rv S ρ H x d) pl.isList E1 E2 (fun a ha b hb => ?_) ?_ hL (fun b hb => ?_) fun out ho eo => ?_
          · exact List.all_eq_true.mp (List.all_eq_true.mp hs1 a ha) b hb
          · rcases Bool.or_eq_true_iff.mp hs2 with z | z
            · exact .inl (tupsB_ok z)
            · exact .inr (noTupB_ok z)
          · have z := Nat.le_of_ble_eq_true (List.all_eq_true.mp hs3 _ (List.mem_map.mpr ⟨b, hb, rfl⟩))
            have u := ok.room.un
            omega
          · obtain ⟨ws', w1, w2⟩ := each_back eo
            have es : ys.mergeSort (dataLe false (pdOf h)) = sortD h ys := PySem.W.mergeSortF_eq _ _ _ (Nat.le_refl _)
            rw [es] at w2
            obtain ⟨c, hc⟩ := PyProof.Rows.sortedAll_at s.heap its out.toArray
            have I2 : Inv X pins σ (upd H (s.heap.objs.size + 1) (.lst ws')) { s with heap := PyProof.Rows.sortedAll s.heap its out.toArray } := by
              refine I.laid (t' := s.toks) (fun b o e => PyProof.Rows.sortedAll_old e) (Nat.le_succ _) ?_
              exact ⟨by rw [w1.length, ho]; exact hL, out, c, w1, hc⟩
            exact ⟨.ref (s.heap.objs.size + 1), _, I2, rfl, Po.lst rl e q (I.hok.fresh (Nat.le_succ _)) w2⟩
      · cases e
    · cases e
  · cases e
end
end Den
/-! Den15: repr. -/
namespace Den
open PySem PySem.Spec L2
mutual
theorem shortB_ok : ∀ {p : PyData}, shortB p = true → p.showable = true ∧ p.hasDict = false ∧ p.leavesShort 13 = true
  | .none, _ => ⟨by simp only [PyData.showable], by simp only [PyData.hasDict], by simp only [PyData.leavesShort]⟩
  | .bool b, _ => ⟨by simp only [PyData.showable], by simp only [PyData.hasDict], by simp only [PyData.leavesShort]⟩
  | .int i, e => by
    unfold shortB at e
    have z : i.natAbs < 1000000000000 := Nat.le_of_ble_eq_true e
    refine ⟨?_, by simp only [PyData.hasDict], ?_⟩
    · simp only [PyData.showable, decide_eq_true_eq]
      have z2 : i.natAbs < 2 ^ 1920 := Nat.lt_of_lt_of_le z (Nat.le_trans (show 1000000000000 ≤ 2 ^ 40 by decide) (Nat.pow_le_pow_right (by decide) (by decide)))
      by_cases h0 : i.natAbs = 0
      · rw [h0]; simp
      · exact (Nat.log2_lt h0).2 z2
    · simp only [PyData.leavesShort, decide_eq_true_eq]
      have e12 : (10 : Nat) ^ 12 = 1000000000000 := by decide
      exact PyData.shown_int_le (by omega)
  | .str x, e => by
    unfold shortB at e
    refine ⟨by simp only [PyData.showable], by simp only [PyData.hasDict], ?_⟩
    simp only [PyData.leavesShort]
    rw [List.all_eq_true] at e ⊢
    intro c m
    have z := Nat.le_of_ble_eq_true (e c m)
    have : (16 : Nat) ^ 8 = 4294967296 := by decide
    exact decide_eq_true (by omega)
  | .list xs, e => by
    unfold shortB at e
    obtain ⟨a, b, c⟩ := shortsB_ok e
    exact ⟨by simp only [PyData.showable]; exact a, by simp only [PyData.hasDict]; exact b, by simp only [PyData.leavesShort]; exact c⟩
  | .tuple xs, e => by
    unfold shortB at e
    obtain ⟨a, b, c⟩ := shortsB_ok e
    exact ⟨by simp only [PyData.showable]; exact a, by simp only [PyData.hasDict]; exact b, by simp only [PyData.leavesShort]; exact c⟩
  | .dict kvs, e => by unfold shortB at e; cases e
theorem shortsB_ok : ∀ {ps : List PyData}, shortsB ps = true → PyData.showableAll ps = true ∧ PyData.hasDictAll ps = false ∧ PyData.leavesShortAll 13 ps = true
  | [], _ => ⟨by simp only [PyData.showableAll], by simp only [PyData.hasDictAll], by simp only [PyData.leavesShortAll]⟩
  | p :: ps, e => by
    unfold shortsB at e
    rw [Bool.and_eq_true] at e
    obtain ⟨a, b, c⟩ := shortB_ok e.1
    obtain ⟨a', b', c'⟩ := shortsB_ok e.2
    exact ⟨by simp only [PyData.showableAll, a, a', Bool.and_self], by simp only [PyData.hasDictAll, b, b', Bool.or_self], by simp only [PyData.leavesShortAll, c, c', Bool.and_self]⟩
end
section
variable {S : Sy} {Γ : Sc} {lv : Nat} {rt : Rt} {ρ ρ' : List Addr} {H H' : Hp} {h h' : AH}
theorem sc_repr (hgd : Γ.gd = true) : SC S Γ lv (.builtin "repr") bRepr := by
  intro X ok vs ds ρ H h d h' rl rvs e Q q
  unfold bRepr at e
  split at e
  · rename_i x
    split at e
    · rename_i p hp
      cases hs : (shortB p && (Nat.ble p.weight 1048576 && Nat.ble p.depth 60)) with
      | false => rw [hs] at e; cases e
      | true =>
        rw [hs] at e
        have e' : R.ok (D.rep p) h = .ok d h' := e
        cases e'
        rw [Bool.and_eq_true, Bool.and_eq_true] at hs
        obtain ⟨s1, s2, s3⟩ := hs
        obtain ⟨a1, a2, a3⟩ := shortB_ok s1
        have w1 := Nat.le_of_ble_eq_true s2
        have d1 := Nat.le_of_ble_eq_true s3
        have e20 : (2 : Nat) ^ 20 = 1048576 := by decide
        have fits : p.shown.length ≤ sizeLine := PyData.shown_fits (by decide) (by decide) a3 (by omega)
        have done : Q (.str p.shown) H := q.here rl (by unfold Rv; rfl)
        obtain ⟨v, rfl, rv⟩ := rvs.one
        have z := pd_ok rl 60 rv hp
        rw [← ok.K] at z
        intro pins s σ us I rx
        have rg := ok.gd hgd
        have un := ok.room.un
        cases rx with
        | cons r0 rr =>
          cases rr
          obtain ⟨as, rd⟩ := Dp.reads I _ _ _ z r0
          cases z with
          | non =>
            cases r0
            simp only [PyData.shown] at done
            exact PySem.P.repr_of_none ⟨.str _, H, I.tok _, ⟨_, rfl⟩, done⟩
          | bl b =>
            cases r0
            simp only [PyData.shown] at done
            exact PySem.P.repr_of_bool ⟨.str _, H, I.tok _, ⟨_, rfl⟩, done⟩
          | int i =>
            obtain ⟨t, rfl⟩ := r0
            simp only [PyData.shown] at done
            simp only [PyData.showable, decide_eq_true_eq] at a1
            exact PySem.P.repr_of_int a1 ⟨.str _, H, I.tok _, ⟨_, rfl⟩, done⟩
          | str x =>
            obtain ⟨t, rfl⟩ := r0
            simp only [PyData.shown] at done fits
            exact PySem.P.repr_of_str ⟨.str _, H, I.tok _, ⟨_, rfl⟩, done⟩ fits
          | lst _ _ =>
            cases r0
            refine repr_of_reads' rd a1 (PyData.noDict_hsm a2) rg (by omega) (fun _ _ e => e) (fun h2 u tk k => ?_) fits
            exact ⟨.str _, H, I.kept (t' := tk) k, ⟨_, rfl⟩, done⟩
          | tup _ _ =>
            cases r0
            refine repr_of_reads' rd a1 (PyData.noDict_hsm a2) rg (by omega) (fun _ _ e => e) (fun h2 u tk k => ?_) fits
            exact ⟨.str _, H, I.kept (t' := tk) k, ⟨_, rfl⟩, done⟩
    · cases e
  · cases e
end
end Den
/-! Den16: isinstance, methods of built-in types. -/
namespace Den
open PySem PySem.Spec L2
/-! ### isinstance(e, str | tuple | bool | int) -/
def tcode (h : AH) : D → Option Nat
  | .non => some 0
  | .bl _ => some 1
  | .int _ => some 2
  | .str _ => some 3
  | .rep _ => some 3
  | .tup _ _ => some 4
  | .fl _ => some 5
  | .ref n => (match h[n]? with
    | some (.lst _) => some 5
    | some (.dct _) => some 6
    | some (.dcl _) => some 6
    | _ => none)
  | _ => none
def tname : Nat → String
  | 0 => "NoneType"
  | 1 => "bool"
  | 2 => "int"
  | 3 => "str"
  | 4 => "tuple"
  | 5 => "list"
  | _ => "dict"
/-- t is of the type k (1 bool, 2 int, 3 str, 4 tuple) -/
def isiC (k t : Nat) : Bool := Nat.beq k t || (Nat.beq k 2 && Nat.beq t 1)
def mIsi (k : Nat) (a : ME) : ME := fun rt e h => (a rt e h).bind fun x h1 => match tcode h1 x with
  | some t => .ok (.bl (isiC k t)) h1
  | none => .bad
theorem kit_isi {K : PySem.W.Frag} {k t : Nat} (hk : k = 1 ∨ k = 2 ∨ k = 3 ∨ k = 4) (ht : t ≤ 6) : PySem.W.kitOne K (.type (tname t)) (.type (tname k)) = some (isiC k t) := by
  have h : ∀ k ∈ [1, 2, 3, 4], ∀ t ∈ [0, 1, 2, 3, 4, 5, 6], PySem.W.kitOne K (.type (tname t)) (.type (tname k)) = some (isiC k t) := by
    intro k hk t ht
    simp only [List.mem_cons, List.not_mem_nil, or_false] at hk ht
    rcases hk with rfl | rfl | rfl | rfl <;> rcases ht with rfl | rfl | rfl | rfl | rfl | rfl | rfl <;> kernel_rfl
  refine h k (by rcases hk with z | z | z | z <;> simp [z]) t ?_
  have : t = 0 ∨ t = 1 ∨ t = 2 ∨ t = 3 ∨ t = 4 ∨ t = 5 ∨ t = 6 := by omega
  rcases this with z | z | z | z | z | z | z <;> simp [z]
section
variable {S : Sy} {Γ : Sc} {lv : Nat} {rt : Rt} {a b c : Expr} {ma mb mc : ME} {m : MA} {pos : Pos} {ρ ρ' : List Addr} {H H' : Hp} {h h' : AH}
theorem tcode_ok (rl : Rl S ρ H h) {v : V} {d : D} {t : Nat} (rv : Rv S ρ H v d) (e : tcode h d = some t) : TyX S.K H v (.type (tname t)) ∧ t ≤ 6 := by
  cases d with
  | non => cases e; cases rv.n; exact ⟨.base .non, by decide⟩
  | bl b => cases e; cases rv.b; exact ⟨.base (.bl _), by decide⟩
  | int i => cases e; cases rv.i; exact ⟨.base (.int _), by decide⟩
  | str s => cases e; cases rv.s; exact ⟨.base (.str _), by decide⟩
  | rep p =>
    cases e
    have z : v = .str p.shown := by unfold Rv at rv; exact rv
    subst z
    exact ⟨.base (.str _), by decide⟩
  | tup p0 xs =>
    cases e
    obtain ⟨p, ws, rfl, s1, r1⟩ := rv.t
    refine ⟨?_, by decide⟩
    rcases s1 with (z | ⟨o, z⟩) | ⟨o, its, n, z1, z2, _⟩
    · exact .base (.tup z)
    · exact .fTuple z
    · exact .kTuple z1 z2
  | fl xs =>
    cases e
    obtain ⟨p, ws, rfl, s1, r1⟩ := rv.l
    refine ⟨?_, by decide⟩
    rcases s1 with ⟨o, z⟩ | ⟨o, its, n, z1, z2, _⟩
    · exact .base (.frz z)
    · exact .kList z1 z2
  | ref n =>
    obtain ⟨p, ep, rfl⟩ := rv.r
    unfold tcode at e
    dsimp only at e
    split at e
    · rename_i xs hn
      cases e
      obtain ⟨ws, h1, _⟩ := rl.lst ep (lstAt_of hn)
      exact ⟨.base (.lst h1), by decide⟩
    · rename_i kvs hn
      cases e
      obtain ⟨p', ep', l, h1, r1⟩ := rl.at_ n _ hn
      rw [ep] at ep'; cases ep'
      exact ⟨.base (.dK h1), by decide⟩
    · rename_i kvs hn
      cases e
      obtain ⟨p', ep', o, l, h1, r1⟩ := rl.at_ n _ hn
      rw [ep] at ep'; cases ep'
      exact ⟨.fDict h1, by decide⟩
    · cases e
  | fn f => cases e
  | cl f => cases e
  | ty f => cases e
  | kd ks vs => cases e
theorem se_isi {k : Nat} {x : Str} {p px : Pos} (hk : k = 1 ∨ k = 2 ∨ k = 3 ∨ k = 4) (hm : S.mg "isinstance" = none) (hg : Γ.sc.names.lookup ("isinstance" : Str) = some .globalImplicit) (ha : SE S Γ lv rt a ma)
    (hmx : S.mg x = none) (hgx : Γ.sc.names.lookup x = some .globalImplicit) (hvx : bootBuiltins x = some (.type (tname k))) (hnx : x ≠ "__name__") (hdx : (x == ("__debug__" : Str)) = false)
    (hs : ∀ env, starEach [a, .Name x px] env = (false, eval a env) :: starEach [.Name x px] env) (hpl : ∀ env, (backTo pos (starEach [.Name x px] env)).any (·.1) = false) :
    SE S Γ lv rt (.Call (.Name "isinstance" p) [a, .Name x px] [] pos) (mIsi k ma) := by
  intro X ok σ en ρ H h d h' rs rl e Q q
  obtain ⟨y, h1, e1, e⟩ := R.bind_eq_ok e
  have px' : PE X (.Name x px) (tC (.ty (tname k))) := pe_bltn (ok.gl hgx) (by rw [ok.mg]; exact hmx) hvx rfl hnx hdx
  refine wE_of (pe_callB call_w (ok.gl hg) (by rw [ok.mg]; exact hm) PyProof.Rows.boot_isinstance (pa_cons pe_w (pa_cons px' pa_nil rfl) (hs _)) (by decide) (by decide) (hs _) (hpl _)) (ha X ok σ en ρ H h y h1 rs rl e1 _ fun v ρ1 H1 x1 rl1 rv => ?_)
  split at e
  · rename_i t ht
    cases e
    obtain ⟨ty, hle⟩ := tcode_ok rl1 rv ht
    rw [← ok.K] at ty
    exact wC_of call_isi ⟨v, .ty (tname k), _, _, isiC k t, rfl, .ty _, ty, kit_isi hk hle, (q.later x1).here rl1 (rv_b _)⟩
  · cases e
end
end Den
/-! Den17: methods of lists and texts; dicts made. -/
namespace Den
open PySem PySem.Spec L2
abbrev OM := D → List D → AH → R D
def SM (S : Sy) (Γ : Sc) (lv : Nat) (id : String) (op : OM) : Prop := ∀ X, XOk S Γ lv X → ∀ x a vs ds ρ H h d h', Rl S ρ H h → Rv S ρ H x a → Rvs S ρ H vs ds → op a ds h = .ok d h' → ∀ Q, Po S ρ H h' d Q → wM X id x vs H Q
def isLst (h : AH) (d : D) : Bool := (itemsL h d).isSome
def isStr : D → Bool
  | .str _ => true
  | _ => false
/-- x.m(..): what x is stands ahead of the arguments -/
def mM (is : AH → D → Bool) (op : OM) (a : ME) (m : MA) : ME := fun rt e h => (a rt e h).bind fun x h1 => cond (is h1 x) ((m rt e h1).bind fun xs h2 => op x xs h2) .bad
def oAppend : OM := fun x ys h => match x, ys with
  | .ref n, [y] => (match lstAt h n with
    | some xs => cond (Nat.blt xs.length LIM) (.ok .non (h.set n (.lst (xs ++ [y])))) .bad
    | none => .bad)
  | _, _ => .bad
def oExtend : OM := fun x ys h => match x, ys with
  | .ref n, [.ref m] => (match lstAt h n, lstAt h m with
    | some xs, some zs => cond (Nat.ble (xs.length + zs.length) LIM) (.ok .non (h.set n (.lst (xs ++ zs)))) .bad
    | _, _ => .bad)
  | _, _ => .bad
def oPop : OM := fun x ys h => match x, ys with
  | .ref n, [] => (match lstAt h n with
    | some xs => (match xs[xs.length - 1]? with
      | some y => .ok y (h.set n (.lst xs.dropLast))
      | none => .bad)
    | none => .bad)
  | _, _ => .bad
def i63 (i : Int) : Bool := decide (-9223372036854775808 ≤ i) && decide (i < 9223372036854775808)
def oPopAt : OM := fun x ys h => match x, ys with
  | .ref n, [.int i] => (match lstAt h n with
    | some xs => (match ixN xs.length i with
      | some k => (match xs[k]? with
        | some y => cond (i63 i) (.ok y (h.set n (.lst (xs.eraseIdx k)))) .bad
        | none => .bad)
      | none => .bad)
    | none => .bad)
  | _, _ => .bad
def strL : List D → Option (List (List Nat))
  | [] => some []
  | .str s :: r => (match strL r with
    | some l => some (s :: l)
    | none => none)
  | _ => none
def sumLen : List (List Nat) → Nat
  | [] => 0
  | s :: r => s.length + sumLen r
def joinD (sep : List Nat) : List (List Nat) → List Nat
  | [] => []
  | [p] => p
  | p :: q :: r => p ++ (sep ++ joinD sep (q :: r))
def oJoin : OM := fun x ys h => match x, ys with
  | .str a, [y] => (match itemsS h y with
    | some zs => (match strL zs with
      | some l => cond (Nat.ble (sumLen l + l.length * a.length) LIM) (.ok (.str (joinD a l)) h) .bad
      | none => .bad)
    | none => .bad)
  | _, _ => .bad
/-! ### dicts -/
abbrev MP := Rt → E → AH → R (List (D × D))
def pNil : MP := fun _ _ h => .ok [] h
def pCons (k v : ME) (r : MP) : MP := fun rt e h => (k rt e h).bind fun x h1 => (v rt e h1).bind fun y h2 => (r rt e h2).bind fun ps h3 => .ok ((x, y) :: ps) h3
def putAll : List (D × D) → List (D × D) → List (D × D)
  | l, [] => l
  | l, (k, v) :: r => putAll (kput k v l) r
def keysOk : List (D × D) → Bool
  | [] => true
  | (k, _) :: r => keyD k && keysOk r
def mDict0 : ME := fun _ _ h => alloc (.dct []) h
def mDisp (m : MP) : ME := fun rt e h => (m rt e (h ++ [.dct []])).bind fun ps h1 => match h1[h.length]? with
  | some (.dct []) => cond (keysOk ps && Nat.ble ps.length 15) (.ok (.ref h.length) (h1.set h.length (.dct (putAll [] ps)))) .bad
  | _ => .bad
def pairsD (h : AH) : List D → Option (List (D × D))
  | [] => some []
  | .tup _ [k, v] :: r => (match pairsD h r with
    | some ps => some ((k, v) :: ps)
    | none => none)
  | _ => none
def bDict : BF := fun xs h => match xs with
  | [.tup true ys] => (match pairsD h ys with
    | some ps => cond (keysOk ps) (alloc (.dct (putAll [] ps)) h) .bad
    | none => .bad)
  | [.ref n] => (match h[n]? with
    | some (.dct kvs) => alloc (.dct kvs) h
    | some (.dcl kvs) => alloc (.dct kvs) h
    | some (.lst ys) => (match pairsD h ys with
      | some ps => cond (keysOk ps) (alloc (.dct (putAll [] ps)) h) .bad
      | none => .bad)
    | _ => .bad)
  | _ => .bad
/-! ### that they stand -/
section
variable {S : Sy} {Γ : Sc} {lv : Nat} {rt : Rt} {a b c : Expr} {ma mb mc : ME} {m : MA} {pos cpos apos : Pos} {ρ ρ' : List Addr} {H H' : Hp} {h h' : AH} {op : OM} {name : Str} {id : String} {es : List Expr}
theorem isLst_ok {X : Cx} (ok : XOk S Γ lv X) (rl : Rl S ρ H h) {x : V} {d : D} (rv : Rv S ρ H x d) (e : isLst h d = true) : tyV X.K "list" x H := by
  unfold isLst at e
  obtain ⟨xs, e⟩ := Option.isSome_iff_exists.mp e
  obtain ⟨p, vs, rfl, s1, r1⟩ := itemsL_ok ok rl rv e
  exact .inl ⟨rfl, vs, s1⟩
theorem isStr_ok {K : PySem.W.Frag} {x : V} {d : D} (rv : Rv S ρ H x d) (e : isStr d = true) : tyV K "str" x H := by
  unfold isStr at e
  split at e
  · cases rv.s; rfl
  · cases e
/-- x.m(e, ..) of a built-in type T -/
theorem se_bm {T : String} {is : AH → D → Bool} (hty : ∀ X, XOk S Γ lv X → ∀ {x : V} {d : D} {ρ H h}, Rl S ρ H h → Rv S ρ H x d → is h d = true → tyV X.K T x H) (pa : PlainAttrs T) (slot : Slot T name id) (ty : typeOf (.builtin id) = pure (.type "method_descriptor"))
    (hop : SM S Γ lv id op) (ha : SE S Γ lv rt a ma) (hb : SA S Γ lv rt (b :: es) m) (hbase : ∀ env, attributeBase a name env (eval a env) = eval a env)
    (hfew : ∀ env, ((backTo cpos (starEach (b :: es) env)).all (fun x => !x.1) && (backToKw cpos (keywordEach [] env)).all (fun x => x.1.isSome) && decide ((b :: es).length + ([] : List Keyword).length + (if ([] : List Keyword).isEmpty then 0 else 1) < 30)) = true)
    (hline : (apos.endLine == cpos.line) = true) (hs : ∀ env, starEach (b :: es) env = (false, eval b env) :: starEach es env) (hpl : ∀ env, (backTo cpos (starEach es env)).any (·.1) = false) :
    SE S Γ lv rt (.Call (.Attribute a name apos) (b :: es) [] cpos) (mM is op ma m) := by
  intro X ok σ en ρ H h d h' rs rl e Q q
  obtain ⟨x, h1, e1, e⟩ := R.bind_eq_ok e
  refine wE_of (pe_bm pa slot ty mt_w pe_w pa_w (hbase _) (hfew _) hline (hs _) (hpl _)) (ha X ok σ en ρ H h x h1 rs rl e1 _ fun v ρ1 H1 x1 rl1 rv => ?_)
  cases hi : is h1 x with
  | false => rw [hi] at e; cases e
  | true =>
    rw [hi] at e
    obtain ⟨xs, h2, e2, e⟩ := R.bind_eq_ok (show ((m rt en h1).bind fun xs h2 => op x xs h2) = .ok d h' from e)
    refine ⟨hty X ok rl1 rv hi, hb X ok σ en ρ1 H1 h1 xs h2 (rs.mono x1) rl1 e2 _ fun vs ρ2 H2 x2 rl2 rvs => ?_⟩
    exact hop X ok v x vs xs ρ2 H2 h2 d h' rl2 (rv.mono x2) rvs e Q (q.later (x1.trans x2))
theorem se_bm0 {T : String} {is : AH → D → Bool} (hty : ∀ X, XOk S Γ lv X → ∀ {x : V} {d : D} {ρ H h}, Rl S ρ H h → Rv S ρ H x d → is h d = true → tyV X.K T x H) (pa : PlainAttrs T) (slot : Slot T name id) (ty : typeOf (.builtin id) = pure (.type "method_descriptor"))
    (hop : SM S Γ lv id op) (ha : SE S Γ lv rt a ma) (hbase : ∀ env, attributeBase a name env (eval a env) = eval a env) (hline : (apos.endLine == cpos.line) = true) : SE S Γ lv rt (.Call (.Attribute a name apos) [] [] cpos) (mM is op ma aNil) := by
  intro X ok σ en ρ H h d h' rs rl e Q q
  obtain ⟨x, h1, e1, e⟩ := R.bind_eq_ok e
  refine wE_of (pe_bm0 pa slot ty mt_w pe_w (hbase _) hline) (ha X ok σ en ρ H h x h1 rs rl e1 _ fun v ρ1 H1 x1 rl1 rv => ?_)
  cases hi : is h1 x with
  | false => rw [hi] at e; cases e
  | true =>
    rw [hi] at e
    have e' : op x [] h1 = .ok d h' := e
    exact ⟨hty X ok rl1 rv hi, hop X ok v x [] [] ρ1 H1 h1 d h' rl1 rv .nil e' Q (q.later x1)⟩
theorem mt_of {X : Cx} {r : V → List V → Hp → VK → Prop} (p : MtM X id r) : MtR X id r := fun pins s σ H x xs v us Q I r1 r2 q => p pins s σ H x xs v us Q I r1 r2 q
theorem sm_append : SM S Γ lv "list.append" oAppend := by
  intro X ok x a vs ds ρ H h d h' rl rx rvs e Q q
  unfold oAppend at e
  split at e
  · rename_i n y
    split at e
    · rename_i xs hn
      cases hl : Nat.blt xs.length LIM with
      | false => rw [hl] at e; cases e
      | true =>
        rw [hl] at e
        have e' : R.ok D.non (h.set n (.lst (xs ++ [y]))) = .ok d h' := e
        cases e'
        obtain ⟨p, ep, rfl⟩ := rx.r
        obtain ⟨ws, h1, r1⟩ := rl.lst ep hn
        obtain ⟨v, rfl, rv⟩ := rvs.one
        have x1 : Xt S ρ H ρ (upd H p (.lst (ws ++ [v]))) := .write (List.mem_of_getElem? ep) (by rw [h1]; trivial)
        exact wM_of (mt_of mt_append) ⟨p, ws, v, rfl, rfl, h1, by rw [r1.length, lim_eq]; exact Nat.le_of_ble_eq_true hl, q _ ρ _ x1 (rl.put x1 ep ⟨_, upd_same, (r1.append (.cons rv .nil)).mono x1⟩) rv_n⟩
    · cases e
  · cases e
theorem sm_extend : SM S Γ lv "list.extend" oExtend := by
  intro X ok x a vs ds ρ H h d h' rl rx rvs e Q q
  unfold oExtend at e
  split at e
  · rename_i n m
    split at e
    · rename_i xs zs hn hm
      cases hl : Nat.ble (xs.length + zs.length) LIM with
      | false => rw [hl] at e; cases e
      | true =>
        rw [hl] at e
        have e' : R.ok D.non (h.set n (.lst (xs ++ zs))) = .ok d h' := e
        cases e'
        obtain ⟨p, ep, rfl⟩ := rx.r
        obtain ⟨ws, h1, r1⟩ := rl.lst ep hn
        obtain ⟨v, rfl, rv⟩ := rvs.one
        obtain ⟨p2, ep2, rfl⟩ := rv.r
        obtain ⟨us, h2, r2⟩ := rl.lst ep2 hm
        have x1 : Xt S ρ H ρ (upd H p (.lst (ws ++ us))) := .write (List.mem_of_getElem? ep) (by rw [h1]; trivial)
        exact wM_of (mt_of mt_extend) ⟨p, p2, ws, us, rfl, rfl, h1, h2, by rw [r1.length, r2.length, lim_eq]; exact Nat.le_of_ble_eq_true hl, q _ ρ _ x1 (rl.put x1 ep ⟨_, upd_same, (r1.append r2).mono x1⟩) rv_n⟩
    · cases e
  · cases e
theorem Rvs.dropLast {vs : List V} {xs : List D} (r : Rvs S ρ H vs xs) : Rvs S ρ H vs.dropLast xs.dropLast := by
  rw [List.dropLast_eq_take, List.dropLast_eq_take, r.length]
  exact r.take _
theorem Rvs.eraseIdx {vs : List V} {xs : List D} (r : Rvs S ρ H vs xs) (k : Nat) : Rvs S ρ H (vs.eraseIdx k) (xs.eraseIdx k) := by
  rw [List.eraseIdx_eq_take_drop_succ, List.eraseIdx_eq_take_drop_succ]
  exact (r.take _).append (r.drop _)
theorem sm_pop : SM S Γ lv "list.pop" oPop := by
  intro X ok x a vs ds ρ H h d h' rl rx rvs e Q q
  unfold oPop at e
  split at e
  · rename_i n
    split at e
    · rename_i xs hn
      split at e
      · rename_i y hy
        cases e
        obtain ⟨p, ep, rfl⟩ := rx.r
        obtain ⟨ws, h1, r1⟩ := rl.lst ep hn
        obtain ⟨v, ev, rv⟩ := r1.get hy
        have x1 : Xt S ρ H ρ (upd H p (.lst ws.dropLast)) := .write (List.mem_of_getElem? ep) (by rw [h1]; trivial)
        exact wM_of (mt_of mt_pop) ⟨p, ws, v, rfl, rvs.nil_iff, h1, by rw [r1.length]; exact ev, q _ ρ _ x1 (rl.put x1 ep ⟨_, upd_same, r1.dropLast.mono x1⟩) (rv.mono x1)⟩
      · cases e
    · cases e
  · cases e
theorem sm_popAt : SM S Γ lv "list.pop" oPopAt := by
  intro X ok x a vs ds ρ H h d h' rl rx rvs e Q q
  unfold oPopAt at e
  split at e
  · rename_i n i
    split at e
    · rename_i xs hn
      split at e
      · rename_i k hk
        split at e
        · rename_i y hy
          cases hl : i63 i with
          | false => rw [hl] at e; cases e
          | true =>
            rw [hl] at e
            have e' : R.ok y (h.set n (.lst (xs.eraseIdx k))) = .ok d h' := e
            cases e'
            unfold i63 at hl
            rw [Bool.and_eq_true] at hl
            simp only [decide_eq_true_eq] at hl
            obtain ⟨p, ep, rfl⟩ := rx.r
            obtain ⟨ws, h1, r1⟩ := rl.lst ep hn
            obtain ⟨v, ev, rv⟩ := r1.get hy
            obtain ⟨u, rfl, ru⟩ := rvs.one
            cases ru.i
            have x1 : Xt S ρ H ρ (upd H p (.lst (ws.eraseIdx k))) := .write (List.mem_of_getElem? ep) (by rw [h1]; trivial)
            have e63 : (2 : Int) ^ 63 = 9223372036854775808 := by decide
            exact wM_of (mt_of mt_popAt) ⟨p, ws, i, k, v, rfl, rfl, h1, by rw [e63]; exact hl.1, by rw [e63]; exact hl.2, by rw [r1.length]; exact (ixN_seq hk).1, ev, q _ ρ _ x1 (rl.put x1 ep ⟨_, upd_same, (r1.eraseIdx k).mono x1⟩) (rv.mono x1)⟩
        · cases e
      · cases e
    · cases e
  · cases e
theorem strL_ok : ∀ {ys : List D} {l : List (List Nat)} {vs : List V}, strL ys = some l → Rvs S ρ H vs ys → vs = (l.map fun s => (⟨s.toArray⟩ : Str)).map V.str
  | [], l, vs, e, r => by unfold strL at e; cases e; exact r.nil_iff
  | d :: ys, l, vs, e, r => by
    obtain ⟨v, vr, rfl, r1, r2⟩ := r.cons_iff
    cases d with
    | str s =>
      unfold strL at e
      cases e2 : strL ys with
      | none => rw [e2] at e; cases e
      | some l' =>
        rw [e2] at e
        cases e
        rw [strL_ok e2 r2, r1.s]
        rfl
    | _ => unfold strL at e; cases e
theorem sumLen_ok : ∀ l : List (List Nat), ((l.map fun s => (⟨s.toArray⟩ : Str)).map (·.length)).sum = sumLen l
  | [] => rfl
  | s :: l => by
    unfold sumLen
    rw [List.map_cons, List.map_cons, List.sum_cons, sumLen_ok l, str_len]
theorem joinD_ok (sep : List Nat) : ∀ l : List (List Nat), TL.joinL sep l = joinD sep l
  | [] => rfl
  | [p] => rfl
  | p :: q :: r => by
    unfold TL.joinL joinD
    rw [joinD_ok sep (q :: r)]
theorem sm_join : SM S Γ lv "str.join" oJoin := by
  intro X ok x a vs ds ρ H h d h' rl rx rvs e Q q
  unfold oJoin at e
  split at e
  · rename_i sep y
    split at e
    · rename_i zs hz
      split at e
      · rename_i l hl0
        cases hl : Nat.ble (sumLen l + l.length * sep.length) LIM with
        | false => rw [hl] at e; cases e
        | true =>
          rw [hl] at e
          have e' : R.ok (D.str (joinD sep l)) h = .ok d h' := e
          cases e'
          cases rx.s
          obtain ⟨v, rfl, rv⟩ := rvs.one
          obtain ⟨p, ws, rfl, s1, r1⟩ := itemsS_ok ok rl rv hz
          rw [strL_ok hl0 r1] at s1
          refine wM_of mt_join ⟨_, p, l.map fun s => (⟨s.toArray⟩ : Str), rfl, rfl, s1.symm, ?_, ?_⟩
          · rw [sumLen_ok, List.length_map, str_len]; exact Nat.le_of_ble_eq_true hl
          · have e2 := SX.join_S sep l
            show Q (.str (Txt.join ⟨sep.toArray⟩ (l.map fun s => (⟨s.toArray⟩ : Str)))) H
            rw [e2, joinD_ok]
            exact q.here rl (rv_s _)
      · cases e
    · cases e
  · cases e
end
end Den
/-! Den18: dicts made. -/
namespace Den
open PySem PySem.Spec L2
section
variable {S : Sy} {Γ : Sc} {lv : Nat} {rt : Rt} {a b c : Expr} {ma mb mc : ME} {m : MP} {pos : Pos} {ρ ρ' : List Addr} {H H' : Hp} {h h' : AH}
abbrev RvP (S : Sy) (ρ : List Addr) (H : Hp) : List (V × V) → List (D × D) → Prop := Paired fun p q => Rv S ρ H p.1 q.1 ∧ Rv S ρ H p.2 q.2
theorem RvP.mono (x : Xt S ρ H ρ' H') {l : List (V × V)} {r : List (D × D)} (p : RvP S ρ H l r) : RvP S ρ' H' l r := Paired.mapP p fun _ _ q => ⟨q.1.mono x, q.2.mono x⟩
def SPP (S : Sy) (Γ : Sc) (lv : Nat) (rt : Rt) (pos : Pos) (keys : List (Option Expr)) (values : List Expr) (m : MP) : Prop := ∀ X, XOk S Γ lv X → ∃ trs, PPs X pos keys values trs ∧ ∀ σ en ρ H h ps h', Rs S ρ H σ en → Rl S ρ H h → m rt en h = .ok ps h' →
  ∀ Q : List (V × V) → Hp → Prop, (∀ vps ρ' H', Xt S ρ H ρ' H' → Rl S ρ' H' h' → RvP S ρ' H' vps ps → Q vps H') → tPairs trs σ H Q
theorem spp_nil : SPP S Γ lv rt pos [] [] pNil := by
  intro X ok
  refine ⟨_, pps_nil, fun σ en ρ H h ps h' rs rl e Q q => ?_⟩
  cases e
  exact q [] ρ H .refl rl .nil
theorem spp_cons {ks : List (Option Expr)} {vs : List Expr} (ha : SE S Γ lv rt a ma) (hb : SE S Γ lv rt b mb) (hr : SPP S Γ lv rt pos ks vs m) : SPP S Γ lv rt pos (some a :: ks) (b :: vs) (pCons ma mb m) := by
  intro X ok
  obtain ⟨trs, pp, hp⟩ := hr X ok
  refine ⟨_, pps_cons pe_w pe_w pp, fun σ en ρ H h ps h' rs rl e Q q => ?_⟩
  obtain ⟨x, h1, e1, e⟩ := R.bind_eq_ok e
  obtain ⟨y, h2, e2, e⟩ := R.bind_eq_ok e
  obtain ⟨ps', h3, e3, e⟩ := R.bind_eq_ok e
  cases e
  refine ha X ok σ en ρ H h x h1 rs rl e1 _ fun v ρ1 H1 x1 rl1 rv => ?_
  refine hb X ok σ en ρ1 H1 h1 y h2 (rs.mono x1) rl1 e2 _ fun u ρ2 H2 x2 rl2 ru => ?_
  refine hp σ en ρ2 H2 h2 ps' _ (rs.mono (x1.trans x2)) rl2 e3 _ fun vps ρ3 H3 x3 rl3 rps => ?_
  exact q _ ρ3 H3 ((x1.trans x2).trans x3) rl3 (.cons ⟨rv.mono (x2.trans x3), ru.mono x3⟩ rps)
theorem put_all : ∀ {ps : List (D × D)} {vps : List (V × V)} {l : List (Key × V)} {kvs : List (D × D)}, keysOk ps = true → RvP S ρ H vps ps → Rkv S ρ H l kvs →
    ∃ more : List (Key × V), vps = more.map (fun kv => (kV kv.1, kv.2)) ∧ more.length = ps.length ∧ Rkv S ρ H (mergeK l more) (putAll kvs ps)
  | [], _, l, kvs, _, .nil, r => ⟨[], rfl, rfl, r⟩
  | (k, d) :: ps, (v, u) :: vps, l, kvs, e, .cons q t, r => by
    unfold keysOk at e
    rw [Bool.and_eq_true] at e
    obtain ⟨more, e1, e2, e3⟩ := put_all (l := putK l (keyV k) u) (kvs := kput k d kvs) e.2 t (kput_ok e.1 q.2 r)
    refine ⟨(keyV k, u) :: more, ?_, by rw [List.length_cons, List.length_cons, e2], e3⟩
    have ev : v = kV (keyV k) := key_V q.1 e.1
    rw [List.map_cons, ← e1, ev]
theorem se_dict0 : SE S Γ lv rt (.Dict [] [] pos) mDict0 := by
  intro X ok σ en ρ H h d h' rs rl e Q q
  exact wE_of pe_dnewK (show tDNewK σ H Q from fun p n => Po.alloc rl e q n ⟨[], upd_same, .nil⟩)
theorem se_disp {keys : List (Option Expr)} {values : List Expr} (hp : SPP S Γ lv rt pos keys values m) (hall : keys.all (·.isSome) = true) (hl : keys.length = values.length) (h0 : keys ≠ []) (h15 : keys.length ≤ 15) : SE S Γ lv rt (.Dict keys values pos) (mDisp m) := by
  intro X ok σ en ρ H h d h' rs rl e Q q
  obtain ⟨ps, h1, e1, e⟩ := R.bind_eq_ok e
  obtain ⟨trs, pp, hpp⟩ := hp X ok
  refine wE_of (pe_disp pp hall hl h0 h15) (show tDisp trs σ H Q from fun A nA => ?_)
  have xA : Xt S ρ H (ρ ++ [A]) (upd H A (.dK [])) := .alloc nA
  have rlA : Rl S (ρ ++ [A]) (upd H A (.dK [])) (h ++ [.dct []]) := rl.alloc nA ⟨[], upd_same, .nil⟩
  have eA : (ρ ++ [A])[h.length]? = some A := by rw [← rl.len, List.getElem?_append_right (Nat.le_refl _), Nat.sub_self]; rfl
  refine hpp σ en _ _ _ ps h1 (rs.mono xA) rlA e1 _ fun vps ρ2 H2 x2 rl2 rps => ?_
  split at e
  · rename_i hn
    cases hk : (keysOk ps && Nat.ble ps.length 15) with
    | false => rw [hk] at e; cases e
    | true =>
      rw [hk] at e
      have e' : R.ok (D.ref h.length) (h1.set h.length (.dct (putAll [] ps))) = .ok d h' := e
      cases e'
      rw [Bool.and_eq_true] at hk
      have eA2 := pre_get x2.pre eA
      obtain ⟨A', ep, l, a1, a2⟩ := rl2.at_ _ _ hn
      rw [eA2] at ep; cases ep
      cases a2
      obtain ⟨more, b1, b2, b3⟩ := put_all hk.1 rps (.nil (F := fun (p : Key × V) (q : D × D) => Rk p.1 q.1 ∧ Rv S ρ2 H2 p.2 q.2))
      have x3 : Xt S ρ2 H2 ρ2 (upd H2 A (.dK (mergeK [] more))) := .write (List.mem_of_getElem? eA2) (by rw [a1]; trivial)
      refine ⟨a1, more, b1, by rw [b2]; exact Nat.le_of_ble_eq_true hk.2, ?_⟩
      exact q _ ρ2 _ ((xA.trans x2).trans x3) (rl2.put x3 eA2 ⟨_, upd_same, Rkv.mono x3 b3⟩) (rv_r eA2)
  · cases e
/-! ### dict(x) -/
theorem pairsD_ok : ∀ {ys : List D} {ps : List (D × D)} {vs : List V}, pairsD h ys = some ps → Rvs S ρ H vs ys → ∃ (as : List Addr) (vps : List (V × V)), vs = as.map V.ref ∧ RvP S ρ H vps ps ∧ Paired (fun p kv => SqT S.K H p [kv.1, kv.2]) as vps
  | [], ps, vs, e, r => by unfold pairsD at e; cases e; exact ⟨[], [], r.nil_iff, .nil, .nil⟩
  | d :: ys, ps, vs, e, r => by
    obtain ⟨v, vr, rfl, r1, r2⟩ := r.cons_iff
    unfold pairsD at e
    split at e
    · rename_i heq; cases heq
    · rename_i p0 k u rest heq
      cases heq
      split at e
      · rename_i ps' hp
        cases e
        obtain ⟨as, vps, e1, e2, e3⟩ := pairsD_ok hp r2
        obtain ⟨A, ws, rfl, s1, q1⟩ := r1.t
        obtain ⟨x, y, rfl, rx, ry⟩ := q1.two
        exact ⟨A :: as, (x, y) :: vps, by rw [List.map_cons, e1], .cons ⟨rx, ry⟩ e2, .cons s1 e3⟩
      · cases e
    · cases e
theorem paired_keys {as : List Addr} {K : PySem.W.Frag} : ∀ {more : List (Key × V)}, Paired (fun p kv => SqT K H p [kv.1, kv.2]) as (more.map fun kv => (kV kv.1, kv.2)) → Paired (fun p (kv : Key × V) => SqT K H p [kV kv.1, kv.2]) as more := by
  induction as with
  | nil =>
    intro more p
    cases more with
    | nil => exact .nil
    | cons m r => cases p
  | cons A as ih =>
    intro more p
    cases more with
    | nil => cases p
    | cons m r =>
      cases p with
      | cons q t => exact .cons q (ih t)
/-- dict(t) of a plain tuple of pairs -/
theorem call_dictT {X : Cx} (hc : X.calm = true) : CallR X (.type "dict") (fun xs H Q => ∃ (a : Addr) (ps : List Addr) (kvs : List (Key × V)), xs = [.ref a] ∧ SqP X.K H a (ps.map V.ref) ∧ SqT X.K H a (ps.map V.ref) ∧ Paired (fun p kv => SqT X.K H p [kV kv.1, kv.2]) ps kvs ∧
    ∀ p, H p = none → Q (.ref p) (upd H p (.dK (mergeK [] kvs)))) := by
  intro pins s σ H xs us Q I r ⟨a, ps, kvs, ex, hp, ht, hq, q⟩
  subst ex
  obtain rfl := Vals.ref1 r
  obtain ⟨its, rv, tp, hz⟩ := I.tuple ht
  have pl : ∃ o n, s.heap.get? a = some o ∧ o.cls = .type "tuple" ∧ o.dict = none ∧ o.data = .seq its.toArray n := by
    obtain ⟨o', e', c', n', d'⟩ := tp
    rcases hp with ⟨o, z, dn⟩ | ⟨o, its2, n, z1, z2, z3, z4, _⟩
    · have e1 := (I.hok a _ z).1
      rw [e'] at e1
      cases e1
      exact ⟨o', n', e', c', dn, d'⟩
    · have e1 := I.kIn a o z1
      rw [e'] at e1
      cases e1
      exact ⟨o', n', e', c', z3, d'⟩
  obtain ⟨prs, rel, hl, hpr⟩ := pairs_of I hq
  have ei := refs_at rv
  have hlen : prs.length = ps.length := hl
  -- the pairs as they lie
  have key : ∀ j (h1 : j < ps.length), ∃ (u : Value) (p : Key × Value), prs[j]? = some p ∧ PairAt s.heap (ps[j]) u p.2 ∧ keyIs p.1 u = true := by
    intro j h1
    have e1 : prs[j]? = some prs[j] := List.getElem?_eq_getElem (by rw [hlen]; exact h1)
    obtain ⟨b, u, e2, e3, e4⟩ := hpr j _ e1
    have e5 : ps[j]? = some ps[j] := List.getElem?_eq_getElem h1
    rw [e5] at e2
    cases e2
    exact ⟨u, _, e1, .inl e3, e4⟩
  obtain ⟨kvl, hkl, hkv⟩ : ∃ kvl : List (Value × Value), kvl.length = ps.length ∧ ∀ j (u x : Value), kvl[j]? = some (u, x) → ∃ (p : Key × Value) (b : Addr), prs[j]? = some p ∧ p.2 = x ∧ ps[j]? = some b ∧ PairAt s.heap b u x ∧ keyIs p.1 u = true := by
    refine ⟨(List.range ps.length).attach.map fun i => ((key i.1 (List.mem_range.mp i.2)).choose, (key i.1 (List.mem_range.mp i.2)).choose_spec.choose.2), by simp, fun j u x e => ?_⟩
    have hj : j < ps.length := by
      have := (List.getElem?_eq_some_iff.mp e).1
      simpa using this
    rw [List.getElem?_map] at e
    have e2 : (List.range ps.length).attach[j]? = some ⟨j, List.mem_range.mpr hj⟩ := by
      rw [List.getElem?_attach]
      simp [hj]
    rw [e2] at e
    have e3 := Option.some.inj e
    have s1 := (key j hj).choose_spec.choose_spec
    injection e3 with e4 e5
    refine ⟨(key j hj).choose_spec.choose, ps[j], s1.1, e5, List.getElem?_eq_getElem hj, ?_, ?_⟩
    · rw [← e4, ← e5]; exact s1.2.1
    · rw [← e4]; exact s1.2.2
  have PA := PairArg.tuple (prog := X.prog) (w := X.w) a its.toArray (fun j => (ps[j]?).getD 0) kvl
  have okk : PlainSeq "tuple" s.heap a its.toArray ∧ PairItems s.heap its.toArray (fun j => (ps[j]?).getD 0) kvl := by
    refine ⟨pl, by rw [List.size_toArray, ei, List.length_map, hkl], fun j u x e => ?_⟩
    obtain ⟨p, b, g1, g2, g3, g4, g5⟩ := hkv j u x e
    have g : (ps[j]?).getD 0 = b := by rw [g3]; rfl
    show its.toArray[j]? = some (.ref ((ps[j]?).getD 0)) ∧ PairAt s.heap ((ps[j]?).getD 0) u x
    rw [g]
    refine ⟨?_, g4⟩
    rw [List.getElem?_toArray, ei, List.getElem?_map, g3]
    rfl
  have hz' : kvl.length ≤ sizeLine := by rw [hkl]; rw [List.length_map] at hz; exact hz
  refine PySem.call_dict_pairs (knd := mixKind X.prog X.w) (kvs := prs) PA (I.ok.hd hc) okk ⟨by rw [hlen, hkl], fun i u x e => ?_⟩ hz' fun h2 tk dd k => ?_
  · obtain ⟨p, b, g1, g2, g3, g4, g5⟩ := hkv i u x e
    refine ⟨p.1, ?_, g5⟩
    rw [g1, ← g2]
  · have hm : (s.heap.objs.size == sysModules) = false := beq_eq_false_iff_ne.mpr (Nat.ne_of_gt I.big)
    have hlen2 : (mergeK [] kvs).length ≤ sizeLine := by
      refine Nat.le_trans (length_mergeK kvs []) ?_
      rw [List.length_nil, Nat.zero_add, rel.length, hl]
      rw [List.length_map] at hz; exact hz
    have kk : ∀ b o, s.heap.get? b = some o → h2.get? b = some o := fun b o e => k b o (by simp) e
    exact ⟨.ref s.heap.objs.size, upd H s.heap.objs.size (.dK (mergeK [] kvs)), I.laid (t' := tk) kk (Nat.le_refl _) (show ObjOk X.prog X.w _ _ _ (.dK (mergeK [] kvs)) from ⟨hlen2, hm, merged [] prs, KV.merge rel .nil, dd⟩), rfl, q _ (I.hok.fresh (Nat.le_refl _))⟩
theorem sc_dict : SC S Γ lv (.type "dict") bDict := by
  intro X ok vs ds ρ H h d h' rl rvs e Q q
  unfold bDict at e
  split at e
  · rename_i ys
    split at e
    · rename_i ps hp
      cases hk : keysOk ps with
      | false => rw [hk] at e; cases e
      | true =>
        rw [hk] at e
        obtain ⟨v, rfl, rv⟩ := rvs.one
        obtain ⟨A, ws, rfl, s1, s2, r1⟩ := rv.tp
        obtain ⟨as, vps, e1, e2, e3⟩ := pairsD_ok hp r1
        obtain ⟨more, b1, b2, b3⟩ := put_all hk e2 (.nil (F := fun (p : Key × V) (q : D × D) => Rk p.1 q.1 ∧ Rv S ρ H p.2 q.2))
        subst b1
        rw [e1] at s1 s2
        rw [← ok.K] at s1 s2 e3
        refine wC_of (call_dictT ok.calm) ⟨A, as, more, rfl, s1, s2, paired_keys e3, fun p n => ?_⟩
        exact Po.alloc rl e q n ⟨_, upd_same, Rkv.mono (.alloc n) b3⟩
    · cases e
  · rename_i n
    obtain ⟨v, rfl, rv⟩ := rvs.one
    obtain ⟨A, eA, rfl⟩ := rv.r
    split at e
    · rename_i kvs hn
      obtain ⟨p', ep', l, h1, r1⟩ := rl.at_ _ _ hn
      rw [eA] at ep'; cases ep'
      exact wC_of call_dictD ⟨A, l, rfl, .of h1, fun p n => Po.alloc rl e q n ⟨_, upd_same, Rkv.mono (.alloc n) r1⟩⟩
    · rename_i kvs hn
      obtain ⟨p', ep', o, l, h1, r1⟩ := rl.at_ _ _ hn
      rw [eA] at ep'; cases ep'
      exact wC_of call_dictD ⟨A, l, rfl, .inr ⟨o, h1⟩, fun p n => Po.alloc rl e q n ⟨_, upd_same, Rkv.mono (.alloc n) r1⟩⟩
    · rename_i ys hn
      split at e
      · rename_i ps hp
        cases hk : keysOk ps with
        | false => rw [hk] at e; cases e
        | true =>
          rw [hk] at e
          obtain ⟨ws, h1, r1⟩ := rl.lst eA (lstAt_of hn)
          obtain ⟨as, vps, e1, e2, e3⟩ := pairsD_ok hp r1
          obtain ⟨more, b1, b2, b3⟩ := put_all hk e2 (.nil (F := fun (p : Key × V) (q : D × D) => Rk p.1 q.1 ∧ Rv S ρ H p.2 q.2))
          subst b1
          rw [e1] at h1
          rw [← ok.K] at e3
          exact wC_of (call_dictP ok.calm) ⟨A, as, more, rfl, .of h1, paired_keys e3, fun p n => Po.alloc rl e q n ⟨_, upd_same, Rkv.mono (.alloc n) b3⟩⟩
      · cases e
    · cases e
  · cases e
end
end Den
/-! Den19: classes. -/
namespace Den
open PySem PySem.Spec L2
/-! ### readings -/
def flook (f : List Nat) : List (List Nat × D) → Option D
  | [] => none
  | (g, d) :: r => if leq g f then some d else flook f r
def fput (f : List Nat) (d : D) : List (List Nat × D) → List (List Nat × D)
  | [] => [(f, d)]
  | (g, x) :: r => if leq g f then (g, d) :: r else (g, x) :: fput f d r
def insAt (h : AH) (c : Nat) : D → Option (Nat × List (List Nat × D))
  | .ref n => (match h[n]? with
    | some (.ins c' fs) => cond (Nat.beq c' c) (some (n, fs)) none
    | _ => none)
  | _ => none
/-- e.f of an instance of the class c -/
def mFld (c : Nat) (f : List Nat) (a : ME) : ME := fun rt e h => (a rt e h).bind fun x h1 => match insAt h1 c x with
  | some (_, fs) => (match flook f fs with
    | some d => .ok d h1
    | none => .bad)
  | none => .bad
/-- e.f = v -/
def sFldM (c : Nat) (f : List Nat) (a v : ME) : MS := fun rt e h => (v rt e h).bind fun y h1 => (a rt e h1).bind fun x h2 => match insAt h2 c x with
  | some (n, fs) => cond (Nat.blt fs.length 1000) (.ok (.nx e) (h2.set n (.ins c (fput f y fs)))) .bad
  | none => .bad
/-- e.m(..), m the i-th def -/
def mMeth (c : Nat) (m : List Nat) (i : Nat) (a : ME) (r : MA) (dd : List D) : ME := fun rt e h => (a rt e h).bind fun x h1 => match insAt h1 c x with
  | some (_, fs) => (match flook m fs with
    | none => (r rt e h1).bind fun xs h2 => rt.call i (x :: (xs ++ dd)) h2
    | some _ => .bad)
  | none => .bad
/-- e.f, a property -/
def mProp (c i : Nat) (a : ME) : ME := fun rt e h => (a rt e h).bind fun x h1 => match insAt h1 c x with
  | some _ => rt.call i [x] h1
  | none => .bad
/-- e[i], the own __getitem__ -/
def mOwnIx (c i : Nat) (a b : ME) : ME := fun rt e h => (a rt e h).bind fun x h1 => (b rt e h1).bind fun y h2 => match insAt h2 c x with
  | some _ => rt.call i [x, y] h2
  | none => .bad
def made (i : Nat) (rt : Rt) (c : Nat) (args : List D) (h : AH) : R D := (rt.call i (.ref h.length :: args) (h ++ [.ins c []])).bind fun z h3 => match z with
  | .non => .ok (.ref h.length) h3
  | _ => .bad
/-- C(..) -/
def mMake (c i : Nat) (r : MA) (dd : List D) : ME := fun rt e h => (r rt e h).bind fun xs h1 => made i rt c (xs ++ dd) h1
/-- C(.., k = v) -/
def mMakeK (c i : Nat) (r k : MA) : ME := fun rt e h => (r rt e h).bind fun xs h1 => (k rt e h1).bind fun zs h2 => made i rt c (xs ++ zs) h2
/-! ### facts -/
structure FnKF (S : Sy) (lv : Nat) (rt : Rt) (i : Nat) (ps : List Str) (n : Nat) (ks : List Str) : Prop where
  ex : ∃ fd : FuncData, FnOk S.P S.w S.K S.mg S.base CX0 lv (S.fa i) fd ps (spC S (rt.call i) ps.length) ∧ KBn S.K fd ps n ks (fun us ws => us ++ ws) (fun vs zs => vs ++ zs)
  kp : PySem.W.keepIn S.K (.ref (S.fa i)) = true
  ar : ∀ args h d h', rt.call i args h = .ok d h' → args.length = ps.length
section
variable {S : Sy} {Γ : Sc} {lv : Nat} {rt : Rt} {a b : Expr} {ma mb mc : ME} {m : MA} {pos apos : Pos} {ρ ρ' : List Addr} {H H' : Hp} {h h' : AH} {c i : Nat} {f : Str} {es : List Expr}
theorem flook_ok {g : Str} : ∀ {l : List (Str × V)} {fs : List (List Nat × D)}, Rfs S ρ H l fs → match flook g.cps.toList fs with
    | some d => ∃ v, l.lookup g = some v ∧ Rv S ρ H v d
    | none => l.lookup g = none
  | _, _, .nil => rfl
  | (k, v) :: l, (k', d) :: fs, .cons q t => by
    have ih := flook_ok (g := g) t
    obtain ⟨q1, q2⟩ := q
    have q1' : k = ⟨k'.toArray⟩ := q1
    subst q1'
    unfold flook
    cases e : leq k' g.cps.toList with
    | true =>
      rw [if_pos rfl]
      have ek : (⟨k'.toArray⟩ : Str) = g := by rw [leq_iff.mp e, Array.toArray_toList]
      exact ⟨v, by rw [ek, List.lookup_cons, beq_self_eq_true], q2⟩
    | false =>
      rw [if_neg (by decide)]
      have ek : (g == (⟨k'.toArray⟩ : Str)) = false := by
        rw [beq_eq_false_iff_ne]
        intro z
        rw [z, leq_iff.mpr rfl] at e
        cases e
      rw [List.lookup_cons, ek]
      exact ih
theorem fput_ok {g : Str} {v : V} {d : D} (rv : Rv S ρ H v d) : ∀ {l : List (Str × V)} {fs : List (List Nat × D)}, Rfs S ρ H l fs → Rfs S ρ H (putF g v l) (fput g.cps.toList d fs)
  | _, _, .nil => .cons ⟨by rw [Array.toArray_toList], rv⟩ .nil
  | (k, u) :: l, (k', x) :: fs, .cons q t => by
    have ih := fput_ok (g := g) rv t
    obtain ⟨q1, q2⟩ := q
    have q1' : k = ⟨k'.toArray⟩ := q1
    subst q1'
    unfold putF fput
    cases e : leq k' g.cps.toList with
    | true =>
      have ek : (⟨k'.toArray⟩ : Str) = g := by rw [leq_iff.mp e, Array.toArray_toList]
      rw [if_pos rfl, if_pos ek]
      exact .cons ⟨rfl, rv⟩ t
    | false =>
      have ek : ¬ (⟨k'.toArray⟩ : Str) = g := by
        intro z
        rw [← z, leq_iff.mpr rfl] at e
        cases e
      rw [if_neg ek, if_neg (show ¬ false = true by decide)]
      exact .cons ⟨rfl, q2⟩ ih
theorem insAt_ok (rl : Rl S ρ H h) {v : V} {d : D} {n : Nat} {fs : List (List Nat × D)} (rv : Rv S ρ H v d) (e : insAt h c d = some (n, fs)) : ∃ A dx l, d = .ref n ∧ v = .ref A ∧ ρ[n]? = some A ∧ H A = some (.ins (S.ca c) dx l) ∧ Rfs S ρ H l fs := by
  unfold insAt at e
  split at e
  · rename_i k
    split at e
    · rename_i c' fs' hn
      cases hc : Nat.beq c' c with
      | false => rw [hc] at e; cases e
      | true =>
        rw [hc] at e
        have e' : some (k, fs') = some (n, fs) := e
        cases e'
        have ec := Nat.eq_of_beq_eq_true hc
        subst ec
        obtain ⟨A, eA, rfl⟩ := rv.r
        obtain ⟨A', eA', dx, l, h1, r1⟩ := rl.at_ _ _ hn
        rw [eA] at eA'; cases eA'
        exact ⟨A, dx, l, rfl, rfl, eA, h1, r1⟩
    · cases e
  · cases e
theorem se_fld (hc : Cls S.K (S.ca c)) (hn : NoAttr S.K (S.ca c) f) (ha : SE S Γ lv rt a ma) (hb : ∀ env, attributeBase a f env (eval a env) = eval a env) : SE S Γ lv rt (.Attribute a f pos) (mFld c f.cps.toList ma) := by
  intro X ok σ en ρ H h d h' rs rl e Q q
  obtain ⟨x, h1, e1, e⟩ := R.bind_eq_ok e
  refine wE_of (pe_fld pe_w (hb _)) (ha X ok σ en ρ H h x h1 rs rl e1 _ fun v ρ1 H1 x1 rl1 rv => ?_)
  split at e
  · rename_i n fs hi
    obtain ⟨A, dx, l, rfl, rfl, eA, hA, r1⟩ := insAt_ok rl1 rv hi
    have z := flook_ok (g := f) r1
    split at e
    · rename_i d' hd
      cases e
      rw [hd] at z
      obtain ⟨v, e2, rv2⟩ := z
      exact ⟨A, S.ca c, dx, l, v, rfl, hA, by rw [ok.K]; exact hc, by rw [ok.K]; exact hn, e2, (q.later x1).here rl1 rv2⟩
    · cases e
  · cases e
theorem ss_fld {pos' : Pos} (hc : Cls S.K (S.ca c)) (hn : NoAttr S.K (S.ca c) f) (ha : SE S Γ lv rt a ma) (hv : SE S Γ lv rt b mb) (hs : ∀ env, env.scope = Γ.sc → swapsWith b (some (.Attribute a f pos')) pos.line env = pure false) : SS S Γ lv rt (.Assign [.Attribute a f pos'] b pos) (sFldM c f.cps.toList ma mb) := by
  intro X ok σ en ρ H h sg h' rs rl e D q
  obtain ⟨y, h1, e1, e⟩ := R.bind_eq_ok e
  obtain ⟨x, h2, e2, e⟩ := R.bind_eq_ok e
  refine wS_of (ps_fld pe_w pe_w (hs _ ok.sc)) (hv X ok σ en ρ H h y h1 rs rl e1 _ fun u ρ1 H1 x1 rl1 ru => ?_)
  refine ha X ok σ en ρ1 H1 h1 x h2 (rs.mono x1) rl1 e2 _ fun v ρ2 H2 x2 rl2 rv => ?_
  split at e
  · rename_i n fs hi
    cases hl : Nat.blt fs.length 1000 with
    | false => rw [hl] at e; cases e
    | true =>
      rw [hl] at e
      have e' : R.ok (Sg.nx en) (h2.set n (.ins c (fput f.cps.toList y fs))) = .ok sg h' := e
      cases e'
      obtain ⟨A, dx, l, rfl, rfl, eA, hA, r1⟩ := insAt_ok rl2 rv hi
      have x3 : Xt S ρ2 H2 ρ2 (upd H2 A (.ins (S.ca c) dx (putF f u l))) := .write (List.mem_of_getElem? eA) (by rw [hA]; trivial)
      refine ⟨A, S.ca c, dx, l, rfl, hA, by rw [ok.K]; exact hc, by rw [ok.K]; exact hn, by rw [Paired.length r1]; exact Nat.le_of_ble_eq_true hl, ?_⟩
      have x123 := (x1.trans x2).trans x3
      exact q σ ρ2 _ x123 (rl2.put x3 eA ⟨dx, _, upd_same, fput_ok ((ru.mono x2).mono x3) (r1.mono x3)⟩) (rs.mono x123)
  · cases e
/-- what a call of a def's object gives -/
theorem fn_sp {ps : List Str} {dd : List D} (F : FnF S lv rt i ps dd) {vs dvs : List V} {xs : List D} {d : D} (rl : Rl S ρ H h) (r : Rvs S ρ H vs xs) (rd : Rvs S ρ H dvs dd) (e : rt.call i (xs ++ dd) h = .ok d h') {Q : VK} (q : Po S ρ H h' d Q) : spC S (rt.call i) ps.length (vs ++ dvs) H Q E0 := by
  have r2 := r.append rd
  exact ⟨by rw [r2.length]; exact F.ar _ _ _ _ e, xs ++ dd, ρ, h, d, h', rl, r2, e, q⟩
theorem se_meth {ps : List Str} {dd : List D} {pl : Env → Sem Bool} (hc : Cls S.K (S.ca c)) (hm : Meth S.K (S.ca c) f (S.fa i)) (F : FnF S lv rt i ps dd) (ha : SE S Γ lv rt a ma) (hb : SA S Γ lv rt (b :: es) m)
    (hs : ∀ env, starEach (b :: es) env = (false, eval b env) :: starEach es env) (hpl : ∀ env, (backTo pos (starEach es env)).any (·.1) = false)
    (ht : ∀ env, eval (.Call (.Attribute a f apos) (b :: es) [] pos) env = (do
      let ov ← eval a env
      standAt apos.atName
      let (f, first) ← holding [ov] (getMethod ov f (pl env))
      callWith pos f first (backTo pos (starEach (b :: es) env)) (backToKw pos (keywordEach [] env)))) :
    SE S Γ lv rt (.Call (.Attribute a f apos) (b :: es) [] pos) (mMeth c f.cps.toList i ma m dd) := by
  intro X ok σ en ρ H h d h' rs rl e Q q
  obtain ⟨x, h1, e1, e⟩ := R.bind_eq_ok e
  obtain ⟨fd, dvs, ds, F0, fb, hd, hdd⟩ := F.ex
  rw [← ok.prog, ← ok.w, ← ok.K, ← ok.mg, ← ok.base] at F0
  refine wE_of (pe_meth (pl := pl X.env) (C := S.ca c) (E := E0) pe_w (by rw [ok.K]; exact hc) (by rw [ok.K]; exact hm) F0 ok.room (by rw [ok.K]; exact fb) hd pass0 pa_w (hs _) (hpl _) (ht _)) (ha X ok σ en ρ H h x h1 rs rl e1 _ fun v ρ1 H1 x1 rl1 rv => ?_)
  split at e
  · rename_i n fs hi
    obtain ⟨A, dx, l, rfl, rfl, eA, hA, r1⟩ := insAt_ok rl1 rv hi
    have z := flook_ok (g := f) r1
    split at e
    · rename_i hd0
      rw [hd0] at z
      obtain ⟨xs, h2, e2, e⟩ := R.bind_eq_ok e
      refine ⟨A, dx, l, rfl, hA, z, hb X ok σ en ρ1 H1 h1 xs h2 (rs.mono x1) rl1 e2 _ fun vs ρ2 H2 x2 rl2 rvs => ?_⟩
      exact fn_sp F (xs := .ref n :: xs) rl2 (.cons (rv.mono x2) rvs) (hdd ρ2 H2) e (q.later (x1.trans x2))
    · cases e
  · cases e
theorem se_meth0 {ps : List Str} {dd : List D} {pl : Env → Sem Bool} (hc : Cls S.K (S.ca c)) (hm : Meth S.K (S.ca c) f (S.fa i)) (F : FnF S lv rt i ps dd) (ha : SE S Γ lv rt a ma)
    (ht : ∀ env, eval (.Call (.Attribute a f apos) [] [] pos) env = (do
      let ov ← eval a env
      standAt apos.atName
      let (f, first) ← holding [ov] (getMethod ov f (pl env))
      callWith pos f first (backTo pos (starEach [] env)) (backToKw pos (keywordEach [] env)))) :
    SE S Γ lv rt (.Call (.Attribute a f apos) [] [] pos) (mMeth c f.cps.toList i ma aNil dd) := by
  intro X ok σ en ρ H h d h' rs rl e Q q
  obtain ⟨x, h1, e1, e⟩ := R.bind_eq_ok e
  obtain ⟨fd, dvs, ds, F0, fb, hd, hdd⟩ := F.ex
  rw [← ok.prog, ← ok.w, ← ok.K, ← ok.mg, ← ok.base] at F0
  refine wE_of (pe_meth0 (pl := pl X.env) (C := S.ca c) (E := E0) pe_w (by rw [ok.K]; exact hc) (by rw [ok.K]; exact hm) F0 ok.room (by rw [ok.K]; exact fb) hd pass0 (ht _)) (ha X ok σ en ρ H h x h1 rs rl e1 _ fun v ρ1 H1 x1 rl1 rv => ?_)
  split at e
  · rename_i n fs hi
    obtain ⟨A, dx, l, rfl, rfl, eA, hA, r1⟩ := insAt_ok rl1 rv hi
    have z := flook_ok (g := f) r1
    split at e
    · rename_i hd0
      rw [hd0] at z
      obtain ⟨xs, h2, e2, e⟩ := R.bind_eq_ok e
      cases e2
      exact ⟨A, dx, l, rfl, hA, z, fn_sp F (xs := [.ref n]) rl1 (.cons rv .nil) (hdd ρ1 H1) e (q.later x1)⟩
    · cases e
  · cases e
theorem se_prop {ps : List Str} {p : Addr} (hc : Cls S.K (S.ca c)) (hp : PropOf S.K (S.ca c) f p (S.fa i)) (F : FnF S lv rt i ps []) (ha : SE S Γ lv rt a ma) (hb : ∀ env, attributeBase a f env (eval a env) = eval a env) : SE S Γ lv rt (.Attribute a f pos) (mProp c i ma) := by
  intro X ok σ en ρ H h d h' rs rl e Q q
  obtain ⟨x, h1, e1, e⟩ := R.bind_eq_ok e
  obtain ⟨fd, dvs, ds, F0, fb, hd, hdd⟩ := F.ex
  rw [← ok.prog, ← ok.w, ← ok.K, ← ok.mg, ← ok.base] at F0
  refine wE_of (pe_prop (C := S.ca c) (E := E0) pe_w (by rw [ok.K]; exact hc) (by rw [ok.K]; exact hp) F0 ok.room1 (by rw [ok.K]; exact fb) hd pass0 (hb _)) (ha X ok σ en ρ H h x h1 rs rl e1 _ fun v ρ1 H1 x1 rl1 rv => ?_)
  split at e
  · rename_i nf hi
    obtain ⟨n, fs⟩ := nf
    obtain ⟨A, dx, l, rfl, rfl, eA, hA, r1⟩ := insAt_ok rl1 rv hi
    exact ⟨A, dx, l, rfl, hA, fn_sp F (xs := [.ref n]) (vs := [.ref A]) rl1 (.cons rv .nil) (hdd ρ1 H1) (by rw [List.append_nil]; exact e) (q.later x1)⟩
  · cases e
/-- e[i] of an own __getitem__ -/
theorem se_ownIx {ps : List Str} (hm : Meth S.K (S.ca c) "__getitem__" (S.fa i)) (hf : PySem.W.fnIn S.K (S.fa i) = true) (F : FnF S lv rt i ps []) (ha : SE S Γ lv rt a ma) (hb : SE S Γ lv rt b mb)
    (hsl : ∀ v j : Value, subscripted b true v j = runValue (.builtin "lifetime.subscript" ⟨[v, j], []⟩)) : SE S Γ lv rt (.Subscript a b pos) (mOwnIx c i ma mb) := by
  intro X ok σ en ρ H h d h' rs rl e Q q
  obtain ⟨x, h1, e1, e⟩ := R.bind_eq_ok e
  obtain ⟨y, h2, e2, e⟩ := R.bind_eq_ok e
  obtain ⟨fd, dvs, ds, F0, fb, hd, hdd⟩ := F.ex
  rw [← ok.prog, ← ok.w, ← ok.K, ← ok.mg, ← ok.base] at F0
  have hw : PE X (.Subscript a b pos) (fun σ H Q => wE X a σ H fun x H1 => wE X b σ H1 fun y H2 => ∃ A dx l, x = .ref A ∧ H2 A = some (.ins (S.ca c) dx l) ∧ spC S (rt.call i) ps.length ([.ref A, y] ++ dvs) H2 Q E0) := by
    refine ⟨fun pins s σ H Q I w => ?_⟩
    refine PyProof.Rows.Subscript_ (binT pe_w pe_w I w fun v u s2 x y H2 I2 rx ry ⟨A, dx, l, ex, hA, sp⟩ => ?_)
    subst ex
    obtain rfl : v = Value.ref A := rx
    obtain ⟨mA, O, _⟩ := ins_get I2.hok hA
    obtain ⟨od, J, _⟩ := O.look
    obtain ⟨mm, fr⟩ := I2.fr
    refine PySem.W.sub_K fr I2.ok.mod.kin J (by rw [ok.K]; exact hm.at_) (by rw [ok.K]; exact hf) (by rw [ok.K]; exact hm.fn) ?_ (hsl _ _)
    have both : Vals ([V.ref A, y] ++ dvs) ([Value.ref A, u] ++ ds) := Vals.append (.cons rfl (.cons ry .nil)) hd
    have en := I2.env0.in1
    refine wpAny_call (codeAny_mono (F0.run X.A.in1 X.stack s2 H2 ⟨[.ref A, u], []⟩ ([Value.ref A, u] ++ ds) _ Q E0 ok.room1.in1 en (fb s2 [.ref A, u] (by rw [← ok.K]; exact I2.kIn) (by rw [← both.length]; exact sp.1)) both sp) fun r s3 hq => ?_)
    cases r with
    | error er => exact False.elim hq
    | ok fl =>
      cases fl with
      | ret w => exact I2.after hq
      | next => exact hq.elim
      | brk => exact hq.elim
      | cont => exact hq.elim
  refine wE_of hw (ha X ok σ en ρ H h x h1 rs rl e1 _ fun v ρ1 H1 x1 rl1 rv => ?_)
  refine hb X ok σ en ρ1 H1 h1 y h2 (rs.mono x1) rl1 e2 _ fun u ρ2 H2 x2 rl2 ru => ?_
  split at e
  · rename_i nf hi
    obtain ⟨n, fs⟩ := nf
    obtain ⟨A, dx, l, rfl, rfl, eA, hA, r1⟩ := insAt_ok rl2 (rv.mono x2) hi
    exact ⟨A, dx, l, rfl, hA, fn_sp F (xs := [.ref n, y]) rl2 (.cons (rv.mono x2) (.cons ru .nil)) (hdd ρ2 H2) (by rw [List.append_nil]; exact e) (q.later (x1.trans x2))⟩
  · cases e
/-! ### new instances -/
theorem made_ok {ps : List Str} {vs : List V} {xs : List D} {d : D} (ar : ∀ args h d h', rt.call i args h = .ok d h' → args.length = ps.length) (rl : Rl S ρ H h) (r : Rvs S ρ H vs xs) (e : made i rt c xs h = .ok d h') {Q : VK} (q : Po S ρ H h' d Q) {x dx : Addr} (nx : H x = none) (nd : H dx = none) (ne : dx ≠ x) :
    spC S (rt.call i) ps.length (.ref x :: vs) (upd (upd H dx (.own x)) x (.ins (S.ca c) dx [])) (fun v H2 => v = .non ∧ Q (.ref x) H2) E0 := by
  obtain ⟨z, h3, e1, e⟩ := R.bind_eq_ok e
  split at e
  · cases e
    have x1 : Xt S ρ H ρ (upd H dx (.own x)) := .fresh nd
    have nx1 : (upd H dx (.own x)) x = none := by rw [upd_ne (Ne.symm ne)]; exact nx
    have x2 : Xt S ρ (upd H dx (.own x)) (ρ ++ [x]) (upd (upd H dx (.own x)) x (.ins (S.ca c) dx [])) := .alloc nx1
    have rl2 : Rl S (ρ ++ [x]) (upd (upd H dx (.own x)) x (.ins (S.ca c) dx [])) (h ++ [.ins c []]) := (rl.fresh nd).alloc nx1 ⟨dx, [], upd_same, .nil⟩
    have ex : (ρ ++ [x])[h.length]? = some x := by rw [← rl.len, List.getElem?_append_right (Nat.le_refl _), Nat.sub_self]; rfl
    have rr := r.mono (x1.trans x2)
    have all : Rvs S (ρ ++ [x]) (upd (upd H dx (.own x)) x (.ins (S.ca c) dx [])) (.ref x :: vs) (.ref h.length :: xs) := .cons (rv_r ex) rr
    refine ⟨by rw [all.length]; exact ar _ _ _ _ e1, _, _, _, .non, _, rl2, all, e1, fun v ρ3 H3 x3 rl3 rv3 => ⟨rv3.n, ?_⟩⟩
    exact q _ ρ3 H3 ((x1.trans x2).trans x3) rl3 (rv_r (pre_get x3.pre ex))
  · cases e
theorem se_make {x : Str} {p : Pos} {ps : List Str} {dd : List D} (M : Mk S.K (S.ca c) (S.fa i)) (F : FnF S lv rt i ps dd) (hm : S.mg x = some (.ref (S.ca c))) (hg : Γ.sc.names.lookup x = some .globalImplicit) (ha : SA S Γ lv rt (a :: es) m) (hdb : (x == ("__debug__" : Str)) = false)
    (he : ∀ env, starEach (a :: es) env = (false, eval a env) :: starEach es env) (hpl : ∀ env, (backTo pos (starEach es env)).any (·.1) = false) : SE S Γ lv rt (.Call (.Name x p) (a :: es) [] pos) (mMake c i m dd) := by
  intro X ok σ en ρ H h d h' rs rl e Q q
  obtain ⟨xs, h1, e1, e⟩ := R.bind_eq_ok e
  obtain ⟨fd, dvs, ds, F0, fb, hd, hdd⟩ := F.ex
  rw [← ok.prog, ← ok.w, ← ok.K, ← ok.mg, ← ok.base] at F0
  refine wE_of (pe_make (E := E0) (by rw [ok.K]; exact M) F0 ok.room1 (ok.gl hg) (by rw [ok.mg]; exact hm) (by rw [ok.K]; exact fb) hd pass0 pa_w hdb (he _) (hpl _)) (ha X ok σ en ρ H h xs h1 rs rl e1 _ fun vs ρ1 H1 x1 rl1 rvs => ?_)
  exact fun y dx ny nd ne => made_ok F.ar rl1 (rvs.append (hdd ρ1 H1)) e (q.later x1) ny nd ne
/-- keyword arguments -/
def wK (X : Cx) (kws : List Keyword) : TA := fun σ H Q => ∀ (pos : Pos) (pins : List (Addr × Obj)) (s : Shared), Inv X pins σ H s → wpAny (model X.prog X.w) X.A (evalAll ((backToKw pos (keywordEach kws X.env)).map (·.2))) (AP X pins σ Q) X.xe s
theorem pk_w {X : Cx} {kws : List Keyword} : PK X kws (wK X kws) := ⟨fun pos pins s _ _ _ I h => h pos pins s I⟩
theorem wK_of {X : Cx} {kws : List Keyword} {t : TA} (p : PK X kws t) {σ : L2.St} {H : Hp} {Q : List V → Hp → Prop} (h : t σ H Q) : wK X kws σ H Q := fun pos pins s I => p.run pos pins s σ H Q I h
def SK (S : Sy) (Γ : Sc) (lv : Nat) (rt : Rt) (kws : List Keyword) (m : MA) : Prop := ∀ X, XOk S Γ lv X → ∀ σ en ρ H h ds h', Rs S ρ H σ en → Rl S ρ H h → m rt en h = .ok ds h' → ∀ Q, PoA S ρ H h' ds Q → wK X kws σ H Q
theorem sk_nil : SK S Γ lv rt [] aNil := by
  intro X ok σ en ρ H h ds h' rs rl e Q q
  cases e
  exact wK_of pk_nil (show Q [] H from q [] ρ H .refl rl .nil)
theorem sk_cons {nm : Option Str} {kpos : Pos} {kws : List Keyword} (ha : SE S Γ lv rt a ma) (hr : SK S Γ lv rt kws m) : SK S Γ lv rt (⟨nm, a, kpos⟩ :: kws) (aCons ma m) := by
  intro X ok σ en ρ H h ds h' rs rl e Q q
  obtain ⟨x, h1, e1, e⟩ := R.bind_eq_ok e
  obtain ⟨xs, h2, e2, e⟩ := R.bind_eq_ok e
  cases e
  refine wK_of (pk_cons pe_w pk_w) (ha X ok σ en ρ H h x h1 rs rl e1 _ fun v ρ1 H1 x1 rl1 rv => ?_)
  refine hr X ok σ en ρ1 H1 h1 xs _ (rs.mono x1) rl1 e2 _ fun vs ρ2 H2 x2 rl2 rvs => ?_
  exact q (v :: vs) ρ2 H2 (x1.trans x2) rl2 (.cons (rv.mono x2) rvs)
theorem se_makeK {x : Str} {p : Pos} {ps ks : List Str} {n : Nat} {kws : List Keyword} {mk : MA} (M : Mk S.K (S.ca c) (S.fa i)) (F : FnKF S lv rt i ps (n + 1) ks) (hm : S.mg x = some (.ref (S.ca c))) (hg : Γ.sc.names.lookup x = some .globalImplicit) (ha : SA S Γ lv rt (a :: es) m) (hk : SK S Γ lv rt kws mk)
    (hn : ∀ en h ds h', m rt en h = .ok ds h' → ds.length = n) (hkn : ∀ en h ds h', mk rt en h = .ok ds h' → ds.length = ks.length)
    (hall : ∀ env, (backToKw pos (keywordEach kws env)).all (·.1.isSome) = true) (hks : ∀ env, (backToKw pos (keywordEach kws env)).filterMap (·.1) = ks) (hdb : (x == ("__debug__" : Str)) = false)
    (he : ∀ env, starEach (a :: es) env = (false, eval a env) :: starEach es env) (hpl : ∀ env, ((backTo pos (starEach (a :: es) env)).any (·.1) || (backToKw pos (keywordEach kws env)).any (·.1.isNone)) = false) :
    SE S Γ lv rt (.Call (.Name x p) (a :: es) kws pos) (mMakeK c i m mk) := by
  intro X ok σ en ρ H h d h' rs rl e Q q
  obtain ⟨xs, h1, e1, e⟩ := R.bind_eq_ok e
  obtain ⟨zs, h2, e2, e⟩ := R.bind_eq_ok e
  obtain ⟨fd, F0, kb⟩ := F.ex
  rw [← ok.prog, ← ok.w, ← ok.K, ← ok.mg, ← ok.base] at F0
  refine wE_of (pe_makeK (E := E0) (by rw [ok.K]; exact M) F0 ok.room1 (ok.gl hg) (by rw [ok.mg]; exact hm) (by rw [ok.K]; exact kb) pass0 pa_w pk_w (hall _) (hks _) hdb (he _) (hpl _)) (ha X ok σ en ρ H h xs h1 rs rl e1 _ fun vs ρ1 H1 x1 rl1 rvs => ?_)
  refine hk X ok σ en ρ1 H1 h1 zs h2 (rs.mono x1) rl1 e2 _ fun ws ρ2 H2 x2 rl2 rws => ?_
  refine ⟨by rw [rvs.length]; exact hn _ _ _ _ e1, by rw [rws.length]; exact hkn _ _ _ _ e2, fun y dx ny nd ne => ?_⟩
  exact made_ok F.ar rl2 ((rvs.mono x2).append rws) e (q.later (x1.trans x2)) ny nd ne
end
end Den
/-! Den20: match, try .. finally, names of the module, defs as values. -/
namespace Den
open PySem PySem.Spec L2
/-! ### readings -/
abbrev MC := D → MS
def cNil : MC := fun _ _ e h => .ok (.nx e) h
/-- case value: body -/
def cVal (v : ME) (b : MS) (r : MC) : MC := fun x rt e h => (v rt e h).bind fun y h1 => match eqD h1 x y with
  | some c => cond c (b rt e h1) (r x rt e h1)
  | none => .bad
/-- case _: body -/
def cAny (b : MS) : MC := fun _ rt e h => b rt e h
def sMatch (a : ME) (c : MC) : MS := fun rt e h => (a rt e h).bind fun x h1 => c x rt e h1
/-- try: return e finally: .. -/
def sRetFin (a : ME) (f : MS) : MS := fun rt e h => (a rt e h).bind fun d h1 => (f rt e h1).bind fun sg h2 => match sg with
  | .nx _ => .ok (.rt d) h2
  | sg => .ok sg h2
/-- f(..), f a local name that holds a def -/
def mCallV (a : ME) (r : MA) : ME := fun rt e h => (a rt e h).bind fun x h1 => (r rt e h1).bind fun xs h2 => match x with
  | .fn i => rt.call i xs h2
  | _ => .bad
section
variable {S : Sy} {Γ : Sc} {lv : Nat} {rt : Rt} {a b : Expr} {ma mb mc : ME} {m : MA} {pos p2 : Pos} {ρ ρ' : List Addr} {H H' : Hp} {h h' : AH} {es : List Expr} {ms mf : MS} {body : List Stmt} {rest : List MatchCase} {c : MC}
def SCs (S : Sy) (Γ : Sc) (lv : Nat) (rt : Rt) (cases : List MatchCase) (c : MC) : Prop := ∀ X, XOk S Γ lv X → ∀ σ en ρ H h v d sg h', Rs S ρ H σ en → Rl S ρ H h → Rv S ρ H v d → c d rt en h = .ok sg h' → ∀ D, PoS S ρ H h' sg D →
  ∀ (first : Bool) (pins : List (Addr × Obj)) (s : Shared) (u : Value), Inv X pins σ H s → RelV v u → wpAny (model X.prog X.w) X.A (matchCases cases X.env u first) (L2.SP X pins D) X.xe s
theorem scs_nil : SCs S Γ lv rt [] cNil := by
  intro X ok σ en ρ H h v d sg h' rs rl rv e D q first pins s u I r
  cases e
  exact wpAny_matchCases_nil ⟨σ, H, I, q σ ρ H .refl rl rs⟩
theorem scs_val (hv : SE S Γ lv rt b mb) (hb : SSs S Γ lv rt body ms) (hr : SCs S Γ lv rt rest c) : SCs S Γ lv rt (⟨.MatchValue b pos, none, body⟩ :: rest) (cVal mb ms c) := by
  intro X ok σ en ρ H h v d sg h' rs rl rv e D q first pins s u I r
  obtain ⟨y, h1, e1, e⟩ := R.bind_eq_ok e
  refine wpAny_matchCases_cons (wpAny_matchPattern_Value ?_)
  have ev := hv X ok σ en ρ H h y h1 rs rl e1 (fun w H1 => ∃ ρ1, Xt S ρ H ρ1 H1 ∧ Rl S ρ1 H1 h1 ∧ Rv S ρ1 H1 w y) (fun w ρ1 H1 x1 rl1 rw' => ⟨ρ1, x1, rl1, rw'⟩) pins s I
  refine thn ev fun u2 s1 ⟨w, H1, I1, r2, ρ1, x1, rl1, rw'⟩ => ?_
  split at e
  · rename_i k hk
    have eo : opEq d y h1 = .ok (.bl k) h1 := by unfold opEq; rw [hk]; rfl
    have cmp := so_eq X ⟨Γ, ok⟩ v w d y ρ1 H1 h1 (.bl k) h1 rl1 (rv.mono x1) rw' eo (fun z H2 => z = .bl k ∧ ∃ ρ2, Xt S ρ1 H1 ρ2 H2 ∧ Rl S ρ2 H2 h1) (fun z ρ2 H2 x2 rl2 rz => ⟨rz.b, ρ2, x2, rl2⟩) pins s1 σ u u2 I1 r r2
    refine thn cmp fun u3 s2 ⟨z, H2, I2, r3, ez, ρ2, x2, rl2⟩ => ?_
    subst ez
    obtain rfl : u3 = Value.bool k := r3
    refine wpAny_truthy_bool ?_
    have x12 := x1.trans x2
    cases k with
    | true =>
      rw [if_pos rfl]
      refine wpAny_assignInOrder_none ?_
      exact hb X ok σ en ρ2 H2 h1 sg h' (rs.mono x12) rl2 e D (PoS.later q x12) pins s2 I2
    | false =>
      rw [if_neg (by decide)]
      exact hr X ok σ en ρ2 H2 h1 v d sg h' (rs.mono x12) rl2 (rv.mono x12) e D (PoS.later q x12) false pins s2 u I2 r
  · cases e
theorem scs_any (hb : SSs S Γ lv rt body ms) : SCs S Γ lv rt (⟨.MatchAs none none pos, none, body⟩ :: rest) (cAny ms) := by
  intro X ok σ en ρ H h v d sg h' rs rl rv e D q first pins s u I r
  refine wpAny_matchCases_cons (wpAny_matchPattern_Capture ?_)
  exact wpAny_assignInOrder_none (hb X ok σ en ρ H h sg h' rs rl e D q pins s I)
theorem ss_match {cases : List MatchCase} (ha : SE S Γ lv rt a ma) (hc : SCs S Γ lv rt cases c) : SS S Γ lv rt (.Match a cases pos) (sMatch ma c) := by
  intro X ok σ en ρ H h sg h' rs rl e D q
  obtain ⟨x, h1, e1, e⟩ := R.bind_eq_ok e
  intro pins s I
  refine wpAny_Match ?_
  have ev := ha X ok σ en ρ H h x h1 rs rl e1 (fun w H1 => ∃ ρ1, Xt S ρ H ρ1 H1 ∧ Rl S ρ1 H1 h1 ∧ Rv S ρ1 H1 w x) (fun w ρ1 H1 x1 rl1 rw' => ⟨ρ1, x1, rl1, rw'⟩) pins s I
  refine thn ev fun u s1 ⟨w, H1, I1, r, ρ1, x1, rl1, rw'⟩ => ?_
  exact hc X ok σ en ρ1 H1 h1 w x sg h' (rs.mono x1) rl1 rw' e D (PoS.later q x1) true pins s1 u I1 r
/-! ### try: return e finally: .. -/
theorem nox_eq {X : Cx} (ok : XOk S Γ lv X) : X.nox = X := by
  have z := ok.xe
  obtain ⟨⟩ := X
  dsimp only at z
  subst z
  rfl
theorem ss_retFin {f₀ : Stmt} {fs : List Stmt} {rp : Pos} (ha : SE S Γ lv rt a ma) (hf : SSs S Γ lv rt (f₀ :: fs) mf) : SS S Γ lv rt (.Try [.Return (some a) rp] [] [] (f₀ :: fs) pos) (sRetFin ma mf) := by
  intro X ok σ en ρ H h sg h' rs rl e D q
  obtain ⟨d, h1, e1, e⟩ := R.bind_eq_ok e
  obtain ⟨s2, h2, e2, e⟩ := R.bind_eq_ok e
  refine wS_of (ps_retFin (te := wE X a) (tf := wSs X (f₀ :: fs)) (by rw [nox_eq ok]; exact pe_w) (by rw [nox_eq ok]; exact pss_w)) (ha X ok σ en ρ H h d h1 rs rl e1 _ fun v ρ1 H1 x1 rl1 rv => ?_)
  refine hf X ok σ en ρ1 H1 h1 s2 h2 (rs.mono x1) rl1 e2 _ ?_
  cases s2 with
  | nx en2 => cases e; exact fun σ2 ρ2 H2 x2 rl2 rs2 => q v ρ2 H2 (x1.trans x2) rl2 (rv.mono x2)
  | bk en2 => cases e; exact PoS.later (sg := .bk en2) q x1
  | ct en2 => cases e; exact PoS.later (sg := .ct en2) q x1
  | rt d2 => cases e; exact PoS.later (sg := .rt d2) q x1
/-! ### the module's names -/
theorem se_glob {x : Str} {v : V} {u : Value} {d : D} (hg : Γ.sc.names.lookup x = some .globalImplicit) (hm : S.mg x = some u) (r : RelV v u) (rd : ∀ ρ H, Rv S ρ H v d) (hdb : (x == ("__debug__" : Str)) = false) : SE S Γ lv rt (.Name x pos) (mC d) := by
  intro X ok σ en ρ H h d' h' rs rl e Q q
  cases e
  exact wE_of (pe_glob (ok.gl hg) (by rw [ok.mg]; exact hm) r hdb) (show Q v H from q.here rl (rd ρ H))
/-- C.f of a class -/
theorem se_cval {f : Str} {c : Nat} {mc : Value} {v : V} {u : Value} {d : D} (ha : SE S Γ lv rt a (mC (.cl c))) (hr : ClX.CRead S.K (S.ca c) mc) (hv : ClX.CVal S.K (S.ca c) mc f v u) (rd : ∀ ρ H, Rv S ρ H v d) (hb : ∀ env, attributeBase a f env (eval a env) = eval a env) : SE S Γ lv rt (.Attribute a f pos) (mC d) := by
  intro X ok σ en ρ H h d' h' rs rl e Q q
  cases e
  refine wE_of (ClX.pe_cval pe_w (hb _)) (ha X ok σ en ρ H h (.cl c) h rs rl rfl _ fun w ρ1 H1 x1 rl1 rw' => ?_)
  have ew : w = .ref (S.ca c) := by unfold Rv at rw'; exact rw'
  exact ⟨S.ca c, mc, v, u, ew, by rw [ok.K]; exact hr, by rw [ok.K]; exact hv, (q.later x1).here rl1 (rd ρ1 H1)⟩
/-- g(e, ..), g local -/
theorem se_callV {i : Nat} {x : Str} {p : Pos} (hN : Γ.N[i]? = some x) (hv : Vis Γ.sc x) (hdb : (x == ("__debug__" : Str)) = false) (hcd : (x == ("__classdict__" : Str)) = false) (hF : ∀ f, ∃ ps, (∀ args h d h', rt.call f args h = .ok d h' → FnF S lv rt f ps []) )
    (ha : SA S Γ lv rt (a :: es) m) (he : ∀ env, starEach (a :: es) env = (false, eval a env) :: starEach es env) (hpl : ∀ env, (backTo pos (starEach es env)).any (·.1) = false) : SE S Γ lv rt (.Call (.Name x p) (a :: es) [] pos) (mCallV (mVar i) m) := by
  intro X ok σ en ρ H h d h' rs rl e Q q
  obtain ⟨y, h1, e1, ea⟩ := R.bind_eq_ok e
  clear e
  obtain ⟨xs, h2, e2, eb⟩ := R.bind_eq_ok ea
  clear ea
  unfold mVar at e1
  split at e1
  · rename_i d0 hd0
    cases e1
    obtain ⟨f, rfl⟩ : ∃ f, y = .fn f := by
      cases y with
      | fn f => exact ⟨f, rfl⟩
      | _ => cases eb
    have e : rt.call f xs h2 = .ok d h' := eb
    · obtain ⟨ps, hps⟩ := hF f
      have F := hps _ _ _ _ e
      obtain ⟨v, ev, rv⟩ := rs.at_ i _ hd0
      have ev2 : v = .ref (S.fa f) := by unfold Rv at rv; exact rv
      subst ev2
      have run : PE X (.Call (.Name x p) (a :: es) [] pos) (fun σ H Q => σ[i]? = some (some (.ref (S.fa f))) ∧ wA X (a :: es) σ H fun vs H1 => wC X (.ref (S.fa f)) vs H1 Q) := by
        refine ⟨fun pins s σ H Q I ⟨z1, z2⟩ => ?_⟩
        refine wpAny_Call_Name_kw (thn ((pe_var (i := i) (by rw [ok.N]; exact hN) (by rw [ok.sc]; exact hv) hdb hcd).run pins s σ H (fun w H1 => w = .ref (S.fa f) ∧ H1 = H) I ⟨_, z1, rfl, rfl⟩) fun u s1 ⟨w, H1, I1, r, ew, eH⟩ => ?_)
        subst ew eH
        cases r
        refine PySem.W.callWith_K (h₀ := X.base) I1.ok.mod.kin (by rw [ok.K]; exact F.kp) (thn (z2 pos pins s1 I1) fun us s2 ⟨vs, H2, I2, r2, q2⟩ => ⟨I2.kIn, q2 pins s2 σ us I2 r2⟩) (he _) (hpl _)
      refine wE_of run ⟨ev, ha X ok σ en ρ H h xs h2 rs rl e2 _ fun vs ρ1 H1 x1 rl1 rvs => ?_⟩
      exact call_ok ok F rl1 rvs (by rw [List.append_nil]; exact e) (q.later x1)
  · cases e1
end
end Den
/-! Den21: what the head tells. -/
namespace Den
open PySem PySem.Spec L2
abbrev Frag := PySem.W.Frag
/-! ### the Hook: defs, true sayings, tables -/
abbrev AlB : Type := Bool × List He.FnW × List (Option (List (Option (Str × Int))))
def obsB (bs : List (Frag → Bool)) (fn : List He5.DefA) (ts : List He.Tab) (K : Frag) : AlB := ((bs.all fun b => b K) && fn.all fun d => d.ok K, fn.map (fun d => He5.fnA K (d.at_ K)), ts.map fun t => He.dicW K (t.1 K))
def valB (fn : List He5.DefA) (ts : List He.Tab) (w : World) : AlB := (true, fn.map He5.DefA.val, ts.map fun t => some (He.keysIn w.params t.2))
def SaysB (bs : List (Frag → Bool)) (fn : List He5.DefA) (ts : List He.Tab) (w : World) (K : Frag) : Prop := obsB bs fn ts K = valB fn ts w
def obsBG (n : Nat) (bs : List (Frag → Bool)) (fn : List He5.DefA) (ts : List He.Tab) (g : Addr → Option Obj) : AlB := obsB bs fn ts (He.frG g (He5.asA g n))
def hookB (n : Nat) (bs : List (Frag → Bool)) (fn : List He5.DefA) (ts : List He.Tab) : PySem.W.Hook where
  α := AlB
  obs := fun s => obsBG n bs fn ts s.heap.get?
  val := fun w => valB fn ts w
  says := fun w h => ∃ K : Frag, K.In h ∧ SaysB bs fn ts w K
  of := fun _ _ e => ⟨_, He.frG_in, e⟩
  keeps := fun _ _ _ ⟨K, hK, c⟩ k => ⟨K, PySem.W.Frag.In.keeps hK k, c⟩
theorem obsBG_eq {n : Nat} {bs : List (Frag → Bool)} {fn : List He5.DefA} {ts : List He.Tab} {g : Addr → Option Obj} {s : Shared} (h : ∀ a, g a = s.heap.get? a) : obsBG n bs fn ts g = (hookB n bs fn ts).obs s := by
  have e : g = s.heap.get? := funext h
  subst e
  rfl
section
variable {bs : List (Frag → Bool)} {fn : List He5.DefA} {ts : List He.Tab} {w : World} {K : Frag}
theorem SaysB.both (c : SaysB bs fn ts w K) : (bs.all fun b => b K) = true ∧ (fn.all fun d => d.ok K) = true := Bool.and_eq_true_iff.mp (congrArg (fun z : AlB => z.1) c)
theorem SaysB.fact (c : SaysB bs fn ts w K) (i : Nat) {b : Frag → Bool} (h : bs[i]? = some b) : b K = true := List.all_eq_true.mp c.both.1 b (List.mem_of_getElem? h)
theorem SaysB.def_ (c : SaysB bs fn ts w K) (i : Nat) {d : He5.DefA} (h : fn[i]? = some d) : ∃ fd, FunD K d.name d.qual d.params d.body d.scope (d.dvs K) (d.kws K) (d.at_ K) fd := by
  have e : fn.map (fun d => He5.fnA K (d.at_ K)) = fn.map He5.DefA.val := congrArg (fun z : AlB => z.2.1) c
  have e2 : (fn.map fun d => He5.fnA K (d.at_ K))[i]? = (fn.map He5.DefA.val)[i]? := by rw [e]
  rw [List.getElem?_map, List.getElem?_map, h] at e2
  exact He5.DefA.funD (Option.some.inj e2) (List.all_eq_true.mp c.both.2 d (List.mem_of_getElem? h))
theorem SaysB.tabW (c : SaysB bs fn ts w K) (i : Nat) {t : He.Tab} (h : ts[i]? = some t) : He.dicW K (t.1 K) = some (He.keysIn w.params t.2) := by
  have e : ts.map (fun t => He.dicW K (t.1 K)) = ts.map fun t => some (He.keysIn w.params t.2) := congrArg (fun z : AlB => z.2.2) c
  have e2 : (ts.map fun t => He.dicW K (t.1 K))[i]? = (ts.map fun t => some (He.keysIn w.params t.2))[i]? := by rw [e]
  rw [List.getElem?_map, List.getElem?_map, h] at e2
  exact Option.some.inj e2
end
/-! ### a property -/
def pgAt (K : Frag) (C : Addr) (f : Str) : Addr := match PySem.W.recIn K (He.ma K C f) "property" with
  | some (.ref g :: _) => g
  | _ => 0
def propB (C : Str) (f : Str) (K : Frag) : Bool := He.eqO (PySem.W.findIn K (.ref (He.ga K C)) f) (some (some (.ref (He.ma K (He.ga K C) f)))) && (He.eqO (PySem.W.specialIn K (.ref (He.ma K (He.ga K C) f)) "__get__") (some (some (.builtin "property.__get__"))) &&
  (decide (PySem.W.takesIn K (.ref (He.ma K (He.ga K C) f)) = some true) && (match PySem.W.recIn K (He.ma K (He.ga K C) f) "property" with
    | some (.ref _ :: _) => true
    | _ => false)))
theorem propB_ok {K : Frag} {C f : Str} (h : propB C f K = true) : PropOf K (He.ga K C) f (He.ma K (He.ga K C) f) (pgAt K (He.ga K C) f) := by
  unfold propB at h
  rw [Bool.and_eq_true, Bool.and_eq_true, Bool.and_eq_true] at h
  obtain ⟨h1, h2, h3, h4⟩ := h
  refine ⟨He.eqO_ok h1, He.eqO_ok h2, of_decide_eq_true h3, ?_⟩
  unfold pgAt
  split at h4
  · rename_i g r e
    exact ⟨r, by rw [e]⟩
  · cases h4
/-! ### an int constant of a class -/
def cvalB (C f : Str) (i : Int) (K : Frag) : Bool := PySem.W.readsIn K (He.ga K C) (.type "type") && (He.eqO (PySem.W.specialIn K (.ref (He.ga K C)) "__getattribute__") (some (some (.builtin "type.__getattribute__"))) && (match PySem.W.findCls K (.ref (He.ga K C)) (.type "type") f with
    | some (.val (.int j _)) => decide (j = i)
    | _ => false))
theorem cvalB_ok {K : Frag} {C f : Str} {i : Int} (h : cvalB C f i K = true) : ClX.CRead K (He.ga K C) (.type "type") ∧ ∃ u, ClX.CVal K (He.ga K C) (.type "type") f (.int i) u := by
  unfold cvalB at h
  rw [Bool.and_eq_true, Bool.and_eq_true] at h
  obtain ⟨h1, h2, h3⟩ := h
  refine ⟨⟨h1, He.eqO_ok h2⟩, ?_⟩
  split at h3
  · rename_i j t e
    have ej := of_decide_eq_true h3
    subst ej
    exact ⟨_, e, t, rfl⟩
  · cases h3
/-! ### what stands fixed, as data -/
mutual
def litB (K : Frag) (fa : Nat → Addr) : D → Value → Bool
  | .non, .none => true
  | .bl b, .bool c => b == c
  | .int i, .int j _ => decide (i = j)
  | .str s, .str x _ => leq s x.cps.toList
  | .fn f, .ref a => decide (a = fa f)
  | .tup true ds, .ref a => (match K.lookup a with
    | some ⟨.type c, none, .seq its _, _⟩ => decide (c = "tuple") && (Nat.ble its.size LIM && litsB K fa ds its.toList)
    | _ => false)
  | _, _ => false
def litsB (K : Frag) (fa : Nat → Addr) : List D → List Value → Bool
  | [], [] => true
  | d :: ds, u :: us => litB K fa d u && litsB K fa ds us
  | _, _ => false
end
section
variable {S : Sy}
mutual
theorem litB_ok : ∀ {d : D} {u : Value}, litB S.K S.fa d u = true → ∃ v, RelV v u ∧ ∀ ρ H, Rv S ρ H v d
  | .non, u, h => by
    cases u <;> first
      | (unfold litB at h; cases h; done)
      | exact ⟨.non, rfl, fun ρ H => rv_n⟩
  | .bl b, u, h => by
    cases u with
    | bool c =>
      unfold litB at h
      rw [eq_of_beq h]
      exact ⟨.bl c, rfl, fun ρ H => rv_b _⟩
    | _ => unfold litB at h; cases h
  | .int i, u, h => by
    cases u with
    | int j t =>
      unfold litB at h
      rw [of_decide_eq_true h]
      exact ⟨.int j, ⟨t, rfl⟩, fun ρ H => rv_i _⟩
    | _ => unfold litB at h; cases h
  | .str s, u, h => by
    cases u with
    | str x t =>
      unfold litB at h
      rw [leq_iff.mp h]
      exact ⟨.str x, ⟨t, rfl⟩, fun ρ H => by unfold Rv; rw [Array.toArray_toList]⟩
    | _ => unfold litB at h; cases h
  | .fn f, u, h => by
    cases u with
    | ref a =>
      unfold litB at h
      rw [of_decide_eq_true h]
      exact ⟨.ref (S.fa f), rfl, fun ρ H => by unfold Rv; rfl⟩
    | _ => unfold litB at h; cases h
  | .tup p ds, u, h => by
    cases p with
    | false => cases u <;> (unfold litB at h; cases h)
    | true =>
      cases u with
      | ref a =>
        unfold litB at h
        split at h
        · rename_i c its n sl e
          rw [Bool.and_eq_true, Bool.and_eq_true] at h
          obtain ⟨h1, h2, h3⟩ := h
          have ec := of_decide_eq_true h1
          subst ec
          obtain ⟨vs, v1, v2⟩ := litsB_ok h3
          have hz : its.size ≤ sizeLine := by rw [lim_eq]; exact Nat.le_of_ble_eq_true h2
          refine ⟨.ref a, rfl, fun ρ H => ?_⟩
          unfold Rv
          exact ⟨a, vs, rfl, .inr ⟨_, its, n, e, rfl, rfl, hz, v1⟩, fun _ => .inr ⟨_, its, n, e, rfl, rfl, rfl, hz, v1⟩, v2 ρ H⟩
        · cases h
      | _ => unfold litB at h; cases h
  | .fl ds, u, h => by cases u <;> (unfold litB at h; cases h)
  | .ref n, u, h => by cases u <;> (unfold litB at h; cases h)
  | .cl n, u, h => by cases u <;> (unfold litB at h; cases h)
  | .ty n, u, h => by cases u <;> (unfold litB at h; cases h)
  | .kd ks ds, u, h => by cases u <;> (unfold litB at h; cases h)
  | .rep p, u, h => by cases u <;> (unfold litB at h; cases h)
theorem litsB_ok : ∀ {ds : List D} {us : List Value}, litsB S.K S.fa ds us = true → ∃ vs, Vals vs us ∧ ∀ ρ H, Rvs S ρ H vs ds
  | [], [], _ => ⟨[], .nil, fun ρ H => .nil⟩
  | d :: ds, [], h => by unfold litsB at h; cases h
  | [], u :: us, h => by unfold litsB at h; cases h
  | d :: ds, u :: us, h => by
    unfold litsB at h
    rw [Bool.and_eq_true] at h
    obtain ⟨v, v1, v2⟩ := litB_ok h.1
    obtain ⟨vs, w1, w2⟩ := litsB_ok h.2
    exact ⟨v :: vs, .cons v1 w1, fun ρ H => .cons (v2 ρ H) (w2 ρ H)⟩
end
end
/-- the module's name x is d -/
def gloB (fa : Frag → Nat → Addr) (x : Str) (d : D) (K : Frag) : Bool := match PySem.W.nsIn K mainGlobals x with
  | some (some u) => litB K (fa K) d u
  | _ => false
theorem gloB_ok {S : Sy} {fa : Frag → Nat → Addr} {x : Str} {d : D} {h : Heap} (e : S.fa = fa S.K) (kin : S.K.In h) (G : h.Ns mainGlobals S.mg) (hb : gloB fa x d S.K = true) : ∃ v u, S.mg x = some u ∧ RelV v u ∧ ∀ ρ H, Rv S ρ H v d := by
  unfold gloB at hb
  split at hb
  · rename_i u eu
    rw [← e] at hb
    obtain ⟨v, v1, v2⟩ := litB_ok hb
    exact ⟨v, u, PySem.W.mg_of kin G eu, v1, v2⟩
  · cases hb
/-! ### a dict with text keys -/
def kvB (fa : Frag → Nat → Addr) (K : Frag) (a : Addr) : List (List Nat) → List D → Bool
  | [], [] => true
  | k :: ks, d :: ds => (match PySem.W.nsIn K a ⟨k.toArray⟩ with
    | some (some u) => litB K (fa K) d u
    | _ => false) && kvB fa K a ks ds
  | _, _ => false
def kdB (fa : Frag → Nat → Addr) (x : Str) (ks : List (List Nat)) (ds : List D) (K : Frag) : Bool := He.eqO (PySem.W.nsIn K mainGlobals x) (some (some (.ref (He.ga K x)))) && kvB fa K (He.ga K x) ks ds
theorem find_key {P : Params} {ks : List Str} {x : Str} (hx : x ∉ ks) : ∀ {es : List DictEntry}, es.map He.keyOf = He.keysIn P ks → es.find? (·.key.isStr x) = none ∧ es.any (·.refKey) = false := by
  induction ks with
  | nil =>
    intro es h
    cases es with
    | nil => exact ⟨rfl, rfl⟩
    | cons e r => cases h
  | cons k ks ih =>
    intro es h
    cases es with
    | nil => cases h
    | cons e r =>
      rw [List.mem_cons, not_or] at hx
      have h1 : He.keyOf e :: r.map He.keyOf = some (k, PyData.keyHash P k) :: He.keysIn P ks := h
      injection h1 with h2 h3
      obtain ⟨i1, i2⟩ := ih hx.2 h3
      have ek : ∃ y t, e.key = .str y t ∧ y = k := by
        unfold He.keyOf at h2
        split at h2
        · rename_i y t q
          have h4 := Option.some.inj h2
          exact ⟨y, t, q, (Prod.mk.inj h4).1⟩
        · cases h2
      obtain ⟨y, t, q, rfl⟩ := ek
      have hne : (y == x) = false := beq_eq_false_iff_ne.mpr fun z => hx.1 z.symm
      constructor
      · rw [List.find?_cons]
        have z : e.key.isStr x = false := by rw [q]; exact hne
        rw [z]
        exact i1
      · rw [List.any_cons, i2, Bool.or_false]
        unfold DictEntry.refKey
        rw [q]
theorem kvB_ok {S : Sy} {fa : Frag → Nat → Addr} (e : S.fa = fa S.K) {a : Addr} : ∀ {ks : List (List Nat)} {ds : List D}, kvB fa S.K a ks ds = true → ∃ vs : List V, vs.length = ks.length ∧ (∀ (i : Nat) (s : List Nat) (v : V), ks[i]? = some s → vs[i]? = some v → ∃ u, PySem.W.nsIn S.K a ⟨s.toArray⟩ = some (some u) ∧ RelV v u) ∧ ∀ ρ H, Rvs S ρ H vs ds
  | [], [], _ => ⟨[], rfl, fun i s v z => by simp at z, fun ρ H => .nil⟩
  | k :: ks, [], h => by unfold kvB at h; cases h
  | [], d :: ds, h => by unfold kvB at h; cases h
  | k :: ks, d :: ds, h => by
    unfold kvB at h
    rw [Bool.and_eq_true] at h
    obtain ⟨h1, h2⟩ := h
    obtain ⟨vs, w1, w2, w3⟩ := kvB_ok e h2
    split at h1
    · rename_i u eu
      rw [← e] at h1
      obtain ⟨v, v1, v2⟩ := litB_ok h1
      refine ⟨v :: vs, by rw [List.length_cons, List.length_cons, w1], fun i s x z1 z2 => ?_, fun ρ H => .cons (v2 ρ H) (w3 ρ H)⟩
      cases i with
      | zero =>
        simp at z1 z2
        subst z1 z2
        exact ⟨u, eu, v1⟩
      | succ i => exact w2 i s x (by simpa using z1) (by simpa using z2)
    · cases h1
theorem kd_ok {S : Sy} {fa : Frag → Nat → Addr} (e : S.fa = fa S.K) {x : Str} {ks : List (List Nat)} {ds : List D} {h : Heap} (kin : S.K.In h) (G : h.Ns mainGlobals S.mg) (hb : kdB fa x ks ds S.K = true)
    (ht : He.dicW S.K (He.ga S.K x) = some (He.keysIn S.w.params (ks.map fun k => (⟨k.toArray⟩ : Str)))) : ∃ v u, S.mg x = some u ∧ RelV v u ∧ ∀ ρ H, Rv S ρ H v (.kd ks ds) := by
  unfold kdB at hb
  rw [Bool.and_eq_true] at hb
  obtain ⟨h1, h2⟩ := hb
  obtain ⟨vs, w1, w2, w3⟩ := kvB_ok e h2
  obtain ⟨es, n, kdi⟩ := He.dicW_ok (w := S.w) ht
  refine ⟨.ref (He.ga S.K x), .ref (He.ga S.K x), PySem.W.mg_of kin G (He.eqO_ok h1), rfl, fun ρ H => ?_⟩
  unfold Rv
  refine ⟨_, vs, rfl, ⟨w1, ⟨es, n, kdi⟩, w2, fun s hs => ?_⟩, w3 ρ H⟩
  have hm : es.toList.map He.keyOf = He.keysIn S.w.params (ks.map fun k => (⟨k.toArray⟩ : Str)) := by
    have z := ht
    unfold He.dicW at z
    rw [kdi.at_] at z
    dsimp only at z
    split at z
    · exact Option.some.inj z
    · cases z
  have hns : (⟨s.toArray⟩ : Str) ∉ ks.map fun k => (⟨k.toArray⟩ : Str) := by
    intro z
    obtain ⟨k, k1, k2⟩ := List.mem_map.mp z
    rw [str_inj] at k2
    rw [← k2] at hs
    exact hs k1
  obtain ⟨f1, f2⟩ := find_key hns hm
  unfold PySem.W.nsIn
  rw [kdi.at_]
  dsimp only
  rw [f1]
  dsimp only
  rw [f2]
  rfl
end Den
/-! Den22: small rules for printed derivations. -/
namespace Den
open PySem PySem.Spec L2
def mBad : ME := fun _ _ _ => .bad
def sBad : MS := fun _ _ _ => .bad
def tBad : MT := fun _ _ _ => .bad
def lookIs (sc : Scope) (x : Str) (ks : List NameKind) : Bool := match sc.names.lookup x with
  | some k => ks.any (· == k)
  | none => false
def visB (sc : Scope) (x : Str) : Bool := match sc.names.lookup x with
  | some .local => true
  | some .cell => true
  | some .free => true
  | _ => false
def locB (sc : Scope) (x : Str) : Bool := match sc.names.lookup x with
  | some .local => true
  | some .cell => true
  | _ => false
theorem visB_ok {sc : Scope} {x : Str} (h : visB sc x = true) : Vis sc x := by
  unfold visB at h
  split at h
  · rename_i e; exact .inl e
  · rename_i e; exact .inr (.inl e)
  · rename_i e; exact .inr (.inr e)
  · cases h
theorem locB_ok {sc : Scope} {x : Str} (h : locB sc x = true) : Loc sc x := by
  unfold locB at h
  split at h
  · rename_i e; exact .inl e
  · rename_i e; exact .inr e
  · cases h
def varB (Γ : Sc) (i : Nat) (x : Str) : Bool := decide (Γ.N[i]? = some x) && (visB Γ.sc x && (!(x == ("__debug__" : Str)) && !(x == ("__classdict__" : Str))))
/-- x may be stored in slot i -/
def stoB (Γ : Sc) (i : Nat) (x : Str) : Bool := decide (Γ.N[i]? = some x) && (locB Γ.sc x && (Γ.fn x || (match Γ.sc.names.lookup x with
  | some .local => true
  | _ => false)))
section
variable {S : Sy} {Γ : Sc} {lv : Nat} {rt : Rt} {a b c : Expr} {ma mb : ME} {pos : Pos} {ws : List Nat} {m : MA} {es : List Expr}
theorem se_bad : SE S Γ lv rt a mBad := fun _ _ _ _ _ _ _ _ _ _ _ e => by cases e
theorem ss_bad {st : Stmt} : SS S Γ lv rt st sBad := fun _ _ _ _ _ _ _ _ _ _ _ e => by cases e
theorem sss_bad {st : List Stmt} : SSs S Γ lv rt st sBad := fun _ _ _ _ _ _ _ _ _ _ _ e => by cases e
theorem st_bad : STt S Γ lv rt a tBad := fun _ _ _ _ _ _ _ _ _ _ _ e => by cases e
theorem se_v {i : Nat} {x : Str} (h : varB Γ i x = true) : SE S Γ lv rt (.Name x pos) (mVar i) := by
  unfold varB at h
  rw [Bool.and_eq_true, Bool.and_eq_true, Bool.and_eq_true] at h
  obtain ⟨h1, h2, h3, h4⟩ := h
  exact se_var (of_decide_eq_true h1) (visB_ok h2) (by simpa using h3) (by simpa using h4)
theorem stoB_ok {i : Nat} {x : Str} (h : stoB Γ i x = true) : Γ.N[i]? = some x ∧ Loc Γ.sc x ∧ (Γ.fn x = true ∨ Γ.sc.names.lookup x = some .local) := by
  unfold stoB at h
  rw [Bool.and_eq_true, Bool.and_eq_true] at h
  obtain ⟨h1, h2, h3⟩ := h
  refine ⟨of_decide_eq_true h1, locB_ok h2, ?_⟩
  rcases Bool.or_eq_true_iff.mp h3 with z | z
  · exact .inl z
  · split at z
    · rename_i e; exact .inr e
    · cases z
theorem sg_n {i : Nat} {x : Str} (h : stoB Γ i x = true) (hw : i ∈ ws) : SG S Γ lv rt ws (.Name x pos) (gN i) := let ⟨h1, h2, h3⟩ := stoB_ok h; sg_name h1 h2 h3 hw
theorem ss_st {i : Nat} {x : Str} {p : Pos} (h : stoB Γ i x = true) (ha : SE S Γ lv rt a ma) (hs : ∀ env, env.scope = Γ.sc → swapsWith a (some (.Name x p)) pos.line env = pure false) : SS S Γ lv rt (.Assign [.Name x p] a pos) (sAsg ma (gN i)) := let ⟨h1, h2, h3⟩ := stoB_ok h; ss_set ha h1 h2 h3 hs
theorem ss_au {i : Nat} {x : Str} {op : Operator} {f : Op2} {p : Pos} (h : stoB Γ i x = true) (ho : SO S lv (inplaceOp op) f) (ha : SE S Γ lv rt a ma) : SS S Γ lv rt (.AugAssign (.Name x p) op a pos) (sAug i f ma) := let ⟨h1, h2, h3⟩ := stoB_ok h; ss_aug ho ha h1 h2 h3
theorem se_s {x : Str} {k : Nat} {l : List Nat} (h : x.cps.toList = l) : SE S Γ lv rt (.Constant (.str x) k pos) (mC (.str l)) := by subst h; exact se_str
/-- a name of the module -/
def GlE (S : Sy) (x : Str) (d : D) : Prop := ∃ v u, S.mg x = some u ∧ RelV v u ∧ ∀ ρ H, Rv S ρ H v d
theorem se_g {x : Str} {d : D} (h : GlE S x d) (hg : Γ.sc.names.lookup x = some .globalImplicit) (hdb : (x == ("__debug__" : Str)) = false) : SE S Γ lv rt (.Name x pos) (mC d) := let ⟨_, _, h1, h2, h3⟩ := h; se_glob hg h1 h2 h3 hdb
theorem gle_cl {x : Str} {c : Nat} (h : S.mg x = some (.ref (S.ca c))) : GlE S x (.cl c) := ⟨.ref (S.ca c), _, h, rfl, fun ρ H => by unfold Rv; rfl⟩
theorem gle_fn {x : Str} {c : Nat} (h : S.mg x = some (.ref (S.fa c))) : GlE S x (.fn c) := ⟨.ref (S.fa c), _, h, rfl, fun ρ H => by unfold Rv; rfl⟩
/-- a statement of the i-th place -/
theorem sw_lc {elt : Expr} {gs : List Comprehension} {scope : Scope} {p py : Pos} {y : Str} {l : Nat} (hk : Γ.sc.kind = .function) (hy : Γ.sc.names.lookup y = some .local) (hl : (py.line == p.line) = true) (ha : (scope.names.any fun (n, k) => n == y && (k == .local || k == .cell)) = false) :
    ∀ env : Env, env.scope = Γ.sc → swapsWith (.ListComp elt gs scope p) (some (.Name y py)) l env = pure true := fun env h => sw_true (by rw [h]; exact hk) (by rw [h]; exact hy) hl ha
theorem sw_dc {kx elt : Expr} {gs : List Comprehension} {scope : Scope} {p py : Pos} {y : Str} {l : Nat} (hk : Γ.sc.kind = .function) (hy : Γ.sc.names.lookup y = some .local) (hl : (py.line == p.line) = true) (ha : (scope.names.any fun (n, k) => n == y && (k == .local || k == .cell)) = false) :
    ∀ env : Env, env.scope = Γ.sc → swapsWith (.DictComp kx elt gs scope p) (some (.Name y py)) l env = pure true := by
  intro env h
  have ky : env.kindOf y = some .local := by unfold Env.kindOf; rw [h]; exact hy
  have hb : env.blockKind = .function := by unfold Env.blockKind; rw [h, hk]; rfl
  unfold swapsWith
  simp only [hb, ky, ha, Expr.pos, hl]
  rfl
/-- a comprehension stored at a captured name: no swap -/
theorem sw_lcC {elt : Expr} {gs : List Comprehension} {scope : Scope} {p py : Pos} {y : Str} {l : Nat} (hy : Γ.sc.names.lookup y = some .cell) :
    ∀ env : Env, env.scope = Γ.sc → swapsWith (.ListComp elt gs scope p) (some (.Name y py)) l env = pure false := by
  intro env h
  have ky : env.kindOf y = some .cell := by unfold Env.kindOf; rw [h]; exact hy
  unfold swapsWith
  have z : (NameKind.cell == NameKind.local) = false := rfl
  simp [ky, z]
/-! ### what a def promises before any call -/
theorem fn_bad {f : Addr} {fd : FuncData} {ps : List Str} {k : Nat} {n : Nat} : FnOk S.P S.w S.K S.mg S.base CX0 k f fd ps (spC S (fun _ _ => .bad) ps.length) :=
  ⟨fun vs H Q E q => q.1, fun A outer s H args us vs Q E _ _ _ _ q => by obtain ⟨_, _, _, _, _, _, _, _, z, _⟩ := q; cases z⟩
end
end Den
/-! Den23: list(range(..)). -/
namespace Den
open PySem PySem.Spec L2
def rngD (lo c : Int) : Nat → List D
  | 0 => []
  | n + 1 => .int lo :: rngD (lo + c) c n
def mLstRg1 (a : ME) : ME := fun rt e h => (a rt e h).bind fun x h1 => match x with
  | .int j => cond (r62 j && Nat.ble j.toNat LIM) (alloc (.lst (rngD 0 1 j.toNat)) h1) .bad
  | _ => .bad
def mLstRg2 (a b : ME) : ME := fun rt e h => (a rt e h).bind fun x h1 => (b rt e h1).bind fun y h2 => match x, y with
  | .int i, .int j => cond (r62 i && (r62 j && Nat.ble (j - i).toNat LIM)) (alloc (.lst (rngD i 1 (j - i).toNat)) h2) .bad
  | _, _ => .bad
section
variable {S : Sy} {Γ : Sc} {lv : Nat} {rt : Rt} {a b c : Expr} {ma mb : ME} {pos p p1 p2 : Pos} {ρ ρ' : List Addr} {H H' : Hp} {h h' : AH}
theorem rngD_ok (c : Int) : ∀ (n : Nat) (lo : Int), Rvs S ρ H ((List.range n).map fun i => V.int (lo + (i : Nat) * c)) (rngD lo c n)
  | 0, lo => .nil
  | n + 1, lo => by
    rw [List.range_succ_eq_map, List.map_cons, List.map_map]
    refine .cons ?_ ?_
    · show Rv S ρ H (.int (lo + ((0 : Nat) : Int) * c)) (.int lo)
      have e : lo + ((0 : Nat) : Int) * c = lo := by simp
      rw [e]; exact rv_i _
    · have z := rngD_ok c n (lo + c)
      have e : (List.range n).map ((fun i => V.int (lo + (i : Nat) * c)) ∘ Nat.succ) = (List.range n).map fun i => V.int (lo + c + (i : Nat) * c) := by
        refine List.map_congr_left fun i _ => ?_
        show V.int (lo + ((i + 1 : Nat) : Int) * c) = _
        congr 1
        rw [Int.natCast_add, Int.add_mul]
        omega
      rw [e]; exact z
theorem rgV_rngD {i j : Int} : Rvs S ρ H (rgV i j) (rngD i 1 (j - i).toNat) := by
  have z := rngD_ok (S := S) (ρ := ρ) (H := H) 1 (j - i).toNat i
  unfold rgV
  have e : (fun k : Nat => V.int (i + (k : Nat))) = fun k : Nat => V.int (i + (k : Nat) * 1) := by funext k; rw [Int.mul_one]
  rw [e]; exact z
theorem e62 : (2 : Int) ^ 62 = 4611686018427387904 := by decide
theorem rgOk_of {i j : Int} (h1 : r62 i = true) (h2 : r62 j = true) (h3 : Nat.ble (j - i).toNat LIM = true) : RgOk i j := by
  obtain ⟨a1, a2⟩ := r62_ok h1
  obtain ⟨b1, b2⟩ := r62_ok h2
  refine ⟨a1, a2, b1, b2, ?_⟩
  have z := Nat.le_of_ble_eq_true h3
  have e : (2 : Nat) ^ 24 = LIM := by decide
  rw [e]; exact z
theorem se_listRg1 (hgl : Γ.sc.names.lookup ("list" : Str) = some .globalImplicit) (hml : S.mg "list" = none) (hgr : Γ.sc.names.lookup ("range" : Str) = some .globalImplicit) (hmr : S.mg "range" = none) (ha : SE S Γ lv rt a ma) (na : ∀ env, starEach [a] env = (false, eval a env) :: starEach [] env)
    (nr : ∀ env, starEach [.Call (.Name "range" p1) [a] [] p2] env = (false, eval (.Call (.Name "range" p1) [a] [] p2) env) :: starEach [] env) : SE S Γ lv rt (.Call (.Name "list" p) [.Call (.Name "range" p1) [a] [] p2] [] pos) (mLstRg1 ma) := by
  intro X ok σ en ρ H h d h' rs rl e Q q
  obtain ⟨x, h1, e1, e⟩ := R.bind_eq_ok e
  refine wE_of (pe_listRg ok.calm (ok.gl hgl) (by rw [ok.mg]; exact hml) (prg_1 (ok.gl hgr) (by rw [ok.mg]; exact hmr) pe_w (na _)) (nr _)) (ha X ok σ en ρ H h x h1 rs rl e1 _ fun v ρ1 H1 x1 rl1 rv => ?_)
  split at e
  · rename_i j
    cases hc : (r62 j && Nat.ble j.toNat LIM) with
    | false => rw [hc] at e; cases e
    | true =>
      rw [hc] at e
      rw [Bool.and_eq_true] at hc
      cases rv.i
      have e0 : j - 0 = j := by omega
      refine ⟨j, rfl, rgOk_of (by decide) hc.1 (by rw [e0]; exact hc.2), fun q0 n => ?_⟩
      have z := rgV_rngD (S := S) (ρ := ρ1) (H := H1) (i := 0) (j := j)
      rw [e0] at z
      exact Po.lst rl1 e (q.later x1) n z
  · cases e
theorem se_listRg2 (hgl : Γ.sc.names.lookup ("list" : Str) = some .globalImplicit) (hml : S.mg "list" = none) (hgr : Γ.sc.names.lookup ("range" : Str) = some .globalImplicit) (hmr : S.mg "range" = none) (ha : SE S Γ lv rt a ma) (hb : SE S Γ lv rt b mb)
    (na : ∀ env, starEach [a, b] env = (false, eval a env) :: starEach [b] env) (nb : ∀ env, starEach [b] env = (false, eval b env) :: starEach [] env) (hp : ∀ env, (backTo p2 (starEach [b] env)).any (·.1) = false)
    (nr : ∀ env, starEach [.Call (.Name "range" p1) [a, b] [] p2] env = (false, eval (.Call (.Name "range" p1) [a, b] [] p2) env) :: starEach [] env) : SE S Γ lv rt (.Call (.Name "list" p) [.Call (.Name "range" p1) [a, b] [] p2] [] pos) (mLstRg2 ma mb) := by
  intro X ok σ en ρ H h d h' rs rl e Q q
  obtain ⟨x, h1, e1, ea⟩ := R.bind_eq_ok e
  clear e
  obtain ⟨y, h2, e2, e⟩ := R.bind_eq_ok ea
  clear ea
  refine wE_of (pe_listRg ok.calm (ok.gl hgl) (by rw [ok.mg]; exact hml) (prg_2 (ok.gl hgr) (by rw [ok.mg]; exact hmr) pe_w pe_w (na _) (nb _) (hp _)) (nr _)) (ha X ok σ en ρ H h x h1 rs rl e1 _ fun v ρ1 H1 x1 rl1 rv => ?_)
  refine hb X ok σ en ρ1 H1 h1 y h2 (rs.mono x1) rl1 e2 _ fun u ρ2 H2 x2 rl2 ru => ?_
  split at e
  · rename_i i j
    cases hc : (r62 i && (r62 j && Nat.ble (j - i).toNat LIM)) with
    | false => rw [hc] at e; cases e
    | true =>
      rw [hc] at e
      rw [Bool.and_eq_true, Bool.and_eq_true] at hc
      cases rv.i; cases ru.i
      exact ⟨i, j, rfl, rfl, rgOk_of hc.1 hc.2.1 hc.2.2, fun q0 n => Po.lst rl2 e (q.later (x1.trans x2)) n rgV_rngD⟩
  · cases e
end
end Den
/-! Den24: more small rules for printed derivations. -/
namespace Den
open PySem PySem.Spec L2
/-- f(..), f a local name that holds one of these defs -/
def mCallVs (fs : List Nat) (a : ME) (r : MA) : ME := fun rt e h => (a rt e h).bind fun x h1 => (r rt e h1).bind fun xs h2 => match x with
  | .fn i => cond (fs.any fun j => Nat.beq j i) (rt.call i xs h2) .bad
  | _ => .bad
/-- a run whose defs outside the list give nothing -/
def Rt.only (rt : Rt) (fs : List Nat) : Rt := ⟨fun i xs h => cond (fs.any fun j => Nat.beq j i) (rt.call i xs h) .bad, rt.fuel⟩
section
variable {S : Sy} {Γ : Sc} {lv : Nat} {rt : Rt} {a b : Expr} {ma mb : ME} {m : MA} {pos : Pos} {es : List Expr} {g : MG} {gs : MGs} {n : Nat} {ρ ρ' : List Addr} {H H' : Hp} {h h' : AH}
theorem gsl_nil : ∀ ds en h e' h', gsNil ds rt en h = .ok e' h' → ds.length = 0 := by
  intro ds en h e' h' e
  cases ds with
  | nil => rfl
  | cons d ds => cases e
theorem gsl_cons (hr : ∀ ds en h e' h', gs ds rt en h = .ok e' h' → ds.length = n) : ∀ ds en h e' h', gsCons g gs ds rt en h = .ok e' h' → ds.length = n + 1 := by
  intro ds en h e' h' e
  cases ds with
  | nil => cases e
  | cons d ds =>
    obtain ⟨x, h1, e1, e2⟩ := R.bind_eq_ok (show (g d rt en h).bind _ = _ from e)
    rw [List.length_cons, hr _ _ _ _ _ e2]
theorem al_nil : ∀ en h ds h', aNil rt en h = .ok ds h' → ds.length = 0 := by
  intro en h ds h' e
  cases e
  rfl
theorem al_cons (hr : ∀ en h ds h', m rt en h = .ok ds h' → ds.length = n) : ∀ en h ds h', aCons ma m rt en h = .ok ds h' → ds.length = n + 1 := by
  intro en h ds h' e
  obtain ⟨x, h1, e1, e⟩ := R.bind_eq_ok (show (ma rt en h).bind _ = _ from e)
  obtain ⟨xs, h2, e2, e⟩ := R.bind_eq_ok e
  cases e
  rw [List.length_cons, hr _ _ _ _ e2]
/-- a tuple of names stored in turn: some name of them is captured -/
theorem sws_cell2 {x y : Str} {px py pt pv : Pos} {kt kv : Nat} {vs : List Expr} (hc : (Γ.sc.names.lookup x == some .local && Γ.sc.names.lookup y == some .local) = false) : ∀ env : Env, env.scope = Γ.sc → swappedStores [.Tuple [.Name x px, .Name y py] kt pt] (.Tuple vs kv pv) env = pure none := by
  intro env h
  have k1 : env.kindOf x = Γ.sc.names.lookup x := by unfold Env.kindOf; rw [h]
  have k2 : env.kindOf y = Γ.sc.names.lookup y := by unfold Env.kindOf; rw [h]
  unfold swappedStores
  simp only [List.filterMap_cons, k1, k2, List.filterMap_nil]
  cases h1 : (Γ.sc.names.lookup x == some .local) with
  | false =>
    simp
    split <;> (intro _ _ _ hz; exact absurd hz (by simp))
  | true =>
    rw [h1] at hc
    have h2 : (Γ.sc.names.lookup y == some .local) = false := by simpa using hc
    rw [h2]
    simp
    split <;> (intro _ _ _ hz; exact absurd hz (by simp))
theorem sws_cell3 {x y z : Str} {px py pz pt pv : Pos} {kt kv : Nat} {vs : List Expr} (hc : (Γ.sc.names.lookup x == some .local && (Γ.sc.names.lookup y == some .local && Γ.sc.names.lookup z == some .local)) = false) : ∀ env : Env, env.scope = Γ.sc → swappedStores [.Tuple [.Name x px, .Name y py, .Name z pz] kt pt] (.Tuple vs kv pv) env = pure none := by
  intro env h
  have k1 : env.kindOf x = Γ.sc.names.lookup x := by unfold Env.kindOf; rw [h]
  have k2 : env.kindOf y = Γ.sc.names.lookup y := by unfold Env.kindOf; rw [h]
  have k3 : env.kindOf z = Γ.sc.names.lookup z := by unfold Env.kindOf; rw [h]
  unfold swappedStores
  simp only [List.filterMap_cons, k1, k2, k3, List.filterMap_nil]
  cases h1 : (Γ.sc.names.lookup x == some .local) with
  | false =>
    simp
    split <;> split <;> (intro _ _ _ hz; exact absurd hz (by simp))
  | true =>
    rw [h1] at hc
    cases h2 : (Γ.sc.names.lookup y == some .local) with
    | false =>
      simp
      split <;> (intro _ _ _ hz; revert hz; split <;> (intro hz; exact absurd hz (by simp)))
    | true =>
      rw [h2] at hc
      have h3 : (Γ.sc.names.lookup z == some .local) = false := by simpa using hc
      rw [h3]
      simp
      split <;> (intro _ _ _ hz; revert hz; split <;> (intro hz; exact absurd hz (by simp)))
/-- g(e, ..), g local, one of these defs -/
theorem se_callVs {fs : List Nat} {i : Nat} {x : Str} {p : Pos} (hN : Γ.N[i]? = some x) (hv : Vis Γ.sc x) (hdb : (x == ("__debug__" : Str)) = false) (hcd : (x == ("__classdict__" : Str)) = false) (hF : ∀ f ∈ fs, ∃ ps, FnF S lv rt f ps [])
    (ha : SA S Γ lv rt (a :: es) m) (he : ∀ env, starEach (a :: es) env = (false, eval a env) :: starEach es env) (hpl : ∀ env, (backTo pos (starEach es env)).any (·.1) = false) : SE S Γ lv rt (.Call (.Name x p) (a :: es) [] pos) (mCallVs fs (mVar i) m) := by
  intro X ok σ en ρ H h d h' rs rl e Q q
  obtain ⟨y, h1, e1, ea⟩ := R.bind_eq_ok e
  clear e
  obtain ⟨xs, h2, e2, eb⟩ := R.bind_eq_ok ea
  clear ea
  unfold mVar at e1
  split at e1
  · rename_i d0 hd0
    cases e1
    obtain ⟨f, rfl⟩ : ∃ f, y = .fn f := by
      cases y with
      | fn f => exact ⟨f, rfl⟩
      | _ => cases eb
    cases hm : (fs.any fun j => Nat.beq j f) with
    | false =>
      have e : cond (fs.any fun j => Nat.beq j f) (rt.call f xs h2) .bad = .ok d h' := eb
      rw [hm] at e
      cases e
    | true =>
     have e : cond (fs.any fun j => Nat.beq j f) (rt.call f xs h2) .bad = .ok d h' := eb
     rw [hm] at e
     have hin : f ∈ fs := by
       obtain ⟨j, hj, ej⟩ := List.any_eq_true.mp hm
       rw [← Nat.eq_of_beq_eq_true ej]; exact hj
     have e : rt.call f xs h2 = .ok d h' := e
     · obtain ⟨ps, F⟩ := hF f hin
       obtain ⟨v, ev, rv⟩ := rs.at_ i _ hd0
       have ev2 : v = .ref (S.fa f) := by unfold Rv at rv; exact rv
       subst ev2
       have run : PE X (.Call (.Name x p) (a :: es) [] pos) (fun σ H Q => σ[i]? = some (some (.ref (S.fa f))) ∧ wA X (a :: es) σ H fun vs H1 => wC X (.ref (S.fa f)) vs H1 Q) := by
         refine ⟨fun pins s σ H Q I ⟨z1, z2⟩ => ?_⟩
         refine wpAny_Call_Name_kw (thn ((pe_var (i := i) (by rw [ok.N]; exact hN) (by rw [ok.sc]; exact hv) hdb hcd).run pins s σ H (fun w H1 => w = .ref (S.fa f) ∧ H1 = H) I ⟨_, z1, rfl, rfl⟩) fun u s1 ⟨w, H1, I1, r, ew, eH⟩ => ?_)
         subst ew eH
         cases r
         refine PySem.W.callWith_K (h₀ := X.base) I1.ok.mod.kin (by rw [ok.K]; exact F.kp) (thn (z2 pos pins s1 I1) fun us s2 ⟨vs, H2, I2, r2, q2⟩ => ⟨I2.kIn, q2 pins s2 σ us I2 r2⟩) (he _) (hpl _)
       refine wE_of run ⟨ev, ha X ok σ en ρ H h xs h2 rs rl e2 _ fun vs ρ1 H1 x1 rl1 rvs => ?_⟩
       exact call_ok ok F rl1 rvs (by rw [List.append_nil]; exact e) (q.later x1)
  · cases e1
theorem sw_dcC {kx elt : Expr} {gs : List Comprehension} {scope : Scope} {p py : Pos} {y : Str} {l : Nat} (hy : Γ.sc.names.lookup y = some .cell) :
    ∀ env : Env, env.scope = Γ.sc → swapsWith (.DictComp kx elt gs scope p) (some (.Name y py)) l env = pure false := by
  intro env h
  have ky : env.kindOf y = some .cell := by unfold Env.kindOf; rw [h]; exact hy
  unfold swapsWith
  have z : (NameKind.cell == NameKind.local) = false := rfl
  simp [ky, z]
def starB : Expr → Bool
  | .Starred .. => true
  | _ => false
/-- names stored at once -/
def parB (sc : Scope) (ns : List (Str × Nat)) (vs : List Expr) : Bool := decide (sc.kind = .function) && (ns.all (fun n => decide (sc.names.lookup n.1 = some .local)) && (ns.all (fun n => n.2 == ((ns.head?.map (·.2)).getD 0)) && (decide ((ns.map (·.1)).Nodup) && (!(vs.any starB) && (!(vs.all (foldedForSure 8)) && !(vs.all (constantsAlone 8)))))))
theorem sws_par2 {x y : Str} {px py pt pv : Pos} {kt kv : Nat} {a b : Expr} (hc : parB Γ.sc [(x, px.line), (y, py.line)] [a, b] = true) : ∀ env : Env, env.scope = Γ.sc → swappedStores [.Tuple [.Name x px, .Name y py] kt pt] (.Tuple [a, b] kv pv) env = pure (some [x, y]) := by
  intro env h
  unfold parB at hc
  simp only [Bool.and_eq_true, List.all_cons, List.all_nil, decide_eq_true_eq, Bool.not_eq_true', List.head?_cons, Option.map_some, Option.getD_some, List.map_cons, List.map_nil, beq_iff_eq, Bool.and_true] at hc
  obtain ⟨c1, ⟨c2, c3⟩, ⟨_, c4⟩, c5, c6, c7, c8⟩ := hc
  have k1 : env.kindOf x = some .local := by unfold Env.kindOf; rw [h]; exact c2
  have k2 : env.kindOf y = some .local := by unfold Env.kindOf; rw [h]; exact c3
  have bk : env.blockKind = .function := by unfold Env.blockKind; rw [h, c1]; rfl
  have nxy : ¬ x = y := by simpa using c5
  unfold swappedStores
  have st : ([a, b].any fun e => match e with | .Starred .. => true | _ => false) = false := c6
  have fo : ([a, b].all (foldedForSure 8)) = false := by simpa using c7
  have co : ([a, b].all (constantsAlone 8)) = false := by simpa using c8
  have er : ([x, y] : List Str).eraseDups = [x, y] := by
    have q : (y == x) = false := by simpa using fun e => nxy e.symm
    simp [List.eraseDups_cons, q]
  simp [k1, k2, bk, c4, Expr.pos]
  rw [if_neg (by
    intro z
    have st2 : (starB a || (starB b || false)) = false := st
    rw [Bool.or_false, Bool.or_eq_false_iff] at st2
    rcases z with z | z
    · exact absurd (show starB a = true from z) (by rw [st2.1]; exact fun z => nomatch z)
    · exact absurd (show starB b = true from z) (by rw [st2.2]; exact fun z => nomatch z)), if_pos (by rw [er]; rfl), if_neg (by rw [← Bool.and_eq_true, c7]; exact fun z => nomatch z), if_neg (by rw [← Bool.and_eq_true, c8]; exact fun z => nomatch z)]
theorem sws_par3 {x y z : Str} {px py pz pt pv : Pos} {kt kv : Nat} {a b c : Expr} (hc : parB Γ.sc [(x, px.line), (y, py.line), (z, pz.line)] [a, b, c] = true) : ∀ env : Env, env.scope = Γ.sc → swappedStores [.Tuple [.Name x px, .Name y py, .Name z pz] kt pt] (.Tuple [a, b, c] kv pv) env = pure (some [x, y, z]) := by
  intro env h
  unfold parB at hc
  simp only [Bool.and_eq_true, List.all_cons, List.all_nil, decide_eq_true_eq, Bool.not_eq_true', List.head?_cons, Option.map_some, Option.getD_some, List.map_cons, List.map_nil, beq_iff_eq, Bool.and_true] at hc
  obtain ⟨c1, ⟨c2, c3, d3⟩, ⟨_, c4, d4⟩, c5, c6, c7, c8⟩ := hc
  have k1 : env.kindOf x = some .local := by unfold Env.kindOf; rw [h]; exact c2
  have k2 : env.kindOf y = some .local := by unfold Env.kindOf; rw [h]; exact c3
  have k3 : env.kindOf z = some .local := by unfold Env.kindOf; rw [h]; exact d3
  have bk : env.blockKind = .function := by unfold Env.blockKind; rw [h, c1]; rfl
  have nxy : (¬ x = y ∧ ¬ x = z) ∧ ¬ y = z := by simpa using c5
  unfold swappedStores
  have st : ([a, b, c].any fun e => match e with | .Starred .. => true | _ => false) = false := c6
  have fo : ([a, b, c].all (foldedForSure 8)) = false := by simpa using c7
  have co : ([a, b, c].all (constantsAlone 8)) = false := by simpa using c8
  have er : ([x, y, z] : List Str).eraseDups = [x, y, z] := by
    have q : (y == x) = false := by simpa using fun e => nxy.1.1 e.symm
    have q2 : (z == x) = false := by simpa using fun e => nxy.1.2 e.symm
    have q3 : (z == y) = false := by simpa using fun e => nxy.2 e.symm
    simp [List.eraseDups_cons, q, q2, q3]
  simp [k1, k2, k3, bk, c4, d4, Expr.pos]
  rw [if_neg (by
    intro z
    have st2 : (starB a || (starB b || (starB c || false))) = false := st
    rw [Bool.or_false, Bool.or_eq_false_iff, Bool.or_eq_false_iff] at st2
    rcases z with z | z | z
    · exact absurd (show starB a = true from z) (by rw [st2.1]; exact fun z => nomatch z)
    · exact absurd (show starB b = true from z) (by rw [st2.2.1]; exact fun z => nomatch z)
    · exact absurd (show starB c = true from z) (by rw [st2.2.2]; exact fun z => nomatch z)), if_pos (by rw [er]; rfl), if_neg (by rw [← Bool.and_eq_true, ← Bool.and_eq_true, c7]; exact fun z => nomatch z), if_neg (by rw [← Bool.and_eq_true, ← Bool.and_eq_true, c8]; exact fun z => nomatch z)]
end
end Den
/-! Den25: what a call leaves behind is forgotten where nothing tells of it (for the kernel's sake: short heaps). -/
namespace Den
open PySem PySem.Spec L2
mutual
def cleanD (n : Nat) : D → Bool
  | .ref k => Nat.blt k n
  | .tup _ xs => cleanDs n xs
  | .fl xs => cleanDs n xs
  | .kd _ xs => cleanDs n xs
  | .non => true
  | .bl _ => true
  | .int _ => true
  | .str _ => true
  | .fn _ => true
  | .cl _ => true
  | .ty _ => true
  | .rep _ => true
def cleanDs (n : Nat) : List D → Bool
  | [] => true
  | d :: ds => cleanD n d && cleanDs n ds
end
def cleanKv (n : Nat) : List (D × D) → Bool
  | [] => true
  | (k, v) :: r => cleanD n v && cleanKv n r
def cleanFs (n : Nat) : List (List Nat × D) → Bool
  | [] => true
  | (_, v) :: r => cleanD n v && cleanFs n r
def cleanO (n : Nat) : AO → Bool
  | .lst xs => cleanDs n xs
  | .dct kvs => cleanKv n kvs
  | .dcl kvs => cleanKv n kvs
  | .ins _ fs => cleanFs n fs
def cleanH (n : Nat) : AH → Bool
  | [] => true
  | o :: r => cleanO n o && cleanH n r
def gcR (n : Nat) : R D → R D
  | .ok d h => cond (cleanH n (h.take n)) (cond (cleanD n d) (.ok d (h.take n)) (match d with
    | .ref k => (match h[k]? with
      | some o => cond (Nat.ble n k && cleanO n o) (.ok (.ref n) (h.take n ++ [o])) (.ok d h)
      | none => .ok d h)
    | _ => .ok d h)) (.ok d h)
  | r => r
section
variable {S : Sy} {ρ ρ1 ρ2 : List Addr} {H : Hp} {n : Nat} {h h' : AH}
mutual
theorem rv_agree (ag : ∀ k, k < n → ρ2[k]? = ρ1[k]?) : ∀ {d : D} {v : V}, cleanD n d = true → Rv S ρ1 H v d → Rv S ρ2 H v d
  | .ref k, v, c, r => by
    unfold cleanD at c
    unfold Rv at r ⊢
    obtain ⟨a, e, ev⟩ := r
    exact ⟨a, by rw [ag k (by simpa using c)]; exact e, ev⟩
  | .tup p xs, v, c, r => by
    unfold cleanD at c
    unfold Rv at r ⊢
    obtain ⟨a, vs, e, s1, s2, s3⟩ := r
    exact ⟨a, vs, e, s1, s2, rvs_agree ag c s3⟩
  | .fl xs, v, c, r => by
    unfold cleanD at c
    unfold Rv at r ⊢
    obtain ⟨a, vs, e, s1, s3⟩ := r
    exact ⟨a, vs, e, s1, rvs_agree ag c s3⟩
  | .kd ks xs, v, c, r => by
    unfold cleanD at c
    unfold Rv at r ⊢
    obtain ⟨a, vs, e, s1, s3⟩ := r
    exact ⟨a, vs, e, s1, rvs_agree ag c s3⟩
  | .non, v, c, r => by unfold Rv at r ⊢; exact r
  | .bl _, v, c, r => by unfold Rv at r ⊢; exact r
  | .int _, v, c, r => by unfold Rv at r ⊢; exact r
  | .str _, v, c, r => by unfold Rv at r ⊢; exact r
  | .fn _, v, c, r => by unfold Rv at r ⊢; exact r
  | .cl _, v, c, r => by unfold Rv at r ⊢; exact r
  | .ty _, v, c, r => by unfold Rv at r ⊢; exact r
  | .rep _, v, c, r => by unfold Rv at r ⊢; exact r
theorem rvs_agree (ag : ∀ k, k < n → ρ2[k]? = ρ1[k]?) : ∀ {ds : List D} {vs : List V}, cleanDs n ds = true → Rvs S ρ1 H vs ds → Rvs S ρ2 H vs ds
  | [], vs, c, r => by unfold Rvs at r ⊢; exact r
  | d :: ds, vs, c, r => by
    unfold cleanDs at c
    rw [Bool.and_eq_true] at c
    unfold Rvs at r ⊢
    obtain ⟨v, t, e, r1, r2⟩ := r
    exact ⟨v, t, e, rv_agree ag c.1 r1, rvs_agree ag c.2 r2⟩
end
theorem rkv_agree (ag : ∀ k, k < n → ρ2[k]? = ρ1[k]?) : ∀ {kvs : List (D × D)} {l : List (Key × V)}, cleanKv n kvs = true → Rkv S ρ1 H l kvs → Rkv S ρ2 H l kvs
  | [], _, c, .nil => .nil
  | (k, v) :: r, _, c, .cons q t => by
    unfold cleanKv at c
    rw [Bool.and_eq_true] at c
    exact .cons ⟨q.1, rv_agree ag c.1 q.2⟩ (rkv_agree ag c.2 t)
theorem rfs_agree (ag : ∀ k, k < n → ρ2[k]? = ρ1[k]?) : ∀ {fs : List (List Nat × D)} {l : List (Str × V)}, cleanFs n fs = true → Rfs S ρ1 H l fs → Rfs S ρ2 H l fs
  | [], _, c, .nil => .nil
  | (k, v) :: r, _, c, .cons q t => by
    unfold cleanFs at c
    rw [Bool.and_eq_true] at c
    exact .cons ⟨q.1, rv_agree ag c.1 q.2⟩ (rfs_agree ag c.2 t)
theorem ro_agree (ag : ∀ k, k < n → ρ2[k]? = ρ1[k]?) {o : AO} {a : Addr} (c : cleanO n o = true) (r : Ro S ρ1 H a o) : Ro S ρ2 H a o := by
  cases o with
  | lst xs => obtain ⟨vs, e, r⟩ := r; exact ⟨vs, e, rvs_agree ag c r⟩
  | dct kvs => obtain ⟨l, e, r⟩ := r; exact ⟨l, e, rkv_agree ag c r⟩
  | dcl kvs => obtain ⟨o, l, e, r⟩ := r; exact ⟨o, l, e, rkv_agree ag c r⟩
  | ins k fs => obtain ⟨dx, l, e, r⟩ := r; exact ⟨dx, l, e, rfs_agree ag c r⟩
theorem cleanH_get : ∀ {h : AH} {k : Nat} {o : AO}, cleanH n h = true → h[k]? = some o → cleanO n o = true
  | [], k, o, _, e => by cases e
  | x :: r, 0, o, c, e => by
    unfold cleanH at c
    rw [Bool.and_eq_true] at c
    cases e
    exact c.1
  | x :: r, k + 1, o, c, e => by
    unfold cleanH at c
    rw [Bool.and_eq_true] at c
    exact cleanH_get c.2 (by simpa using e)
theorem rl_take (rl : Rl S ρ1 H h) (hn : n ≤ h.length) (c : cleanH n (h.take n) = true) : Rl S (ρ1.take n) H (h.take n) := by
  have ag : ∀ k, k < n → (ρ1.take n)[k]? = ρ1[k]? := fun k hk => by rw [List.getElem?_take_of_lt hk]
  refine ⟨by rw [List.length_take, List.length_take, rl.len], rl.nd.sublist (List.take_sublist _ _), fun k o e => ?_⟩
  have hk : k < n := by
    have := List.getElem?_eq_some_iff.mp e
    obtain ⟨hl, _⟩ := this
    rw [List.length_take] at hl
    omega
  have e' : h[k]? = some o := by rw [← List.getElem?_take_of_lt hk]; exact e
  obtain ⟨a, ea, r⟩ := rl.at_ k o e'
  exact ⟨a, by rw [ag k hk]; exact ea, ro_agree ag (cleanH_get c e) r⟩
theorem rl_take1 (rl : Rl S ρ1 H h) (hn : n ≤ h.length) (c : cleanH n (h.take n) = true) {k : Nat} {o : AO} (ek : h[k]? = some o) (hk : n ≤ k) (co : cleanO n o = true) : ∃ a, ρ1[k]? = some a ∧ Rl S (ρ1.take n ++ [a]) H (h.take n ++ [o]) := by
  obtain ⟨a, ea, r⟩ := rl.at_ k o ek
  have r0 := rl_take rl hn c
  have hl : (ρ1.take n).length = n := by rw [List.length_take, rl.len]; omega
  have hl2 : (h.take n).length = n := by rw [List.length_take]; omega
  have ag : ∀ j, j < n → (ρ1.take n ++ [a])[j]? = ρ1[j]? := fun j hj => by rw [List.getElem?_append_left (by rw [hl]; exact hj), List.getElem?_take_of_lt hj]
  refine ⟨a, ea, ?_, ?_, fun j o' e => ?_⟩
  · rw [List.length_append, List.length_append, r0.len]; rfl
  · rw [List.nodup_append]
    refine ⟨r0.nd, by simp, fun x hx y hy => ?_⟩
    rw [List.mem_singleton] at hy
    subst hy
    intro exy
    subst exy
    obtain ⟨i, hi, ei⟩ := List.getElem_of_mem hx
    rw [hl] at hi
    have e1 : ρ1[i]? = some x := by
      rw [← List.getElem?_take_of_lt hi, List.getElem?_eq_getElem (by rw [hl]; exact hi), ei]
    have hkl : k < ρ1.length := (List.getElem?_eq_some_iff.mp ea).1
    have := (List.getElem?_inj (i := i) (j := k) (by omega) rl.nd).mp (e1.trans ea.symm)
    omega
  · by_cases hj : j < n
    · rw [List.getElem?_append_left (by rw [hl2]; exact hj)] at e
      obtain ⟨b, eb, rb⟩ := rl.at_ j o' (by rw [← List.getElem?_take_of_lt hj]; exact e)
      exact ⟨b, by rw [ag j hj]; exact eb, ro_agree ag (cleanH_get c e) rb⟩
    · rw [List.getElem?_append_right (by rw [hl2]; omega), hl2] at e
      have hj0 : j - n = 0 := by
        cases q : j - n with
        | zero => rfl
        | succ z => rw [q] at e; cases e
      rw [hj0] at e
      cases e
      have ej : j = n := by omega
      subst ej
      refine ⟨a, by rw [List.getElem?_append_right (by rw [hl]; omega), hl, Nat.sub_self]; rfl, ro_agree ag co r⟩
theorem xt_take {ρ' : List Addr} {H' : Hp} {t : List Addr} (x : Xt S ρ H ρ' H') (hl : ρ.length = n) (ht : ∀ a ∈ t, a ∈ ρ') : Xt S ρ H (ρ'.take n ++ t) H' := by
  refine ⟨?_, x.tup, x.lst, x.ptp, x.frz, x.keep, fun a ha => ?_⟩
  · obtain ⟨z, ez⟩ := x.pre
    refine ⟨t, ?_⟩
    rw [← ez, List.take_append_of_le_length (by omega), ← hl, List.take_length]
  · rcases List.mem_append.mp ha with q | q
    · exact x.new a (List.mem_of_mem_take q)
    · exact x.new a (ht a q)
/-- a forgetful call keeps what the call promises -/
theorem gc_sp {c : List D → AH → R D} {k : Nat} {vs : List V} {Q : VK} {E : XK} (q : spC S (fun ds h => gcR h.length (c ds h)) k vs H Q E) : spC S c k vs H Q E := by
  obtain ⟨hl, ds, ρ, h, d, h', rl, rvs, e, po⟩ := q
  refine ⟨hl, ds, ρ, h, ?_⟩
  have e : gcR h.length (c ds h) = .ok d h' := e
  cases hc : c ds h with
  | ok d0 h0 =>
    refine ⟨d0, h0, rl, rvs, rfl, fun v ρ' H' x rl' rv => ?_⟩
    have e2 : gcR h.length (R.ok d0 h0) = .ok d h' := by rw [← hc]; exact e
    have hlen : h.length ≤ h0.length := by
      rw [← rl.len, ← rl'.len]
      exact x.pre.length_le
    unfold gcR at e2
    simp only at e2
    cases h1 : cleanH h.length (h0.take h.length) with
    | false => rw [h1] at e2; cases e2; exact po v ρ' H' x rl' rv
    | true =>
      rw [h1] at e2
      cases h2 : cleanD h.length d0 with
      | true =>
        rw [h2] at e2
        cases e2
        have r1 := rl_take rl' hlen h1
        have x1 := xt_take (t := []) x rl.len (by intro a ha; cases ha)
        rw [List.append_nil] at x1
        exact po v _ H' x1 r1 (rv_agree (fun k hk => by rw [List.getElem?_take_of_lt hk]) h2 rv)
      | false =>
        rw [h2] at e2
        cases d0 with
        | ref k =>
          simp only [cond_true, cond_false] at e2
          cases h3 : h0[k]? with
          | none => rw [h3] at e2; cases e2; exact po v ρ' H' x rl' rv
          | some o =>
            rw [h3] at e2
            simp only at e2
            cases h4 : (Nat.ble h.length k && cleanO h.length o) with
            | false => rw [h4] at e2; cases e2; exact po v ρ' H' x rl' rv
            | true =>
              rw [h4] at e2
              cases e2
              rw [Bool.and_eq_true] at h4
              obtain ⟨a, ea, r1⟩ := rl_take1 rl' hlen h1 h3 (Nat.le_of_ble_eq_true h4.1) h4.2
              have x1 := xt_take (t := [a]) x rl.len (by intro b hb; rw [List.mem_singleton] at hb; subst hb; exact List.mem_of_getElem? ea)
              refine po v _ H' x1 r1 ?_
              unfold Rv at rv ⊢
              obtain ⟨b, eb, ev⟩ := rv
              rw [ea] at eb
              cases eb
              have hl2 : (ρ'.take h.length).length = h.length := by rw [List.length_take, rl'.len]; omega
              exact ⟨a, by rw [List.getElem?_append_right (by rw [hl2]; omega), hl2, Nat.sub_self]; rfl, ev⟩
        | _ => cases e2; exact po v ρ' H' x rl' rv
  | _ => rw [hc] at e; cases e
end
/-- a call that forgets what it left behind -/
def callG (f : FD) (rt : Rt) (args : List D) (h : AH) : R D := gcR h.length (callM f rt args h)
def rtG (F : Nat) (tab : Nat → FD) : Nat → Rt
  | 0 => ⟨fun _ _ _ => .bad, F⟩
  | n + 1 => ⟨fun i args h => callG (tab i) (rtG F tab n) args h, F⟩
theorem gcR_ok {n : Nat} {r : R D} {d : D} {h : AH} (e : gcR n r = .ok d h) : ∃ d0 h0, r = .ok d0 h0 := by
  cases r with
  | ok d0 h0 => exact ⟨d0, h0, rfl⟩
  | _ => cases e
theorem callG_len {f : FD} {rt : Rt} {args : List D} {h h' : AH} {d : D} (e : callG f rt args h = .ok d h') : args.length = f.n := by
  obtain ⟨d0, h0, e0⟩ := gcR_ok e
  exact callM_len e0
theorem FnOk.forget {S : Sy} {k : Nat} {f : Addr} {fd : FuncData} {ps : List Str} {F : FD} {rt : Rt} (g : FnOk S.P S.w S.K S.mg S.base CX0 k f fd ps (spC S (callM F rt) ps.length)) : FnOk S.P S.w S.K S.mg S.base CX0 k f fd ps (spC S (callG F rt) ps.length) :=
  ⟨fun vs H Q E q => q.1, fun A outer s H args us vs Q E a1 a2 a3 a4 q => g.run A outer s H args us vs Q E a1 a2 a3 a4 (gc_sp q)⟩
theorem FnG.forget {S : Sy} {k : Nat} {f : Addr} {fd : FuncData} {ps : List Str} {F : FD} {rt : Rt} (g : FnG S k f fd ps (spC S (callM F rt) ps.length)) : FnG S k f fd ps (spC S (callG F rt) ps.length) :=
  ⟨fun A outer s H args us vs Q a1 a0 a2 a3 a4 q => g.run A outer s H args us vs Q a1 a0 a2 a3 a4 (gc_sp q)⟩
end Den
/-! Den26: small rules for the printed induction over levels. -/
namespace Den
open PySem PySem.Spec L2
section
variable {S : Sy} {ρ : List Addr} {H : Hp}
theorem rv_sl {x : Str} {l : List Nat} (h : x.cps.toList = l) : Rv S ρ H (.str x) (.str l) := by
  subst h
  unfold Rv
  rw [Array.toArray_toList]
theorem fng_bad {f : Addr} {fd : FuncData} {ps : List Str} {k : Nat} : FnG S k f fd ps (spC S (fun _ _ => .bad) ps.length) :=
  ⟨fun A outer s H args us vs Q _ _ _ _ _ q => by obtain ⟨_, _, _, _, _, _, _, _, z, _⟩ := q; cases z⟩
end
end Den
/-! Den27: a call that sees only the one object that it is given (the rest of the heap stays out of sight). -/
namespace Den
open PySem PySem.Spec L2
/-- f(x), x a name that holds an object without references -/
def mCallFr (i : Nat) (a : ME) : ME := fun rt e h => (a rt e h).bind fun x h1 => match x with
  | .ref k => (match h1[k]? with
    | some o => cond (cleanO 0 o) (match rt.call i [.ref 0] [o] with
      | .ok d h2 => (match h2 with
        | o2 :: t2 => cond (cleanO 0 o2) (cond (cleanD 0 d) (.ok d (h1.set k o2)) (match d with
          | .ref (k3 + 1) => (match t2[k3]? with
            | some o3 => cond (cleanO 0 o3) (.ok (.ref h1.length) (h1.set k o2 ++ [o3])) .bad
            | none => .bad)
          | _ => .bad)) .bad
        | [] => .bad)
      | _ => .bad) .bad
    | none => .bad)
  | _ => .bad
section
variable {S : Sy} {Γ : Sc} {lv : Nat} {rt : Rt} {ρ ρ' : List Addr} {H H' : Hp} {h h' : AH} {pos : Pos} {a : Expr} {ma : ME}
theorem ro_kept (x : Xw S ρ H ρ' H') {b : Addr} {o : AO} (k : ∀ z, H b = some z → H' b = some z) (r : Ro S ρ H b o) : Ro S ρ' H' b o := by
  cases o with
  | lst xs => obtain ⟨vs, e, r⟩ := r; exact ⟨vs, k _ e, r.monoW x⟩
  | dct kvs => obtain ⟨l, e, r⟩ := r; exact ⟨l, k _ e, r.monoW x⟩
  | dcl kvs => obtain ⟨o, l, e, r⟩ := r; exact ⟨o, l, k _ e, r.monoW x⟩
  | ins c fs => obtain ⟨dx, l, e, r⟩ := r; exact ⟨dx, l, k _ e, r.monoW x⟩
theorem ro_some {b : Addr} {o : AO} (r : Ro S ρ H b o) : ∃ z, H b = some z := by
  cases o with
  | lst xs => obtain ⟨vs, e, r⟩ := r; exact ⟨_, e⟩
  | dct kvs => obtain ⟨l, e, r⟩ := r; exact ⟨_, e⟩
  | dcl kvs => obtain ⟨o, l, e, r⟩ := r; exact ⟨_, e⟩
  | ins c fs => obtain ⟨dx, l, e, r⟩ := r; exact ⟨_, e⟩
theorem fr_xt {b : Addr} {ρ3 : List Addr} (x3 : Xt S [b] H ρ3 H') (hb : b ∈ ρ) : Xt S ρ H ρ H' :=
  ⟨List.prefix_refl _, x3.tup, x3.lst, x3.ptp, x3.frz, fun c z hz1 hz2 => x3.keep c z hz1 (by
    intro hc2
    rw [List.mem_singleton] at hc2
    subst hc2
    exact hz2 hb), fun c hc2 => .inl hc2⟩
theorem fr_rl {b : Addr} {k : Nat} {o o2 : AO} {t2 : AH} {ρ3 : List Addr} (rl1 : Rl S ρ H h) (ho : h[k]? = some o) (eb : ρ[k]? = some b) (x3 : Xt S [b] H ρ3 H') (rl3 : Rl S ρ3 H' (o2 :: t2)) (hz : cleanO 0 o2 = true) : Rl S ρ H' (h.set k o2) := by
  have hbin : b ∈ ρ := List.mem_of_getElem? eb
  have xx := fr_xt (ρ := ρ) x3 hbin
  have e3 : ρ3[0]? = some b := pre_get x3.pre rfl
  refine ⟨by rw [List.length_set]; exact rl1.len, rl1.nd, fun n o' e' => ?_⟩
  by_cases hn : k = n
  · subst hn
    have hk : k < h.length := (List.getElem?_eq_some_iff.mp ho).1
    rw [List.getElem?_set_self hk] at e'
    cases e'
    obtain ⟨b3, eb3, rb3⟩ := rl3.at_ 0 o2 rfl
    rw [e3] at eb3
    cases eb3
    exact ⟨b, eb, ro_agree (n := 0) (fun k hk => absurd hk (Nat.not_lt_zero _)) hz rb3⟩
  · rw [List.getElem?_set_ne hn] at e'
    obtain ⟨c, ec, rc⟩ := rl1.at_ n o' e'
    refine ⟨c, ec, ro_kept xx.w (fun z hz1 => x3.keep c z hz1 ?_) rc⟩
    rw [List.mem_singleton]
    intro ecb
    subst ecb
    have hk : k < ρ.length := (List.getElem?_eq_some_iff.mp eb).1
    exact hn ((List.getElem?_inj (i := k) (j := n) hk rl1.nd).mp (eb.trans ec.symm))
theorem fr_rl1 {b : Addr} {k k3 : Nat} {o o2 o3 : AO} {t2 : AH} {ρ3 : List Addr} (rl1 : Rl S ρ H h) (ho : h[k]? = some o) (eb : ρ[k]? = some b) (x3 : Xt S [b] H ρ3 H') (rl3 : Rl S ρ3 H' (o2 :: t2)) (hz : cleanO 0 o2 = true) (h3 : t2[k3]? = some o3) (hz3 : cleanO 0 o3 = true) :
    ∃ c, ρ3[k3 + 1]? = some c ∧ Rl S (ρ ++ [c]) H' (h.set k o2 ++ [o3]) ∧ Xt S ρ H (ρ ++ [c]) H' := by
  have hbin : b ∈ ρ := List.mem_of_getElem? eb
  have xx := fr_xt (ρ := ρ) x3 hbin
  have r0 := fr_rl rl1 ho eb x3 rl3 hz
  obtain ⟨c, ec, rc⟩ := rl3.at_ (k3 + 1) o3 (by simpa using h3)
  have e3 : ρ3[0]? = some b := pre_get x3.pre rfl
  have hcb : c ≠ b := by
    intro e
    subst e
    have h0 : 0 < ρ3.length := (List.getElem?_eq_some_iff.mp e3).1
    have := (List.getElem?_inj (i := 0) (j := k3 + 1) h0 rl3.nd).mp (e3.trans ec.symm)
    omega
  have hc0 : H c = none := by
    rcases x3.new c (List.mem_of_getElem? ec) with z | z
    · rw [List.mem_singleton] at z; exact absurd z hcb
    · exact z
  have hcn : c ∉ ρ := by
    intro hm
    obtain ⟨j, hj, ej⟩ := List.getElem_of_mem hm
    have hj2 : j < h.length := by rw [← rl1.len]; exact hj
    obtain ⟨c', ec', rc'⟩ := rl1.at_ j _ (List.getElem?_eq_getElem hj2)
    rw [List.getElem?_eq_getElem hj, ej] at ec'
    cases ec'
    obtain ⟨z, ez⟩ := ro_some rc'
    rw [hc0] at ez
    cases ez
  have ag : ∀ {o' : AO} {a : Addr}, Ro S ρ H' a o' → Ro S (ρ ++ [c]) H' a o' := fun r => ro_kept ⟨⟨[c], rfl⟩, fun _ _ z => z, fun _ _ z => z, fun _ _ z => z⟩ (fun _ z => z) r
  refine ⟨c, ec, ⟨by rw [List.length_append, List.length_append, r0.len]; rfl, ?_, fun n o' e' => ?_⟩, ⟨⟨[c], rfl⟩, xx.tup, xx.lst, xx.ptp, xx.frz, xx.keep, fun a ha => ?_⟩⟩
  · rw [List.nodup_append]
    refine ⟨r0.nd, by simp, fun x hx y hy => ?_⟩
    rw [List.mem_singleton] at hy
    subst hy
    intro exy
    subst exy
    exact hcn hx
  · by_cases hn : n < (h.set k o2).length
    · rw [List.getElem?_append_left hn] at e'
      obtain ⟨a, ea, ra⟩ := r0.at_ n o' e'
      exact ⟨a, by rw [List.getElem?_append_left (by rw [r0.len]; exact hn)]; exact ea, ag ra⟩
    · rw [List.getElem?_append_right (by omega)] at e'
      have hj0 : n - (h.set k o2).length = 0 := by
        cases q : n - (h.set k o2).length with
        | zero => rfl
        | succ z => rw [q] at e'; cases e'
      rw [hj0] at e'
      cases e'
      exact ⟨c, by rw [List.getElem?_append_right (by rw [r0.len]; omega), r0.len, hj0]; rfl, ro_agree (n := 0) (fun k hk => absurd hk (Nat.not_lt_zero _)) hz3 rc⟩
  · rcases List.mem_append.mp ha with z | z
    · exact .inl z
    · rw [List.mem_singleton] at z
      subst z
      exact .inr hc0
theorem se_callFr {i : Nat} {x : Str} {p : Pos} {ps : List Str} (hgd : Γ.gd = true) (F : FnGF S lv rt i ps []) (hm : S.mg x = some (.ref (S.fa i))) (hg : Γ.sc.names.lookup x = some .globalImplicit) (ha : SE S Γ lv rt a ma) (hdb : (x == ("__debug__" : Str)) = false)
    (he : ∀ env, starEach [a] env = (false, eval a env) :: starEach [] env) (hpl : ∀ env, (backTo pos (starEach [] env)).any (·.1) = false) : SE S Γ lv rt (.Call (.Name x p) [a] [] pos) (mCallFr i ma) := by
  intro X ok σ en ρ H h d h' rs rl e Q q
  obtain ⟨y, h1, e1, e⟩ := R.bind_eq_ok e
  obtain ⟨fd, dvs, ds, F0, hb, hd, hdd⟩ := F.ex
  have sa : SA S Γ lv rt [a] (aCons ma aNil) := sa_cons ha sa_nil he
  refine wE_of (pe_callG ok hgd F0 (fun _ _ _ _ q => q.1) hb hd (ok.gl hg) (by rw [ok.mg]; exact hm) (by rw [ok.K]; exact F.kp) pa_w hdb (he _) (hpl _)) (sa X ok σ en ρ H h [y] h1 rs rl (by unfold aCons aNil; rw [e1]; rfl) _ fun vs ρ1 H1 x1 rl1 rvs => ?_)
  cases y with
  | ref k =>
    cases ho : h1[k]? with
    | none => simp only [ho] at e; cases e
    | some o =>
      simp only [ho] at e
      cases hc : cleanO 0 o with
      | false => rw [hc] at e; cases e
      | true =>
        rw [hc] at e
        cases hr : rt.call i [.ref 0] [o] with
        | ok d2 h2 =>
          simp only [hr, cond_true] at e
          cases h2 with
          | nil => cases e
          | cons o2 t2 =>
            simp only at e
            cases hz : cleanO 0 o2 with
            | false => rw [hz] at e; cases e
            | true =>
              rw [hz] at e
              simp only [cond_true] at e
              obtain ⟨b, eb, rb⟩ := rl1.at_ k o ho
              have er : ∃ v, vs = [v] ∧ Rv S ρ1 H1 v (.ref k) := by
                cases vs with
                | nil => have z := rvs.length; cases z
                | cons v t =>
                  have l1 := rvs.length
                  cases t with
                  | nil =>
                    unfold Rvs at rvs
                    obtain ⟨v', r', ev, rv, _⟩ := rvs
                    cases ev
                    exact ⟨v, rfl, rv⟩
                  | cons _ _ => simp at l1
              obtain ⟨v, rfl, rv⟩ := er
              have ev : v = .ref b := by
                unfold Rv at rv
                obtain ⟨b', eb', ev⟩ := rv
                rw [eb] at eb'
                cases eb'
                exact ev
              subst ev
              have rl0 : Rl S [b] H1 [o] := ⟨rfl, by simp, fun n o' e' => by
                cases n with
                | zero => cases e'; exact ⟨b, rfl, ro_agree (n := 0) (fun k hk => absurd hk (Nat.not_lt_zero _)) hc rb⟩
                | succ n => cases e'⟩
              have rv0 : Rvs S [b] H1 [V.ref b] [.ref 0] := .cons (rv_r rfl) .nil
              refine ⟨by
                have z := (rv0.append (hdd [b] H1)).length
                rw [z]; exact F.ar _ _ _ _ (by rw [List.append_nil]; exact hr), [.ref 0] ++ [], [b], [o], d2, o2 :: t2, rl0, rv0.append (hdd [b] H1), by rw [List.append_nil]; exact hr, fun u ρ3 H3 x3 rl3 ru => ?_⟩
              cases hd2 : cleanD 0 d2 with
              | true =>
                rw [hd2] at e
                cases e
                exact q u ρ1 H3 (x1.trans (fr_xt x3 (List.mem_of_getElem? eb))) (fr_rl rl1 ho eb x3 rl3 hz) (rv_agree (n := 0) (fun k hk => absurd hk (Nat.not_lt_zero _)) hd2 ru)
              | false =>
                rw [hd2] at e
                simp only [cond_false] at e
                cases d2 with
                | ref k2 =>
                  cases k2 with
                  | zero => cases e
                  | succ k3 =>
                    cases h3 : t2[k3]? with
                    | none => simp only [h3] at e; cases e
                    | some o3 =>
                      simp only [h3] at e
                      cases hz3 : cleanO 0 o3 with
                      | false => rw [hz3] at e; cases e
                      | true =>
                        rw [hz3] at e
                        cases e
                        obtain ⟨c, ec, r1, x2⟩ := fr_rl1 rl1 ho eb x3 rl3 hz h3 hz3
                        refine q u _ H3 (x1.trans x2) r1 ?_
                        unfold Rv at ru ⊢
                        obtain ⟨c', ec', eu⟩ := ru
                        rw [ec] at ec'
                        cases ec'
                        exact ⟨c, by rw [← rl1.len, List.getElem?_append_right (Nat.le_refl _), Nat.sub_self]; rfl, eu⟩
                | _ => cases e
        | _ => simp only [hr, cond_true] at e; cases e
  | _ => cases e
end
end Den
/-! Den28: the laws' own draws (plain Lean): a draw tells a number below what was asked for. -/
namespace Den
open PySem PySem.Spec L2
def kCells : D := .str [99, 101, 108, 108, 115]
def kTurn : D := .str [116, 117, 114, 110]
def kRest : D := .str [114, 101, 115, 116]
def kDrawn : D := .str [100, 114, 97, 119, 110]
/-- _law_feed -/
def mFeed : MS := sRet (mDisp (pCons (mC kCells) (mB bList (aCons (mSl (mVar 0) none (some (mC (.int 63)))) aNil)) (pCons (mC kTurn) (mC (.int 0)) (pCons (mC kRest) (mC (.int 0)) (pCons (mC kDrawn) (mC (.int 0)) pNil)))))
/-- the first half of a draw: the cell -/
def mCell (c0 : Int) : ME := mIf (tCmp opNe (mBin opIx (mVar 0) (mC kCells)) (mLst aNil)) (mBin opIx (mBin opIx (mVar 0) (mC kCells)) (mBin opMod (mB bInt (aCons (mVar 2) aNil)) (mB bLen (aCons (mBin opIx (mVar 0) (mC kCells)) aNil)))) (mC (.int c0))
def mMix1 (c1 : Int) : ME := mBin opMod (mB bInt (aCons (mBin opAdd (mBin opAdd (mBin opMod (mB bInt (aCons (mVar 3) aNil)) (mC (.int 2147483587))) (mBin opMul (mC (.int 6700417)) (mBin opIx (mVar 0) (mC kDrawn)))) (mC (.int c1))) aNil)) (mC (.int 2147483587))
def mMix2 (c2 : Int) : ME := mBin opMod (mB bInt (aCons (mBin opAdd (mBin opAdd (mBin opMul (mVar 4) (mVar 4)) (mBin opMul (mC (.int 19660813)) (mBin opIx (mVar 0) (mC kDrawn)))) (mC (.int c2))) aNil)) (mC (.int 2147483563))
def mMix3 : ME := mBin opMod (mB bInt (aCons (mBin opFdiv (mBin opMod (mB bInt (aCons (mBin opAdd (mBin opMul (mVar 4) (mVar 4)) (mBin opMul (mC (.int 601)) (mVar 4))) aNil)) (mC (.int 2147483549))) (mC (.int 16))) aNil)) (mVar 1)
def mDrawTail (c1 c2 : Int) : MS := sSeq (sAsg (mMix1 c1) (gN 4)) (sSeq (sAsg (mMix2 c2) (gN 4)) (sRet mMix3))
def mBig : MT := tAnd (tCmp opGe (mVar 3) (mBin opPow (mC (.int 10)) (mC (.int 18)))) (tCmp opLt (mVar 2) (mB bLen (aCons (mBin opIx (mVar 0) (mC kCells)) aNil)))
def mBigDo : MS := sSeq (sAsg (mBin opFdiv (mVar 3) (mVar 1)) (gS (mVar 0) (mC kRest))) (sRet (mBin opMod (mB bInt (aCons (mVar 3) aNil)) (mVar 1)))
def mRestDo : MS := sSeq (sAsg (mBin opMod (mB bInt (aCons (mBin opIx (mVar 0) (mC kRest)) aNil)) (mVar 1)) (gN 5)) (sSeq (sAsg (mBin opFdiv (mBin opIx (mVar 0) (mC kRest)) (mVar 1)) (gS (mVar 0) (mC kRest))) (sRet (mVar 5)))
/-- _law_draw -/
def mDraw (c0 c1 c2 : Int) : MS := sSeq (sAsg (mBin opAdd (mBin opIx (mVar 0) (mC kDrawn)) (mC (.int 1))) (gS (mVar 0) (mC kDrawn)))
  (sSeq (sIf (tCmp opGt (mBin opIx (mVar 0) (mC kRest)) (mC (.int 0))) mRestDo sPass)
  (sSeq (sAsg (mBin opIx (mVar 0) (mC kTurn)) (gN 2))
  (sSeq (sAsg (mBin opAdd (mVar 2) (mC (.int 1))) (gS (mVar 0) (mC kTurn)))
  (sSeq (sAsg (mCell c0) (gN 3))
  (sSeq (sIf mBig mBigDo sPass) (mDrawTail c1 c2))))))
def fd (c : Nat) (t r d : Int) : AO := .dct [(kCells, .ref c), (kTurn, .int t), (kRest, .int r), (kDrawn, .int d)]
/-- the feed stands at n -/
structure Feed (h : AH) (n : Nat) : Prop where
  ex : ∃ (c : Nat) (ns : List Int) (t r d : Int), h[n]? = some (fd c t r d) ∧ h[c]? = some (.lst (ns.map .int)) ∧ c ≠ n ∧ ns.length ≤ LIM
/-- all but n is kept -/
structure Kept (h h' : AH) (n : Nat) : Prop where
  len : h.length ≤ h'.length
  at_ : ∀ m, m < h.length → m ≠ n → h'[m]? = h[m]?
section
variable {rt : Rt} {e : E} {h : AH} {n c : Nat} {t r d : Int} {ns : List Int} {c0 c1 c2 many : Int}
theorem get_cells (e0 : e[0]? = some (some (.ref n))) (hn : h[n]? = some (fd c t r d)) : mBin opIx (mVar 0) (mC kCells) rt e h = .ok (.ref c) h := by
  unfold mBin mVar mC opIx lstAt dctAt fd at *
  simp only [e0, R.bind_ok, hn]
  rfl
theorem get_turn (e0 : e[0]? = some (some (.ref n))) (hn : h[n]? = some (fd c t r d)) : mBin opIx (mVar 0) (mC kTurn) rt e h = .ok (.int t) h := by
  unfold mBin mVar mC opIx lstAt dctAt fd at *
  simp only [e0, R.bind_ok, hn]
  rfl
theorem get_rest (e0 : e[0]? = some (some (.ref n))) (hn : h[n]? = some (fd c t r d)) : mBin opIx (mVar 0) (mC kRest) rt e h = .ok (.int r) h := by
  unfold mBin mVar mC opIx lstAt dctAt fd at *
  simp only [e0, R.bind_ok, hn]
  rfl
theorem get_drawn (e0 : e[0]? = some (some (.ref n))) (hn : h[n]? = some (fd c t r d)) : mBin opIx (mVar 0) (mC kDrawn) rt e h = .ok (.int d) h := by
  unfold mBin mVar mC opIx lstAt dctAt fd at *
  simp only [e0, R.bind_ok, hn]
  rfl
theorem put_turn {v : Int} (e0 : e[0]? = some (some (.ref n))) (hn : h[n]? = some (fd c t r d)) : gS (mVar 0) (mC kTurn) (.int v) rt e h = .ok e (h.set n (fd c v r d)) := by
  unfold gS mVar mC opPut fd at *
  simp only [e0, R.bind_ok, hn]
  rfl
theorem put_rest {v : Int} (e0 : e[0]? = some (some (.ref n))) (hn : h[n]? = some (fd c t r d)) : gS (mVar 0) (mC kRest) (.int v) rt e h = .ok e (h.set n (fd c t v d)) := by
  unfold gS mVar mC opPut fd at *
  simp only [e0, R.bind_ok, hn]
  rfl
theorem put_drawn {v : Int} (e0 : e[0]? = some (some (.ref n))) (hn : h[n]? = some (fd c t r d)) : gS (mVar 0) (mC kDrawn) (.int v) rt e h = .ok e (h.set n (fd c t r v)) := by
  unfold gS mVar mC opPut fd at *
  simp only [e0, R.bind_ok, hn]
  rfl
theorem mulOk_l {i j : Int} (h1 : -18446744073709551616 < i) (h2 : i < 18446744073709551616) : mulOk i j = true := by
  unfold mulOk P64
  simp [h1, h2]
theorem var_int {i : Nat} {v : Int} (q : e[i]? = some (some (.int v))) : mVar i rt e h = .ok (.int v) h := by unfold mVar; simp only [q]
theorem bin_mul {a b : ME} {i j : Int} {h1 h2 : AH} (ha : a rt e h = .ok (.int i) h1) (hb : b rt e h1 = .ok (.int j) h2) (l : mulOk i j = true) : mBin opMul a b rt e h = .ok (.int (i * j)) h2 := by
  unfold mBin; simp only [ha, hb, R.bind_ok, opMul]; rw [if_pos l]
theorem bin_add {a b : ME} {i j : Int} {h1 h2 : AH} (ha : a rt e h = .ok (.int i) h1) (hb : b rt e h1 = .ok (.int j) h2) : mBin opAdd a b rt e h = .ok (.int (i + j)) h2 := by
  unfold mBin; simp only [ha, hb, R.bind_ok, opAdd]
theorem bin_mod {a b : ME} {i j : Int} {h1 h2 : AH} (ha : a rt e h = .ok (.int i) h1) (hb : b rt e h1 = .ok (.int j) h2) (l : j ≠ 0) : mBin opMod a b rt e h = .ok (.int (i.fmod j)) h2 := by
  unfold mBin; simp only [ha, hb, R.bind_ok, opMod]; rw [if_pos (by simpa using l)]
theorem bin_fdiv {a b : ME} {i j : Int} {h1 h2 : AH} (ha : a rt e h = .ok (.int i) h1) (hb : b rt e h1 = .ok (.int j) h2) (l : 0 < j) (l2 : j < 1073741824) : mBin opFdiv a b rt e h = .ok (.int (i.fdiv j)) h2 := by
  unfold mBin; simp only [ha, hb, R.bind_ok, opFdiv]; rw [if_pos]
  rw [Bool.and_eq_true]
  exact ⟨by simp; omega, by simp; omega⟩
theorem bin_eq {op : Op2} {a b : ME} {x y : D} {h1 h2 : AH} (ha : a rt e h = .ok x h1) (hb : b rt e h1 = .ok y h2) : mBin op a b rt e h = op x y h2 := by
  unfold mBin; simp only [ha, hb, R.bind_ok]
theorem int_of {a : ME} {i : Int} {h1 : AH} (ha : a rt e h = .ok (.int i) h1) : mB bInt (aCons a aNil) rt e h = .ok (.int i) h1 := by
  unfold mB aCons aNil; simp only [ha, R.bind_ok, bInt]
theorem asg_n {a : ME} {x : D} {i : Nat} {h1 : AH} (ha : a rt e h = .ok x h1) : sAsg a (gN i) rt e h = .ok (.nx (e.set i (some x))) h1 := by
  unfold sAsg gN; simp only [ha, R.bind_ok]
theorem asg_g {a : ME} {g : MG} {x : D} {e1 : E} {h1 h2 : AH} (ha : a rt e h = .ok x h1) (hg : g x rt e h1 = .ok e1 h2) : sAsg a g rt e h = .ok (.nx e1) h2 := by
  unfold sAsg; simp only [ha, hg, R.bind_ok]
theorem seq_nx {a b : MS} {e1 : E} {h1 : AH} (ha : a rt e h = .ok (.nx e1) h1) : sSeq a b rt e h = b rt e1 h1 := by
  unfold sSeq; simp only [ha, R.bind_ok]
theorem seq_rt {a b : MS} {x : D} {h1 : AH} (ha : a rt e h = .ok (.rt x) h1) : sSeq a b rt e h = .ok (.rt x) h1 := by
  unfold sSeq; simp only [ha, R.bind_ok]
theorem if_t {t : MT} {a b : MS} {h1 : AH} (ht : t rt e h = .ok true h1) : sIf t a b rt e h = a rt e h1 := by
  unfold sIf; simp only [ht, R.bind_ok, cond_true]
theorem if_f {t : MT} {a b : MS} {h1 : AH} (ht : t rt e h = .ok false h1) : sIf t a b rt e h = b rt e h1 := by
  unfold sIf; simp only [ht, R.bind_ok, cond_false]
theorem ret_of {a : ME} {x : D} {h1 : AH} (ha : a rt e h = .ok x h1) : sRet a rt e h = .ok (.rt x) h1 := by
  unfold sRet; simp only [ha, R.bind_ok]
theorem cmp_of {op : Op2} {a b : ME} {x y : D} {b0 : Bool} {h1 h2 : AH} (ha : a rt e h = .ok x h1) (hb : b rt e h1 = .ok y h2) (ho : op x y h2 = .ok (.bl b0) h2) : tCmp op a b rt e h = .ok b0 h2 := by
  unfold tCmp; simp only [ha, hb, ho, R.bind_ok]
/-- the last lines of a draw -/
theorem draw_tail (e0 : e[0]? = some (some (.ref n))) (e1 : e[1]? = some (some (.int many))) (e3 : ∃ v, e[3]? = some (some (.int v))) (el : e.length = 6) (hn : h[n]? = some (fd c t r d)) (hm : 0 < many) : ∃ k, mDrawTail c1 c2 rt e h = .ok (.rt (.int k)) h ∧ 0 ≤ k ∧ k < many := by
  obtain ⟨v, e3⟩ := e3
  unfold mDrawTail mMix1 mMix2 mMix3
  have m1 := bin_mod (rt := rt) (e := e) (h := h) (int_of (bin_add (bin_add (bin_mod (int_of (var_int e3)) (rfl : mC (.int 2147483587) rt e h = _) (by decide)) (bin_mul (rfl : mC (.int 6700417) rt e h = _) (get_drawn e0 hn) (mulOk_l (by decide) (by decide)))) (rfl : mC (.int c1) rt e h = _))) (rfl : mC (.int 2147483587) rt e h = _) (by decide)
  rw [seq_nx (asg_n m1)]
  generalize hx : (Int.fmod (v.fmod 2147483587 + 6700417 * d + c1) 2147483587) = x
  have x0 : 0 ≤ x := by rw [← hx]; exact Int.fmod_nonneg_of_pos _ (by decide)
  have x1 : x < 2147483587 := by rw [← hx]; exact Int.fmod_lt_of_pos _ (by decide)
  have f4 : (e.set 4 (some (D.int x)))[4]? = some (some (.int x)) := List.getElem?_set_self (by omega)
  have f0 : (e.set 4 (some (D.int x)))[0]? = some (some (.ref n)) := by rw [List.getElem?_set_ne (by decide)]; exact e0
  have m2 := bin_mod (rt := rt) (h := h) (int_of (bin_add (bin_add (bin_mul (var_int f4) (var_int f4) (mulOk_l (by omega) (by omega))) (bin_mul (rfl : mC (.int 19660813) rt (e.set 4 (some (D.int x))) h = _) (get_drawn f0 hn) (mulOk_l (by decide) (by decide)))) (rfl : mC (.int c2) rt (e.set 4 (some (D.int x))) h = _))) (rfl : mC (.int 2147483563) rt (e.set 4 (some (D.int x))) h = _) (by decide)
  rw [seq_nx (asg_n m2)]
  generalize hy : (Int.fmod (x * x + 19660813 * d + c2) 2147483563) = y
  have y0 : 0 ≤ y := by rw [← hy]; exact Int.fmod_nonneg_of_pos _ (by decide)
  have y1 : y < 2147483563 := by rw [← hy]; exact Int.fmod_lt_of_pos _ (by decide)
  have g4 : ((e.set 4 (some (D.int x))).set 4 (some (D.int y)))[4]? = some (some (.int y)) := List.getElem?_set_self (by rw [List.length_set]; omega)
  have g1 : ((e.set 4 (some (D.int x))).set 4 (some (D.int y)))[1]? = some (some (.int many)) := by rw [List.getElem?_set_ne (by decide), List.getElem?_set_ne (by decide)]; exact e1
  have m3 := bin_mod (rt := rt) (h := h) (int_of (bin_fdiv (bin_mod (int_of (bin_add (bin_mul (var_int g4) (var_int g4) (mulOk_l (by omega) (by omega))) (bin_mul (rfl : mC (.int 601) rt ((e.set 4 (some (D.int x))).set 4 (some (D.int y))) h = _) (var_int g4) (mulOk_l (by decide) (by decide))))) (rfl : mC (.int 2147483549) rt ((e.set 4 (some (D.int x))).set 4 (some (D.int y))) h = _) (by decide)) (rfl : mC (.int 16) rt ((e.set 4 (some (D.int x))).set 4 (some (D.int y))) h = _) (by decide) (by decide))) (var_int g1) (by omega)
  exact ⟨_, ret_of m3, Int.fmod_nonneg_of_pos _ hm, Int.fmod_lt_of_pos _ hm⟩
end
section
variable {rt : Rt} {e : E} {h : AH} {n c : Nat} {t r d : Int} {ns : List Int} {c0 c1 c2 many : Int}
theorem pd_ints : ∀ {k : Nat} (ns : List Int), (ns.map D.int).mapM (pd h k) = some (ns.map PyData.int)
  | k, [] => rfl
  | k, i :: r => by
    have e : pd h k (.int i) = some (.int i) := by cases k <;> rfl
    rw [List.map_cons, List.mapM_cons, e, pd_ints r]
    rfl
theorem canLay_ints : ∀ ns : List Int, PyData.canLayAll0 (ns.map PyData.int) = true
  | [] => by unfold PyData.canLayAll0; rfl
  | i :: r => by
    rw [List.map_cons]
    unfold PyData.canLayAll0 PyData.canLay0
    exact canLay_ints r
theorem depth_ints : ∀ ns : List Int, PyData.depthAll (ns.map PyData.int) = 0
  | [] => by simp [PyData.depthAll]
  | i :: r => by
    rw [List.map_cons]
    simp [PyData.depthAll, PyData.depth, depth_ints r]
theorem shaped_ints (ns : List Int) : SeqAt.shaped (.list (ns.map PyData.int)) = true := by
  unfold SeqAt.shaped
  rw [Bool.and_eq_true]
  refine ⟨?_, ?_⟩
  · unfold PyData.canLay0
    exact canLay_ints ns
  · simp [PyData.depth, depth_ints]
theorem pd_lst {k m : Nat} (q : h[m]? = some (.lst (ns.map .int))) : pd h (k + 1) (.ref m) = some (.list (ns.map PyData.int)) := by
  show (match lstAt h m with
    | some xs => (xs.mapM (pd h k)).map PyData.list
    | none => none) = _
  unfold lstAt
  rw [q]
  show ((ns.map D.int).mapM (pd h k)).map PyData.list = _
  rw [pd_ints]
  rfl
theorem eqv_nil (ns : List Int) : PyData.eqv (.list (ns.map PyData.int)) (.list []) = ns.isEmpty := by
  cases ns with
  | nil => simp [PyData.eqv, PyData.eqvAll]
  | cons i r => simp [PyData.eqv, PyData.eqvAll]
/-- cells != [] -/
theorem ne_nil {m : Nat} (q : h[m]? = some (.lst (ns.map .int))) {l : Nat} (q2 : h[l]? = some (.lst [])) : opNe (.ref m) (.ref l) h = .ok (.bl (!ns.isEmpty)) h := by
  have p1 := pd_lst (k := 59) q
  have p2 := pd_lst (h := h) (ns := []) (k := 59) q2
  unfold opNe eqD
  show ofB (Option.map _ (match pd h 60 (.ref m), pd h 60 (.ref l) with
      | some p, some q => if SeqAt.shaped p && SeqAt.shaped q then some (p.eqv q) else none
      | _, _ => none)) h = _
  rw [show pd h 60 (.ref m) = _ from p1, show pd h 60 (.ref l) = _ from p2]
  show ofB (Option.map _ (if SeqAt.shaped (.list (ns.map PyData.int)) && SeqAt.shaped (.list (([] : List Int).map PyData.int)) then some (PyData.eqv (.list (ns.map PyData.int)) (.list [])) else none)) h = _
  rw [shaped_ints, shaped_ints, eqv_nil]
  rfl
theorem len_cells (e0 : e[0]? = some (some (.ref n))) (hn : h[n]? = some (fd c t r d)) (hc : h[c]? = some (.lst (ns.map .int))) : mB bLen (aCons (mBin opIx (mVar 0) (mC kCells)) aNil) rt e h = .ok (.int ns.length) h := by
  unfold mB aCons aNil
  simp only [get_cells e0 hn, R.bind_ok, bLen, hc, List.length_map]
theorem ixL_in {i : Int} (h0 : 0 ≤ i) (h1 : i < ns.length) : ∃ v : Int, ixL (ns.map .int) (.int i) h = .ok (.int v) h := by
  have hl : i.toNat < ns.length := by omega
  refine ⟨ns[i.toNat], ?_⟩
  unfold ixL atI ixN
  simp only [List.length_map]
  rw [if_pos h0, if_pos h1]
  show (match (ns.map D.int)[i.toNat]? with
    | some d => R.ok d h
    | none => .bad) = _
  rw [List.getElem?_map, List.getElem?_eq_getElem hl]
  rfl
/-- the cell -/
theorem cell_ok (e0 : e[0]? = some (some (.ref n))) (e2 : e[2]? = some (some (.int t))) {t' : Int} (hn : h[n]? = some (fd c t' r d)) (hc : h[c]? = some (.lst (ns.map .int))) : ∃ v : Int, mCell c0 rt e h = .ok (.int v) (h ++ [.lst []]) := by
  have hn1 : (h ++ [AO.lst []])[n]? = some (fd c t' r d) := pre_get (List.prefix_append _ _) hn
  have hc1 : (h ++ [AO.lst []])[c]? = some (.lst (ns.map .int)) := pre_get (List.prefix_append _ _) hc
  have hl : mLst aNil rt e h = .ok (.ref h.length) (h ++ [.lst []]) := rfl
  have q2 : (h ++ [AO.lst []])[h.length]? = some (.lst []) := by rw [List.getElem?_append_right (Nat.le_refl _), Nat.sub_self]; rfl
  have cmp := cmp_of (op := opNe) (get_cells (rt := rt) e0 hn) hl (ne_nil hc1 q2)
  unfold mCell mIf
  rw [cmp]
  cases ns with
  | nil => exact ⟨c0, rfl⟩
  | cons i s =>
    have lp : (((i :: s).length : Nat) : Int) ≠ 0 := by simp; omega
    have m := bin_mod (int_of (var_int (rt := rt) (h := h ++ [AO.lst []]) e2)) (len_cells e0 hn1 hc1) lp
    obtain ⟨v, hv⟩ := ixL_in (ns := i :: s) (h := h ++ [AO.lst []]) (i := t.fmod ((i :: s).length : Nat)) (Int.fmod_nonneg_of_pos _ (by simp)) (Int.fmod_lt_of_pos _ (by simp))
    refine ⟨v, ?_⟩
    show mBin opIx _ _ rt e (h ++ [AO.lst []]) = _
    rw [bin_eq (get_cells e0 hn1) m]
    unfold opIx lstAt
    simp only [hc1]
    exact hv
/-- a draw tells a number below many, and the feed stands on -/
theorem draw_ok (F : Feed h n) (hm : 0 < many) (hm2 : many < 1073741824) : ∃ (k : Int) (h' : AH), mDraw c0 c1 c2 rt (startE 6 [.ref n, .int many]) h = .ok (.rt (.int k)) h' ∧ 0 ≤ k ∧ k < many ∧ Feed h' n ∧ Kept h h' n := by
  obtain ⟨c, ns, t, r, d, hn, hc, hcn, hl⟩ := F.ex
  have hlt : n < h.length := (List.getElem?_eq_some_iff.mp hn).1
  have set_n : ∀ (g : AH) (o : AO), n < g.length → (g.set n o)[n]? = some o := fun g o l => List.getElem?_set_self l
  have set_c : ∀ (g : AH) (o : AO), (g.set n o)[c]? = g[c]? := fun g o => List.getElem?_set_ne (fun z => hcn z.symm)
  have keptS : ∀ (g : AH) (o : AO), Kept h g n → Kept h (g.set n o) n := fun g o k => ⟨by rw [List.length_set]; exact k.len, fun m h1 h2 => by rw [List.getElem?_set_ne (fun z => h2 z.symm)]; exact k.at_ m h1 h2⟩
  have keptA : ∀ (g : AH) (o : AO), Kept h g n → Kept h (g ++ [o]) n := fun g o k => ⟨by rw [List.length_append]; have := k.len; omega, fun m h1 h2 => by rw [List.getElem?_append_left (by have := k.len; omega)]; exact k.at_ m h1 h2⟩
  have k0 : Kept h h n := ⟨Nat.le_refl _, fun _ _ _ => rfl⟩
  unfold mDraw
  have e0 : (startE 6 [D.ref n, D.int many])[0]? = some (some (.ref n)) := rfl
  rw [seq_nx (asg_g (bin_add (get_drawn e0 hn) rfl) (put_drawn e0 hn))]
  generalize hh1 : h.set n (fd c t r (d + 1)) = h1
  have hn1 : h1[n]? = some (fd c t r (d + 1)) := by rw [← hh1]; exact set_n _ _ hlt
  have hc1 : h1[c]? = some (.lst (ns.map .int)) := by rw [← hh1, set_c]; exact hc
  have k1 : Kept h h1 n := by rw [← hh1]; exact keptS _ _ k0
  have l1 : n < h1.length := by have := k1.len; omega
  have cr : tCmp opGt (mBin opIx (mVar 0) (mC kRest)) (mC (.int 0)) rt (startE 6 [.ref n, .int many]) h1 = .ok (decide (0 < r)) h1 := cmp_of (get_rest e0 hn1) rfl rfl
  by_cases hr : 0 < r
  · rw [decide_eq_true hr] at cr
    have body : mRestDo rt (startE 6 [.ref n, .int many]) h1 = .ok (.rt (.int (r.fmod many))) (h1.set n (fd c t (r.fdiv many) (d + 1))) := by
      unfold mRestDo
      have e1 : (startE 6 [D.ref n, D.int many])[1]? = some (some (.int many)) := rfl
      rw [seq_nx (asg_n (bin_mod (int_of (get_rest e0 hn1)) (var_int e1) (by omega)))]
      have f0 : ((startE 6 [D.ref n, D.int many]).set 5 (some (.int (r.fmod many))))[0]? = some (some (.ref n)) := rfl
      have f1 : ((startE 6 [D.ref n, D.int many]).set 5 (some (.int (r.fmod many))))[1]? = some (some (.int many)) := rfl
      rw [seq_nx (asg_g (bin_fdiv (get_rest f0 hn1) (var_int f1) hm hm2) (put_rest f0 hn1))]
      exact ret_of rfl
    rw [seq_rt (by rw [if_t cr]; exact body)]
    exact ⟨_, _, rfl, Int.fmod_nonneg_of_pos _ hm, Int.fmod_lt_of_pos _ hm, ⟨c, ns, t, r.fdiv many, d + 1, set_n _ _ l1, by rw [set_c]; exact hc1, hcn, hl⟩, keptS _ _ k1⟩
  · rw [decide_eq_false hr] at cr
    rw [seq_nx (by rw [if_f cr]; rfl)]
    rw [seq_nx (asg_n (get_turn e0 hn1))]
    have e0b : ((startE 6 [D.ref n, D.int many]).set 2 (some (.int t)))[0]? = some (some (.ref n)) := rfl
    have e2b : ((startE 6 [D.ref n, D.int many]).set 2 (some (.int t)))[2]? = some (some (.int t)) := rfl
    rw [seq_nx (asg_g (bin_add (var_int e2b) rfl) (put_turn e0b hn1))]
    generalize hh2 : h1.set n (fd c (t + 1) r (d + 1)) = h2
    have hn2 : h2[n]? = some (fd c (t + 1) r (d + 1)) := by rw [← hh2]; exact set_n _ _ l1
    have hc2 : h2[c]? = some (.lst (ns.map .int)) := by rw [← hh2, set_c]; exact hc1
    have k2 : Kept h h2 n := by rw [← hh2]; exact keptS _ _ k1
    obtain ⟨v, hv⟩ := cell_ok (c0 := c0) (rt := rt) e0b e2b hn2 hc2
    rw [seq_nx (asg_n hv)]
    generalize hh3 : h2 ++ [AO.lst []] = h3
    have hn3 : h3[n]? = some (fd c (t + 1) r (d + 1)) := by rw [← hh3]; exact pre_get (List.prefix_append _ _) hn2
    have hc3 : h3[c]? = some (.lst (ns.map .int)) := by rw [← hh3]; exact pre_get (List.prefix_append _ _) hc2
    have k3 : Kept h h3 n := by rw [← hh3]; exact keptA _ _ k2
    have l3 : n < h3.length := by have := k3.len; omega
    generalize he : ((startE 6 [D.ref n, D.int many]).set 2 (some (.int t))).set 3 (some (.int v)) = e4
    have g0 : e4[0]? = some (some (.ref n)) := by rw [← he]; rfl
    have g1 : e4[1]? = some (some (.int many)) := by rw [← he]; rfl
    have g2 : e4[2]? = some (some (.int t)) := by rw [← he]; rfl
    have g3 : e4[3]? = some (some (.int v)) := by rw [← he]; rfl
    have gl : e4.length = 6 := by rw [← he]; rfl
    have big : ∃ b, mBig rt e4 h3 = .ok b h3 := by
      unfold mBig tAnd
      have p : mBin opPow (mC (.int 10)) (mC (.int 18)) rt e4 h3 = .ok (.int (10 ^ 18)) h3 := rfl
      have c1 : tCmp opGe (mVar 3) (mBin opPow (mC (.int 10)) (mC (.int 18))) rt e4 h3 = .ok (decide ((10 : Int) ^ 18 ≤ v)) h3 := cmp_of (var_int g3) p rfl
      have c2 : tCmp opLt (mVar 2) (mB bLen (aCons (mBin opIx (mVar 0) (mC kCells)) aNil)) rt e4 h3 = .ok (decide (t < (ns.length : Int))) h3 := cmp_of (var_int g2) (len_cells g0 hn3 hc3) rfl
      rw [c1]
      simp only [R.bind_ok]
      cases decide ((10 : Int) ^ 18 ≤ v) with
      | true => exact ⟨_, c2⟩
      | false => exact ⟨_, rfl⟩
    obtain ⟨b, hb⟩ := big
    cases b with
    | true =>
      have body : mBigDo rt e4 h3 = .ok (.rt (.int (v.fmod many))) (h3.set n (fd c (t + 1) (v.fdiv many) (d + 1))) := by
        unfold mBigDo
        rw [seq_nx (asg_g (bin_fdiv (var_int g3) (var_int g1) hm hm2) (put_rest g0 hn3))]
        exact ret_of (bin_mod (int_of (var_int g3)) (var_int g1) (by omega))
      rw [seq_rt (by rw [if_t hb]; exact body)]
      exact ⟨_, _, rfl, Int.fmod_nonneg_of_pos _ hm, Int.fmod_lt_of_pos _ hm, ⟨c, ns, _, _, _, set_n _ _ l3, by rw [set_c]; exact hc3, hcn, hl⟩, keptS _ _ k3⟩
    | false =>
      rw [seq_nx (by rw [if_f hb]; rfl)]
      obtain ⟨k, hk, hk0, hk1⟩ := draw_tail (c1 := c1) (c2 := c2) (rt := rt) g0 g1 ⟨v, g3⟩ gl hn3 hm
      exact ⟨k, h3, hk, hk0, hk1, ⟨c, ns, _, _, _, hn3, hc3, hcn, hl⟩, k3⟩
end
end Den
/-! Den29: the head's run in three parts; the end of a law. -/
namespace Den
open PySem PySem.Spec L2 PyProof.Rows PySem.Calls
/-- the top's run, looked at thrice -/
theorem run_of {r : PySem.W.OpenRow} {q : Program} {H : PySem.W.Hook} {ob : PySem.W.SharedT → H.α} {M : Nat} {loose : List Str} {w : World}
    (hA : ∀ os : OsState, (HandSHeadRun.endF (HandSHeadRun.stepQ (HandSHeadRun.denQ HandSHeadRun.tabQ) r.prog w) M r.prog w os).map (fun s => HandSHeadRun.looksF r.prog (PySem.W.boot_heap w.params) s.abs) = some true)
    (hB : ∀ os : OsState, (HandSHeadRun.endF (HandSHeadRun.stepQ (HandSHeadRun.denQ HandSHeadRun.tabQ) r.prog w) M r.prog w os).map (fun s => HandSHeadRun.seenQ q loose (PySem.importedModules r.prog.main.body) (fun s => PySem.W.xlAt q [] s && PySem.W.recOk r.toRowW.records s) s.abs) = some (PySem.W.openGood q loose))
    (hC : ∀ os : OsState, (HandSHeadRun.endF (HandSHeadRun.stepQ (HandSHeadRun.denQ HandSHeadRun.tabQ) r.prog w) M r.prog w os).map ob = some (H.val w)) : HandSHeadRun.RunEq r q H ob M loose w := by
  intro os
  have a := hA os
  have b := hB os
  have c := hC os
  obtain ⟨s, e, a⟩ := Option.map_eq_some_iff.mp a
  rw [e] at b c ⊢
  have b := Option.some.inj b
  have c := Option.some.inj c
  show some (HandSHeadRun.looksF r.prog (PySem.W.boot_heap w.params) s.abs, HandSHeadRun.seenQ q loose (PySem.importedModules r.prog.main.body) (fun s => PySem.W.xlAt q [] s && PySem.W.recOk r.toRowW.records s) s.abs, ob s) = _
  rw [a, c]
  exact congrArg (fun z => some (true, z, H.val w)) b
theorem FnG.weaken {S : Sy} {k : Nat} {f : Addr} {fd : FuncData} {ps : List Str} {sp sp' : Sp} (g : FnG S k f fd ps sp) (h : ∀ vs H Q E, sp' vs H Q E → sp vs H Q E) : FnG S k f fd ps sp' :=
  ⟨fun A outer s H args us vs Q a1 a0 a2 a3 a4 q => g.run A outer s H args us vs Q a1 a0 a2 a3 a4 (h _ _ _ _ q)⟩
theorem rvs_ints {S : Sy} {ρ : List Addr} {H : Hp} : ∀ ns : List Int, Rvs S ρ H (ns.map V.int) (ns.map D.int)
  | [] => .nil
  | i :: r => .cons (rv_i _) (rvs_ints r)
/-- the walk of a law, from what its reading gives -/
theorem walk_L {l : PySem.W.OpenLaw} {n k : Nat} {q : Program} {loose : List Str} {XP : (Str → Option Value) → Heap → Prop} {bs : List (Frag → Bool)} {fn : List He5.DefA} {ts : List He.Tab} {d : DefRec} {x : Str} {F : FD} {rt : Rt} {YS : World → Heap → Prop} {sy : World → Frag → (Str → Option Value) → Heap → Sy}
    (hY : ∀ w h, YS w h → ∃ K : Frag, K.In h ∧ SaysB bs fn ts w K) (hn : l.most = some n) (hn2 : n ≤ sizeLine) (hdf : d.params.defaults = []) (room : Room k callerA)
    (hsy : ∀ w K mg base, (sy w K mg base).P = l.prog ∧ (sy w K mg base).w = w ∧ (sy w K mg base).K = K ∧ (sy w K mg base).mg = mg ∧ (sy w K mg base).base = base)
    (G : ∀ (w : World) (K : Frag) (mg : Str → Option Value) (h : Heap) (fa : Addr), K.In h → h.Ns mainGlobals mg → SaysB bs fn ts w K → mg d.name = some (.ref fa) →
      ∃ fd : FuncData, (∀ (s : Shared) (u : Value), BindsTo s fd ⟨[u], []⟩ [(x, u)]) ∧ ∀ base : Heap, FnG (sy w K mg base) k fa fd [x] (spC (sy w K mg base) (callG F rt) 1))
    (val : ∀ ns : List Int, ns.length ≤ n → ∃ h', callG F rt [.fl (ns.map .int)] [] = .ok (.bl true) h') :
    PySem.W.WalkO q loose XP YS l.row.toRowW d [] (fun f vs => PySem.call f vs) := by
  refine walk_G (x := x) (k := k) hn hn2 hdf room fun w mg fa h Y hns hmg => ?_
  obtain ⟨K, kin, c⟩ := hY w h Y
  obtain ⟨fd, hb, hG⟩ := G w K mg h fa kin hns c hmg
  refine ⟨K, fd, fun vs H Q E => ∀ base, spC (sy w K mg base) (callG F rt) 1 vs H Q E, kin, hb, fun H a ns hl sq base => ?_, fun base _ _ => ?_⟩
  · obtain ⟨h', hv⟩ := val ns hl
    obtain ⟨_, _, hK, _, _⟩ := hsy w K mg base
    refine ⟨rfl, [.fl (ns.map .int)], [], [], _, h', ⟨rfl, List.nodup_nil, fun m o e => by simp at e⟩, .cons ?_ .nil, hv, fun v ρ' H' _ _ rv => ?_⟩
    · unfold Rv
      exact ⟨a, ns.map V.int, rfl, by rw [hK]; exact sq, rvs_ints ns⟩
    · unfold Rv at rv
      exact rv
  · obtain ⟨e1, e2, e3, e4, e5⟩ := hsy w K mg base
    exact ⟨sy w K mg base, e1, e2, e3, e4, e5, (hG base).weaken fun _ _ _ _ q => q base⟩
end Den
/-! Den30: small rules to run a law's own lines over an unknown heap. -/
namespace Den
open PySem PySem.Spec L2
section
variable {rt : Rt} {e : E} {h : AH}
/-- data without references -/
def flatish : D → Bool
  | .non | .bl _ | .int _ | .str _ => true
  | _ => false
theorem gc_flat {n : Nat} {d : D} {h : AH} (hd : flatish d = true) : ∃ h', gcR n (.ok d h) = .ok d h' ∧ (h' = h ∨ h' = h.take n) := by
  have hc : cleanD n d = true := by cases d <;> first | rfl | (cases hd)
  unfold gcR
  simp only [hc, cond_true]
  cases cleanH n (h.take n) with
  | true => exact ⟨_, rfl, .inr rfl⟩
  | false => exact ⟨_, rfl, .inl rfl⟩
theorem take_get {n m : Nat} {h : AH} (hm : m < n) : (h.take n)[m]? = h[m]? := List.getElem?_take_of_lt hm
/-- a feed behind what a call forgot -/
theorem Kept.gc {h h1 h2 : AH} {n : Nat} (k : Kept h h1 n) (e : h2 = h1 ∨ h2 = h1.take h.length) : Kept h h2 n := by
  rcases e with rfl | rfl
  · exact k
  · exact ⟨by rw [List.length_take]; have := k.len; omega, fun m h1 h2 => by rw [take_get h1]; exact k.at_ m h1 h2⟩
theorem callM_rt {f : FD} {args : List D} {d : D} {h1 : AH} (hn : args.length = f.n) (hb : f.m rt (startE f.k args) h = .ok (.rt d) h1) : callM f rt args h = .ok d h1 := by
  unfold callM
  rw [hn, show Nat.beq f.n f.n = true from Nat.beq_refl _, hb]
  rfl
theorem callG_flat {f : FD} {args : List D} {d : D} {h1 : AH} (hn : args.length = f.n) (hb : f.m rt (startE f.k args) h = .ok (.rt d) h1) (hd : flatish d = true) : ∃ h2, callG f rt args h = .ok d h2 ∧ (h2 = h1 ∨ h2 = h1.take h.length) := by
  unfold callG
  rw [callM_rt hn hb]
  exact gc_flat hd
/-- the draw, called: the list at l and the feed at n stand on -/
theorem drawG {c0 c1 c2 many : Int} {n : Nat} (F : Feed h n) (hm : 0 < many) (hm2 : many < 1073741824) : ∃ (k : Int) (h' : AH), callG ⟨mDraw c0 c1 c2, 6, 2⟩ rt [.ref n, .int many] h = .ok (.int k) h' ∧ 0 ≤ k ∧ k < many ∧ Kept h h' n := by
  obtain ⟨k, h1, hd, h0, hlt, F1, K1⟩ := draw_ok (c0 := c0) (c1 := c1) (c2 := c2) (rt := rt) F hm hm2
  obtain ⟨h2, e2, e3⟩ := callG_flat (f := ⟨mDraw c0 c1 c2, 6, 2⟩) (args := [.ref n, .int many]) rfl hd rfl
  exact ⟨k, h2, e2, h0, hlt, K1.gc e3⟩
/-- _law_any -/
def mAny (i : Nat) : MS := sRet (mBin opIx (mVar 1) (mCallD i (aCons (mVar 0) (aCons (mB bLen (aCons (mVar 1) aNil)) aNil)) []))
theorem anyG {c0 c1 c2 : Int} {rt2 : Rt} {n l i : Nat} {xs : List D} (hc : rt.call i = callG ⟨mDraw c0 c1 c2, 6, 2⟩ rt2) (F : Feed h n) (hl : h[l]? = some (.lst xs)) (hln : l ≠ n) (h0 : 0 < xs.length) (h1 : xs.length < 1073741824) (hx : ∀ x ∈ xs, flatish x = true) :
    ∃ x ∈ xs, ∃ h', callG ⟨mAny i, 2, 2⟩ rt [.ref n, .ref l] h = .ok x h' ∧ Kept h h' n := by
  obtain ⟨k, h2, hd, hk0, hk1, K2⟩ := drawG (c0 := c0) (c1 := c1) (c2 := c2) (rt := rt2) (many := xs.length) F (by omega) (by omega)
  have hll : l < h.length := (List.getElem?_eq_some_iff.mp hl).1
  have hl2 : h2[l]? = some (.lst xs) := by rw [K2.at_ l hll hln]; exact hl
  have hkl : k.toNat < xs.length := by omega
  have m1 : mCallD i (aCons (mVar 0) (aCons (mB bLen (aCons (mVar 1) aNil)) aNil)) [] rt (startE 2 [.ref n, .ref l]) h = .ok (.int k) h2 := by
    unfold mCallD
    have a : aCons (mVar 0) (aCons (mB bLen (aCons (mVar 1) aNil)) aNil) rt (startE 2 [.ref n, .ref l]) h = .ok [.ref n, .int xs.length] h := by
      have b : mB bLen (aCons (mVar 1) aNil) rt (startE 2 [.ref n, .ref l]) h = .ok (.int xs.length) h := by
        show bLen [.ref l] h = _
        simp only [bLen, hl]
      unfold aCons
      show ((mB bLen (aCons (mVar 1) aNil) rt (startE 2 [.ref n, .ref l]) h).bind _).bind _ = _
      rw [b]
      rfl
    rw [a, R.bind_ok, hc, List.append_nil]
    exact hd
  have body : (mAny i) rt (startE 2 [.ref n, .ref l]) h = .ok (.rt xs[k.toNat]) h2 := by
    unfold mAny
    have a : mVar 1 rt (startE 2 [.ref n, .ref l]) h = .ok (.ref l) h := rfl
    refine ret_of ?_
    rw [bin_eq a m1]
    unfold opIx lstAt
    simp only [hl2]
    unfold ixL atI ixN
    simp only
    rw [if_pos hk0, if_pos hk1]
    show (match xs[k.toNat]? with
      | some d => R.ok d h2
      | none => .bad) = _
    rw [List.getElem?_eq_getElem hkl]
  have hm : xs[k.toNat] ∈ xs := List.getElem_mem hkl
  obtain ⟨h3, e3, e4⟩ := callG_flat (f := ⟨mAny i, 2, 2⟩) (args := [.ref n, .ref l]) rfl body (hx _ hm)
  exact ⟨_, hm, h3, e3, K2.gc e4⟩
/-- the feed is made -/
theorem feedG (ns : List Int) (hl : ns.length ≤ 63) : ∃ h', callG ⟨mFeed, 1, 1⟩ rt [.fl (ns.map .int)] [] = .ok (.ref 0) h' ∧ Feed h' 0 := by
  refine ⟨_, rfl, 2, (ns.drop (HT.sIx (ns.map D.int).length 0 none)).take (HT.sIx (ns.map D.int).length (ns.map D.int).length (some 63) - HT.sIx (ns.map D.int).length 0 none), 0, 0, 0, rfl, ?_, by decide, ?_⟩
  · show some (AO.lst (cutD (ns.map D.int) none (some 63))) = _
    unfold cutD
    rw [List.map_take, List.map_drop]
  · rw [List.length_take, List.length_drop]
    show _ ≤ 16777216
    omega
/-! ### a loop's turns -/
theorem for_step {it : DIt} {g : MG} {b : MS} {n i : Nat} {d : D} {e1 e2 : E} {h1 h2 : AH} (hi : it i h = some (some d)) (hg : g d rt e h = .ok e1 h1) (hb : b rt e1 h1 = .ok (.nx e2) h2) : forF it g b rt (n + 1) i e h = forF it g b rt n (i + 1) e2 h2 := by
  show (match it i h with
    | none => R.bad
    | some none => R.ok (Sg.nx e) h
    | some (some d) => (g d rt e h).bind fun e1 h1 => (b rt e1 h1).bind fun sg h2 => match sg with
      | .nx e2 => forF it g b rt n (i + 1) e2 h2
      | .ct e2 => forF it g b rt n (i + 1) e2 h2
      | .bk e2 => R.ok (Sg.nx e2) h2
      | .rt d => R.ok (Sg.rt d) h2) = _
  rw [hi]
  show (g d rt e h).bind _ = _
  rw [hg, R.bind_ok, hb, R.bind_ok]
theorem for_end {it : DIt} {g : MG} {b : MS} {n i : Nat} (hi : it i h = some none) : forF it g b rt (n + 1) i e h = .ok (.nx e) h := by
  show (match it i h with
    | none => R.bad
    | some none => R.ok (Sg.nx e) h
    | some (some d) => (g d rt e h).bind fun e1 h1 => (b rt e1 h1).bind fun sg h2 => match sg with
      | .nx e2 => forF it g b rt n (i + 1) e2 h2
      | .ct e2 => forF it g b rt n (i + 1) e2 h2
      | .bk e2 => R.ok (Sg.nx e2) h2
      | .rt d => R.ok (Sg.rt d) h2) = _
  rw [hi]
theorem put_dct {p : Nat} {k v : D} {kvs : List (D × D)} (hp : h[p]? = some (.dct kvs)) (hk : keyD k = true) (hl : kvs.length < LIM) : opPut (.ref p) k v h = .ok () (h.set p (.dct (kput k v kvs))) := by
  unfold opPut
  simp only [hp, hk, Bool.true_and]
  rw [show Nat.blt kvs.length LIM = true from Nat.ble_eq_true_of_le hl]
  rfl
theorem gs_of {o i : ME} {p : Nat} {k v : D} {kvs : List (D × D)} {h1 h2 : AH} (ho : o rt e h = .ok (.ref p) h1) (hi : i rt e h1 = .ok k h2) (hp : h2[p]? = some (.dct kvs)) (hk : keyD k = true) (hl : kvs.length < LIM) : gS o i v rt e h = .ok e (h2.set p (.dct (kput k v kvs))) := by
  unfold gS
  rw [ho, R.bind_ok, hi, R.bind_ok, put_dct hp hk hl, R.bind_ok]
/-- a call that sees one object, and gives plain data -/
theorem callFr_flat {i k : Nat} {a : ME} {o o2 : AO} {d : D} {h1 : AH} {t2 : AH} (ha : a rt e h = .ok (.ref k) h1) (ho : h1[k]? = some o) (c1 : cleanO 0 o = true) (hc : rt.call i [.ref 0] [o] = .ok d (o2 :: t2)) (c2 : cleanO 0 o2 = true) (hd : flatish d = true) : mCallFr i a rt e h = .ok d (h1.set k o2) := by
  have hcd : cleanD 0 d = true := by cases d <;> first | rfl | (cases hd)
  unfold mCallFr
  rw [ha, R.bind_ok]
  simp only [ho, c1, cond_true, hc, c2, hcd]
/-- .. a new object -/
theorem callFr_ref {i k k3 : Nat} {a : ME} {o o2 o3 : AO} {h1 : AH} {t2 : AH} (ha : a rt e h = .ok (.ref k) h1) (ho : h1[k]? = some o) (c1 : cleanO 0 o = true) (hc : rt.call i [.ref 0] [o] = .ok (.ref (k3 + 1)) (o2 :: t2)) (c2 : cleanO 0 o2 = true) (h3 : t2[k3]? = some o3) (c3 : cleanO 0 o3 = true) : mCallFr i a rt e h = .ok (.ref h1.length) (h1.set k o2 ++ [o3]) := by
  unfold mCallFr
  rw [ha, R.bind_ok]
  simp only [ho, c1, cond_true, hc, c2]
  show (cond false _ _ : R D) = _
  simp only [cond_false, h3, c3, cond_true]
end
end Den
/-! Den31: the head's run from parts; both answers of the one open choice that a text-keyed table of the top asks. -/
namespace Den
open PySem PySem.Spec L2 PyProof.Rows PySem.Calls
theorem obs_app {bs1 bs2 : List (Frag → Bool)} {fn1 fn2 : List He5.DefA} {ts1 ts2 : List He.Tab} {w : World} {K : Frag} (h1 : obsB bs1 fn1 ts1 K = valB fn1 ts1 w) (h2 : obsB bs2 fn2 ts2 K = valB fn2 ts2 w) : obsB (bs1 ++ bs2) (fn1 ++ fn2) (ts1 ++ ts2) K = valB (fn1 ++ fn2) (ts1 ++ ts2) w := by
  have a1 := SaysB.both h1
  have a2 := SaysB.both h2
  have b1 : fn1.map (fun d => He5.fnA K (d.at_ K)) = fn1.map He5.DefA.val := congrArg (fun z : AlB => z.2.1) h1
  have b2 : fn2.map (fun d => He5.fnA K (d.at_ K)) = fn2.map He5.DefA.val := congrArg (fun z : AlB => z.2.1) h2
  have c1 : ts1.map (fun t => He.dicW K (t.1 K)) = ts1.map fun t => some (He.keysIn w.params t.2) := congrArg (fun z : AlB => z.2.2) h1
  have c2 : ts2.map (fun t => He.dicW K (t.1 K)) = ts2.map fun t => some (He.keysIn w.params t.2) := congrArg (fun z : AlB => z.2.2) h2
  unfold obsB valB
  rw [List.all_append, List.all_append, a1.1, a1.2, a2.1, a2.2, List.map_append, List.map_append, List.map_append, List.map_append, b1, b2, c1, c2]
  rfl
noncomputable abbrev endS (r : PySem.W.OpenRow) (M : Nat) (w : World) (os : OsState) : Option PySem.W.SharedT := HandSHeadRun.endF (HandSHeadRun.stepQ (HandSHeadRun.denQ HandSHeadRun.tabQ) r.prog w) M r.prog w os
abbrev obT (bs : List (Frag → Bool)) (fn : List He5.DefA) (ts : List He.Tab) (s : PySem.W.SharedT) : AlB := obsBG 5 bs fn ts (HandSHeadRun.getT s)
theorem obT_eq {bs : List (Frag → Bool)} {fn : List He5.DefA} {ts : List He.Tab} (s : PySem.W.SharedT) : obT bs fn ts s = (hookB 5 bs fn ts).obs s.abs := obsBG_eq (HandSHeadRun.getT_eq s)
theorem obT_app {r : PySem.W.OpenRow} {M : Nat} {w : World} {os : OsState} {bs1 bs2 : List (Frag → Bool)} {fn1 fn2 : List He5.DefA} {ts1 ts2 : List He.Tab} (h1 : (endS r M w os).map (obT bs1 fn1 ts1) = some (valB fn1 ts1 w)) (h2 : (endS r M w os).map (obT bs2 fn2 ts2) = some (valB fn2 ts2 w)) : (endS r M w os).map (obT (bs1 ++ bs2) (fn1 ++ fn2) (ts1 ++ ts2)) = some (valB (fn1 ++ fn2) (ts1 ++ ts2) w) := by
  obtain ⟨s, e, a⟩ := Option.map_eq_some_iff.mp h1
  rw [e] at h2 ⊢
  have b := Option.some.inj h2
  exact congrArg some (obs_app a b)
noncomputable abbrev lookAB (r : PySem.W.OpenRow) (q : Program) (loose : List Str) (w : World) (s : PySem.W.SharedT) := (HandSHeadRun.looksF r.prog (PySem.W.boot_heap w.params) s.abs, HandSHeadRun.seenQ q loose (PySem.importedModules r.prog.main.body) (fun s => PySem.W.xlAt q [] s && PySem.W.recOk r.toRowW.records s) s.abs)
theorem run_of2 {r : PySem.W.OpenRow} {q : Program} {bs : List (Frag → Bool)} {fn : List He5.DefA} {ts : List He.Tab} {M : Nat} {loose : List Str} {w : World}
    (hAB : ∀ os : OsState, (endS r M w os).map (lookAB r q loose w) = some (true, PySem.W.openGood q loose))
    (hC : ∀ os : OsState, (endS r M w os).map (obT bs fn ts) = some (valB fn ts w)) : HandSHeadRun.RunEq r q (hookB 5 bs fn ts) (obT bs fn ts) M loose w := by
  intro os
  obtain ⟨s, e, a⟩ := Option.map_eq_some_iff.mp (hAB os)
  have c := hC os
  rw [show HandSHeadRun.endF (HandSHeadRun.stepQ (HandSHeadRun.denQ HandSHeadRun.tabQ) r.prog w) M r.prog w os = some s from e]
  rw [e] at c
  have c := Option.some.inj c
  obtain ⟨a1, a2⟩ := Prod.mk.inj a
  show some (HandSHeadRun.looksF r.prog (PySem.W.boot_heap w.params) s.abs, HandSHeadRun.seenQ q loose (PySem.importedModules r.prog.main.body) (fun s => PySem.W.xlAt q [] s && PySem.W.recOk r.toRowW.records s) s.abs, obT bs fn ts s) = _
  rw [a1, c]
  exact congrArg (fun z => some (true, z, valB fn ts w)) a2
/-! the written part: what lies at the addresses of a list -/
def hookL (L : List Addr) (bs : List (Frag → Bool)) (fn : List He5.DefA) (ts : List He.Tab) : PySem.W.Hook where
  α := AlB
  obs := fun s => obsB bs fn ts (He.frG s.heap.get? L)
  val := fun w => valB fn ts w
  says := fun w h => ∃ K : Frag, K.In h ∧ SaysB bs fn ts w K
  of := fun _ _ e => ⟨_, He.frG_in, e⟩
  keeps := fun _ _ _ ⟨K, hK, c⟩ k => ⟨K, PySem.W.Frag.In.keeps hK k, c⟩
def obL (L : List Addr) (bs : List (Frag → Bool)) (fn : List He5.DefA) (ts : List He.Tab) (s : PySem.W.SharedT) : AlB := obsB bs fn ts (He.frG (HandSHeadRun.getT s) L)
theorem obL_eq {L : List Addr} {bs : List (Frag → Bool)} {fn : List He5.DefA} {ts : List He.Tab} (s : PySem.W.SharedT) : obL L bs fn ts s = (hookL L bs fn ts).obs s.abs := by
  have e : HandSHeadRun.getT s = s.abs.heap.get? := funext (HandSHeadRun.getT_eq s)
  unfold obL
  rw [e]
  rfl
/-- both answers -/
theorem both {P : World → Prop} (row : String) (h : ∀ (b : Bool) (w : World), P (w.withFollow row b)) (w : World) : P w := by
  have z := h (w.params.followText row) w
  rwa [World.withFollow_self] at z
end Den
namespace K70
open PySem PySem.Spec L2 Den
def top (i : Nat) : Stmt := PySem.Challenge.pw_firstfailing_k70_told_and_gone_at_once.main.body.getD i (.Pass ⟨0, 0, 0, 0⟩)
def mem (i j : Nat) : Stmt := (C8.clsBody (top i)).getD j (.Pass ⟨0, 0, 0, 0⟩)
def N0 : List Str := [("thing" : Str)]
def m0 : MS := (sRet (mAnd (mIsi 2 (mVar 0)) (mNot (mIsi 1 (mVar 0)))))
def N1 : List Str := [("thing" : Str)]
def m1 : MS := (sRet (mAnd (mCallD 0 (aCons (mVar 0) aNil) []) (mBin opGe (mVar 0) (mC (.int 0)))))
def N2 : List Str := [("thing" : Str)]
def m2 : MS := (sRet (mAnd (mIsi 3 (mVar 0)) (mAnd (mBin opEq (mB bLen (aCons (mVar 0) aNil)) (mC (.int 1))) (mBin opIn (mVar 0) (mC (.str [97, 98, 99, 100, 101, 102, 103, 104, 105, 106, 107, 108, 109, 110, 111, 112, 113, 114, 115, 116, 117, 118, 119, 120, 121, 122]))))))
def N3 : List Str := [("thing" : Str), ("sign" : Str)]
def m3 : MS := (sRet (mAnd (mIsi 3 (mVar 0)) (mB bAll (aCons (mLc (jSeq (mVar 0)) (gN 1) tYesM (mBin opIn (mVar 1) (mC (.str [97, 98, 99, 100, 101, 102, 103, 104, 105, 106, 107, 108, 109, 110, 111, 112, 113, 114, 115, 116, 117, 118, 119, 120, 121, 122]))) [1]) aNil))))
def N4 : List Str := [("row" : Str), ("one" : Str), ("other" : Str)]
def m4 : MS := (sRet (mB bAll (aCons (mLc (jZip (mVar 0) (mSl (mVar 0) (some (mC (.int 1))) none)) (gT (gsCons (gN 1) (gsCons (gN 2) gsNil))) tYesM (mBin opLt (mVar 1) (mVar 2)) [1, 2]) aNil)))
def N5 : List Str := [("thing" : Str), ("one" : Str)]
def m5 : MS := (sRet (mAnd (mIsi 4 (mVar 0)) (mAnd (mB bAll (aCons (mLc (jSeq (mVar 0)) (gN 1) tYesM (mCallD 2 (aCons (mVar 1) aNil) []) [1]) aNil)) (mCallD 4 (aCons (mVar 0) aNil) []))))
def N6 : List Str := [("thing" : Str)]
def m6 : MS := (sRet (mAnd (mIsi 4 (mVar 0)) (mBin opEq (mB bLen (aCons (mVar 0) aNil)) (mC (.int 2)))))
def N7 : List Str := [("thing" : Str)]
def m7 : MS := (sRet (mAnd (mCallD 6 (aCons (mVar 0) aNil) []) (mAnd (mCallD 2 (aCons (mBin opIx (mVar 0) (mC (.int 0))) aNil) []) (mCallD 5 (aCons (mBin opIx (mVar 0) (mC (.int 1))) aNil) []))))
def N8 : List Str := [("thing" : Str)]
def m8 : MS := (sRet (mAnd (mIsi 3 (mVar 0)) (mBin opIn (mVar 0) (mC (.tup true [.str [108, 101, 102, 116], .str [114, 105, 103, 104, 116]])))))
def N9 : List Str := [("thing" : Str), ("word" : Str), ("rest" : Str)]
def m9 : MS := (sSeq (sIf (tOr (tNot (tVal (mIsi 4 (mVar 0)))) (tOr (tCmp opEq (mB bLen (aCons (mVar 0) aNil)) (mC (.int 0))) (tNot (tVal (mIsi 3 (mBin opIx (mVar 0) (mC (.int 0)))))))) (sRet (mC (.bl false))) sPass)
 (sSeq (sPar2 1 2 (aCons (mBin opIx (mVar 0) (mC (.int 0))) (aCons (mSl (mVar 0) (some (mC (.int 1))) none) aNil)))
 (sSeq (sIf (tCmp opEq (mVar 1) (mC (.str [100, 114, 111, 112]))) (sRet (mAnd (mBin opEq (mB bLen (aCons (mVar 2) aNil)) (mC (.int 2))) (mAnd (mCallD 1 (aCons (mBin opIx (mVar 2) (mC (.int 0))) aNil) []) (mAnd (mBin opGt (mBin opIx (mVar 2) (mC (.int 0))) (mC (.int 0))) (mCallD 8 (aCons (mBin opIx (mVar 2) (mC (.int 1))) aNil) []))))) sPass)
 (sSeq (sIf (tCmp opIn (mVar 1) (mTup (aCons (mC (.str [104, 97, 108, 102])) (aCons (mC (.str [108, 111, 119, 101, 114])) aNil)))) (sRet (mAnd (mBin opEq (mB bLen (aCons (mVar 2) aNil)) (mC (.int 1))) (mCallD 8 (aCons (mBin opIx (mVar 2) (mC (.int 0))) aNil) []))) sPass)
 (sSeq (sIf (tCmp opEq (mVar 1) (mC (.str [112, 117, 116]))) (sSeq (sIf (tOr (tCmp opNe (mB bLen (aCons (mVar 2) aNil)) (mC (.int 3))) (tOr (tNot (tVal (mCallD 2 (aCons (mBin opIx (mVar 2) (mC (.int 0))) aNil) []))) (tNot (tVal (mCallD 3 (aCons (mBin opIx (mVar 2) (mC (.int 1))) aNil) []))))) (sRet (mC (.bl false))) sPass)
 (sRet (mAnd (mBin opNe (mBin opIx (mVar 2) (mC (.int 0))) (mBin opIx (mVar 2) (mC (.int 1)))) (mCallD 8 (aCons (mBin opIx (mVar 2) (mC (.int 2))) aNil) [])))) sPass)
 (sRet (mAnd (mBin opEq (mVar 1) (mC (.str [101, 109, 112, 116, 121]))) (mBin opEq (mB bLen (aCons (mVar 2) aNil)) (mC (.int 0))))))))))
def N10 : List Str := [("lessers" : Str), ("letter" : Str), ("found" : Str), ("waiting" : Str), ("one" : Str)]
def m10 : MS := (sSeq (sAsg (mLst aNil) (gN 2))
 (sSeq (sAsg (mB bList (aCons (mBin opIx (mVar 0) (mVar 1)) aNil)) (gN 3))
 (sSeq (sWhile (tCmp opGt (mB bLen (aCons (mVar 3) aNil)) (mC (.int 0))) (sSeq (sAsg (mM isLst oPop (mVar 3) aNil) (gN 4))
 (sIf (tCmp opNotIn (mVar 4) (mVar 2)) (sSeq (sExpr (mM isLst oAppend (mVar 2) (aCons (mVar 4) aNil)))
 (sExpr (mM isLst oExtend (mVar 3) (aCons (mB bList (aCons (mBin opIx (mVar 0) (mVar 4)) aNil)) aNil)))) sPass)))
 (sRet (mVar 2)))))
def N11 : List Str := [("letters" : Str), ("before" : Str), ("lessers" : Str), ("i" : Str), ("entry" : Str), ("letter" : Str), ("own" : Str), ("one" : Str)]
def m11 : MS := (sSeq (sAsg (mC (.str [])) (gN 1))
 (sSeq (sFor (jEnum (mVar 0)) (gT (gsCons (gN 3) (gsCons (gN 4) gsNil))) (sSeq (sIf (tOr (tNot (tVal (mCallD 7 (aCons (mVar 4) aNil) []))) (tCmp opLe (mBin opIx (mVar 4) (mC (.int 0))) (mVar 1))) (sRet (mTup (aCons (mC (.str [108, 101, 116, 116, 101, 114])) (aCons (mVar 3) aNil)))) sPass)
 (sAsg (mBin opIx (mVar 4) (mC (.int 0))) (gN 1))))
 (sSeq (sAsg (mDc (jSeq (mVar 0)) (gT (gsCons (gN 5) (gsCons (gN 6) gsNil))) tYesM (mVar 5) (mVar 6) [5, 6]) (gN 2))
 (sSeq (sFor (jEnum (mVar 0)) (gT (gsCons (gN 3) (gsCons (gT (gsCons (gN 5) (gsCons (gN 6) gsNil))) gsNil))) (sIf (tNot (tVal (mB bAll (aCons (mLc (jSeq (mVar 6)) (gN 7) tYesM (mAnd (mBin opIn (mVar 7) (mVar 2)) (mBin opNe (mVar 7) (mVar 5))) [7]) aNil)))) (sRet (mTup (aCons (mC (.str [108, 101, 115, 115, 101, 114])) (aCons (mVar 3) aNil)))) sPass))
 (sSeq (sFor (jEnum (mVar 0)) (gT (gsCons (gN 3) (gsCons (gT (gsCons (gN 5) (gsCons (gN 6) gsNil))) gsNil))) (sIf (tCmp opIn (mVar 5) (mCallD 10 (aCons (mVar 2) (aCons (mVar 5) aNil)) [])) (sRet (mTup (aCons (mC (.str [114, 105, 110, 103])) (aCons (mVar 3) aNil)))) sPass))
 (sRet (mC .non)))))))
def N12 : List Str := [("known" : Str), ("rule" : Str), ("letter" : Str)]
def m12 : MS := (sRet (mOr (mBin opNe (mBin opIx (mVar 1) (mC (.int 0))) (mC (.str [112, 117, 116]))) (mB bAll (aCons (mLc (jSeq (mBin opAdd (mBin opIx (mVar 1) (mC (.int 1))) (mBin opIx (mVar 1) (mC (.int 2))))) (gN 2) tYesM (mBin opIn (mVar 2) (mVar 0)) [2]) aNil))))
def N13 : List Str := [("thing" : Str), ("fault" : Str), ("known" : Str), ("r" : Str), ("rule" : Str), ("letter" : Str), ("lessers" : Str)]
def m13 : MS := (sSeq (sIf (tOr (tNot (tVal (mCallD 6 (aCons (mVar 0) aNil) []))) (tOr (tNot (tVal (mIsi 4 (mBin opIx (mVar 0) (mC (.int 0)))))) (tNot (tVal (mIsi 4 (mBin opIx (mVar 0) (mC (.int 1)))))))) (sRet (mTup (aCons (mC (.str [115, 104, 97, 112, 101])) (aCons (mNeg (mC (.int 1))) aNil)))) sPass)
 (sSeq (sAsg (mCallD 11 (aCons (mBin opIx (mVar 0) (mC (.int 0))) aNil) []) (gN 1))
 (sSeq (sIf (tCmp opIsN (mVar 1) (mC .non)) (sRet (mVar 1)) sPass)
 (sSeq (sAsg (mLc (jSeq (mBin opIx (mVar 0) (mC (.int 0)))) (gT (gsCons (gN 5) (gsCons (gN 6) gsNil))) tYesM (mVar 5) [5, 6]) (gN 2))
 (sSeq (sFor (jEnum (mBin opIx (mVar 0) (mC (.int 1)))) (gT (gsCons (gN 3) (gsCons (gN 4) gsNil))) (sIf (tOr (tNot (tVal (mCallD 9 (aCons (mVar 4) aNil) []))) (tNot (tVal (mCallD 12 (aCons (mVar 2) (aCons (mVar 4) aNil)) [])))) (sRet (mTup (aCons (mC (.str [114, 117, 108, 101])) (aCons (mVar 3) aNil)))) sPass))
 (sRet (mC .non)))))))
def N14 : List Str := [("thing" : Str), ("fault" : Str)]
def m14 : MS := (sSeq (sAsg (mCallD 13 (aCons (mVar 0) aNil) []) (gN 1))
 (sSeq (sIf (tCmp opIsN (mVar 1) (mC .non)) sBad sPass)
 (sRet (mB bLen (aCons (mBin opIx (mVar 0) (mC (.int 0))) aNil)))))
def N15 : List Str := [("is_right" : Str), ("word" : Str), ("at" : Str)]
def m15 : MS := (sIf (tNot (tVal (mVar 0))) sBad sPass)
def N16 : List Str := [("book" : Str), ("letter" : Str), ("lessers" : Str)]
def m16 : MS := (sRet (mB bTuple (aCons (mLc (jSeq (mBin opIx (mVar 0) (mC (.int 0)))) (gT (gsCons (gN 1) (gsCons (gN 2) gsNil))) tYesM (mVar 1) [1, 2]) aNil)))
def N17 : List Str := [("book" : Str), ("thing" : Str), ("known" : Str), ("letter" : Str)]
def m17 : MS := (sSeq (sAsg (mCallD 16 (aCons (mVar 0) aNil) []) (gN 2))
 (sRet (mAnd (mCallD 3 (aCons (mVar 1) aNil) []) (mB bAll (aCons (mLc (jSeq (mVar 1)) (gN 3) tYesM (mBin opIn (mVar 3) (mVar 2)) [3]) aNil)))))
def N18 : List Str := [("word" : Str), ("book" : Str), ("thing" : Str)]
def m18 : MS := (sExpr (mCallD 15 (aCons (mCallD 17 (aCons (mVar 1) (aCons (mVar 2) aNil)) []) (aCons (mVar 0) aNil)) [.int (-1)]))
def N19 : List Str := [("lessers" : Str), ("letter" : Str), ("own" : Str), ("beyond" : Str), ("other" : Str), ("one" : Str)]
def m19 : MS := (sSeq (sAsg (mBin opIx (mVar 0) (mVar 1)) (gN 2))
 (sSeq (sAsg (mLc2 (jSeq (mVar 2)) (gN 4) tYesM (jSeq (mCallD 10 (aCons (mVar 0) (aCons (mVar 4) aNil)) [])) (gN 5) tYesM (mVar 5) [4, 5] [5]) (gN 3))
 (sRet (mLc (jSeq (mVar 2)) (gN 5) (tCmp opNotIn (mVar 5) (mVar 3)) (mVar 5) [5]))))
def N20 : List Str := [("book" : Str), ("thing" : Str)]
def m20 : MS := (sRet (mCallD 17 (aCons (mVar 0) (aCons (mVar 1) aNil)) []))
def N21 : List Str := [("lessers" : Str), ("u" : Str), ("v" : Str), ("at" : Str), ("letter" : Str)]
def m21 : MS := (sSeq (sAsg (mC (.int 0)) (gN 3))
 (sSeq (sFor (jSeq (mVar 2)) (gN 4) (sIf (tAnd (tCmp opLt (mVar 3) (mB bLen (aCons (mVar 1) aNil))) (tOr (tCmp opEq (mBin opIx (mVar 1) (mVar 3)) (mVar 4)) (tCmp opIn (mBin opIx (mVar 1) (mVar 3)) (mCallD 10 (aCons (mVar 0) (aCons (mVar 4) aNil)) [])))) (sAsg (mBin opAdd (mVar 3) (mC (.int 1))) (gN 3)) sPass))
 (sRet (mBin opEq (mVar 3) (mB bLen (aCons (mVar 1) aNil))))))
def N22 : List Str := [("book" : Str), ("u" : Str), ("v" : Str)]
def m22 : MS := (sSeq (sExpr (mCallD 18 (aCons (mC (.str [117])) (aCons (mVar 0) (aCons (mVar 1) aNil))) []))
 (sSeq (sExpr (mCallD 18 (aCons (mC (.str [118])) (aCons (mVar 0) (aCons (mVar 2) aNil))) []))
 (sRet (mCallD 21 (aCons (mB bDict (aCons (mBin opIx (mVar 0) (mC (.int 0))) aNil)) (aCons (mVar 1) (aCons (mVar 2) aNil))) []))))
def N23 : List Str := [("lessers" : Str), ("x" : Str), ("found" : Str), ("k" : Str), ("letter" : Str), ("less" : Str)]
def m23 : MS := (sSeq (sAsg (mLst aNil) (gN 2))
 (sSeq (sFor (jEnum (mVar 1)) (gT (gsCons (gN 3) (gsCons (gN 4) gsNil))) (sIf (tCmp opEq (mB bLen (aCons (mBin opIx (mVar 0) (mVar 4)) aNil)) (mC (.int 0))) (sExpr (mM isLst oAppend (mVar 2) (aCons (mBin opAdd (mSl (mVar 1) none (some (mVar 3))) (mSl (mVar 1) (some (mBin opAdd (mVar 3) (mC (.int 1)))) none)) aNil))) (sExpr (mM isLst oExtend (mVar 2) (aCons (mLc (jSeq (mCallD 19 (aCons (mVar 0) (aCons (mVar 4) aNil)) [])) (gN 5) tYesM (mBin opAdd (mBin opAdd (mSl (mVar 1) none (some (mVar 3))) (mVar 5)) (mSl (mVar 1) (some (mBin opAdd (mVar 3) (mC (.int 1)))) none)) [5]) aNil)))))
 (sRet (mVar 2))))
def N24 : List Str := [("book" : Str), ("x" : Str), ("lessers" : Str), ("found" : Str), ("waiting" : Str), ("thing" : Str)]
def m24 : MS := (sSeq (sExpr (mCallD 18 (aCons (mC (.str [120])) (aCons (mVar 0) (aCons (mVar 1) aNil))) []))
 (sSeq (sAsg (mB bDict (aCons (mBin opIx (mVar 0) (mC (.int 0))) aNil)) (gN 2))
 (sSeq (sAsg (mDisp (pCons (mVar 1) (mC (.bl true)) pNil)) (gN 3))
 (sSeq (sAsg (mLst (aCons (mVar 1) aNil)) (gN 4))
 (sSeq (sWhile (tCmp opGt (mB bLen (aCons (mVar 4) aNil)) (mC (.int 0))) (sFor (jSeq (mCallD 23 (aCons (mVar 2) (aCons (mM isLst oPop (mVar 4) aNil) aNil)) [])) (gN 5) (sIf (tCmp opNotIn (mVar 5) (mVar 3)) (sSeq (sAsg (mC (.bl true)) (gS (mVar 3) (mVar 5)))
 (sExpr (mM isLst oAppend (mVar 4) (aCons (mVar 5) aNil)))) sPass)))
 (sRet (mB bTuple (aCons (mB bSorted (aCons (mB bList (aCons (mVar 3) aNil)) aNil)) aNil))))))))
def N25 : List Str := [("is_right" : Str), ("name" : Str), ("at" : Str)]
def m25 : MS := (sIf (tNot (tVal (mVar 0))) sBad sPass)
def N26 : List Str := [("manner" : Str)]
def m26 : MS := (sExpr (mCallD 25 (aCons (mAnd (mIsi 3 (mVar 0)) (mBin opIn (mVar 0) (mC (.tup true [.str [97, 103, 97, 105, 110], .str [111, 110]])))) (aCons (mC (.str [109, 97, 110, 110, 101, 114])) aNil)) [.int (-1)]))
def N27 : List Str := [("many" : Str), ("side" : Str)]
def m27 : MS := (sRet (mIf (tCmp opEq (mVar 1) (mC (.str [108, 101, 102, 116]))) (mLstRg1 (mVar 0)) mBad))
def N28 : List Str := [("rule" : Str), ("x" : Str), ("many" : Str), ("k" : Str)]
def m28 : MS := (sSeq (sAsg (mB bMax2 (aCons (mC (.int 0)) (aCons (mBin opAdd (mBin opSub (mB bLen (aCons (mVar 1) aNil)) (mBin opIx (mVar 0) (mC (.int 1)))) (mC (.int 1))) aNil))) (gN 2))
 (sRet (mLc (jSeq (mCallD 27 (aCons (mVar 2) (aCons (mBin opIx (mVar 0) (mC (.int 2))) aNil)) [])) (gN 3) tYesM (mBin opAdd (mSl (mVar 1) none (some (mVar 3))) (mSl (mVar 1) (some (mBin opAdd (mVar 3) (mBin opIx (mVar 0) (mC (.int 1))))) none)) [3])))
def N29 : List Str := [("rule" : Str), ("x" : Str), ("size" : Str)]
def m29 : MS := (sSeq (sAsg (mBin opFdiv (mB bLen (aCons (mVar 1) aNil)) (mC (.int 2))) (gN 2))
 (sRet (mLst (aCons (mIf (tCmp opEq (mBin opIx (mVar 0) (mC (.int 1))) (mC (.str [108, 101, 102, 116]))) (mSl (mVar 1) none (some (mVar 2))) (mSl (mVar 1) (some (mBin opSub (mB bLen (aCons (mVar 1) aNil)) (mVar 2))) none)) aNil))))
def N30 : List Str := [("lessers" : Str), ("rule" : Str), ("x" : Str), ("k" : Str), ("less" : Str)]
def m30 : MS := (sRet (mLc2 (jSeq (mCallD 27 (aCons (mB bLen (aCons (mVar 2) aNil)) (aCons (mBin opIx (mVar 1) (mC (.int 1))) aNil)) [])) (gN 3) tYesM (jSeq (mBin opIx (mVar 0) (mBin opIx (mVar 2) (mVar 3)))) (gN 4) tYesM (mBin opAdd (mBin opAdd (mSl (mVar 2) none (some (mVar 3))) (mVar 4)) (mSl (mVar 2) (some (mBin opAdd (mVar 3) (mC (.int 1)))) none)) [3, 4] [4]))
def N31 : List Str := [("rule" : Str), ("x" : Str), ("k" : Str)]
def m31 : MS := (sRet (mLc (jSeq (mCallD 27 (aCons (mB bLen (aCons (mVar 1) aNil)) (aCons (mBin opIx (mVar 0) (mC (.int 3))) aNil)) [])) (gN 2) (tCmp opEq (mBin opIx (mVar 1) (mVar 2)) (mBin opIx (mVar 0) (mC (.int 1)))) (mBin opAdd (mBin opAdd (mSl (mVar 1) none (some (mVar 2))) (mBin opIx (mVar 0) (mC (.int 2)))) (mSl (mVar 1) (some (mBin opAdd (mVar 2) (mC (.int 1)))) none)) [2]))
def N32 : List Str := [("book" : Str), ("k" : Str), ("x" : Str), ("rule" : Str), ("letter" : Str), ("lessers" : Str)]
def m32 : MS := (sSeq (sAsg (mBin opIx (mBin opIx (mVar 0) (mC (.int 1))) (mVar 1)) (gN 3))
 (sSeq (sIf (tCmp opEq (mBin opIx (mVar 3) (mC (.int 0))) (mC (.str [100, 114, 111, 112]))) (sRet (mCallD 28 (aCons (mVar 3) (aCons (mVar 2) aNil)) [])) sPass)
 (sSeq (sIf (tCmp opEq (mBin opIx (mVar 3) (mC (.int 0))) (mC (.str [104, 97, 108, 102]))) (sRet (mCallD 29 (aCons (mVar 3) (aCons (mVar 2) aNil)) [])) sPass)
 (sSeq (sIf (tCmp opEq (mBin opIx (mVar 3) (mC (.int 0))) (mC (.str [108, 111, 119, 101, 114]))) (sRet (mCallD 30 (aCons (mDc (jSeq (mBin opIx (mVar 0) (mC (.int 0)))) (gT (gsCons (gN 4) (gsCons (gN 5) gsNil))) tYesM (mVar 4) (mVar 5) [4, 5]) (aCons (mVar 3) (aCons (mVar 2) aNil))) [])) sPass)
 (sRet (mIf (tCmp opEq (mBin opIx (mVar 3) (mC (.int 0))) (mC (.str [112, 117, 116]))) (mCallD 31 (aCons (mVar 3) (aCons (mVar 2) aNil)) []) (mLst (aCons (mC (.str [])) aNil))))))))
def N33 : List Str := [("book" : Str), ("x" : Str), ("first" : Str), ("found" : Str), ("k" : Str), ("step" : Str)]
def m33 : MS := (sSeq (sAsg (mDisp (pCons (mVar 1) (mNeg (mC (.int 1))) pNil)) (gN 3))
 (sSeq (sFor (jSeq (mBin opAdd (mLstRg2 (mVar 2) (mB bLen (aCons (mBin opIx (mVar 0) (mC (.int 1))) aNil))) (mLstRg1 (mVar 2)))) (gN 4) (sFor (jSeq (mCallD 32 (aCons (mVar 0) (aCons (mVar 4) (aCons (mVar 1) aNil))) [])) (gN 5) (sIf (tCmp opNotIn (mVar 5) (mVar 3)) (sAsg (mVar 4) (gS (mVar 3) (mVar 5))) sPass)))
 (sRet (mLock 3 (mLc (jItems (mVar 3)) (gT (gsCons (gN 5) (gsCons (gN 4) gsNil))) (tCmp opNe (mVar 5) (mVar 1)) (mTup (aCons (mVar 4) (aCons (mVar 5) aNil))) [5, 4])))))
def N34 : List Str := [("book" : Str), ("letter" : Str), ("lessers" : Str), ("found" : Str), ("k" : Str), ("less" : Str), ("own" : Str)]
def m34 : MS := (sSeq (sAsg (mDc (jSeq (mBin opIx (mVar 0) (mC (.int 0)))) (gT (gsCons (gN 6) (gsCons (gN 5) gsNil))) tYesM (mVar 6) (mVar 5) [6, 5]) (gN 2))
 (sSeq (sAsg (mB bList (aCons (mBin opIx (mVar 2) (mVar 1)) aNil)) (gN 3))
 (sSeq (sAsg (mC (.int 0)) (gN 4))
 (sSeq (sWhile (tCmp opLt (mVar 4) (mB bLen (aCons (mVar 3) aNil))) (sSeq (sFor (jSeq (mBin opIx (mVar 2) (mBin opIx (mVar 3) (mVar 4)))) (gN 5) (sIf (tCmp opNotIn (mVar 5) (mVar 3)) (sExpr (mM isLst oAppend (mVar 3) (aCons (mVar 5) aNil))) sPass))
 (sAug 4 opIadd (mC (.int 1)))))
 (sRet (mVar 3))))))
def N35 : List Str := [("book" : Str), ("k" : Str), ("rule" : Str)]
def m35 : MS := (sSeq (sFor (jEnum (mBin opIx (mVar 0) (mC (.int 1)))) (gT (gsCons (gN 1) (gsCons (gN 2) gsNil))) (sIf (tAnd (tCmp opEq (mBin opIx (mVar 2) (mC (.int 0))) (mC (.str [112, 117, 116]))) (tAnd (tCmp opNe (mBin opIx (mVar 2) (mC (.int 2))) (mC (.str []))) (tCmp opNotIn (mBin opIx (mVar 2) (mC (.int 2))) (mCallD 34 (aCons (mVar 0) (aCons (mBin opIx (mVar 2) (mC (.int 1))) aNil)) [])))) (sRet (mVar 1)) sPass))
 (sRet (mC .non)))
def N36 : List Str := [("book" : Str), ("fault" : Str)]
def m36 : MS := (sSeq (sAsg (mCallD 35 (aCons (mVar 0) aNil) []) (gN 1))
 (sIf (tCmp opIsN (mVar 1) (mC .non)) sBad sPass))
def N37 : List Str := [("thing" : Str)]
def m37 : MS := (sRet (mIsi 1 (mVar 0)))
def N38 : List Str := [("thing" : Str)]
def m38 : MS := (sRet (mAnd (mIsi 3 (mVar 0)) (mBin opIn (mVar 0) (mC (.tup true [.str [97, 103, 97, 105, 110], .str [111, 110]])))))
def N39 : List Str := [("thing" : Str), ("checks" : Str), ("check" : Str), ("one" : Str)]
def m39 : MS := (sSeq (sIf (tOr (tNot (tVal (mIsi 4 (mVar 0)))) (tOr (tCmp opEq (mB bLen (aCons (mVar 0) aNil)) (mC (.int 0))) (tOr (tNot (tVal (mIsi 3 (mBin opIx (mVar 0) (mC (.int 0)))))) (tCmp opNotIn (mBin opIx (mVar 0) (mC (.int 0))) (mC (.kd [[97, 110, 115, 119, 101, 114], [116, 111, 108, 100], [114, 117, 108, 101], [110, 111, 114, 117, 108, 101], [115, 116, 97, 114, 116], [109, 97, 110, 110, 101, 114]] [.tup true [.fn 37], .tup true [.fn 3, .fn 37], .tup true [.fn 9, .fn 1], .tup true [.fn 1], .tup true [.fn 3], .tup true [.fn 38]])))))) (sRet (mC (.bl false))) sPass)
 (sSeq (sAsg (mBin opIx (mC (.kd [[97, 110, 115, 119, 101, 114], [116, 111, 108, 100], [114, 117, 108, 101], [110, 111, 114, 117, 108, 101], [115, 116, 97, 114, 116], [109, 97, 110, 110, 101, 114]] [.tup true [.fn 37], .tup true [.fn 3, .fn 37], .tup true [.fn 9, .fn 1], .tup true [.fn 1], .tup true [.fn 3], .tup true [.fn 38]])) (mBin opIx (mVar 0) (mC (.int 0)))) (gN 1))
 (sRet (mAnd (mBin opEq (mB bLen (aCons (mVar 0) aNil)) (mBin opAdd (mB bLen (aCons (mVar 1) aNil)) (mC (.int 1)))) (mB bAll (aCons (mLc (jZip (mVar 1) (mSl (mVar 0) (some (mC (.int 1))) none)) (gT (gsCons (gN 2) (gsCons (gN 3) gsNil))) tYesM (mCallVs [37, 3, 9, 1, 38] (mVar 2) (aCons (mVar 3) aNil)) [2, 3]) aNil))))))
def N40 : List Str := [("self" : Str), ("book" : Str), ("manner" : Str), ("things" : Str), ("rule_now" : Str), ("told" : Str), ("tries" : Str)]
def m40 : MS := (sSeq (sFldM 0 [107, 101, 112, 116, 95, 98, 111, 111, 107] (mVar 0) (mVar 1))
 (sSeq (sFldM 0 [107, 101, 112, 116, 95, 109, 97, 110, 110, 101, 114] (mVar 0) (mVar 2))
 (sSeq (sFldM 0 [107, 101, 112, 116, 95, 116, 104, 105, 110, 103, 115] (mVar 0) (mVar 3))
 (sSeq (sFldM 0 [107, 101, 112, 116, 95, 114, 117, 108, 101] (mVar 0) (mVar 4))
 (sSeq (sFldM 0 [107, 101, 112, 116, 95, 116, 111, 108, 100] (mVar 0) (mVar 5))
 (sSeq (sFldM 0 [107, 101, 112, 116, 95, 116, 114, 105, 101, 115] (mVar 0) (mVar 6))
 (sFldM 0 [107, 101, 112, 116, 95, 113, 117, 101, 115, 116, 105, 111, 110] (mVar 0) (mC .non))))))))
def N41 : List Str := [("book" : Str), ("manner" : Str), ("thing" : Str), ("rule_now" : Str), ("k" : Str), ("step" : Str)]
def m41 : MS := (sRet (mLc (jSeq (mCallD 33 (aCons (mVar 0) (aCons (mVar 2) (aCons (mIf (tCmp opEq (mVar 1) (mC (.str [111, 110]))) (mVar 3) (mC (.int 0))) aNil))) [])) (gT (gsCons (gN 4) (gsCons (gN 5) gsNil))) tYesM (mTup (aCons (mVar 5) (aCons (mVar 4) aNil))) [4, 5]))
def N42 : List Str := [("book" : Str), ("told" : Str), ("thing" : Str), ("other" : Str), ("it_fails" : Str)]
def m42 : MS := (sSeq (sFor (jSeq (mVar 1)) (gT (gsCons (gN 3) (gsCons (gN 4) gsNil))) (sSeq (sIf (tAnd (tVal (mVar 4)) (tVal (mCallD 22 (aCons (mVar 0) (aCons (mVar 3) (aCons (mVar 2) aNil))) []))) (sRet (mC (.bl true))) sPass)
 (sIf (tAnd (tNot (tVal (mVar 4))) (tVal (mCallD 22 (aCons (mVar 0) (aCons (mVar 2) (aCons (mVar 3) aNil))) []))) (sRet (mC (.bl false))) sPass)))
 (sRet (mC .non)))
def N43 : List Str := [("book" : Str), ("told" : Str), ("steps" : Str), ("step" : Str), ("k" : Str)]
def m43 : MS := (sSeq (sFor (jSeq (mVar 2)) (gT (gsCons (gN 3) (gsCons (gN 4) gsNil))) (sIf (tCmp opIsN (mCallD 42 (aCons (mVar 0) (aCons (mVar 1) (aCons (mVar 3) aNil))) []) (mC (.bl false))) (sRet (mTup (aCons (mVar 3) (aCons (mVar 4) aNil)))) sPass))
 (sRet (mC .non)))
def N44 : List Str := [("stand" : Str), ("found" : Str), ("after" : Str), ("book" : Str), ("told" : Str), ("things" : Str), ("rule_now" : Str)]
def m44 : MS := (sSeq (sPar2 3 4 (aCons (mFld 0 [107, 101, 112, 116, 95, 98, 111, 111, 107] (mVar 0)) (aCons (mFld 0 [107, 101, 112, 116, 95, 116, 111, 108, 100] (mVar 0)) aNil)))
 (sSeq (sPar2 5 6 (aCons (mFld 0 [107, 101, 112, 116, 95, 116, 104, 105, 110, 103, 115] (mVar 0)) (aCons (mFld 0 [107, 101, 112, 116, 95, 114, 117, 108, 101] (mVar 0)) aNil)))
 (sSeq (sAsg (mCallD 43 (aCons (mVar 3) (aCons (mVar 4) (aCons (mCallD 41 (aCons (mVar 3) (aCons (mFld 0 [107, 101, 112, 116, 95, 109, 97, 110, 110, 101, 114] (mVar 0)) (aCons (mBin opIx (mVar 5) (mNeg (mC (.int 1)))) (aCons (mVar 6) aNil)))) []) aNil))) []) (gN 1))
 (sSeq (sWhile (tAnd (tCmp opIsN (mVar 1) (mC .non)) (tCmp opIs (mCallD 42 (aCons (mVar 3) (aCons (mVar 4) (aCons (mBin opIx (mVar 1) (mC (.int 0))) aNil))) []) (mC (.bl true)))) (sSeq (sPar2 5 6 (aCons (mTup (aStar (mVar 5) (aCons (mBin opIx (mVar 1) (mC (.int 0))) aNil))) (aCons (mBin opIx (mVar 1) (mC (.int 1))) aNil)))
 (sAsg (mCallD 43 (aCons (mVar 3) (aCons (mVar 4) (aCons (mCallD 41 (aCons (mVar 3) (aCons (mFld 0 [107, 101, 112, 116, 95, 109, 97, 110, 110, 101, 114] (mVar 0)) (aCons (mBin opIx (mVar 5) (mNeg (mC (.int 1)))) (aCons (mVar 6) aNil)))) []) aNil))) []) (gN 1))))
 (sSeq (sAsg (mMake 0 40 (aCons (mVar 3) (aCons (mFld 0 [107, 101, 112, 116, 95, 109, 97, 110, 110, 101, 114] (mVar 0)) (aCons (mVar 5) (aCons (mVar 6) (aCons (mVar 4) (aCons (mFld 0 [107, 101, 112, 116, 95, 116, 114, 105, 101, 115] (mVar 0)) aNil)))))) []) (gN 2))
 (sSeq (sFldM 0 [107, 101, 112, 116, 95, 113, 117, 101, 115, 116, 105, 111, 110] (mVar 2) (mVar 1))
 (sRet (mVar 2))))))))
def N45 : List Str := [("book" : Str), ("x" : Str), ("manner" : Str)]
def m45 : MS := (sRet (mCallD 44 (aCons (mMake 0 40 (aCons (mVar 0) (aCons (mVar 2) (aCons (mTup (aCons (mVar 1) aNil)) (aCons (mC (.int 0)) (aCons (mTup (aCons (mTup (aCons (mVar 1) (aCons (mC (.bl true)) aNil))) aNil)) (aCons (mC (.int 0)) aNil)))))) []) aNil) []))
def N46 : List Str := [("stand" : Str), ("thing" : Str), ("it_fails" : Str), ("known" : Str)]
def m46 : MS := (sSeq (sIf (tNot (tVal (mCallD 20 (aCons (mFld 0 [107, 101, 112, 116, 95, 98, 111, 111, 107] (mVar 0)) (aCons (mVar 1) aNil)) []))) (sRet (mC (.str [116, 104, 105, 110, 103]))) sPass)
 (sSeq (sAsg (mCallD 42 (aCons (mFld 0 [107, 101, 112, 116, 95, 98, 111, 111, 107] (mVar 0)) (aCons (mFld 0 [107, 101, 112, 116, 95, 116, 111, 108, 100] (mVar 0)) (aCons (mVar 1) aNil))) []) (gN 3))
 (sSeq (sIf (tCmp opIs (mVar 3) (mC .non)) (sRet (mC .non)) sPass)
 (sRet (mIf (tCmp opEq (mVar 3) (mVar 2)) (mC (.str [115, 97, 109, 101])) (mC (.str [97, 103, 97, 105, 110, 115, 116])))))))
def N47 : List Str := [("stand" : Str), ("thing" : Str)]
def m47 : MS := (sSeq (sIf (tNot (tVal (mCallD 20 (aCons (mFld 0 [107, 101, 112, 116, 95, 98, 111, 111, 107] (mVar 0)) (aCons (mVar 1) aNil)) []))) (sRet (mC (.str [116, 104, 105, 110, 103]))) sPass)
 (sSeq (sIf (tCmp opIs (mCallD 42 (aCons (mFld 0 [107, 101, 112, 116, 95, 98, 111, 111, 107] (mVar 0)) (aCons (mFld 0 [107, 101, 112, 116, 95, 116, 111, 108, 100] (mVar 0)) (aCons (mVar 1) aNil))) []) (mC (.bl false))) (sRet (mC (.str [97, 103, 97, 105, 110, 115, 116]))) sPass)
 (sRet (mIf (tCmp opEq (mVar 1) (mBin opIx (mFld 0 [107, 101, 112, 116, 95, 116, 104, 105, 110, 103, 115] (mVar 0)) (mNeg (mC (.int 1))))) (mC (.str [115, 97, 109, 101])) (mC .non)))))
def N48 : List Str := [("book" : Str), ("rule" : Str), ("at_rule" : Str)]
def m48 : MS := (sSeq (sIf (tCmp opGt (mVar 2) (mB bLen (aCons (mBin opIx (mVar 0) (mC (.int 1))) aNil))) (sRet (mC (.str [97, 116]))) sPass)
 (sSeq (sIf (tCmp opNe (mBin opIx (mVar 1) (mC (.int 0))) (mC (.str [112, 117, 116]))) (sRet (mC .non)) sPass)
 (sSeq (sIf (tNot (tVal (mCallD 20 (aCons (mVar 0) (aCons (mBin opAdd (mBin opIx (mVar 1) (mC (.int 1))) (mBin opIx (mVar 1) (mC (.int 2)))) aNil)) []))) (sRet (mC (.str [108, 101, 116, 116, 101, 114]))) sPass)
 (sRet (mIf (tCmp opIs (mCallD 35 (aCons (mTup (aCons (mBin opIx (mVar 0) (mC (.int 0))) (aCons (mTup (aCons (mVar 1) aNil)) aNil))) aNil) []) (mC .non)) (mC .non) (mC (.str [102, 97, 108, 108, 105, 110, 103])))))))
def N49 : List Str := [("stand" : Str), ("event" : Str), ("is_full" : Str)]
def m49 : MS := (sSeq (sIf (tNot (tVal (mCallD 39 (aCons (mVar 1) aNil) []))) (sRet (mC (.str [115, 104, 97, 112, 101]))) sPass)
 (sSeq (sIf (tVal (mVar 2)) (sRet (mC (.str [102, 117, 108, 108]))) sPass)
 (sMatch (mBin opIx (mVar 1) (mC (.int 0))) (cVal (mC (.str [97, 110, 115, 119, 101, 114])) (sRet (mIf (tCmp opIs (mFld 0 [107, 101, 112, 116, 95, 113, 117, 101, 115, 116, 105, 111, 110] (mVar 0)) (mC .non)) (mC (.str [100, 111, 110, 101])) (mC .non))) (cVal (mC (.str [116, 111, 108, 100])) (sRet (mCallD 46 (aCons (mVar 0) (aCons (mBin opIx (mVar 1) (mC (.int 1))) (aCons (mBin opIx (mVar 1) (mC (.int 2))) aNil))) [])) (cVal (mC (.str [115, 116, 97, 114, 116])) (sRet (mCallD 47 (aCons (mVar 0) (aCons (mBin opIx (mVar 1) (mC (.int 1))) aNil)) [])) (cVal (mC (.str [114, 117, 108, 101])) (sRet (mCallD 48 (aCons (mFld 0 [107, 101, 112, 116, 95, 98, 111, 111, 107] (mVar 0)) (aCons (mBin opIx (mVar 1) (mC (.int 1))) (aCons (mBin opIx (mVar 1) (mC (.int 2))) aNil))) [])) (cVal (mC (.str [110, 111, 114, 117, 108, 101])) (sRet (mIf (tCmp opLt (mBin opIx (mVar 1) (mC (.int 1))) (mB bLen (aCons (mBin opIx (mFld 0 [107, 101, 112, 116, 95, 98, 111, 111, 107] (mVar 0)) (mC (.int 1))) aNil))) (mC .non) (mC (.str [97, 116])))) (cAny (sRet (mIf (tCmp opEq (mBin opIx (mVar 1) (mC (.int 1))) (mFld 0 [107, 101, 112, 116, 95, 109, 97, 110, 110, 101, 114] (mVar 0))) (mC (.str [115, 97, 109, 101])) (mC .non))))))))))))
def N50 : List Str := [("stand" : Str), ("it_fails" : Str), ("told" : Str), ("step" : Str), ("k" : Str), ("things" : Str), ("rule_now" : Str)]
def m50 : MS := (sSeq (sAsg (mFld 0 [107, 101, 112, 116, 95, 113, 117, 101, 115, 116, 105, 111, 110] (mVar 0)) (gT (gsCons (gN 3) (gsCons (gN 4) gsNil))))
 (sSeq (sAsg (mTup (aStar (mFld 0 [107, 101, 112, 116, 95, 116, 111, 108, 100] (mVar 0)) (aCons (mTup (aCons (mVar 3) (aCons (mVar 1) aNil))) aNil))) (gN 2))
 (sSeq (sAsg (mIf (tVal (mVar 1)) (mTup (aCons (mTup (aStar (mFld 0 [107, 101, 112, 116, 95, 116, 104, 105, 110, 103, 115] (mVar 0)) (aCons (mVar 3) aNil))) (aCons (mVar 4) aNil))) (mTup (aCons (mFld 0 [107, 101, 112, 116, 95, 116, 104, 105, 110, 103, 115] (mVar 0)) (aCons (mFld 0 [107, 101, 112, 116, 95, 114, 117, 108, 101] (mVar 0)) aNil)))) (gT (gsCons (gN 5) (gsCons (gN 6) gsNil))))
 (sRet (mCallD 44 (aCons (mMake 0 40 (aCons (mFld 0 [107, 101, 112, 116, 95, 98, 111, 111, 107] (mVar 0)) (aCons (mFld 0 [107, 101, 112, 116, 95, 109, 97, 110, 110, 101, 114] (mVar 0)) (aCons (mVar 5) (aCons (mVar 6) (aCons (mVar 2) (aCons (mBin opAdd (mFld 0 [107, 101, 112, 116, 95, 116, 114, 105, 101, 115] (mVar 0)) (mC (.int 1))) aNil)))))) []) aNil) [])))))
def N51 : List Str := [("book" : Str), ("event" : Str), ("letters" : Str), ("rules" : Str)]
def m51 : MS := (sSeq (sAsg (mVar 0) (gT (gsCons (gN 2) (gsCons (gN 3) gsNil))))
 (sSeq (sIf (tCmp opEq (mBin opIx (mVar 1) (mC (.int 0))) (mC (.str [114, 117, 108, 101]))) (sRet (mTup (aCons (mVar 2) (aCons (mTup (aStar (mSl (mVar 3) none (some (mBin opIx (mVar 1) (mC (.int 2))))) (aCons (mBin opIx (mVar 1) (mC (.int 1))) (aStar (mSl (mVar 3) (some (mBin opIx (mVar 1) (mC (.int 2)))) none) aNil)))) aNil)))) sPass)
 (sRet (mTup (aCons (mVar 2) (aCons (mBin opAdd (mSl (mVar 3) none (some (mBin opIx (mVar 1) (mC (.int 1))))) (mSl (mVar 3) (some (mBin opAdd (mBin opIx (mVar 1) (mC (.int 1))) (mC (.int 1)))) none)) aNil))))))
def N52 : List Str := [("stand" : Str), ("event" : Str), ("book" : Str), ("manner" : Str), ("things" : Str), ("told" : Str), ("tries" : Str)]
def m52 : MS := (sSeq (sPar2 2 3 (aCons (mFld 0 [107, 101, 112, 116, 95, 98, 111, 111, 107] (mVar 0)) (aCons (mFld 0 [107, 101, 112, 116, 95, 109, 97, 110, 110, 101, 114] (mVar 0)) aNil)))
 (sSeq (sPar3 4 5 6 (aCons (mFld 0 [107, 101, 112, 116, 95, 116, 104, 105, 110, 103, 115] (mVar 0)) (aCons (mFld 0 [107, 101, 112, 116, 95, 116, 111, 108, 100] (mVar 0)) (aCons (mFld 0 [107, 101, 112, 116, 95, 116, 114, 105, 101, 115] (mVar 0)) aNil))))
 (sMatch (mBin opIx (mVar 1) (mC (.int 0))) (cVal (mC (.str [97, 110, 115, 119, 101, 114])) (sRet (mCallD 50 (aCons (mVar 0) (aCons (mBin opIx (mVar 1) (mC (.int 1))) aNil)) [])) (cVal (mC (.str [116, 111, 108, 100])) (sRet (mCallD 44 (aCons (mMake 0 40 (aCons (mVar 2) (aCons (mVar 3) (aCons (mVar 4) (aCons (mFld 0 [107, 101, 112, 116, 95, 114, 117, 108, 101] (mVar 0)) (aCons (mTup (aStar (mVar 5) (aCons (mSl (mVar 1) (some (mC (.int 1))) none) aNil))) (aCons (mVar 6) aNil)))))) []) aNil) [])) (cVal (mC (.str [115, 116, 97, 114, 116])) (sRet (mCallD 44 (aCons (mMake 0 40 (aCons (mVar 2) (aCons (mVar 3) (aCons (mTup (aCons (mBin opIx (mVar 1) (mC (.int 1))) aNil)) (aCons (mC (.int 0)) (aCons (mTup (aStar (mVar 5) (aCons (mTup (aCons (mBin opIx (mVar 1) (mC (.int 1))) (aCons (mC (.bl true)) aNil))) aNil))) (aCons (mVar 6) aNil)))))) []) aNil) [])) (cVal (mC (.str [109, 97, 110, 110, 101, 114])) (sRet (mCallD 44 (aCons (mMake 0 40 (aCons (mVar 2) (aCons (mBin opIx (mVar 1) (mC (.int 1))) (aCons (mVar 4) (aCons (mC (.int 0)) (aCons (mVar 5) (aCons (mVar 6) aNil)))))) []) aNil) [])) (cAny (sRet (mCallD 44 (aCons (mMake 0 40 (aCons (mCallD 51 (aCons (mVar 2) (aCons (mVar 1) aNil)) []) (aCons (mVar 3) (aCons (mVar 4) (aCons (mC (.int 0)) (aCons (mVar 5) (aCons (mVar 6) aNil)))))) []) aNil) []))))))))))
def N53 : List Str := [("stand" : Str), ("found" : Str), ("book" : Str), ("thing" : Str), ("it_fails" : Str), ("u" : Str), ("v" : Str)]
def m53 : MS := (sSeq (sAsg (mDc (jSeq (mFld 0 [107, 101, 112, 116, 95, 116, 111, 108, 100] (mVar 0))) (gT (gsCons (gN 3) (gsCons (gN 4) gsNil))) (tVal (mVar 4)) (mVar 3) (mC (.bl true)) [3, 4]) (gN 1))
 (sSeq (sAsg (mFld 0 [107, 101, 112, 116, 95, 98, 111, 111, 107] (mVar 0)) (gN 2))
 (sRet (mB bTuple (aCons (mB bSorted (aCons (mLock 1 (mLc (jSeq (mVar 1)) (gN 5) (tNot (tVal (mB bAny (aCons (mLc (jSeq (mVar 1)) (gN 6) tYesM (mAnd (mBin opNe (mVar 6) (mVar 5)) (mCallD 22 (aCons (mVar 2) (aCons (mVar 6) (aCons (mVar 5) aNil))) [])) [6]) aNil)))) (mVar 5) [5])) aNil)) aNil)))))
def N54 : List Str := [("stand" : Str), ("causes" : Str), ("told" : Str), ("thing" : Str), ("things" : Str), ("rule_now" : Str), ("steps" : Str), ("failing" : Str), ("cause" : Str), ("step" : Str), ("k" : Str)]
def m54 : MS := (sSeq (sAsg (mB bTuple (aCons (mLc (jSeq (mVar 1)) (gN 8) tYesM (mTup (aCons (mVar 8) (aCons (mC (.bl true)) aNil))) [8]) aNil)) (gN 2))
 (sSeq (sPar2 4 5 (aCons (mFld 0 [107, 101, 112, 116, 95, 116, 104, 105, 110, 103, 115] (mVar 0)) (aCons (mFld 0 [107, 101, 112, 116, 95, 114, 117, 108, 101] (mVar 0)) aNil)))
 (sSeq (sAsg (mBin opIx (mVar 4) (mNeg (mC (.int 1)))) (gN 3))
 (sWhile (tVal (mC (.bl true))) (sSeq (sAsg (mCallD 41 (aCons (mFld 0 [107, 101, 112, 116, 95, 98, 111, 111, 107] (mVar 0)) (aCons (mFld 0 [107, 101, 112, 116, 95, 109, 97, 110, 110, 101, 114] (mVar 0)) (aCons (mVar 3) (aCons (mVar 5) aNil)))) []) (gN 6))
 (sSeq (sAsg (mLc (jSeq (mVar 6)) (gT (gsCons (gN 9) (gsCons (gN 10) gsNil))) (tCmp opIs (mCallD 42 (aCons (mFld 0 [107, 101, 112, 116, 95, 98, 111, 111, 107] (mVar 0)) (aCons (mVar 2) (aCons (mVar 9) aNil))) []) (mC (.bl true))) (mTup (aCons (mVar 9) (aCons (mVar 10) aNil))) [9, 10]) (gN 7))
 (sSeq (sIf (tCmp opEq (mB bLen (aCons (mVar 7) aNil)) (mC (.int 0))) (sRet (mVar 3)) sPass)
 (sAsg (mBin opIx (mVar 7) (mC (.int 0))) (gT (gsCons (gN 3) (gsCons (gN 5) gsNil)))))))))))
def N55 : List Str := [("stand" : Str), ("every" : Str), ("open_ones" : Str), ("book" : Str), ("told" : Str), ("least" : Str), ("z" : Str)]
def m55 : MS := (sSeq (sAsg (mTup (aCons (mFld 0 [107, 101, 112, 116, 95, 98, 111, 111, 107] (mVar 0)) (aCons (mFld 0 [107, 101, 112, 116, 95, 116, 111, 108, 100] (mVar 0)) (aCons (mCallD 53 (aCons (mVar 0) aNil) []) aNil)))) (gT (gsCons (gN 3) (gsCons (gN 4) (gsCons (gN 5) gsNil)))))
 (sSeq (sAsg (mCallD 24 (aCons (mVar 3) (aCons (mBin opIx (mFld 0 [107, 101, 112, 116, 95, 116, 104, 105, 110, 103, 115] (mVar 0)) (mNeg (mC (.int 1)))) aNil)) []) (gN 1))
 (sSeq (sAsg (mLc (jSeq (mVar 1)) (gN 6) (tCmp opIsN (mCallD 42 (aCons (mVar 3) (aCons (mVar 4) (aCons (mVar 6) aNil))) []) (mC (.bl false))) (mVar 6) [6]) (gN 2))
 (sRet (mB bTuple (aCons (mB bSorted (aCons (mLc (jSeq (mVar 2)) (gN 6) (tCmp opEq (mCallD 54 (aCons (mVar 0) (aCons (mTup (aStar (mVar 5) (aCons (mVar 6) aNil))) aNil)) []) (mVar 6)) (mVar 6) [6]) aNil)) aNil))))))
def N56 : List Str := [("self" : Str), ("book" : Str), ("x" : Str), ("manner" : Str)]
def m56 : MS := (sSeq (sExpr (mCallD 14 (aCons (mVar 1) aNil) []))
 (sSeq (sExpr (mCallD 25 (aCons (mCallD 20 (aCons (mVar 1) (aCons (mVar 2) aNil)) []) (aCons (mC (.str [120])) aNil)) [.int (-1)]))
 (sSeq (sExpr (mCallD 26 (aCons (mVar 3) aNil) []))
 (sSeq (sExpr (mCallD 36 (aCons (mVar 1) aNil) []))
 (sSeq (sFldM 1 [98, 101, 103, 105, 110, 110, 105, 110, 103] (mVar 0) (mTup (aCons (mC (.str [116, 114, 105, 97, 108])) (aCons (mVar 1) (aCons (mVar 2) (aCons (mVar 3) aNil))))))
 (sSeq (sFldM 1 [103, 105, 118, 101, 110] (mVar 0) (mLst aNil))
 (sSeq (sFldM 1 [115, 116, 97, 110, 100, 115] (mVar 0) (mLst (aCons (mCallD 45 (aCons (mVar 1) (aCons (mVar 2) (aCons (mVar 3) aNil))) []) aNil)))
 (sSeq (sFldM 1 [115, 116, 97, 114, 116, 101, 100] (mVar 0) (mLst aNil))
 (sFldM 1 [102, 105, 110, 105, 115, 104, 101, 100] (mVar 0) (mLst aNil))))))))))
def N57 : List Str := [("self" : Str)]
def m57 : MS := (sRet (mBin opIx (mFld 0 [107, 101, 112, 116, 95, 116, 104, 105, 110, 103, 115] (mBin opIx (mFld 1 [115, 116, 97, 110, 100, 115] (mVar 0)) (mNeg (mC (.int 1))))) (mNeg (mC (.int 1)))))
def N58 : List Str := [("self" : Str), ("found" : Str)]
def m58 : MS := (sSeq (sAsg (mFld 0 [107, 101, 112, 116, 95, 113, 117, 101, 115, 116, 105, 111, 110] (mBin opIx (mFld 1 [115, 116, 97, 110, 100, 115] (mVar 0)) (mNeg (mC (.int 1))))) (gN 1))
 (sRet (mIf (tCmp opIs (mVar 1) (mC .non)) (mC .non) (mBin opIx (mVar 1) (mC (.int 0))))))
def N59 : List Str := [("self" : Str), ("step" : Str), ("k" : Str)]
def m59 : MS := (sRet (mB bTuple (aCons (mLc (jSeq (mMeth 1 [115, 116, 101, 112, 115, 95, 111, 102, 95, 110, 111, 119] 62 (mVar 0) aNil [])) (gT (gsCons (gN 1) (gsCons (gN 2) gsNil))) tYesM (mVar 1) [1, 2]) aNil)))
def N60 : List Str := [("self" : Str)]
def m60 : MS := (sRet (mFld 0 [107, 101, 112, 116, 95, 116, 104, 105, 110, 103, 115] (mBin opIx (mFld 1 [115, 116, 97, 110, 100, 115] (mVar 0)) (mNeg (mC (.int 1))))))
def N61 : List Str := [("self" : Str)]
def m61 : MS := (sRet (mFld 0 [107, 101, 112, 116, 95, 116, 114, 105, 101, 115] (mBin opIx (mFld 1 [115, 116, 97, 110, 100, 115] (mVar 0)) (mNeg (mC (.int 1))))))
def N62 : List Str := [("self" : Str), ("stand" : Str)]
def m62 : MS := (sSeq (sAsg (mBin opIx (mFld 1 [115, 116, 97, 110, 100, 115] (mVar 0)) (mNeg (mC (.int 1)))) (gN 1))
 (sRet (mCallD 41 (aCons (mFld 0 [107, 101, 112, 116, 95, 98, 111, 111, 107] (mVar 1)) (aCons (mFld 0 [107, 101, 112, 116, 95, 109, 97, 110, 110, 101, 114] (mVar 1)) (aCons (mBin opIx (mFld 0 [107, 101, 112, 116, 95, 116, 104, 105, 110, 103, 115] (mVar 1)) (mNeg (mC (.int 1)))) (aCons (mFld 0 [107, 101, 112, 116, 95, 114, 117, 108, 101] (mVar 1)) aNil)))) [])))
def N63 : List Str := [("self" : Str)]
def m63 : MS := (sRet (mCallD 55 (aCons (mBin opIx (mFld 1 [115, 116, 97, 110, 100, 115] (mVar 0)) (mNeg (mC (.int 1)))) aNil) []))
def N64 : List Str := [("self" : Str), ("event" : Str)]
def m64 : MS := (sRet (mCallD 49 (aCons (mBin opIx (mFld 1 [115, 116, 97, 110, 100, 115] (mVar 0)) (mNeg (mC (.int 1)))) (aCons (mVar 1) (aCons (mBin opGe (mB bLen (aCons (mFld 1 [103, 105, 118, 101, 110] (mVar 0)) aNil)) (mC (.int 40))) aNil))) []))
def N65 : List Str := [("self" : Str), ("event" : Str), ("reason" : Str)]
def m65 : MS := (sSeq (sAsg (mMeth 1 [98, 97, 114, 114, 101, 100] 64 (mVar 0) (aCons (mVar 1) aNil) []) (gN 2))
 (sSeq (sIf (tCmp opIsN (mVar 2) (mC .non)) sBad sPass)
 (sSeq (sExpr (mM isLst oAppend (mFld 1 [115, 116, 97, 110, 100, 115] (mVar 0)) (aCons (mCallD 52 (aCons (mBin opIx (mFld 1 [115, 116, 97, 110, 100, 115] (mVar 0)) (mNeg (mC (.int 1)))) (aCons (mVar 1) aNil)) []) aNil)))
 (sSeq (sExpr (mM isLst oAppend (mFld 1 [103, 105, 118, 101, 110] (mVar 0)) (aCons (mVar 1) aNil)))
 (sRet (mProp 1 58 (mVar 0)))))))
def N66 : List Str := [("self" : Str), ("event" : Str)]
def m66 : MS := (sSeq (sExpr (mM isLst oAppend (mFld 1 [115, 116, 97, 114, 116, 101, 100] (mVar 0)) (aCons (mC (.int 1)) aNil)))
 (sRetFin (mMeth 1 [97, 112, 112, 108, 121, 95, 101, 118, 101, 110, 116] 65 (mVar 0) (aCons (mVar 1) aNil) []) (sExpr (mM isLst oAppend (mFld 1 [102, 105, 110, 105, 115, 104, 101, 100] (mVar 0)) (aCons (mC (.int 1)) aNil)))))
def N67 : List Str := [("self" : Str), ("it_fails" : Str)]
def m67 : MS := (sRet (mMeth 1 [103, 111] 66 (mVar 0) (aCons (mTup (aCons (mC (.str [97, 110, 115, 119, 101, 114])) (aCons (mVar 1) aNil))) aNil) []))
def N68 : List Str := [("self" : Str), ("thing" : Str), ("it_fails" : Str)]
def m68 : MS := (sRet (mMeth 1 [103, 111] 66 (mVar 0) (aCons (mTup (aCons (mC (.str [116, 111, 108, 100])) (aCons (mVar 1) (aCons (mVar 2) aNil)))) aNil) []))
def N69 : List Str := [("self" : Str), ("rule" : Str), ("at" : Str)]
def m69 : MS := (sRet (mMeth 1 [103, 111] 66 (mVar 0) (aCons (mTup (aCons (mC (.str [114, 117, 108, 101])) (aCons (mVar 1) (aCons (mVar 2) aNil)))) aNil) []))
def N70 : List Str := [("self" : Str), ("k" : Str)]
def m70 : MS := (sRet (mMeth 1 [103, 111] 66 (mVar 0) (aCons (mTup (aCons (mC (.str [110, 111, 114, 117, 108, 101])) (aCons (mVar 1) aNil))) aNil) []))
def N71 : List Str := [("self" : Str), ("thing" : Str)]
def m71 : MS := (sRet (mMeth 1 [103, 111] 66 (mVar 0) (aCons (mTup (aCons (mC (.str [115, 116, 97, 114, 116])) (aCons (mVar 1) aNil))) aNil) []))
def N72 : List Str := [("self" : Str), ("thing" : Str), ("stand" : Str)]
def m72 : MS := (sSeq (sAsg (mBin opIx (mFld 1 [115, 116, 97, 110, 100, 115] (mVar 0)) (mNeg (mC (.int 1)))) (gN 2))
 (sSeq (sIf (tNot (tVal (mCallD 20 (aCons (mFld 0 [107, 101, 112, 116, 95, 98, 111, 111, 107] (mVar 2)) (aCons (mVar 1) aNil)) []))) sBad sPass)
 (sRet (mCallD 42 (aCons (mFld 0 [107, 101, 112, 116, 95, 98, 111, 111, 107] (mVar 2)) (aCons (mFld 0 [107, 101, 112, 116, 95, 116, 111, 108, 100] (mVar 2)) (aCons (mVar 1) aNil))) []))))
def N73 : List Str := [("_law_script" : Str)]
def m73 : MS := (sRet (mDisp (pCons (mC (.str [99, 101, 108, 108, 115])) (mB bList (aCons (mSl (mVar 0) none (some (mC (.int 63)))) aNil)) (pCons (mC (.str [116, 117, 114, 110])) (mC (.int 0)) (pCons (mC (.str [114, 101, 115, 116])) (mC (.int 0)) (pCons (mC (.str [100, 114, 97, 119, 110])) (mC (.int 0)) pNil))))))
def N74 : List Str := [("_law_feed_here" : Str), ("_law_many" : Str), ("_law_turn" : Str), ("_law_cell" : Str), ("_law_mixed" : Str), ("_law_digit" : Str)]
def m74 : MS := (sSeq (sAsg (mBin opAdd (mBin opIx (mVar 0) (mC (.str [100, 114, 97, 119, 110]))) (mC (.int 1))) (gS (mVar 0) (mC (.str [100, 114, 97, 119, 110]))))
 (sSeq (sIf (tCmp opGt (mBin opIx (mVar 0) (mC (.str [114, 101, 115, 116]))) (mC (.int 0))) (sSeq (sAsg (mBin opMod (mB bInt (aCons (mBin opIx (mVar 0) (mC (.str [114, 101, 115, 116]))) aNil)) (mVar 1)) (gN 5))
 (sSeq (sAsg (mBin opFdiv (mBin opIx (mVar 0) (mC (.str [114, 101, 115, 116]))) (mVar 1)) (gS (mVar 0) (mC (.str [114, 101, 115, 116]))))
 (sRet (mVar 5)))) sPass)
 (sSeq (sAsg (mBin opIx (mVar 0) (mC (.str [116, 117, 114, 110]))) (gN 2))
 (sSeq (sAsg (mBin opAdd (mVar 2) (mC (.int 1))) (gS (mVar 0) (mC (.str [116, 117, 114, 110]))))
 (sSeq (sAsg (mIf (tCmp opNe (mBin opIx (mVar 0) (mC (.str [99, 101, 108, 108, 115]))) (mLst aNil)) (mBin opIx (mBin opIx (mVar 0) (mC (.str [99, 101, 108, 108, 115]))) (mBin opMod (mB bInt (aCons (mVar 2) aNil)) (mB bLen (aCons (mBin opIx (mVar 0) (mC (.str [99, 101, 108, 108, 115]))) aNil)))) (mC (.int 77))) (gN 3))
 (sSeq (sIf (tAnd (tCmp opGe (mVar 3) (mBin opPow (mC (.int 10)) (mC (.int 18)))) (tCmp opLt (mVar 2) (mB bLen (aCons (mBin opIx (mVar 0) (mC (.str [99, 101, 108, 108, 115]))) aNil)))) (sSeq (sAsg (mBin opFdiv (mVar 3) (mVar 1)) (gS (mVar 0) (mC (.str [114, 101, 115, 116]))))
 (sRet (mBin opMod (mB bInt (aCons (mVar 3) aNil)) (mVar 1)))) sPass)
 (sSeq (sAsg (mBin opMod (mB bInt (aCons (mBin opAdd (mBin opAdd (mBin opMod (mB bInt (aCons (mVar 3) aNil)) (mC (.int 2147483587))) (mBin opMul (mC (.int 6700417)) (mBin opIx (mVar 0) (mC (.str [100, 114, 97, 119, 110]))))) (mC (.int 770))) aNil)) (mC (.int 2147483587))) (gN 4))
 (sSeq (sAsg (mBin opMod (mB bInt (aCons (mBin opAdd (mBin opAdd (mBin opMul (mVar 4) (mVar 4)) (mBin opMul (mC (.int 19660813)) (mBin opIx (mVar 0) (mC (.str [100, 114, 97, 119, 110]))))) (mC (.int 160))) aNil)) (mC (.int 2147483563))) (gN 4))
 (sRet (mBin opMod (mB bInt (aCons (mBin opFdiv (mBin opMod (mB bInt (aCons (mBin opAdd (mBin opMul (mVar 4) (mVar 4)) (mBin opMul (mC (.int 601)) (mVar 4))) aNil)) (mC (.int 2147483549))) (mC (.int 16))) aNil)) (mVar 1)))))))))))
def N75 : List Str := [("_law_feed_here" : Str), ("_law_some" : Str)]
def m75 : MS := (sRet (mBin opIx (mVar 1) (mCallD 74 (aCons (mVar 0) (aCons (mB bLen (aCons (mVar 1) aNil)) aNil)) [])))
def N76 : List Str := [("_law_told" : Str), ("_law_due" : Str)]
def m76 : MS := (sRet (mBin opEq (mB bRepr (aCons (mVar 0) aNil)) (mB bRepr (aCons (mVar 1) aNil))))
def N77 : List Str := [("_law_x" : Str), ("_law_names" : Str), ("_law_sign" : Str)]
def m77 : MS := (sRet (mIf (tCmp opIs (mVar 0) (mC .non)) (mC .non) (mM (fun _ => isStr) oJoin (mC (.str [])) (aCons (mLc (jSeq (mVar 0)) (gN 2) tYesM (mBin opIx (mVar 1) (mVar 2)) [2]) aNil))))
def N78 : List Str := [("_law_names" : Str), ("_law_rules" : Str), ("_law_pairs" : Str)]
def m78 : MS := (sSeq (sAsg (mLst (aCons (mTup (aCons (mBin opIx (mVar 0) (mC (.str [97]))) (aCons (mTup aNil) aNil))) (aCons (mTup (aCons (mBin opIx (mVar 0) (mC (.str [98]))) (aCons (mTup (aCons (mBin opIx (mVar 0) (mC (.str [97]))) aNil)) aNil))) (aCons (mTup (aCons (mBin opIx (mVar 0) (mC (.str [99]))) (aCons (mTup aNil) aNil))) aNil)))) (gN 2))
 (sRet (mTup (aCons (mB bTuple (aCons (mB bSorted (aCons (mVar 2) aNil)) aNil)) (aCons (mVar 1) aNil)))))
def N79 : List Str := [("_law_trial" : Str)]
def m79 : MS := (sRet (mLst (aCons (mProp 1 57 (mVar 0)) (aCons (mProp 1 58 (mVar 0)) (aCons (mProp 1 60 (mVar 0)) (aCons (mProp 1 61 (mVar 0)) aNil))))))
def N80 : List Str := [("_law_names" : Str), ("_law_book_here" : Str), ("_law_say" : Str), ("_law_trial" : Str), ("_law_told" : Str), ("_law_due" : Str), ("_law_x" : Str)]
def m80 : MS := (sSeq (sAsg (mCallD 78 (aCons (mVar 0) (aCons (mTup (aCons (mTup (aCons (mC (.str [100, 114, 111, 112])) (aCons (mC (.int 1)) (aCons (mC (.str [108, 101, 102, 116])) aNil)))) (aCons (mTup (aCons (mC (.str [108, 111, 119, 101, 114])) (aCons (mC (.str [108, 101, 102, 116])) aNil))) aNil))) aNil)) []) (gN 1))
 (sSeq (sAsg (mLc (jSeq (mTup (aCons (mC (.str [98, 99, 98])) (aCons (mC (.str [99, 98])) (aCons (mC (.str [98])) (aCons (mC (.str [])) (aCons (mC (.str [97])) (aCons (mC (.str [98, 98])) aNil)))))))) (gN 6) tYesM (mCallD 77 (aCons (mVar 6) (aCons (mVar 0) aNil)) []) [6]) (gN 2))
 (sSeq (sAsg (mMake 1 56 (aCons (mVar 1) (aCons (mBin opIx (mVar 2) (mC (.int 0))) aNil)) [.str [97, 103, 97, 105, 110]]) (gN 3))
 (sSeq (sIf (tNot (tVal (mCallD 76 (aCons (mCallD 79 (aCons (mVar 3) aNil) []) (aCons (mLst (aCons (mBin opIx (mVar 2) (mC (.int 0))) (aCons (mBin opIx (mVar 2) (mC (.int 1))) (aCons (mTup (aCons (mBin opIx (mVar 2) (mC (.int 0))) aNil)) (aCons (mC (.int 0)) aNil))))) aNil)) []))) (sRet (mC (.bl false))) sPass)
 (sSeq (sAsg (mMeth 1 [116, 111, 108, 100] 68 (mVar 3) (aCons (mBin opIx (mVar 2) (mC (.int 2))) (aCons (mC (.bl true)) aNil)) []) (gN 4))
 (sSeq (sIf (tNot (tVal (mCallD 76 (aCons (mLst (aCons (mVar 4) (aCons (mCallD 79 (aCons (mVar 3) aNil) []) aNil))) (aCons (mLst (aCons (mC (.str [])) (aCons (mLst (aCons (mBin opIx (mVar 2) (mC (.int 2))) (aCons (mC (.str [])) (aCons (mTup (aCons (mBin opIx (mVar 2) (mC (.int 0))) (aCons (mBin opIx (mVar 2) (mC (.int 1))) (aCons (mBin opIx (mVar 2) (mC (.int 2))) aNil)))) (aCons (mC (.int 0)) aNil))))) aNil))) aNil)) []))) (sRet (mC (.bl false))) sPass)
 (sSeq (sAsg (mLst (aCons (mMeth 1 [116, 111, 108, 100] 68 (mVar 3) (aCons (mC (.str [])) (aCons (mC (.bl false)) aNil)) []) (aCons (mMeth 1 [101, 110, 100, 115, 95, 108, 101, 102, 116] 63 (mVar 3) aNil []) (aCons (mMeth 1 [97, 110, 115, 119, 101, 114] 67 (mVar 3) (aCons (mC (.bl false)) aNil) []) (aCons (mMeth 1 [101, 110, 100, 115, 95, 108, 101, 102, 116] 63 (mVar 3) aNil []) aNil))))) (gN 4))
 (sSeq (sAsg (mLst (aCons (mBin opIx (mVar 2) (mC (.int 4))) (aCons (mB bTuple (aCons (mB bSorted (aCons (mLst (aCons (mBin opIx (mVar 2) (mC (.int 4))) (aCons (mBin opIx (mVar 2) (mC (.int 2))) aNil))) aNil)) aNil)) (aCons (mC .non) (aCons (mTup (aCons (mBin opIx (mVar 2) (mC (.int 2))) aNil)) aNil))))) (gN 5))
 (sRet (mAnd (mCallD 76 (aCons (mVar 4) (aCons (mVar 5) aNil)) []) (mCallD 76 (aCons (mCallD 79 (aCons (mVar 3) aNil) []) (aCons (mLst (aCons (mBin opIx (mVar 2) (mC (.int 2))) (aCons (mC .non) (aCons (mTup (aCons (mBin opIx (mVar 2) (mC (.int 0))) (aCons (mBin opIx (mVar 2) (mC (.int 1))) (aCons (mBin opIx (mVar 2) (mC (.int 2))) aNil)))) (aCons (mC (.int 1)) aNil))))) aNil)) [])))))))))))
def N81 : List Str := [("_law_names" : Str), ("_law_book_here" : Str), ("_law_say" : Str), ("_law_trial" : Str), ("_law_told" : Str), ("_law_x" : Str)]
def m81 : MS := (sSeq (sAsg (mCallD 78 (aCons (mVar 0) (aCons (mTup (aCons (mTup (aCons (mC (.str [100, 114, 111, 112])) (aCons (mC (.int 1)) (aCons (mC (.str [108, 101, 102, 116])) aNil)))) (aCons (mTup (aCons (mC (.str [108, 111, 119, 101, 114])) (aCons (mC (.str [108, 101, 102, 116])) aNil))) aNil))) aNil)) []) (gN 1))
 (sSeq (sAsg (mLc (jSeq (mTup (aCons (mC (.str [98, 99])) (aCons (mC (.str [99])) (aCons (mC (.str [98])) (aCons (mC (.str [97, 99])) (aCons (mC (.str [97])) aNil))))))) (gN 5) tYesM (mCallD 77 (aCons (mVar 5) (aCons (mVar 0) aNil)) []) [5]) (gN 2))
 (sSeq (sAsg (mMakeK 1 56 (aCons (mVar 1) (aCons (mBin opIx (mVar 2) (mC (.int 0))) aNil)) (aCons (mC (.str [97, 103, 97, 105, 110])) aNil)) (gN 3))
 (sSeq (sAsg (mLst (aCons (mProp 1 58 (mVar 3)) (aCons (mMeth 1 [116, 111, 108, 100] 68 (mVar 3) (aCons (mBin opIx (mVar 2) (mC (.int 1))) (aCons (mC (.bl false)) aNil)) []) (aCons (mMeth 1 [116, 111, 108, 100] 68 (mVar 3) (aCons (mBin opIx (mVar 2) (mC (.int 3))) (aCons (mC (.bl false)) aNil)) []) (aCons (mOwnIx 1 72 (mVar 3) (mBin opIx (mVar 2) (mC (.int 4)))) (aCons (mOwnIx 1 72 (mVar 3) (mC (.str []))) aNil)))))) (gN 4))
 (sSeq (sIf (tNot (tVal (mCallD 76 (aCons (mVar 4) (aCons (mLst (aCons (mBin opIx (mVar 2) (mC (.int 1))) (aCons (mBin opIx (mVar 2) (mC (.int 2))) (aCons (mBin opIx (mVar 2) (mC (.int 2))) (aCons (mC (.bl false)) (aCons (mC (.bl false)) aNil)))))) aNil)) []))) (sRet (mC (.bl false))) sPass)
 (sSeq (sAsg (mLst (aCons (mMeth 1 [97, 110, 115, 119, 101, 114] 67 (mVar 3) (aCons (mC (.bl true)) aNil) []) (aCons (mProp 1 58 (mVar 3)) (aCons (mCallD 79 (aCons (mVar 3) aNil) []) aNil)))) (gN 4))
 (sRet (mCallD 76 (aCons (mVar 4) (aCons (mLst (aCons (mC .non) (aCons (mC .non) (aCons (mLst (aCons (mBin opIx (mVar 2) (mC (.int 2))) (aCons (mC .non) (aCons (mTup (aCons (mBin opIx (mVar 2) (mC (.int 0))) (aCons (mBin opIx (mVar 2) (mC (.int 2))) aNil))) (aCons (mC (.int 1)) aNil))))) aNil)))) aNil)) []))))))))
def N82 : List Str := [("_law_names" : Str), ("_law_found" : Str), ("_law_way" : Str), ("_law_book_here" : Str), ("_law_say" : Str), ("_law_trial" : Str), ("_law_told" : Str), ("_law_steps" : Str), ("_law_x" : Str)]
def m82 : MS := (sSeq (sAsg (mLst aNil) (gN 1))
 (sSeq (sFor (jSeq (mTup (aCons (mC (.str [97, 103, 97, 105, 110])) (aCons (mC (.str [111, 110])) aNil)))) (gN 2) (sSeq (sAsg (mCallD 78 (aCons (mVar 0) (aCons (mTup (aCons (mTup (aCons (mC (.str [100, 114, 111, 112])) (aCons (mC (.int 1)) (aCons (mC (.str [108, 101, 102, 116])) aNil)))) (aCons (mTup (aCons (mC (.str [108, 111, 119, 101, 114])) (aCons (mC (.str [108, 101, 102, 116])) aNil))) aNil))) aNil)) []) (gN 3))
 (sSeq (sAsg (mLc (jSeq (mTup (aCons (mC (.str [98, 98])) (aCons (mC (.str [97, 98])) (aCons (mC (.str [97, 97])) (aCons (mC (.str [98])) (aCons (mC (.str [97])) aNil))))))) (gN 8) tYesM (mCallD 77 (aCons (mVar 8) (aCons (mVar 0) aNil)) []) [8]) (gN 4))
 (sSeq (sAsg (mMakeK 1 56 (aCons (mVar 3) (aCons (mBin opIx (mVar 4) (mC (.int 0))) aNil)) (aCons (mVar 2) aNil)) (gN 5))
 (sSeq (sAsg (mLst (aCons (mProp 1 58 (mVar 5)) (aCons (mMeth 1 [97, 110, 115, 119, 101, 114] 67 (mVar 5) (aCons (mC (.bl false)) aNil) []) (aCons (mMeth 1 [97, 110, 115, 119, 101, 114] 67 (mVar 5) (aCons (mC (.bl true)) aNil) []) (aCons (mProp 1 59 (mVar 5)) aNil))))) (gN 6))
 (sSeq (sAsg (mIf (tCmp opEq (mVar 2) (mC (.str [111, 110]))) (mTup (aCons (mBin opIx (mVar 4) (mC (.int 2))) (aCons (mBin opIx (mVar 4) (mC (.int 3))) (aCons (mBin opIx (mVar 4) (mC (.int 4))) aNil)))) (mTup (aCons (mBin opIx (mVar 4) (mC (.int 3))) (aCons (mBin opIx (mVar 4) (mC (.int 4))) (aCons (mBin opIx (mVar 4) (mC (.int 2))) aNil))))) (gN 7))
 (sSeq (sExpr (mM isLst oAppend (mVar 1) (aCons (mCallD 76 (aCons (mVar 6) (aCons (mLst (aCons (mBin opIx (mVar 4) (mC (.int 3))) (aCons (mBin opIx (mVar 4) (mC (.int 1))) (aCons (mBin opIx (mVar 4) (mC (.int 2))) (aCons (mVar 7) aNil))))) aNil)) []) aNil)))
 (sExpr (mM isLst oAppend (mVar 1) (aCons (mAnd (mCallD 76 (aCons (mOwnIx 1 72 (mVar 5) (mBin opIx (mVar 4) (mC (.int 3)))) (aCons (mC (.bl false)) aNil)) []) (mCallD 76 (aCons (mOwnIx 1 72 (mVar 5) (mBin opIx (mVar 4) (mC (.int 4)))) (aCons (mC (.bl false)) aNil)) [])) aNil))))))))))
 (sRet (mVar 1))))
def N83 : List Str := [("_law_names" : Str), ("_law_book_here" : Str), ("_law_say" : Str), ("_law_trial" : Str), ("_law_told" : Str), ("_law_x" : Str)]
def m83 : MS := (sSeq (sAsg (mCallD 78 (aCons (mVar 0) (aCons (mTup (aCons (mTup (aCons (mC (.str [100, 114, 111, 112])) (aCons (mC (.int 1)) (aCons (mC (.str [108, 101, 102, 116])) aNil)))) aNil)) aNil)) []) (gN 1))
 (sSeq (sAsg (mLc (jSeq (mTup (aCons (mC (.str [98, 99])) (aCons (mC (.str [99])) (aCons (mC (.str [98])) (aCons (mC (.str [97, 99])) (aCons (mC (.str [97])) (aCons (mC (.str [])) aNil)))))))) (gN 5) tYesM (mCallD 77 (aCons (mVar 5) (aCons (mVar 0) aNil)) []) [5]) (gN 2))
 (sSeq (sAsg (mMake 1 56 (aCons (mVar 1) (aCons (mBin opIx (mVar 2) (mC (.int 0))) aNil)) [.str [97, 103, 97, 105, 110]]) (gN 3))
 (sSeq (sAsg (mLst (aCons (mMeth 1 [97, 110, 115, 119, 101, 114] 67 (mVar 3) (aCons (mC (.bl false)) aNil) []) (aCons (mMeth 1 [97, 100, 100, 95, 114, 117, 108, 101] 69 (mVar 3) (aCons (mTup (aCons (mC (.str [108, 111, 119, 101, 114])) (aCons (mC (.str [108, 101, 102, 116])) aNil))) (aCons (mC (.int 0)) aNil)) []) (aCons (mMeth 1 [97, 110, 115, 119, 101, 114] 67 (mVar 3) (aCons (mC (.bl true)) aNil) []) (aCons (mMeth 1 [116, 97, 107, 101, 95, 114, 117, 108, 101] 70 (mVar 3) (aCons (mC (.int 1)) aNil) []) aNil))))) (gN 4))
 (sSeq (sIf (tNot (tVal (mCallD 76 (aCons (mVar 4) (aCons (mLst (aCons (mBin opIx (mVar 2) (mC (.int 2))) (aCons (mBin opIx (mVar 2) (mC (.int 3))) (aCons (mBin opIx (mVar 2) (mC (.int 4))) (aCons (mC .non) aNil))))) aNil)) []))) (sRet (mC (.bl false))) sPass)
 (sSeq (sAsg (mLst (aCons (mProp 1 59 (mVar 3)) (aCons (mProp 1 60 (mVar 3)) (aCons (mMeth 1 [115, 116, 97, 114, 116] 71 (mVar 3) (aCons (mBin opIx (mVar 2) (mC (.int 2))) aNil) []) (aCons (mProp 1 60 (mVar 3)) (aCons (mOwnIx 1 72 (mVar 3) (mBin opIx (mVar 2) (mC (.int 1)))) (aCons (mProp 1 61 (mVar 3)) aNil))))))) (gN 4))
 (sRet (mCallD 76 (aCons (mVar 4) (aCons (mLst (aCons (mTup aNil) (aCons (mTup (aCons (mBin opIx (mVar 2) (mC (.int 0))) (aCons (mBin opIx (mVar 2) (mC (.int 3))) aNil))) (aCons (mBin opIx (mVar 2) (mC (.int 4))) (aCons (mTup (aCons (mBin opIx (mVar 2) (mC (.int 2))) aNil)) (aCons (mC (.bl false)) (aCons (mC (.int 2)) aNil))))))) aNil)) []))))))))
def N84 : List Str := [("_law_script" : Str), ("_law_feed_here" : Str), ("_law_k" : Str), ("_law_table" : Str), ("_law_names" : Str)]
def m84 : MS := (sSeq (sAsg (mCallD 73 (aCons (mVar 0) aNil) []) (gN 1))
 (sSeq (sPar2 3 4 (aCons (mCallD 75 (aCons (mVar 1) (aCons (mLst (aCons (mC (.str [97, 98, 99])) (aCons (mC (.str [120, 121, 122])) (aCons (mC (.str [109, 110, 112])) (aCons (mC (.str [99, 100, 101])) aNil))))) aNil)) []) (aCons mDict0 aNil)))
 (sSeq (sFor (jRng1 (aCons (mC (.int 3)) aNil)) (gN 2) (sAsg (mBin opIx (mVar 3) (mVar 2)) (gS (mVar 4) (mBin opIx (mC (.str [97, 98, 99])) (mVar 2)))))
 (sSeq (sIf (tOr (tNot (tVal (mCallFr 80 (mVar 4)))) (tNot (tVal (mCallFr 81 (mVar 4))))) (sRet (mC (.bl false))) sPass)
 (sRet (mAnd (mBin opEq (mCallFr 82 (mVar 4)) (mLst (aCons (mC (.bl true)) (aCons (mC (.bl true)) (aCons (mC (.bl true)) (aCons (mC (.bl true)) aNil)))))) (mCallFr 83 (mVar 4))))))))
def tab : Nat → FD := fun i => (cond (Nat.blt i 42) (cond (Nat.blt i 21) (cond (Nat.blt i 10) (cond (Nat.blt i 5) (cond (Nat.blt i 2) (cond (Nat.blt i 1) ⟨m0, 1, 1⟩ ⟨m1, 1, 1⟩) (cond (Nat.blt i 3) ⟨m2, 1, 1⟩ (cond (Nat.blt i 4) ⟨m3, 2, 1⟩ ⟨m4, 3, 1⟩))) (cond (Nat.blt i 7) (cond (Nat.blt i 6) ⟨m5, 2, 1⟩ ⟨m6, 1, 1⟩) (cond (Nat.blt i 8) ⟨m7, 1, 1⟩ (cond (Nat.blt i 9) ⟨m8, 1, 1⟩ ⟨m9, 3, 1⟩)))) (cond (Nat.blt i 15) (cond (Nat.blt i 12) (cond (Nat.blt i 11) ⟨m10, 5, 2⟩ ⟨m11, 8, 1⟩) (cond (Nat.blt i 13) ⟨m12, 3, 2⟩ (cond (Nat.blt i 14) ⟨m13, 7, 1⟩ ⟨m14, 2, 1⟩))) (cond (Nat.blt i 18) (cond (Nat.blt i 16) ⟨m15, 3, 3⟩ (cond (Nat.blt i 17) ⟨m16, 3, 1⟩ ⟨m17, 4, 2⟩)) (cond (Nat.blt i 19) ⟨m18, 3, 3⟩ (cond (Nat.blt i 20) ⟨m19, 6, 2⟩ ⟨m20, 2, 2⟩))))) (cond (Nat.blt i 31) (cond (Nat.blt i 26) (cond (Nat.blt i 23) (cond (Nat.blt i 22) ⟨m21, 5, 3⟩ ⟨m22, 3, 3⟩) (cond (Nat.blt i 24) ⟨m23, 6, 2⟩ (cond (Nat.blt i 25) ⟨m24, 6, 2⟩ ⟨m25, 3, 3⟩))) (cond (Nat.blt i 28) (cond (Nat.blt i 27) ⟨m26, 1, 1⟩ ⟨m27, 2, 2⟩) (cond (Nat.blt i 29) ⟨m28, 4, 2⟩ (cond (Nat.blt i 30) ⟨m29, 3, 2⟩ ⟨m30, 5, 3⟩)))) (cond (Nat.blt i 36) (cond (Nat.blt i 33) (cond (Nat.blt i 32) ⟨m31, 3, 2⟩ ⟨m32, 6, 3⟩) (cond (Nat.blt i 34) ⟨m33, 6, 3⟩ (cond (Nat.blt i 35) ⟨m34, 7, 2⟩ ⟨m35, 3, 1⟩))) (cond (Nat.blt i 39) (cond (Nat.blt i 37) ⟨m36, 2, 1⟩ (cond (Nat.blt i 38) ⟨m37, 1, 1⟩ ⟨m38, 1, 1⟩)) (cond (Nat.blt i 40) ⟨m39, 4, 1⟩ (cond (Nat.blt i 41) ⟨m40, 7, 7⟩ ⟨m41, 6, 4⟩)))))) (cond (Nat.blt i 63) (cond (Nat.blt i 52) (cond (Nat.blt i 47) (cond (Nat.blt i 44) (cond (Nat.blt i 43) ⟨m42, 5, 3⟩ ⟨m43, 5, 3⟩) (cond (Nat.blt i 45) ⟨m44, 7, 1⟩ (cond (Nat.blt i 46) ⟨m45, 3, 3⟩ ⟨m46, 4, 3⟩))) (cond (Nat.blt i 49) (cond (Nat.blt i 48) ⟨m47, 2, 2⟩ ⟨m48, 3, 3⟩) (cond (Nat.blt i 50) ⟨m49, 3, 3⟩ (cond (Nat.blt i 51) ⟨m50, 7, 2⟩ ⟨m51, 4, 2⟩)))) (cond (Nat.blt i 57) (cond (Nat.blt i 54) (cond (Nat.blt i 53) ⟨m52, 7, 2⟩ ⟨m53, 7, 1⟩) (cond (Nat.blt i 55) ⟨m54, 11, 2⟩ (cond (Nat.blt i 56) ⟨m55, 7, 1⟩ ⟨m56, 4, 4⟩))) (cond (Nat.blt i 60) (cond (Nat.blt i 58) ⟨m57, 1, 1⟩ (cond (Nat.blt i 59) ⟨m58, 2, 1⟩ ⟨m59, 3, 1⟩)) (cond (Nat.blt i 61) ⟨m60, 1, 1⟩ (cond (Nat.blt i 62) ⟨m61, 1, 1⟩ ⟨m62, 2, 1⟩))))) (cond (Nat.blt i 74) (cond (Nat.blt i 68) (cond (Nat.blt i 65) (cond (Nat.blt i 64) ⟨m63, 1, 1⟩ ⟨m64, 2, 2⟩) (cond (Nat.blt i 66) ⟨m65, 3, 2⟩ (cond (Nat.blt i 67) ⟨m66, 2, 2⟩ ⟨m67, 2, 2⟩))) (cond (Nat.blt i 71) (cond (Nat.blt i 69) ⟨m68, 3, 3⟩ (cond (Nat.blt i 70) ⟨m69, 3, 3⟩ ⟨m70, 2, 2⟩)) (cond (Nat.blt i 72) ⟨m71, 2, 2⟩ (cond (Nat.blt i 73) ⟨m72, 3, 2⟩ ⟨m73, 1, 1⟩)))) (cond (Nat.blt i 79) (cond (Nat.blt i 76) (cond (Nat.blt i 75) ⟨m74, 6, 2⟩ ⟨m75, 2, 2⟩) (cond (Nat.blt i 77) ⟨m76, 2, 2⟩ (cond (Nat.blt i 78) ⟨m77, 3, 2⟩ ⟨m78, 3, 2⟩))) (cond (Nat.blt i 82) (cond (Nat.blt i 80) ⟨m79, 1, 1⟩ (cond (Nat.blt i 81) ⟨m80, 7, 1⟩ ⟨m81, 6, 1⟩)) (cond (Nat.blt i 83) ⟨m82, 9, 1⟩ (cond (Nat.blt i 84) ⟨m83, 6, 1⟩ ⟨m84, 5, 1⟩)))))))
structure Fx (S : Sy) : Prop where
  no_isinstance : S.mg "isinstance" = none
  no_bool : S.mg "bool" = none
  no_int : S.mg "int" = none
  mg_is_integer : S.mg "is_integer" = some (.ref (S.fa 0))
  gl_LOWERCASE : GlE S "LOWERCASE" (.str [97, 98, 99, 100, 101, 102, 103, 104, 105, 106, 107, 108, 109, 110, 111, 112, 113, 114, 115, 116, 117, 118, 119, 120, 121, 122])
  no_len : S.mg "len" = none
  no_str : S.mg "str" = none
  no_all : S.mg "all" = none
  no_zip : S.mg "zip" = none
  mg_is_rising_row : S.mg "is_rising_row" = some (.ref (S.fa 4))
  mg_is_letter : S.mg "is_letter" = some (.ref (S.fa 2))
  no_tuple : S.mg "tuple" = none
  mg_is_letter_set : S.mg "is_letter_set" = some (.ref (S.fa 5))
  mg_is_pair : S.mg "is_pair" = some (.ref (S.fa 6))
  gl_SIDES : GlE S "SIDES" (.tup true [.str [108, 101, 102, 116], .str [114, 105, 103, 104, 116]])
  mg_is_side : S.mg "is_side" = some (.ref (S.fa 8))
  mg_is_number : S.mg "is_number" = some (.ref (S.fa 1))
  mg_is_thing : S.mg "is_thing" = some (.ref (S.fa 3))
  no_list : S.mg "list" = none
  no_enumerate : S.mg "enumerate" = none
  mg_is_entry : S.mg "is_entry" = some (.ref (S.fa 7))
  mg_reached_letters : S.mg "reached_letters" = some (.ref (S.fa 10))
  mg_letters_fault : S.mg "letters_fault" = some (.ref (S.fa 11))
  mg_are_letters_known : S.mg "are_letters_known" = some (.ref (S.fa 12))
  mg_is_rule : S.mg "is_rule" = some (.ref (S.fa 9))
  mg_book_fault : S.mg "book_fault" = some (.ref (S.fa 13))
  mg_known_letters : S.mg "known_letters" = some (.ref (S.fa 16))
  mg_is_thing_of : S.mg "is_thing_of" = some (.ref (S.fa 17))
  mg_want_usable : S.mg "want_usable" = some (.ref (S.fa 15))
  mg_want_thing : S.mg "want_thing" = some (.ref (S.fa 18))
  no_dict : S.mg "dict" = none
  mg_lies_at_most : S.mg "lies_at_most" = some (.ref (S.fa 21))
  mg_next_ones : S.mg "next_ones" = some (.ref (S.fa 19))
  mg_next_ones_below : S.mg "next_ones_below" = some (.ref (S.fa 23))
  no_sorted : S.mg "sorted" = none
  gl_MANNERS : GlE S "MANNERS" (.tup true [.str [97, 103, 97, 105, 110], .str [111, 110]])
  mg_want_stepusable : S.mg "want_stepusable" = some (.ref (S.fa 25))
  no_range : S.mg "range" = none
  no_max : S.mg "max" = none
  mg_places_of : S.mg "places_of" = some (.ref (S.fa 27))
  mg_dropped : S.mg "dropped" = some (.ref (S.fa 28))
  mg_halved : S.mg "halved" = some (.ref (S.fa 29))
  mg_lowered : S.mg "lowered" = some (.ref (S.fa 30))
  mg_put_results : S.mg "put_results" = some (.ref (S.fa 31))
  mg_results_of : S.mg "results_of" = some (.ref (S.fa 32))
  mg_letters_under : S.mg "letters_under" = some (.ref (S.fa 34))
  mg_falling_fault : S.mg "falling_fault" = some (.ref (S.fa 35))
  gl_FORMS : GlE S "FORMS" (.kd [[97, 110, 115, 119, 101, 114], [116, 111, 108, 100], [114, 117, 108, 101], [110, 111, 114, 117, 108, 101], [115, 116, 97, 114, 116], [109, 97, 110, 110, 101, 114]] [.tup true [.fn 37], .tup true [.fn 3, .fn 37], .tup true [.fn 9, .fn 1], .tup true [.fn 1], .tup true [.fn 3], .tup true [.fn 38]])
  cl_0 : Cls S.K (S.ca 0)
  na_0_kept_book : NoAttr S.K (S.ca 0) "kept_book"
  na_0_kept_manner : NoAttr S.K (S.ca 0) "kept_manner"
  na_0_kept_things : NoAttr S.K (S.ca 0) "kept_things"
  na_0_kept_rule : NoAttr S.K (S.ca 0) "kept_rule"
  na_0_kept_told : NoAttr S.K (S.ca 0) "kept_told"
  na_0_kept_tries : NoAttr S.K (S.ca 0) "kept_tries"
  na_0_kept_question : NoAttr S.K (S.ca 0) "kept_question"
  mg_steps_from : S.mg "steps_from" = some (.ref (S.fa 33))
  mg_is_at_most : S.mg "is_at_most" = some (.ref (S.fa 22))
  mg_known_in : S.mg "known_in" = some (.ref (S.fa 42))
  mg_asked_steps : S.mg "asked_steps" = some (.ref (S.fa 41))
  mg_first_open : S.mg "first_open" = some (.ref (S.fa 43))
  mk_0 : Mk S.K (S.ca 0) (S.fa 40)
  mg_Stand : S.mg "Stand" = some (.ref (S.ca 0))
  mg_settled : S.mg "settled" = some (.ref (S.fa 44))
  mg_has_letters : S.mg "has_letters" = some (.ref (S.fa 20))
  mg_is_event : S.mg "is_event" = some (.ref (S.fa 39))
  mg_rule_reason : S.mg "rule_reason" = some (.ref (S.fa 48))
  mg_start_reason : S.mg "start_reason" = some (.ref (S.fa 47))
  mg_told_reason : S.mg "told_reason" = some (.ref (S.fa 46))
  mg_book_behind : S.mg "book_behind" = some (.ref (S.fa 51))
  mg_answered : S.mg "answered" = some (.ref (S.fa 50))
  no_any : S.mg "any" = none
  mg_least_failing : S.mg "least_failing" = some (.ref (S.fa 53))
  mg_things_at_most : S.mg "things_at_most" = some (.ref (S.fa 24))
  mg_end_by : S.mg "end_by" = some (.ref (S.fa 54))
  mg_lets_book : S.mg "lets_book" = some (.ref (S.fa 14))
  mg_want_manner : S.mg "want_manner" = some (.ref (S.fa 26))
  mg_want_falling : S.mg "want_falling" = some (.ref (S.fa 36))
  cl_1 : Cls S.K (S.ca 1)
  na_1_beginning : NoAttr S.K (S.ca 1) "beginning"
  na_1_given : NoAttr S.K (S.ca 1) "given"
  mg_first_stand : S.mg "first_stand" = some (.ref (S.fa 45))
  na_1_stands : NoAttr S.K (S.ca 1) "stands"
  na_1_started : NoAttr S.K (S.ca 1) "started"
  na_1_finished : NoAttr S.K (S.ca 1) "finished"
  me_1_steps_of_now : Meth S.K (S.ca 1) "steps_of_now" (S.fa 62)
  mg_ends_from : S.mg "ends_from" = some (.ref (S.fa 55))
  mg_Trial : S.mg "Trial" = some (.ref (S.ca 1))
  cv_1_MOST : ClX.CRead S.K (S.ca 1) (.type "type") ∧ ∃ u, ClX.CVal S.K (S.ca 1) (.type "type") "MOST" (.int 40) u
  mg_reason_of : S.mg "reason_of" = some (.ref (S.fa 49))
  me_1_barred : Meth S.K (S.ca 1) "barred" (S.fa 64)
  mg_changed : S.mg "changed" = some (.ref (S.fa 52))
  pr_1_question : ∃ p, PropOf S.K (S.ca 1) "question" p (S.fa 58)
  me_1_apply_event : Meth S.K (S.ca 1) "apply_event" (S.fa 65)
  me_1_go : Meth S.K (S.ca 1) "go" (S.fa 66)
  mg__law_draw : S.mg "_law_draw" = some (.ref (S.fa 74))
  no_repr : S.mg "repr" = none
  pr_1_tries_now : ∃ p, PropOf S.K (S.ca 1) "tries_now" p (S.fa 61)
  pr_1_walk_now : ∃ p, PropOf S.K (S.ca 1) "walk_now" p (S.fa 60)
  pr_1_thing_now : ∃ p, PropOf S.K (S.ca 1) "thing_now" p (S.fa 57)
  mg__law_book : S.mg "_law_book" = some (.ref (S.fa 78))
  mg__law_turned : S.mg "_law_turned" = some (.ref (S.fa 77))
  mk_1 : Mk S.K (S.ca 1) (S.fa 56)
  mg__law_state : S.mg "_law_state" = some (.ref (S.fa 79))
  mg__law_same : S.mg "_law_same" = some (.ref (S.fa 76))
  me_1_told : Meth S.K (S.ca 1) "told" (S.fa 68)
  me_1_ends_left : Meth S.K (S.ca 1) "ends_left" (S.fa 63)
  me_1_answer : Meth S.K (S.ca 1) "answer" (S.fa 67)
  me_1___getitem__ : Meth S.K (S.ca 1) "__getitem__" (S.fa 72)
  fi_72 : PySem.W.fnIn S.K (S.fa 72) = true
  pr_1_steps_now : ∃ p, PropOf S.K (S.ca 1) "steps_now" p (S.fa 59)
  me_1_take_rule : Meth S.K (S.ca 1) "take_rule" (S.fa 70)
  me_1_add_rule : Meth S.K (S.ca 1) "add_rule" (S.fa 69)
  me_1_start : Meth S.K (S.ca 1) "start" (S.fa 71)
  mg__law_feed : S.mg "_law_feed" = some (.ref (S.fa 73))
  mg__law_any : S.mg "_law_any" = some (.ref (S.fa 75))
  mg__law_skipped : S.mg "_law_skipped" = some (.ref (S.fa 81))
  mg__law_over_two : S.mg "_law_over_two" = some (.ref (S.fa 80))
  mg__law_rules_change : S.mg "_law_rules_change" = some (.ref (S.fa 83))
  mg__law_on : S.mg "_law_on" = some (.ref (S.fa 82))
  mg_law : S.mg "law" = some (.ref (S.fa 84))
structure W (S : Sy) (lv : Nat) (rt : Rt) : Prop where
  f_0_1 : FnF S lv rt 0 ["thing"] []
  f_4_1 : FnF S lv rt 4 ["row"] []
  f_2_1 : FnF S lv rt 2 ["thing"] []
  f_5_1 : FnF S lv rt 5 ["thing"] []
  f_6_1 : FnF S lv rt 6 ["thing"] []
  f_8_1 : FnF S lv rt 8 ["thing"] []
  f_1_1 : FnF S lv rt 1 ["thing"] []
  f_3_1 : FnF S lv rt 3 ["thing"] []
  f_7_1 : FnF S lv rt 7 ["thing"] []
  f_10_2 : FnF S lv rt 10 ["lessers", "letter"] []
  f_11_1 : FnF S lv rt 11 ["letters"] []
  f_12_2 : FnF S lv rt 12 ["known", "rule"] []
  f_9_1 : FnF S lv rt 9 ["thing"] []
  f_13_1 : FnF S lv rt 13 ["thing"] []
  f_16_1 : FnF S lv rt 16 ["book"] []
  f_17_2 : FnF S lv rt 17 ["book", "thing"] []
  f_15_2 : FnF S lv rt 15 ["is_right", "word", "at"] [.int (-1)]
  f_18_3 : FnF S lv rt 18 ["word", "book", "thing"] []
  f_21_3 : FnF S lv rt 21 ["lessers", "u", "v"] []
  f_19_2 : FnF S lv rt 19 ["lessers", "letter"] []
  f_23_2 : FnF S lv rt 23 ["lessers", "x"] []
  f_25_2 : FnF S lv rt 25 ["is_right", "name", "at"] [.int (-1)]
  f_27_2 : FnF S lv rt 27 ["many", "side"] []
  f_28_2 : FnF S lv rt 28 ["rule", "x"] []
  f_29_2 : FnF S lv rt 29 ["rule", "x"] []
  f_30_3 : FnF S lv rt 30 ["lessers", "rule", "x"] []
  f_31_2 : FnF S lv rt 31 ["rule", "x"] []
  f_32_3 : FnF S lv rt 32 ["book", "k", "x"] []
  f_34_2 : FnF S lv rt 34 ["book", "letter"] []
  f_35_1 : FnF S lv rt 35 ["book"] []
  f_37_1 : FnF S lv rt 37 ["thing"] []
  f_38_1 : FnF S lv rt 38 ["thing"] []
  f_33_3 : FnF S lv rt 33 ["book", "x", "first"] []
  f_22_3 : FnF S lv rt 22 ["book", "u", "v"] []
  f_42_3 : FnF S lv rt 42 ["book", "told", "thing"] []
  f_41_4 : FnF S lv rt 41 ["book", "manner", "thing", "rule_now"] []
  f_43_3 : FnF S lv rt 43 ["book", "told", "steps"] []
  f_40_7 : FnF S lv rt 40 ["self", "book", "manner", "things", "rule_now", "told", "tries"] []
  f_44_1 : FnF S lv rt 44 ["stand"] []
  f_20_2 : FnF S lv rt 20 ["book", "thing"] []
  f_39_1 : FnF S lv rt 39 ["thing"] []
  f_48_3 : FnF S lv rt 48 ["book", "rule", "at_rule"] []
  f_47_2 : FnF S lv rt 47 ["stand", "thing"] []
  f_46_3 : FnF S lv rt 46 ["stand", "thing", "it_fails"] []
  f_51_2 : FnF S lv rt 51 ["book", "event"] []
  f_50_2 : FnF S lv rt 50 ["stand", "it_fails"] []
  f_53_1 : FnF S lv rt 53 ["stand"] []
  f_24_2 : FnF S lv rt 24 ["book", "x"] []
  f_54_2 : FnF S lv rt 54 ["stand", "causes"] []
  f_14_1 : FnF S lv rt 14 ["thing"] []
  f_26_1 : FnF S lv rt 26 ["manner"] []
  f_36_1 : FnF S lv rt 36 ["book"] []
  f_45_3 : FnF S lv rt 45 ["book", "x", "manner"] []
  f_62_1 : FnF S lv rt 62 ["self"] []
  f_55_1 : FnF S lv rt 55 ["stand"] []
  f_49_3 : FnF S lv rt 49 ["stand", "event", "is_full"] []
  f_64_2 : FnF S lv rt 64 ["self", "event"] []
  f_52_2 : FnF S lv rt 52 ["stand", "event"] []
  f_58_1 : FnF S lv rt 58 ["self"] []
  f_65_2 : FnF S lv rt 65 ["self", "event"] []
  f_66_2 : FnF S lv rt 66 ["self", "event"] []
  f_74_2 : FnF S lv rt 74 ["_law_feed_here", "_law_many"] []
  f_61_1 : FnF S lv rt 61 ["self"] []
  f_60_1 : FnF S lv rt 60 ["self"] []
  f_57_1 : FnF S lv rt 57 ["self"] []
  f_78_2 : FnF S lv rt 78 ["_law_names", "_law_rules"] []
  f_77_2 : FnF S lv rt 77 ["_law_x", "_law_names"] []
  f_56_3 : FnF S lv rt 56 ["self", "book", "x", "manner"] [.str [97, 103, 97, 105, 110]]
  f_79_1 : FnF S lv rt 79 ["_law_trial"] []
  g_76_2 : FnGF S lv rt 76 ["_law_told", "_law_due"] []
  f_68_3 : FnF S lv rt 68 ["self", "thing", "it_fails"] []
  f_63_1 : FnF S lv rt 63 ["self"] []
  f_67_2 : FnF S lv rt 67 ["self", "it_fails"] []
  k_56_3 : FnKF S lv rt 56 ["self", "book", "x", "manner"] 3 ["manner"]
  f_72_2 : FnF S lv rt 72 ["self", "thing"] []
  f_59_1 : FnF S lv rt 59 ["self"] []
  f_70_2 : FnF S lv rt 70 ["self", "k"] []
  f_69_3 : FnF S lv rt 69 ["self", "rule", "at"] []
  f_71_2 : FnF S lv rt 71 ["self", "thing"] []
  f_73_1 : FnF S lv rt 73 ["_law_script"] []
  f_75_2 : FnF S lv rt 75 ["_law_feed_here", "_law_some"] []
  g_81_1 : FnGF S lv rt 81 ["_law_names"] []
  g_80_1 : FnGF S lv rt 80 ["_law_names"] []
  g_83_1 : FnGF S lv rt 83 ["_law_names"] []
  g_82_1 : FnGF S lv rt 82 ["_law_names"] []
end K70
namespace K70
open PySem PySem.Spec L2 Den
section
variable {S : Sy} {lv : Nat} {rt : Rt}
theorem b80 (x : Fx S) (w : W S lv rt) : SSs S ⟨N80, defScope (top 100), fun _ => true, true⟩ lv rt (defBody (top 100)) m80 :=
 (sss_cons (ss_st (by kernel_rfl) (se_call w.f_78_2 x.mg__law_book (by kernel_rfl) (sa_cons (se_v (by kernel_rfl)) (sa_cons (se_tup (sa_cons (se_tup (sa_cons (se_s (by kernel_rfl)) (sa_cons se_int (sa_cons (se_s (by kernel_rfl)) sa_nil (fun _ => rfl)) (fun _ => rfl)) (fun _ => rfl))) (sa_cons (se_tup (sa_cons (se_s (by kernel_rfl)) (sa_cons (se_s (by kernel_rfl)) sa_nil (fun _ => rfl)) (fun _ => rfl))) sa_nil (fun _ => rfl)) (fun _ => rfl))) sa_nil (fun _ => rfl)) (fun _ => rfl)) (by kernel_rfl) (fun _ => rfl) (fun _ => rfl)) (fun _ _ => rfl))
 (sss_cons (ss_lc (own := [("_law_x", 6)]) (by kernel_rfl) (by kernel_rfl) (sw_lc (by kernel_rfl) (by kernel_rfl) (by kernel_rfl) (by kernel_rfl)) (by kernel_rfl) (si_seq (se_tup (sa_cons (se_s (by kernel_rfl)) (sa_cons (se_s (by kernel_rfl)) (sa_cons (se_s (by kernel_rfl)) (sa_cons (se_s (by kernel_rfl)) (sa_cons (se_s (by kernel_rfl)) (sa_cons (se_s (by kernel_rfl)) sa_nil (fun _ => rfl)) (fun _ => rfl)) (fun _ => rfl)) (fun _ => rfl)) (fun _ => rfl)) (fun _ => rfl)))) (sg_n (by kernel_rfl) (by decide)) sts_nil (se_call w.f_77_2 x.mg__law_turned (by kernel_rfl) (sa_cons (se_v (by kernel_rfl)) (sa_cons (se_v (by kernel_rfl)) sa_nil (fun _ => rfl)) (fun _ => rfl)) (by kernel_rfl) (fun _ => rfl) (fun _ => rfl)) (fun _ _ => rfl))
 (sss_cons (ss_st (by kernel_rfl) (se_make x.mk_1 w.f_56_3 x.mg_Trial (by kernel_rfl) (sa_cons (se_v (by kernel_rfl)) (sa_cons (se_ix (se_v (by kernel_rfl)) se_int (fun _ _ => rfl)) sa_nil (fun _ => rfl)) (fun _ => rfl)) (by kernel_rfl) (fun _ => rfl) (fun _ => rfl)) (fun _ _ => rfl))
 (sss_cons (ss_if (st_not (st_val (se_callG rfl w.g_76_2 x.mg__law_same (by kernel_rfl) (sa_cons (se_call w.f_79_1 x.mg__law_state (by kernel_rfl) (sa_cons (se_v (by kernel_rfl)) sa_nil (fun _ => rfl)) (by kernel_rfl) (fun _ => rfl) (fun _ => rfl)) (sa_cons (se_lst (sa_cons (se_ix (se_v (by kernel_rfl)) se_int (fun _ _ => rfl)) (sa_cons (se_ix (se_v (by kernel_rfl)) se_int (fun _ _ => rfl)) (sa_cons (se_tup (sa_cons (se_ix (se_v (by kernel_rfl)) se_int (fun _ _ => rfl)) sa_nil (fun _ => rfl))) (sa_cons se_int sa_nil (fun _ => rfl)) (fun _ => rfl)) (fun _ => rfl)) (fun _ => rfl))) sa_nil (fun _ => rfl)) (fun _ => rfl)) (by kernel_rfl) (fun _ => rfl) (fun _ => rfl)) (fun _ _ => rfl))) (sss_one (ss_ret se_bl)) sss_nil)
 (sss_cons (ss_st (by kernel_rfl) (se_meth x.cl_1 x.me_1_told w.f_68_3 (se_v (by kernel_rfl)) (sa_cons (se_ix (se_v (by kernel_rfl)) se_int (fun _ _ => rfl)) (sa_cons se_bl sa_nil (fun _ => rfl)) (fun _ => rfl)) (fun _ => rfl) (fun _ => rfl) (fun _ => rfl)) (fun _ _ => rfl))
 (sss_cons (ss_if (st_not (st_val (se_callG rfl w.g_76_2 x.mg__law_same (by kernel_rfl) (sa_cons (se_lst (sa_cons (se_v (by kernel_rfl)) (sa_cons (se_call w.f_79_1 x.mg__law_state (by kernel_rfl) (sa_cons (se_v (by kernel_rfl)) sa_nil (fun _ => rfl)) (by kernel_rfl) (fun _ => rfl) (fun _ => rfl)) sa_nil (fun _ => rfl)) (fun _ => rfl))) (sa_cons (se_lst (sa_cons (se_s (by kernel_rfl)) (sa_cons (se_lst (sa_cons (se_ix (se_v (by kernel_rfl)) se_int (fun _ _ => rfl)) (sa_cons (se_s (by kernel_rfl)) (sa_cons (se_tup (sa_cons (se_ix (se_v (by kernel_rfl)) se_int (fun _ _ => rfl)) (sa_cons (se_ix (se_v (by kernel_rfl)) se_int (fun _ _ => rfl)) (sa_cons (se_ix (se_v (by kernel_rfl)) se_int (fun _ _ => rfl)) sa_nil (fun _ => rfl)) (fun _ => rfl)) (fun _ => rfl))) (sa_cons se_int sa_nil (fun _ => rfl)) (fun _ => rfl)) (fun _ => rfl)) (fun _ => rfl))) sa_nil (fun _ => rfl)) (fun _ => rfl))) sa_nil (fun _ => rfl)) (fun _ => rfl)) (by kernel_rfl) (fun _ => rfl) (fun _ => rfl)) (fun _ _ => rfl))) (sss_one (ss_ret se_bl)) sss_nil)
 (sss_cons (ss_st (by kernel_rfl) (se_lst (sa_cons (se_meth x.cl_1 x.me_1_told w.f_68_3 (se_v (by kernel_rfl)) (sa_cons (se_s (by kernel_rfl)) (sa_cons se_bl sa_nil (fun _ => rfl)) (fun _ => rfl)) (fun _ => rfl) (fun _ => rfl) (fun _ => rfl)) (sa_cons (se_meth0 x.cl_1 x.me_1_ends_left w.f_63_1 (se_v (by kernel_rfl)) (fun _ => rfl)) (sa_cons (se_meth x.cl_1 x.me_1_answer w.f_67_2 (se_v (by kernel_rfl)) (sa_cons se_bl sa_nil (fun _ => rfl)) (fun _ => rfl) (fun _ => rfl) (fun _ => rfl)) (sa_cons (se_meth0 x.cl_1 x.me_1_ends_left w.f_63_1 (se_v (by kernel_rfl)) (fun _ => rfl)) sa_nil (fun _ => rfl)) (fun _ => rfl)) (fun _ => rfl)) (fun _ => rfl))) (fun _ _ => rfl))
 (sss_cons (ss_st (by kernel_rfl) (se_lst (sa_cons (se_ix (se_v (by kernel_rfl)) se_int (fun _ _ => rfl)) (sa_cons (se_ty sc_tuple x.no_tuple (by kernel_rfl) (by kernel_rfl) (sa_cons (se_bf sc_sorted x.no_sorted (by kernel_rfl) (by kernel_rfl) (sa_cons (se_lst (sa_cons (se_ix (se_v (by kernel_rfl)) se_int (fun _ _ => rfl)) (sa_cons (se_ix (se_v (by kernel_rfl)) se_int (fun _ _ => rfl)) sa_nil (fun _ => rfl)) (fun _ => rfl))) sa_nil (fun _ => rfl)) (by decide +kernel) (by kernel_rfl) (fun _ => rfl) (fun _ => rfl)) sa_nil (fun _ => rfl)) (by decide +kernel) (by kernel_rfl) (fun _ => rfl) (fun _ => rfl)) (sa_cons se_non (sa_cons (se_tup (sa_cons (se_ix (se_v (by kernel_rfl)) se_int (fun _ _ => rfl)) sa_nil (fun _ => rfl))) sa_nil (fun _ => rfl)) (fun _ => rfl)) (fun _ => rfl)) (fun _ => rfl))) (fun _ _ => rfl))
 (sss_one (ss_ret (se_and (se_callG rfl w.g_76_2 x.mg__law_same (by kernel_rfl) (sa_cons (se_v (by kernel_rfl)) (sa_cons (se_v (by kernel_rfl)) sa_nil (fun _ => rfl)) (fun _ => rfl)) (by kernel_rfl) (fun _ => rfl) (fun _ => rfl)) (se_one (se_callG rfl w.g_76_2 x.mg__law_same (by kernel_rfl) (sa_cons (se_call w.f_79_1 x.mg__law_state (by kernel_rfl) (sa_cons (se_v (by kernel_rfl)) sa_nil (fun _ => rfl)) (by kernel_rfl) (fun _ => rfl) (fun _ => rfl)) (sa_cons (se_lst (sa_cons (se_ix (se_v (by kernel_rfl)) se_int (fun _ _ => rfl)) (sa_cons se_non (sa_cons (se_tup (sa_cons (se_ix (se_v (by kernel_rfl)) se_int (fun _ _ => rfl)) (sa_cons (se_ix (se_v (by kernel_rfl)) se_int (fun _ _ => rfl)) (sa_cons (se_ix (se_v (by kernel_rfl)) se_int (fun _ _ => rfl)) sa_nil (fun _ => rfl)) (fun _ => rfl)) (fun _ => rfl))) (sa_cons se_int sa_nil (fun _ => rfl)) (fun _ => rfl)) (fun _ => rfl)) (fun _ => rfl))) sa_nil (fun _ => rfl)) (fun _ => rfl)) (by kernel_rfl) (fun _ => rfl) (fun _ => rfl))))))))))))))
theorem b55 (x : Fx S) (w : W S lv rt) : SSs S ⟨N55, defScope (top 89), fun _ => true, false⟩ lv rt (defBody (top 89)) m55 :=
 (sss_cons (ss_asg (ws := [3, 4, 5]) (se_tup (sa_cons (se_fld x.cl_0 x.na_0_kept_book (se_v (by kernel_rfl)) (fun _ => rfl)) (sa_cons (se_fld x.cl_0 x.na_0_kept_told (se_v (by kernel_rfl)) (fun _ => rfl)) (sa_cons (se_call w.f_53_1 x.mg_least_failing (by kernel_rfl) (sa_cons (se_v (by kernel_rfl)) sa_nil (fun _ => rfl)) (by kernel_rfl) (fun _ => rfl) (fun _ => rfl)) sa_nil (fun _ => rfl)) (fun _ => rfl)) (fun _ => rfl))) (sg_tup (sgs_cons (sg_n (by kernel_rfl) (by decide)) (sgs_cons (sg_n (by kernel_rfl) (by decide)) (sgs_cons (sg_n (by kernel_rfl) (by decide)) sgs_nil (fun _ => rfl)) (fun _ => rfl)) (fun _ => rfl)) rfl (fun _ => rfl) (gsl_cons (gsl_cons (gsl_cons gsl_nil)))) (fun _ _ => rfl) (sws_cell3 (by kernel_rfl)) (fun _ => rfl))
 (sss_cons (ss_st (by kernel_rfl) (se_call w.f_24_2 x.mg_things_at_most (by kernel_rfl) (sa_cons (se_v (by kernel_rfl)) (sa_cons (se_ix (se_fld x.cl_0 x.na_0_kept_things (se_v (by kernel_rfl)) (fun _ => rfl)) (se_neg se_int) (fun _ _ => rfl)) sa_nil (fun _ => rfl)) (fun _ => rfl)) (by kernel_rfl) (fun _ => rfl) (fun _ => rfl)) (fun _ _ => rfl))
 (sss_cons (ss_lc (own := [("z", 6)]) (by kernel_rfl) (by kernel_rfl) (sw_lc (by kernel_rfl) (by kernel_rfl) (by kernel_rfl) (by kernel_rfl)) (by kernel_rfl) (si_seq (se_v (by kernel_rfl))) (sg_n (by kernel_rfl) (by decide)) (sts_one (st_cmp so_isn (se_call w.f_42_3 x.mg_known_in (by kernel_rfl) (sa_cons (se_v (by kernel_rfl)) (sa_cons (se_v (by kernel_rfl)) (sa_cons (se_v (by kernel_rfl)) sa_nil (fun _ => rfl)) (fun _ => rfl)) (fun _ => rfl)) (by kernel_rfl) (fun _ => rfl) (fun _ => rfl)) se_bl rfl)) (se_v (by kernel_rfl)) (fun _ _ => rfl))
 (sss_one (ss_ret (se_ty sc_tuple x.no_tuple (by kernel_rfl) (by kernel_rfl) (sa_cons (se_bf sc_sorted x.no_sorted (by kernel_rfl) (by kernel_rfl) (sa_cons (se_lc (own := [("z", 6)]) (by kernel_rfl) (si_seq (se_v (by kernel_rfl))) (sg_n (by kernel_rfl) (by decide)) (sts_one (st_cmp so_eq (se_call w.f_54_2 x.mg_end_by (by kernel_rfl) (sa_cons (se_v (by kernel_rfl)) (sa_cons (se_tup (sa_star (se_v (by kernel_rfl)) (sa_cons (se_v (by kernel_rfl)) sa_nil (fun _ => rfl)) (fun _ => rfl))) sa_nil (fun _ => rfl)) (fun _ => rfl)) (by kernel_rfl) (fun _ => rfl) (fun _ => rfl)) (se_v (by kernel_rfl)) rfl)) (se_v (by kernel_rfl)) (fun _ _ => rfl)) sa_nil (fun _ => rfl)) (by decide +kernel) (by kernel_rfl) (fun _ => rfl) (fun _ => rfl)) sa_nil (fun _ => rfl)) (by decide +kernel) (by kernel_rfl) (fun _ => rfl) (fun _ => rfl)))))))
theorem b33 (x : Fx S) (w : W S lv rt) : SSs S ⟨N33, defScope (top 64), fun _ => true, false⟩ lv rt (defBody (top 64)) m33 :=
 (sss_cons (ss_st (by kernel_rfl) (se_disp (spp_cons (se_v (by kernel_rfl)) (se_neg se_int) spp_nil) rfl rfl (fun z => nomatch z) (by decide)) (fun _ _ => rfl))
 (sss_cons (ss_for (ws := [4]) (si_seq (se_bin so_add (se_listRg2 (by kernel_rfl) x.no_list (by kernel_rfl) x.no_range (se_v (by kernel_rfl)) (se_bf sc_len x.no_len (by kernel_rfl) (by kernel_rfl) (sa_cons (se_ix (se_v (by kernel_rfl)) se_int (fun _ _ => rfl)) sa_nil (fun _ => rfl)) (by decide +kernel) (by kernel_rfl) (fun _ => rfl) (fun _ => rfl)) (fun _ => rfl) (fun _ => rfl) (fun _ => rfl) (fun _ => rfl)) (se_listRg1 (by kernel_rfl) x.no_list (by kernel_rfl) x.no_range (se_v (by kernel_rfl)) (fun _ => rfl) (fun _ => rfl)))) (sg_n (by kernel_rfl) (by decide)) (sss_one (ss_for (ws := [5]) (si_seq (se_call w.f_32_3 x.mg_results_of (by kernel_rfl) (sa_cons (se_v (by kernel_rfl)) (sa_cons (se_v (by kernel_rfl)) (sa_cons (se_v (by kernel_rfl)) sa_nil (fun _ => rfl)) (fun _ => rfl)) (fun _ => rfl)) (by kernel_rfl) (fun _ => rfl) (fun _ => rfl))) (sg_n (by kernel_rfl) (by decide)) (sss_one (ss_if (st_cmp so_notIn (se_v (by kernel_rfl)) (se_v (by kernel_rfl)) rfl) (sss_one (ss_asg (ws := []) (se_v (by kernel_rfl)) (sg_sub (se_v (by kernel_rfl)) (se_v (by kernel_rfl)) (fun _ _ => rfl)) (fun _ _ => rfl) (fun _ _ => rfl) (fun _ => rfl))) sss_nil)) (fun _ _ => rfl))) (fun _ _ => rfl))
 (sss_one (ss_ret (se_lock (se_lc (own := [("step", 5), ("k", 4)]) (by kernel_rfl) (si_items (se_v (by kernel_rfl)) (fun _ => rfl) rfl) (sg_tup (sgs_cons (sg_n (by kernel_rfl) (by decide)) (sgs_cons (sg_n (by kernel_rfl) (by decide)) sgs_nil (fun _ => rfl)) (fun _ => rfl)) rfl (fun _ => rfl) (gsl_cons (gsl_cons gsl_nil))) (sts_one (st_cmp so_ne (se_v (by kernel_rfl)) (se_v (by kernel_rfl)) rfl)) (se_tup (sa_cons (se_v (by kernel_rfl)) (sa_cons (se_v (by kernel_rfl)) sa_nil (fun _ => rfl)) (fun _ => rfl))) (fun _ _ => rfl)))))))
theorem b21 (x : Fx S) (w : W S lv rt) : SSs S ⟨N21, defScope (top 38), fun _ => true, false⟩ lv rt (defBody (top 38)) m21 :=
 (sss_cons (ss_st (by kernel_rfl) se_int (fun _ _ => rfl))
 (sss_cons (ss_for (ws := [4]) (si_seq (se_v (by kernel_rfl))) (sg_n (by kernel_rfl) (by decide)) (sss_one (ss_if (st_w (stw_and (st_cmp so_lt (se_v (by kernel_rfl)) (se_bf sc_len x.no_len (by kernel_rfl) (by kernel_rfl) (sa_cons (se_v (by kernel_rfl)) sa_nil (fun _ => rfl)) (by decide +kernel) (by kernel_rfl) (fun _ => rfl) (fun _ => rfl)) rfl) (stw_and1 (st_w (stw_or (st_cmp so_eq (se_ix (se_v (by kernel_rfl)) (se_v (by kernel_rfl)) (fun _ _ => rfl)) (se_v (by kernel_rfl)) rfl) (stw_or1 (st_cmp so_in (se_ix (se_v (by kernel_rfl)) (se_v (by kernel_rfl)) (fun _ _ => rfl)) (se_call w.f_10_2 x.mg_reached_letters (by kernel_rfl) (sa_cons (se_v (by kernel_rfl)) (sa_cons (se_v (by kernel_rfl)) sa_nil (fun _ => rfl)) (fun _ => rfl)) (by kernel_rfl) (fun _ => rfl) (fun _ => rfl)) rfl))))))) (sss_one (ss_st (by kernel_rfl) (se_bin so_add (se_v (by kernel_rfl)) se_int) (fun _ _ => rfl))) sss_nil)) (fun _ _ => rfl))
 (sss_one (ss_ret (se_cmp so_eq (se_v (by kernel_rfl)) (se_bf sc_len x.no_len (by kernel_rfl) (by kernel_rfl) (sa_cons (se_v (by kernel_rfl)) sa_nil (fun _ => rfl)) (by decide +kernel) (by kernel_rfl) (fun _ => rfl) (fun _ => rfl)) rfl)))))
theorem b46 (x : Fx S) (w : W S lv rt) : SSs S ⟨N46, defScope (top 80), fun _ => true, false⟩ lv rt (defBody (top 80)) m46 :=
 (sss_cons (ss_if (st_not (st_val (se_call w.f_20_2 x.mg_has_letters (by kernel_rfl) (sa_cons (se_fld x.cl_0 x.na_0_kept_book (se_v (by kernel_rfl)) (fun _ => rfl)) (sa_cons (se_v (by kernel_rfl)) sa_nil (fun _ => rfl)) (fun _ => rfl)) (by kernel_rfl) (fun _ => rfl) (fun _ => rfl)) (fun _ _ => rfl))) (sss_one (ss_ret (se_s (by kernel_rfl)))) sss_nil)
 (sss_cons (ss_st (by kernel_rfl) (se_call w.f_42_3 x.mg_known_in (by kernel_rfl) (sa_cons (se_fld x.cl_0 x.na_0_kept_book (se_v (by kernel_rfl)) (fun _ => rfl)) (sa_cons (se_fld x.cl_0 x.na_0_kept_told (se_v (by kernel_rfl)) (fun _ => rfl)) (sa_cons (se_v (by kernel_rfl)) sa_nil (fun _ => rfl)) (fun _ => rfl)) (fun _ => rfl)) (by kernel_rfl) (fun _ => rfl) (fun _ => rfl)) (fun _ _ => rfl))
 (sss_cons (ss_if (st_cmp so_is (se_v (by kernel_rfl)) se_non rfl) (sss_one (ss_ret se_non)) sss_nil)
 (sss_one (ss_ret (se_if (st_cmp so_eq (se_v (by kernel_rfl)) (se_v (by kernel_rfl)) rfl) (se_s (by kernel_rfl)) (se_s (by kernel_rfl))))))))
theorem b29 (x : Fx S) (w : W S lv rt) : SSs S ⟨N29, defScope (top 60), fun _ => true, false⟩ lv rt (defBody (top 60)) m29 :=
 (sss_cons (ss_st (by kernel_rfl) (se_bin so_fdiv (se_bf sc_len x.no_len (by kernel_rfl) (by kernel_rfl) (sa_cons (se_v (by kernel_rfl)) sa_nil (fun _ => rfl)) (by decide +kernel) (by kernel_rfl) (fun _ => rfl) (fun _ => rfl)) se_int) (fun _ _ => rfl))
 (sss_one (ss_ret (se_lst (sa_cons (se_if (st_cmp so_eq (se_ix (se_v (by kernel_rfl)) se_int (fun _ _ => rfl)) (se_s (by kernel_rfl)) rfl) (se_sl (se_v (by kernel_rfl)) sp_none (sp_some (se_v (by kernel_rfl)))) (se_sl (se_v (by kernel_rfl)) (sp_some (se_bin so_sub (se_bf sc_len x.no_len (by kernel_rfl) (by kernel_rfl) (sa_cons (se_v (by kernel_rfl)) sa_nil (fun _ => rfl)) (by decide +kernel) (by kernel_rfl) (fun _ => rfl) (fun _ => rfl)) (se_v (by kernel_rfl)))) sp_none)) sa_nil (fun _ => rfl))))))
theorem b4 (x : Fx S) (w : W S lv rt) : SSs S ⟨N4, defScope (top 17), fun _ => true, false⟩ lv rt (defBody (top 17)) m4 :=
 (sss_one (ss_ret (se_bf sc_all x.no_all (by kernel_rfl) (by kernel_rfl) (sa_cons (se_lc (own := [("one", 1), ("other", 2)]) (by kernel_rfl) (si_zip (fun _ ok => ok.gl (by kernel_rfl)) x.no_zip (se_v (by kernel_rfl)) (se_sl (se_v (by kernel_rfl)) (sp_some se_int) sp_none) (fun _ => rfl) (fun _ => rfl) (fun _ => rfl)) (sg_tup (sgs_cons (sg_n (by kernel_rfl) (by decide)) (sgs_cons (sg_n (by kernel_rfl) (by decide)) sgs_nil (fun _ => rfl)) (fun _ => rfl)) rfl (fun _ => rfl) (gsl_cons (gsl_cons gsl_nil))) sts_nil (se_cmp so_lt (se_v (by kernel_rfl)) (se_v (by kernel_rfl)) rfl) (fun _ _ => rfl)) sa_nil (fun _ => rfl)) (by decide +kernel) (by kernel_rfl) (fun _ => rfl) (fun _ => rfl))))
theorem b16 (x : Fx S) (w : W S lv rt) : SSs S ⟨N16, defScope (top 32), fun _ => true, false⟩ lv rt (defBody (top 32)) m16 :=
 (sss_one (ss_ret (se_ty sc_tuple x.no_tuple (by kernel_rfl) (by kernel_rfl) (sa_cons (se_lc (own := [("letter", 1), ("lessers", 2)]) (by kernel_rfl) (si_seq (se_ix (se_v (by kernel_rfl)) se_int (fun _ _ => rfl))) (sg_tup (sgs_cons (sg_n (by kernel_rfl) (by decide)) (sgs_cons (sg_n (by kernel_rfl) (by decide)) sgs_nil (fun _ => rfl)) (fun _ => rfl)) rfl (fun _ => rfl) (gsl_cons (gsl_cons gsl_nil))) sts_nil (se_v (by kernel_rfl)) (fun _ _ => rfl)) sa_nil (fun _ => rfl)) (by decide +kernel) (by kernel_rfl) (fun _ => rfl) (fun _ => rfl))))
theorem b75 (x : Fx S) (w : W S lv rt) : SSs S ⟨N75, defScope (top 95), fun _ => true, false⟩ lv rt (defBody (top 95)) m75 :=
 (sss_one (ss_ret (se_ix (se_v (by kernel_rfl)) (se_call w.f_74_2 x.mg__law_draw (by kernel_rfl) (sa_cons (se_v (by kernel_rfl)) (sa_cons (se_bf sc_len x.no_len (by kernel_rfl) (by kernel_rfl) (sa_cons (se_v (by kernel_rfl)) sa_nil (fun _ => rfl)) (by decide +kernel) (by kernel_rfl) (fun _ => rfl) (fun _ => rfl)) sa_nil (fun _ => rfl)) (fun _ => rfl)) (by kernel_rfl) (fun _ => rfl) (fun _ => rfl)) (fun _ _ => rfl))))
theorem b38 (x : Fx S) (w : W S lv rt) : SSs S ⟨N38, defScope (top 70), fun _ => true, false⟩ lv rt (defBody (top 70)) m38 :=
 (sss_one (ss_ret (se_and (se_isi (by decide) x.no_isinstance (by kernel_rfl) (se_v (by kernel_rfl)) x.no_str (by kernel_rfl) (by kernel_rfl) (by decide +kernel) (by kernel_rfl) (fun _ => rfl) (fun _ => rfl)) (se_one (se_cmp so_in (se_v (by kernel_rfl)) (se_g x.gl_MANNERS (by kernel_rfl) (by kernel_rfl)) rfl)))))
theorem b1 (x : Fx S) (w : W S lv rt) : SSs S ⟨N1, defScope (top 14), fun _ => true, false⟩ lv rt (defBody (top 14)) m1 :=
 (sss_one (ss_ret (se_and (se_call w.f_0_1 x.mg_is_integer (by kernel_rfl) (sa_cons (se_v (by kernel_rfl)) sa_nil (fun _ => rfl)) (by kernel_rfl) (fun _ => rfl) (fun _ => rfl)) (se_one (se_cmp so_ge (se_v (by kernel_rfl)) se_int rfl)))))
end
end K70
namespace K70
open PySem PySem.Spec L2 Den
section
variable {S : Sy} {lv : Nat} {rt : Rt}
theorem b82 (x : Fx S) (w : W S lv rt) : SSs S ⟨N82, defScope (top 102), fun _ => true, true⟩ lv rt (defBody (top 102)) m82 :=
 (sss_cons (ss_st (by kernel_rfl) (se_lst sa_nil) (fun _ _ => rfl))
 (sss_cons (ss_for (ws := [2]) (si_seq (se_tup (sa_cons (se_s (by kernel_rfl)) (sa_cons (se_s (by kernel_rfl)) sa_nil (fun _ => rfl)) (fun _ => rfl)))) (sg_n (by kernel_rfl) (by decide)) (sss_cons (ss_st (by kernel_rfl) (se_call w.f_78_2 x.mg__law_book (by kernel_rfl) (sa_cons (se_v (by kernel_rfl)) (sa_cons (se_tup (sa_cons (se_tup (sa_cons (se_s (by kernel_rfl)) (sa_cons se_int (sa_cons (se_s (by kernel_rfl)) sa_nil (fun _ => rfl)) (fun _ => rfl)) (fun _ => rfl))) (sa_cons (se_tup (sa_cons (se_s (by kernel_rfl)) (sa_cons (se_s (by kernel_rfl)) sa_nil (fun _ => rfl)) (fun _ => rfl))) sa_nil (fun _ => rfl)) (fun _ => rfl))) sa_nil (fun _ => rfl)) (fun _ => rfl)) (by kernel_rfl) (fun _ => rfl) (fun _ => rfl)) (fun _ _ => rfl))
 (sss_cons (ss_lc (own := [("_law_x", 8)]) (by kernel_rfl) (by kernel_rfl) (sw_lc (by kernel_rfl) (by kernel_rfl) (by kernel_rfl) (by kernel_rfl)) (by kernel_rfl) (si_seq (se_tup (sa_cons (se_s (by kernel_rfl)) (sa_cons (se_s (by kernel_rfl)) (sa_cons (se_s (by kernel_rfl)) (sa_cons (se_s (by kernel_rfl)) (sa_cons (se_s (by kernel_rfl)) sa_nil (fun _ => rfl)) (fun _ => rfl)) (fun _ => rfl)) (fun _ => rfl)) (fun _ => rfl)))) (sg_n (by kernel_rfl) (by decide)) sts_nil (se_call w.f_77_2 x.mg__law_turned (by kernel_rfl) (sa_cons (se_v (by kernel_rfl)) (sa_cons (se_v (by kernel_rfl)) sa_nil (fun _ => rfl)) (fun _ => rfl)) (by kernel_rfl) (fun _ => rfl) (fun _ => rfl)) (fun _ _ => rfl))
 (sss_cons (ss_st (by kernel_rfl) (se_makeK x.mk_1 w.k_56_3 x.mg_Trial (by kernel_rfl) (sa_cons (se_v (by kernel_rfl)) (sa_cons (se_ix (se_v (by kernel_rfl)) se_int (fun _ _ => rfl)) sa_nil (fun _ => rfl)) (fun _ => rfl)) (sk_cons (se_v (by kernel_rfl)) sk_nil) (al_cons (al_cons al_nil)) (al_cons al_nil) (fun _ => rfl) (fun _ => rfl) (by kernel_rfl) (fun _ => rfl) (fun _ => rfl)) (fun _ _ => rfl))
 (sss_cons (ss_st (by kernel_rfl) (se_lst (sa_cons (se_prop x.cl_1 x.pr_1_question.choose_spec w.f_58_1 (se_v (by kernel_rfl)) (fun _ => rfl)) (sa_cons (se_meth x.cl_1 x.me_1_answer w.f_67_2 (se_v (by kernel_rfl)) (sa_cons se_bl sa_nil (fun _ => rfl)) (fun _ => rfl) (fun _ => rfl) (fun _ => rfl)) (sa_cons (se_meth x.cl_1 x.me_1_answer w.f_67_2 (se_v (by kernel_rfl)) (sa_cons se_bl sa_nil (fun _ => rfl)) (fun _ => rfl) (fun _ => rfl) (fun _ => rfl)) (sa_cons (se_prop x.cl_1 x.pr_1_steps_now.choose_spec w.f_59_1 (se_v (by kernel_rfl)) (fun _ => rfl)) sa_nil (fun _ => rfl)) (fun _ => rfl)) (fun _ => rfl)) (fun _ => rfl))) (fun _ _ => rfl))
 (sss_cons (ss_st (by kernel_rfl) (se_if (st_cmp so_eq (se_v (by kernel_rfl)) (se_s (by kernel_rfl)) rfl) (se_tup (sa_cons (se_ix (se_v (by kernel_rfl)) se_int (fun _ _ => rfl)) (sa_cons (se_ix (se_v (by kernel_rfl)) se_int (fun _ _ => rfl)) (sa_cons (se_ix (se_v (by kernel_rfl)) se_int (fun _ _ => rfl)) sa_nil (fun _ => rfl)) (fun _ => rfl)) (fun _ => rfl))) (se_tup (sa_cons (se_ix (se_v (by kernel_rfl)) se_int (fun _ _ => rfl)) (sa_cons (se_ix (se_v (by kernel_rfl)) se_int (fun _ _ => rfl)) (sa_cons (se_ix (se_v (by kernel_rfl)) se_int (fun _ _ => rfl)) sa_nil (fun _ => rfl)) (fun _ => rfl)) (fun _ => rfl)))) (fun _ _ => rfl))
 (sss_cons (ss_expr (se_bm (fun _ ok _ _ _ _ _ rl rv e => isLst_ok ok rl rv e) PySem.F.plainAttrs_list PySem.F.slot_list_append PySem.F.type_list_append sm_append (se_v (by kernel_rfl)) (sa_cons (se_callG rfl w.g_76_2 x.mg__law_same (by kernel_rfl) (sa_cons (se_v (by kernel_rfl)) (sa_cons (se_lst (sa_cons (se_ix (se_v (by kernel_rfl)) se_int (fun _ _ => rfl)) (sa_cons (se_ix (se_v (by kernel_rfl)) se_int (fun _ _ => rfl)) (sa_cons (se_ix (se_v (by kernel_rfl)) se_int (fun _ _ => rfl)) (sa_cons (se_v (by kernel_rfl)) sa_nil (fun _ => rfl)) (fun _ => rfl)) (fun _ => rfl)) (fun _ => rfl))) sa_nil (fun _ => rfl)) (fun _ => rfl)) (by kernel_rfl) (fun _ => rfl) (fun _ => rfl)) sa_nil (fun _ => rfl)) (fun _ => rfl) (fun _ => rfl) rfl (fun _ => rfl) (fun _ => rfl)) (fun _ => rfl))
 (sss_one (ss_expr (se_bm (fun _ ok _ _ _ _ _ rl rv e => isLst_ok ok rl rv e) PySem.F.plainAttrs_list PySem.F.slot_list_append PySem.F.type_list_append sm_append (se_v (by kernel_rfl)) (sa_cons (se_and (se_callG rfl w.g_76_2 x.mg__law_same (by kernel_rfl) (sa_cons (se_ownIx x.me_1___getitem__ x.fi_72 w.f_72_2 (se_v (by kernel_rfl)) (se_ix (se_v (by kernel_rfl)) se_int (fun _ _ => rfl)) (fun _ _ => rfl)) (sa_cons se_bl sa_nil (fun _ => rfl)) (fun _ => rfl)) (by kernel_rfl) (fun _ => rfl) (fun _ => rfl)) (se_one (se_callG rfl w.g_76_2 x.mg__law_same (by kernel_rfl) (sa_cons (se_ownIx x.me_1___getitem__ x.fi_72 w.f_72_2 (se_v (by kernel_rfl)) (se_ix (se_v (by kernel_rfl)) se_int (fun _ _ => rfl)) (fun _ _ => rfl)) (sa_cons se_bl sa_nil (fun _ => rfl)) (fun _ => rfl)) (by kernel_rfl) (fun _ => rfl) (fun _ => rfl)))) sa_nil (fun _ => rfl)) (fun _ => rfl) (fun _ => rfl) rfl (fun _ => rfl) (fun _ => rfl)) (fun _ => rfl))))))))) (fun _ _ => rfl))
 (sss_one (ss_ret (se_v (by kernel_rfl))))))
theorem b39 (x : Fx S) (w : W S lv rt) : SSs S ⟨N39, defScope (top 72), fun _ => true, false⟩ lv rt (defBody (top 72)) m39 :=
 (sss_cons (ss_if (st_w (stw_or (st_not (st_val (se_isi (by decide) x.no_isinstance (by kernel_rfl) (se_v (by kernel_rfl)) x.no_tuple (by kernel_rfl) (by kernel_rfl) (by decide +kernel) (by kernel_rfl) (fun _ => rfl) (fun _ => rfl)) (fun _ _ => rfl))) (stw_or (st_cmp so_eq (se_bf sc_len x.no_len (by kernel_rfl) (by kernel_rfl) (sa_cons (se_v (by kernel_rfl)) sa_nil (fun _ => rfl)) (by decide +kernel) (by kernel_rfl) (fun _ => rfl) (fun _ => rfl)) se_int rfl) (stw_or (st_not (st_val (se_isi (by decide) x.no_isinstance (by kernel_rfl) (se_ix (se_v (by kernel_rfl)) se_int (fun _ _ => rfl)) x.no_str (by kernel_rfl) (by kernel_rfl) (by decide +kernel) (by kernel_rfl) (fun _ => rfl) (fun _ => rfl)) (fun _ _ => rfl))) (stw_or1 (st_cmp so_notIn (se_ix (se_v (by kernel_rfl)) se_int (fun _ _ => rfl)) (se_g x.gl_FORMS (by kernel_rfl) (by kernel_rfl)) rfl)))))) (sss_one (ss_ret se_bl)) sss_nil)
 (sss_cons (ss_st (by kernel_rfl) (se_ix (se_g x.gl_FORMS (by kernel_rfl) (by kernel_rfl)) (se_ix (se_v (by kernel_rfl)) se_int (fun _ _ => rfl)) (fun _ _ => rfl)) (fun _ _ => rfl))
 (sss_one (ss_ret (se_and (se_cmp so_eq (se_bf sc_len x.no_len (by kernel_rfl) (by kernel_rfl) (sa_cons (se_v (by kernel_rfl)) sa_nil (fun _ => rfl)) (by decide +kernel) (by kernel_rfl) (fun _ => rfl) (fun _ => rfl)) (se_bin so_add (se_bf sc_len x.no_len (by kernel_rfl) (by kernel_rfl) (sa_cons (se_v (by kernel_rfl)) sa_nil (fun _ => rfl)) (by decide +kernel) (by kernel_rfl) (fun _ => rfl) (fun _ => rfl)) se_int) rfl) (se_one (se_bf sc_all x.no_all (by kernel_rfl) (by kernel_rfl) (sa_cons (se_lc (own := [("check", 2), ("one", 3)]) (by kernel_rfl) (si_zip (fun _ ok => ok.gl (by kernel_rfl)) x.no_zip (se_v (by kernel_rfl)) (se_sl (se_v (by kernel_rfl)) (sp_some se_int) sp_none) (fun _ => rfl) (fun _ => rfl) (fun _ => rfl)) (sg_tup (sgs_cons (sg_n (by kernel_rfl) (by decide)) (sgs_cons (sg_n (by kernel_rfl) (by decide)) sgs_nil (fun _ => rfl)) (fun _ => rfl)) rfl (fun _ => rfl) (gsl_cons (gsl_cons gsl_nil))) sts_nil (se_callVs (by kernel_rfl) (visB_ok (by kernel_rfl)) (by kernel_rfl) (by kernel_rfl) (by intro f hf; simp only [List.mem_cons, List.not_mem_nil, or_false] at hf; rcases hf with rfl | rfl | rfl | rfl | rfl <;> first | exact ⟨_, w.f_37_1⟩ | exact ⟨_, w.f_3_1⟩ | exact ⟨_, w.f_9_1⟩ | exact ⟨_, w.f_1_1⟩ | exact ⟨_, w.f_38_1⟩) (sa_cons (se_v (by kernel_rfl)) sa_nil (fun _ => rfl)) (fun _ => rfl) (fun _ => rfl)) (fun _ _ => rfl)) sa_nil (fun _ => rfl)) (by decide +kernel) (by kernel_rfl) (fun _ => rfl) (fun _ => rfl))))))))
theorem b32 (x : Fx S) (w : W S lv rt) : SSs S ⟨N32, defScope (top 63), fun _ => true, false⟩ lv rt (defBody (top 63)) m32 :=
 (sss_cons (ss_st (by kernel_rfl) (se_ix (se_ix (se_v (by kernel_rfl)) se_int (fun _ _ => rfl)) (se_v (by kernel_rfl)) (fun _ _ => rfl)) (fun _ _ => rfl))
 (sss_cons (ss_if (st_cmp so_eq (se_ix (se_v (by kernel_rfl)) se_int (fun _ _ => rfl)) (se_s (by kernel_rfl)) rfl) (sss_one (ss_ret (se_call w.f_28_2 x.mg_dropped (by kernel_rfl) (sa_cons (se_v (by kernel_rfl)) (sa_cons (se_v (by kernel_rfl)) sa_nil (fun _ => rfl)) (fun _ => rfl)) (by kernel_rfl) (fun _ => rfl) (fun _ => rfl)))) sss_nil)
 (sss_cons (ss_if (st_cmp so_eq (se_ix (se_v (by kernel_rfl)) se_int (fun _ _ => rfl)) (se_s (by kernel_rfl)) rfl) (sss_one (ss_ret (se_call w.f_29_2 x.mg_halved (by kernel_rfl) (sa_cons (se_v (by kernel_rfl)) (sa_cons (se_v (by kernel_rfl)) sa_nil (fun _ => rfl)) (fun _ => rfl)) (by kernel_rfl) (fun _ => rfl) (fun _ => rfl)))) sss_nil)
 (sss_cons (ss_if (st_cmp so_eq (se_ix (se_v (by kernel_rfl)) se_int (fun _ _ => rfl)) (se_s (by kernel_rfl)) rfl) (sss_one (ss_ret (se_call w.f_30_3 x.mg_lowered (by kernel_rfl) (sa_cons (se_dc (own := [("letter", 4), ("lessers", 5)]) (by kernel_rfl) (si_seq (se_ix (se_v (by kernel_rfl)) se_int (fun _ _ => rfl))) (sg_tup (sgs_cons (sg_n (by kernel_rfl) (by decide)) (sgs_cons (sg_n (by kernel_rfl) (by decide)) sgs_nil (fun _ => rfl)) (fun _ => rfl)) rfl (fun _ => rfl) (gsl_cons (gsl_cons gsl_nil))) sts_nil (se_v (by kernel_rfl)) (se_v (by kernel_rfl)) (fun _ _ => rfl)) (sa_cons (se_v (by kernel_rfl)) (sa_cons (se_v (by kernel_rfl)) sa_nil (fun _ => rfl)) (fun _ => rfl)) (fun _ => rfl)) (by kernel_rfl) (fun _ => rfl) (fun _ => rfl)))) sss_nil)
 (sss_one (ss_ret (se_if (st_cmp so_eq (se_ix (se_v (by kernel_rfl)) se_int (fun _ _ => rfl)) (se_s (by kernel_rfl)) rfl) (se_call w.f_31_2 x.mg_put_results (by kernel_rfl) (sa_cons (se_v (by kernel_rfl)) (sa_cons (se_v (by kernel_rfl)) sa_nil (fun _ => rfl)) (fun _ => rfl)) (by kernel_rfl) (fun _ => rfl) (fun _ => rfl)) (se_lst (sa_cons (se_s (by kernel_rfl)) sa_nil (fun _ => rfl))))))))))
theorem b53 (x : Fx S) (w : W S lv rt) : SSs S ⟨N53, defScope (top 87), fun _ => true, false⟩ lv rt (defBody (top 87)) m53 :=
 (sss_cons (ss_st (by kernel_rfl) (se_dc (own := [("thing", 3), ("it_fails", 4)]) (by kernel_rfl) (si_seq (se_fld x.cl_0 x.na_0_kept_told (se_v (by kernel_rfl)) (fun _ => rfl))) (sg_tup (sgs_cons (sg_n (by kernel_rfl) (by decide)) (sgs_cons (sg_n (by kernel_rfl) (by decide)) sgs_nil (fun _ => rfl)) (fun _ => rfl)) rfl (fun _ => rfl) (gsl_cons (gsl_cons gsl_nil))) (sts_one (st_val (se_v (by kernel_rfl)) (fun _ _ => rfl))) (se_v (by kernel_rfl)) se_bl (fun _ _ => rfl)) (sw_dcC (by kernel_rfl)))
 (sss_cons (ss_st (by kernel_rfl) (se_fld x.cl_0 x.na_0_kept_book (se_v (by kernel_rfl)) (fun _ => rfl)) (fun _ _ => rfl))
 (sss_one (ss_ret (se_ty sc_tuple x.no_tuple (by kernel_rfl) (by kernel_rfl) (sa_cons (se_bf sc_sorted x.no_sorted (by kernel_rfl) (by kernel_rfl) (sa_cons (se_lock (se_lc (own := [("u", 5)]) (by kernel_rfl) (si_seq (se_v (by kernel_rfl))) (sg_n (by kernel_rfl) (by decide)) (sts_one (st_not (st_val (se_bf sc_any x.no_any (by kernel_rfl) (by kernel_rfl) (sa_cons (se_lc (own := [("v", 6)]) (by kernel_rfl) (si_seq (se_v (by kernel_rfl))) (sg_n (by kernel_rfl) (by decide)) sts_nil (se_and (se_cmp so_ne (se_v (by kernel_rfl)) (se_v (by kernel_rfl)) rfl) (se_one (se_call w.f_22_3 x.mg_is_at_most (by kernel_rfl) (sa_cons (se_v (by kernel_rfl)) (sa_cons (se_v (by kernel_rfl)) (sa_cons (se_v (by kernel_rfl)) sa_nil (fun _ => rfl)) (fun _ => rfl)) (fun _ => rfl)) (by kernel_rfl) (fun _ => rfl) (fun _ => rfl)))) (fun _ _ => rfl)) sa_nil (fun _ => rfl)) (by decide +kernel) (by kernel_rfl) (fun _ => rfl) (fun _ => rfl)) (fun _ _ => rfl)))) (se_v (by kernel_rfl)) (fun _ _ => rfl))) sa_nil (fun _ => rfl)) (by decide +kernel) (by kernel_rfl) (fun _ => rfl) (fun _ => rfl)) sa_nil (fun _ => rfl)) (by decide +kernel) (by kernel_rfl) (fun _ => rfl) (fun _ => rfl))))))
theorem b47 (x : Fx S) (w : W S lv rt) : SSs S ⟨N47, defScope (top 81), fun _ => true, false⟩ lv rt (defBody (top 81)) m47 :=
 (sss_cons (ss_if (st_not (st_val (se_call w.f_20_2 x.mg_has_letters (by kernel_rfl) (sa_cons (se_fld x.cl_0 x.na_0_kept_book (se_v (by kernel_rfl)) (fun _ => rfl)) (sa_cons (se_v (by kernel_rfl)) sa_nil (fun _ => rfl)) (fun _ => rfl)) (by kernel_rfl) (fun _ => rfl) (fun _ => rfl)) (fun _ _ => rfl))) (sss_one (ss_ret (se_s (by kernel_rfl)))) sss_nil)
 (sss_cons (ss_if (st_cmp so_is (se_call w.f_42_3 x.mg_known_in (by kernel_rfl) (sa_cons (se_fld x.cl_0 x.na_0_kept_book (se_v (by kernel_rfl)) (fun _ => rfl)) (sa_cons (se_fld x.cl_0 x.na_0_kept_told (se_v (by kernel_rfl)) (fun _ => rfl)) (sa_cons (se_v (by kernel_rfl)) sa_nil (fun _ => rfl)) (fun _ => rfl)) (fun _ => rfl)) (by kernel_rfl) (fun _ => rfl) (fun _ => rfl)) se_bl rfl) (sss_one (ss_ret (se_s (by kernel_rfl)))) sss_nil)
 (sss_one (ss_ret (se_if (st_cmp so_eq (se_v (by kernel_rfl)) (se_ix (se_fld x.cl_0 x.na_0_kept_things (se_v (by kernel_rfl)) (fun _ => rfl)) (se_neg se_int) (fun _ _ => rfl)) rfl) (se_s (by kernel_rfl)) se_non)))))
theorem b5 (x : Fx S) (w : W S lv rt) : SSs S ⟨N5, defScope (top 18), fun _ => true, false⟩ lv rt (defBody (top 18)) m5 :=
 (sss_one (ss_ret (se_and (se_isi (by decide) x.no_isinstance (by kernel_rfl) (se_v (by kernel_rfl)) x.no_tuple (by kernel_rfl) (by kernel_rfl) (by decide +kernel) (by kernel_rfl) (fun _ => rfl) (fun _ => rfl)) (se_and (se_bf sc_all x.no_all (by kernel_rfl) (by kernel_rfl) (sa_cons (se_lc (own := [("one", 1)]) (by kernel_rfl) (si_seq (se_v (by kernel_rfl))) (sg_n (by kernel_rfl) (by decide)) sts_nil (se_call w.f_2_1 x.mg_is_letter (by kernel_rfl) (sa_cons (se_v (by kernel_rfl)) sa_nil (fun _ => rfl)) (by kernel_rfl) (fun _ => rfl) (fun _ => rfl)) (fun _ _ => rfl)) sa_nil (fun _ => rfl)) (by decide +kernel) (by kernel_rfl) (fun _ => rfl) (fun _ => rfl)) (se_one (se_call w.f_4_1 x.mg_is_rising_row (by kernel_rfl) (sa_cons (se_v (by kernel_rfl)) sa_nil (fun _ => rfl)) (by kernel_rfl) (fun _ => rfl) (fun _ => rfl)))))))
theorem b64 (x : Fx S) (w : W S lv rt) : SSs S ⟨N64, defScope (mem 91 13), fun _ => true, false⟩ lv rt (defBody (mem 91 13)) m64 :=
 (sss_one (ss_ret (se_call w.f_49_3 x.mg_reason_of (by kernel_rfl) (sa_cons (se_ix (se_fld x.cl_1 x.na_1_stands (se_v (by kernel_rfl)) (fun _ => rfl)) (se_neg se_int) (fun _ _ => rfl)) (sa_cons (se_v (by kernel_rfl)) (sa_cons (se_cmp so_ge (se_bf sc_len x.no_len (by kernel_rfl) (by kernel_rfl) (sa_cons (se_fld x.cl_1 x.na_1_given (se_v (by kernel_rfl)) (fun _ => rfl)) sa_nil (fun _ => rfl)) (by decide +kernel) (by kernel_rfl) (fun _ => rfl) (fun _ => rfl)) (se_cval (se_g (gle_cl x.mg_Trial) (by kernel_rfl) (by kernel_rfl)) x.cv_1_MOST.1 x.cv_1_MOST.2.choose_spec (fun _ _ => rv_i _) (fun _ => rfl)) rfl) sa_nil (fun _ => rfl)) (fun _ => rfl)) (fun _ => rfl)) (by kernel_rfl) (fun _ => rfl) (fun _ => rfl))))
theorem b77 (x : Fx S) (w : W S lv rt) : SSs S ⟨N77, defScope (top 97), fun _ => true, false⟩ lv rt (defBody (top 97)) m77 :=
 (sss_one (ss_ret (se_if (st_cmp so_is (se_v (by kernel_rfl)) se_non rfl) se_non (se_bm (fun _ ok _ _ _ _ _ rl rv e => isStr_ok rv e) PySem.F.plainAttrs_str PySem.F.slot_str_join PySem.F.type_str_join sm_join (se_s (by kernel_rfl)) (sa_cons (se_lc (own := [("_law_sign", 2)]) (by kernel_rfl) (si_seq (se_v (by kernel_rfl))) (sg_n (by kernel_rfl) (by decide)) sts_nil (se_ix (se_v (by kernel_rfl)) (se_v (by kernel_rfl)) (fun _ _ => rfl)) (fun _ _ => rfl)) sa_nil (fun _ => rfl)) (fun _ => rfl) (fun _ => rfl) rfl (fun _ => rfl) (fun _ => rfl)))))
theorem b6 (x : Fx S) (w : W S lv rt) : SSs S ⟨N6, defScope (top 19), fun _ => true, false⟩ lv rt (defBody (top 19)) m6 :=
 (sss_one (ss_ret (se_and (se_isi (by decide) x.no_isinstance (by kernel_rfl) (se_v (by kernel_rfl)) x.no_tuple (by kernel_rfl) (by kernel_rfl) (by decide +kernel) (by kernel_rfl) (fun _ => rfl) (fun _ => rfl)) (se_one (se_cmp so_eq (se_bf sc_len x.no_len (by kernel_rfl) (by kernel_rfl) (sa_cons (se_v (by kernel_rfl)) sa_nil (fun _ => rfl)) (by decide +kernel) (by kernel_rfl) (fun _ => rfl) (fun _ => rfl)) se_int rfl)))))
theorem b68 (x : Fx S) (w : W S lv rt) : SSs S ⟨N68, defScope (mem 91 18), fun _ => true, false⟩ lv rt (defBody (mem 91 18)) m68 :=
 (sss_one (ss_ret (se_meth x.cl_1 x.me_1_go w.f_66_2 (se_v (by kernel_rfl)) (sa_cons (se_tup (sa_cons (se_s (by kernel_rfl)) (sa_cons (se_v (by kernel_rfl)) (sa_cons (se_v (by kernel_rfl)) sa_nil (fun _ => rfl)) (fun _ => rfl)) (fun _ => rfl))) sa_nil (fun _ => rfl)) (fun _ => rfl) (fun _ => rfl) (fun _ => rfl))))
theorem b8 (x : Fx S) (w : W S lv rt) : SSs S ⟨N8, defScope (top 21), fun _ => true, false⟩ lv rt (defBody (top 21)) m8 :=
 (sss_one (ss_ret (se_and (se_isi (by decide) x.no_isinstance (by kernel_rfl) (se_v (by kernel_rfl)) x.no_str (by kernel_rfl) (by kernel_rfl) (by decide +kernel) (by kernel_rfl) (fun _ => rfl) (fun _ => rfl)) (se_one (se_cmp so_in (se_v (by kernel_rfl)) (se_g x.gl_SIDES (by kernel_rfl) (by kernel_rfl)) rfl)))))
theorem b57 (x : Fx S) (w : W S lv rt) : SSs S ⟨N57, defScope (mem 91 4), fun _ => true, false⟩ lv rt (defBody (mem 91 4)) m57 :=
 (sss_one (ss_ret (se_ix (se_fld x.cl_0 x.na_0_kept_things (se_ix (se_fld x.cl_1 x.na_1_stands (se_v (by kernel_rfl)) (fun _ => rfl)) (se_neg se_int) (fun _ _ => rfl)) (fun _ => rfl)) (se_neg se_int) (fun _ _ => rfl))))
end
end K70
namespace K70
open PySem PySem.Spec L2 Den
section
variable {S : Sy} {lv : Nat} {rt : Rt}
theorem b83 (x : Fx S) (w : W S lv rt) : SSs S ⟨N83, defScope (top 103), fun _ => true, true⟩ lv rt (defBody (top 103)) m83 :=
 (sss_cons (ss_st (by kernel_rfl) (se_call w.f_78_2 x.mg__law_book (by kernel_rfl) (sa_cons (se_v (by kernel_rfl)) (sa_cons (se_tup (sa_cons (se_tup (sa_cons (se_s (by kernel_rfl)) (sa_cons se_int (sa_cons (se_s (by kernel_rfl)) sa_nil (fun _ => rfl)) (fun _ => rfl)) (fun _ => rfl))) sa_nil (fun _ => rfl))) sa_nil (fun _ => rfl)) (fun _ => rfl)) (by kernel_rfl) (fun _ => rfl) (fun _ => rfl)) (fun _ _ => rfl))
 (sss_cons (ss_lc (own := [("_law_x", 5)]) (by kernel_rfl) (by kernel_rfl) (sw_lc (by kernel_rfl) (by kernel_rfl) (by kernel_rfl) (by kernel_rfl)) (by kernel_rfl) (si_seq (se_tup (sa_cons (se_s (by kernel_rfl)) (sa_cons (se_s (by kernel_rfl)) (sa_cons (se_s (by kernel_rfl)) (sa_cons (se_s (by kernel_rfl)) (sa_cons (se_s (by kernel_rfl)) (sa_cons (se_s (by kernel_rfl)) sa_nil (fun _ => rfl)) (fun _ => rfl)) (fun _ => rfl)) (fun _ => rfl)) (fun _ => rfl)) (fun _ => rfl)))) (sg_n (by kernel_rfl) (by decide)) sts_nil (se_call w.f_77_2 x.mg__law_turned (by kernel_rfl) (sa_cons (se_v (by kernel_rfl)) (sa_cons (se_v (by kernel_rfl)) sa_nil (fun _ => rfl)) (fun _ => rfl)) (by kernel_rfl) (fun _ => rfl) (fun _ => rfl)) (fun _ _ => rfl))
 (sss_cons (ss_st (by kernel_rfl) (se_make x.mk_1 w.f_56_3 x.mg_Trial (by kernel_rfl) (sa_cons (se_v (by kernel_rfl)) (sa_cons (se_ix (se_v (by kernel_rfl)) se_int (fun _ _ => rfl)) sa_nil (fun _ => rfl)) (fun _ => rfl)) (by kernel_rfl) (fun _ => rfl) (fun _ => rfl)) (fun _ _ => rfl))
 (sss_cons (ss_st (by kernel_rfl) (se_lst (sa_cons (se_meth x.cl_1 x.me_1_answer w.f_67_2 (se_v (by kernel_rfl)) (sa_cons se_bl sa_nil (fun _ => rfl)) (fun _ => rfl) (fun _ => rfl) (fun _ => rfl)) (sa_cons (se_meth x.cl_1 x.me_1_add_rule w.f_69_3 (se_v (by kernel_rfl)) (sa_cons (se_tup (sa_cons (se_s (by kernel_rfl)) (sa_cons (se_s (by kernel_rfl)) sa_nil (fun _ => rfl)) (fun _ => rfl))) (sa_cons se_int sa_nil (fun _ => rfl)) (fun _ => rfl)) (fun _ => rfl) (fun _ => rfl) (fun _ => rfl)) (sa_cons (se_meth x.cl_1 x.me_1_answer w.f_67_2 (se_v (by kernel_rfl)) (sa_cons se_bl sa_nil (fun _ => rfl)) (fun _ => rfl) (fun _ => rfl) (fun _ => rfl)) (sa_cons (se_meth x.cl_1 x.me_1_take_rule w.f_70_2 (se_v (by kernel_rfl)) (sa_cons se_int sa_nil (fun _ => rfl)) (fun _ => rfl) (fun _ => rfl) (fun _ => rfl)) sa_nil (fun _ => rfl)) (fun _ => rfl)) (fun _ => rfl)) (fun _ => rfl))) (fun _ _ => rfl))
 (sss_cons (ss_if (st_not (st_val (se_callG rfl w.g_76_2 x.mg__law_same (by kernel_rfl) (sa_cons (se_v (by kernel_rfl)) (sa_cons (se_lst (sa_cons (se_ix (se_v (by kernel_rfl)) se_int (fun _ _ => rfl)) (sa_cons (se_ix (se_v (by kernel_rfl)) se_int (fun _ _ => rfl)) (sa_cons (se_ix (se_v (by kernel_rfl)) se_int (fun _ _ => rfl)) (sa_cons se_non sa_nil (fun _ => rfl)) (fun _ => rfl)) (fun _ => rfl)) (fun _ => rfl))) sa_nil (fun _ => rfl)) (fun _ => rfl)) (by kernel_rfl) (fun _ => rfl) (fun _ => rfl)) (fun _ _ => rfl))) (sss_one (ss_ret se_bl)) sss_nil)
 (sss_cons (ss_st (by kernel_rfl) (se_lst (sa_cons (se_prop x.cl_1 x.pr_1_steps_now.choose_spec w.f_59_1 (se_v (by kernel_rfl)) (fun _ => rfl)) (sa_cons (se_prop x.cl_1 x.pr_1_walk_now.choose_spec w.f_60_1 (se_v (by kernel_rfl)) (fun _ => rfl)) (sa_cons (se_meth x.cl_1 x.me_1_start w.f_71_2 (se_v (by kernel_rfl)) (sa_cons (se_ix (se_v (by kernel_rfl)) se_int (fun _ _ => rfl)) sa_nil (fun _ => rfl)) (fun _ => rfl) (fun _ => rfl) (fun _ => rfl)) (sa_cons (se_prop x.cl_1 x.pr_1_walk_now.choose_spec w.f_60_1 (se_v (by kernel_rfl)) (fun _ => rfl)) (sa_cons (se_ownIx x.me_1___getitem__ x.fi_72 w.f_72_2 (se_v (by kernel_rfl)) (se_ix (se_v (by kernel_rfl)) se_int (fun _ _ => rfl)) (fun _ _ => rfl)) (sa_cons (se_prop x.cl_1 x.pr_1_tries_now.choose_spec w.f_61_1 (se_v (by kernel_rfl)) (fun _ => rfl)) sa_nil (fun _ => rfl)) (fun _ => rfl)) (fun _ => rfl)) (fun _ => rfl)) (fun _ => rfl)) (fun _ => rfl))) (fun _ _ => rfl))
 (sss_one (ss_ret (se_callG rfl w.g_76_2 x.mg__law_same (by kernel_rfl) (sa_cons (se_v (by kernel_rfl)) (sa_cons (se_lst (sa_cons (se_tup sa_nil) (sa_cons (se_tup (sa_cons (se_ix (se_v (by kernel_rfl)) se_int (fun _ _ => rfl)) (sa_cons (se_ix (se_v (by kernel_rfl)) se_int (fun _ _ => rfl)) sa_nil (fun _ => rfl)) (fun _ => rfl))) (sa_cons (se_ix (se_v (by kernel_rfl)) se_int (fun _ _ => rfl)) (sa_cons (se_tup (sa_cons (se_ix (se_v (by kernel_rfl)) se_int (fun _ _ => rfl)) sa_nil (fun _ => rfl))) (sa_cons se_bl (sa_cons se_int sa_nil (fun _ => rfl)) (fun _ => rfl)) (fun _ => rfl)) (fun _ => rfl)) (fun _ => rfl)) (fun _ => rfl))) sa_nil (fun _ => rfl)) (fun _ => rfl)) (by kernel_rfl) (fun _ => rfl) (fun _ => rfl))))))))))
theorem b24 (x : Fx S) (w : W S lv rt) : SSs S ⟨N24, defScope (top 41), fun _ => true, false⟩ lv rt (defBody (top 41)) m24 :=
 (sss_cons (ss_expr (se_call w.f_18_3 x.mg_want_thing (by kernel_rfl) (sa_cons (se_s (by kernel_rfl)) (sa_cons (se_v (by kernel_rfl)) (sa_cons (se_v (by kernel_rfl)) sa_nil (fun _ => rfl)) (fun _ => rfl)) (fun _ => rfl)) (by kernel_rfl) (fun _ => rfl) (fun _ => rfl)) (fun _ => rfl))
 (sss_cons (ss_st (by kernel_rfl) (se_ty sc_dict x.no_dict (by kernel_rfl) (by kernel_rfl) (sa_cons (se_ix (se_v (by kernel_rfl)) se_int (fun _ _ => rfl)) sa_nil (fun _ => rfl)) (by decide +kernel) (by kernel_rfl) (fun _ => rfl) (fun _ => rfl)) (fun _ _ => rfl))
 (sss_cons (ss_st (by kernel_rfl) (se_disp (spp_cons (se_v (by kernel_rfl)) se_bl spp_nil) rfl rfl (fun z => nomatch z) (by decide)) (fun _ _ => rfl))
 (sss_cons (ss_st (by kernel_rfl) (se_lst (sa_cons (se_v (by kernel_rfl)) sa_nil (fun _ => rfl))) (fun _ _ => rfl))
 (sss_cons (ss_while (st_cmp so_gt (se_bf sc_len x.no_len (by kernel_rfl) (by kernel_rfl) (sa_cons (se_v (by kernel_rfl)) sa_nil (fun _ => rfl)) (by decide +kernel) (by kernel_rfl) (fun _ => rfl) (fun _ => rfl)) se_int rfl) (sss_one (ss_for (ws := [5]) (si_seq (se_call w.f_23_2 x.mg_next_ones_below (by kernel_rfl) (sa_cons (se_v (by kernel_rfl)) (sa_cons (se_bm0 (fun _ ok _ _ _ _ _ rl rv e => isLst_ok ok rl rv e) PySem.F.plainAttrs_list PySem.F.slot_list_pop PySem.F.type_list_pop sm_pop (se_v (by kernel_rfl)) (fun _ => rfl) rfl) sa_nil (fun _ => rfl)) (fun _ => rfl)) (by kernel_rfl) (fun _ => rfl) (fun _ => rfl))) (sg_n (by kernel_rfl) (by decide)) (sss_one (ss_if (st_cmp so_notIn (se_v (by kernel_rfl)) (se_v (by kernel_rfl)) rfl) (sss_cons (ss_asg (ws := []) se_bl (sg_sub (se_v (by kernel_rfl)) (se_v (by kernel_rfl)) (fun _ _ => rfl)) (fun _ _ => rfl) (fun _ _ => rfl) (fun _ => rfl))
 (sss_one (ss_expr (se_bm (fun _ ok _ _ _ _ _ rl rv e => isLst_ok ok rl rv e) PySem.F.plainAttrs_list PySem.F.slot_list_append PySem.F.type_list_append sm_append (se_v (by kernel_rfl)) (sa_cons (se_v (by kernel_rfl)) sa_nil (fun _ => rfl)) (fun _ => rfl) (fun _ => rfl) rfl (fun _ => rfl) (fun _ => rfl)) (fun _ => rfl)))) sss_nil)) (fun _ _ => rfl))))
 (sss_one (ss_ret (se_ty sc_tuple x.no_tuple (by kernel_rfl) (by kernel_rfl) (sa_cons (se_bf sc_sorted x.no_sorted (by kernel_rfl) (by kernel_rfl) (sa_cons (se_ty sc_list x.no_list (by kernel_rfl) (by kernel_rfl) (sa_cons (se_v (by kernel_rfl)) sa_nil (fun _ => rfl)) (by decide +kernel) (by kernel_rfl) (fun _ => rfl) (fun _ => rfl)) sa_nil (fun _ => rfl)) (by decide +kernel) (by kernel_rfl) (fun _ => rfl) (fun _ => rfl)) sa_nil (fun _ => rfl)) (by decide +kernel) (by kernel_rfl) (fun _ => rfl) (fun _ => rfl)))))))))
theorem b49 (x : Fx S) (w : W S lv rt) : SSs S ⟨N49, defScope (top 83), fun _ => true, false⟩ lv rt (defBody (top 83)) m49 :=
 (sss_cons (ss_if (st_not (st_val (se_call w.f_39_1 x.mg_is_event (by kernel_rfl) (sa_cons (se_v (by kernel_rfl)) sa_nil (fun _ => rfl)) (by kernel_rfl) (fun _ => rfl) (fun _ => rfl)) (fun _ _ => rfl))) (sss_one (ss_ret (se_s (by kernel_rfl)))) sss_nil)
 (sss_cons (ss_if (st_val (se_v (by kernel_rfl)) (fun _ _ => rfl)) (sss_one (ss_ret (se_s (by kernel_rfl)))) sss_nil)
 (sss_one (ss_match (se_ix (se_v (by kernel_rfl)) se_int (fun _ _ => rfl)) (scs_val (se_s (by kernel_rfl)) (sss_one (ss_ret (se_if (st_cmp so_is (se_fld x.cl_0 x.na_0_kept_question (se_v (by kernel_rfl)) (fun _ => rfl)) se_non rfl) (se_s (by kernel_rfl)) se_non))) (scs_val (se_s (by kernel_rfl)) (sss_one (ss_ret (se_call w.f_46_3 x.mg_told_reason (by kernel_rfl) (sa_cons (se_v (by kernel_rfl)) (sa_cons (se_ix (se_v (by kernel_rfl)) se_int (fun _ _ => rfl)) (sa_cons (se_ix (se_v (by kernel_rfl)) se_int (fun _ _ => rfl)) sa_nil (fun _ => rfl)) (fun _ => rfl)) (fun _ => rfl)) (by kernel_rfl) (fun _ => rfl) (fun _ => rfl)))) (scs_val (se_s (by kernel_rfl)) (sss_one (ss_ret (se_call w.f_47_2 x.mg_start_reason (by kernel_rfl) (sa_cons (se_v (by kernel_rfl)) (sa_cons (se_ix (se_v (by kernel_rfl)) se_int (fun _ _ => rfl)) sa_nil (fun _ => rfl)) (fun _ => rfl)) (by kernel_rfl) (fun _ => rfl) (fun _ => rfl)))) (scs_val (se_s (by kernel_rfl)) (sss_one (ss_ret (se_call w.f_48_3 x.mg_rule_reason (by kernel_rfl) (sa_cons (se_fld x.cl_0 x.na_0_kept_book (se_v (by kernel_rfl)) (fun _ => rfl)) (sa_cons (se_ix (se_v (by kernel_rfl)) se_int (fun _ _ => rfl)) (sa_cons (se_ix (se_v (by kernel_rfl)) se_int (fun _ _ => rfl)) sa_nil (fun _ => rfl)) (fun _ => rfl)) (fun _ => rfl)) (by kernel_rfl) (fun _ => rfl) (fun _ => rfl)))) (scs_val (se_s (by kernel_rfl)) (sss_one (ss_ret (se_if (st_cmp so_lt (se_ix (se_v (by kernel_rfl)) se_int (fun _ _ => rfl)) (se_bf sc_len x.no_len (by kernel_rfl) (by kernel_rfl) (sa_cons (se_ix (se_fld x.cl_0 x.na_0_kept_book (se_v (by kernel_rfl)) (fun _ => rfl)) se_int (fun _ _ => rfl)) sa_nil (fun _ => rfl)) (by decide +kernel) (by kernel_rfl) (fun _ => rfl) (fun _ => rfl)) rfl) se_non (se_s (by kernel_rfl))))) (scs_any (sss_one (ss_ret (se_if (st_cmp so_eq (se_ix (se_v (by kernel_rfl)) se_int (fun _ _ => rfl)) (se_fld x.cl_0 x.na_0_kept_manner (se_v (by kernel_rfl)) (fun _ => rfl)) rfl) (se_s (by kernel_rfl)) se_non)))))))))))))
theorem b65 (x : Fx S) (w : W S lv rt) : SSs S ⟨N65, defScope (mem 91 14), fun _ => true, false⟩ lv rt (defBody (mem 91 14)) m65 :=
 (sss_cons (ss_st (by kernel_rfl) (se_meth x.cl_1 x.me_1_barred w.f_64_2 (se_v (by kernel_rfl)) (sa_cons (se_v (by kernel_rfl)) sa_nil (fun _ => rfl)) (fun _ => rfl) (fun _ => rfl) (fun _ => rfl)) (fun _ _ => rfl))
 (sss_cons (ss_if (st_cmp so_isn (se_v (by kernel_rfl)) se_non rfl) (sss_one ss_bad) sss_nil)
 (sss_cons (ss_expr (se_bm (fun _ ok _ _ _ _ _ rl rv e => isLst_ok ok rl rv e) PySem.F.plainAttrs_list PySem.F.slot_list_append PySem.F.type_list_append sm_append (se_fld x.cl_1 x.na_1_stands (se_v (by kernel_rfl)) (fun _ => rfl)) (sa_cons (se_call w.f_52_2 x.mg_changed (by kernel_rfl) (sa_cons (se_ix (se_fld x.cl_1 x.na_1_stands (se_v (by kernel_rfl)) (fun _ => rfl)) (se_neg se_int) (fun _ _ => rfl)) (sa_cons (se_v (by kernel_rfl)) sa_nil (fun _ => rfl)) (fun _ => rfl)) (by kernel_rfl) (fun _ => rfl) (fun _ => rfl)) sa_nil (fun _ => rfl)) (fun _ => rfl) (fun _ => rfl) rfl (fun _ => rfl) (fun _ => rfl)) (fun _ => rfl))
 (sss_cons (ss_expr (se_bm (fun _ ok _ _ _ _ _ rl rv e => isLst_ok ok rl rv e) PySem.F.plainAttrs_list PySem.F.slot_list_append PySem.F.type_list_append sm_append (se_fld x.cl_1 x.na_1_given (se_v (by kernel_rfl)) (fun _ => rfl)) (sa_cons (se_v (by kernel_rfl)) sa_nil (fun _ => rfl)) (fun _ => rfl) (fun _ => rfl) rfl (fun _ => rfl) (fun _ => rfl)) (fun _ => rfl))
 (sss_one (ss_ret (se_prop x.cl_1 x.pr_1_question.choose_spec w.f_58_1 (se_v (by kernel_rfl)) (fun _ => rfl))))))))
theorem b28 (x : Fx S) (w : W S lv rt) : SSs S ⟨N28, defScope (top 59), fun _ => true, false⟩ lv rt (defBody (top 59)) m28 :=
 (sss_cons (ss_st (by kernel_rfl) (se_bf sc_max2 x.no_max (by kernel_rfl) (by kernel_rfl) (sa_cons se_int (sa_cons (se_bin so_add (se_bin so_sub (se_bf sc_len x.no_len (by kernel_rfl) (by kernel_rfl) (sa_cons (se_v (by kernel_rfl)) sa_nil (fun _ => rfl)) (by decide +kernel) (by kernel_rfl) (fun _ => rfl) (fun _ => rfl)) (se_ix (se_v (by kernel_rfl)) se_int (fun _ _ => rfl))) se_int) sa_nil (fun _ => rfl)) (fun _ => rfl)) (by decide +kernel) (by kernel_rfl) (fun _ => rfl) (fun _ => rfl)) (fun _ _ => rfl))
 (sss_one (ss_ret (se_lc (own := [("k", 3)]) (by kernel_rfl) (si_seq (se_call w.f_27_2 x.mg_places_of (by kernel_rfl) (sa_cons (se_v (by kernel_rfl)) (sa_cons (se_ix (se_v (by kernel_rfl)) se_int (fun _ _ => rfl)) sa_nil (fun _ => rfl)) (fun _ => rfl)) (by kernel_rfl) (fun _ => rfl) (fun _ => rfl))) (sg_n (by kernel_rfl) (by decide)) sts_nil (se_bin so_add (se_sl (se_v (by kernel_rfl)) sp_none (sp_some (se_v (by kernel_rfl)))) (se_sl (se_v (by kernel_rfl)) (sp_some (se_bin so_add (se_v (by kernel_rfl)) (se_ix (se_v (by kernel_rfl)) se_int (fun _ _ => rfl)))) sp_none)) (fun _ _ => rfl)))))
theorem b19 (x : Fx S) (w : W S lv rt) : SSs S ⟨N19, defScope (top 36), fun _ => true, false⟩ lv rt (defBody (top 36)) m19 :=
 (sss_cons (ss_st (by kernel_rfl) (se_ix (se_v (by kernel_rfl)) (se_v (by kernel_rfl)) (fun _ _ => rfl)) (fun _ _ => rfl))
 (sss_cons (ss_st (by kernel_rfl) (se_lc2 (vs1 := [5]) (own := [("other", 4), ("one", 5)]) (by kernel_rfl) (by decide) (si_seq (se_v (by kernel_rfl))) (sg_n (by kernel_rfl) (by decide)) sts_nil (si_seq (se_call w.f_10_2 x.mg_reached_letters (by kernel_rfl) (sa_cons (se_v (by kernel_rfl)) (sa_cons (se_v (by kernel_rfl)) sa_nil (fun _ => rfl)) (fun _ => rfl)) (by kernel_rfl) (fun _ => rfl) (fun _ => rfl))) (sg_n (by kernel_rfl) (by decide)) sts_nil (se_v (by kernel_rfl)) (fun _ _ => rfl) (fun _ _ => rfl)) (sw_lcC (by kernel_rfl)))
 (sss_one (ss_ret (se_lc (own := [("one", 5)]) (by kernel_rfl) (si_seq (se_v (by kernel_rfl))) (sg_n (by kernel_rfl) (by decide)) (sts_one (st_cmp so_notIn (se_v (by kernel_rfl)) (se_v (by kernel_rfl)) rfl)) (se_v (by kernel_rfl)) (fun _ _ => rfl))))))
theorem b41 (x : Fx S) (w : W S lv rt) : SSs S ⟨N41, defScope (top 75), fun _ => true, false⟩ lv rt (defBody (top 75)) m41 :=
 (sss_one (ss_ret (se_lc (own := [("k", 4), ("step", 5)]) (by kernel_rfl) (si_seq (se_call w.f_33_3 x.mg_steps_from (by kernel_rfl) (sa_cons (se_v (by kernel_rfl)) (sa_cons (se_v (by kernel_rfl)) (sa_cons (se_if (st_cmp so_eq (se_v (by kernel_rfl)) (se_s (by kernel_rfl)) rfl) (se_v (by kernel_rfl)) se_int) sa_nil (fun _ => rfl)) (fun _ => rfl)) (fun _ => rfl)) (by kernel_rfl) (fun _ => rfl) (fun _ => rfl))) (sg_tup (sgs_cons (sg_n (by kernel_rfl) (by decide)) (sgs_cons (sg_n (by kernel_rfl) (by decide)) sgs_nil (fun _ => rfl)) (fun _ => rfl)) rfl (fun _ => rfl) (gsl_cons (gsl_cons gsl_nil))) sts_nil (se_tup (sa_cons (se_v (by kernel_rfl)) (sa_cons (se_v (by kernel_rfl)) sa_nil (fun _ => rfl)) (fun _ => rfl))) (fun _ _ => rfl))))
theorem b12 (x : Fx S) (w : W S lv rt) : SSs S ⟨N12, defScope (top 25), fun _ => true, false⟩ lv rt (defBody (top 25)) m12 :=
 (sss_one (ss_ret (se_or (se_cmp so_ne (se_ix (se_v (by kernel_rfl)) se_int (fun _ _ => rfl)) (se_s (by kernel_rfl)) rfl) (se_one (se_bf sc_all x.no_all (by kernel_rfl) (by kernel_rfl) (sa_cons (se_lc (own := [("letter", 2)]) (by kernel_rfl) (si_seq (se_bin so_add (se_ix (se_v (by kernel_rfl)) se_int (fun _ _ => rfl)) (se_ix (se_v (by kernel_rfl)) se_int (fun _ _ => rfl)))) (sg_n (by kernel_rfl) (by decide)) sts_nil (se_cmp so_in (se_v (by kernel_rfl)) (se_v (by kernel_rfl)) rfl) (fun _ _ => rfl)) sa_nil (fun _ => rfl)) (by decide +kernel) (by kernel_rfl) (fun _ => rfl) (fun _ => rfl))))))
theorem b26 (x : Fx S) (w : W S lv rt) : SSs S ⟨N26, defScope (top 56), fun _ => true, false⟩ lv rt (defBody (top 56)) m26 :=
 (sss_one (ss_expr (se_call w.f_25_2 x.mg_want_stepusable (by kernel_rfl) (sa_cons (se_and (se_isi (by decide) x.no_isinstance (by kernel_rfl) (se_v (by kernel_rfl)) x.no_str (by kernel_rfl) (by kernel_rfl) (by decide +kernel) (by kernel_rfl) (fun _ => rfl) (fun _ => rfl)) (se_one (se_cmp so_in (se_v (by kernel_rfl)) (se_g x.gl_MANNERS (by kernel_rfl) (by kernel_rfl)) rfl))) (sa_cons (se_s (by kernel_rfl)) sa_nil (fun _ => rfl)) (fun _ => rfl)) (by kernel_rfl) (fun _ => rfl) (fun _ => rfl)) (fun _ => rfl)))
theorem b0 (x : Fx S) (w : W S lv rt) : SSs S ⟨N0, defScope (top 13), fun _ => true, false⟩ lv rt (defBody (top 13)) m0 :=
 (sss_one (ss_ret (se_and (se_isi (by decide) x.no_isinstance (by kernel_rfl) (se_v (by kernel_rfl)) x.no_int (by kernel_rfl) (by kernel_rfl) (by decide +kernel) (by kernel_rfl) (fun _ => rfl) (fun _ => rfl)) (se_one (se_not (se_isi (by decide) x.no_isinstance (by kernel_rfl) (se_v (by kernel_rfl)) x.no_bool (by kernel_rfl) (by kernel_rfl) (by decide +kernel) (by kernel_rfl) (fun _ => rfl) (fun _ => rfl)))))))
theorem b71 (x : Fx S) (w : W S lv rt) : SSs S ⟨N71, defScope (mem 91 21), fun _ => true, false⟩ lv rt (defBody (mem 91 21)) m71 :=
 (sss_one (ss_ret (se_meth x.cl_1 x.me_1_go w.f_66_2 (se_v (by kernel_rfl)) (sa_cons (se_tup (sa_cons (se_s (by kernel_rfl)) (sa_cons (se_v (by kernel_rfl)) sa_nil (fun _ => rfl)) (fun _ => rfl))) sa_nil (fun _ => rfl)) (fun _ => rfl) (fun _ => rfl) (fun _ => rfl))))
theorem b61 (x : Fx S) (w : W S lv rt) : SSs S ⟨N61, defScope (mem 91 8), fun _ => true, false⟩ lv rt (defBody (mem 91 8)) m61 :=
 (sss_one (ss_ret (se_fld x.cl_0 x.na_0_kept_tries (se_ix (se_fld x.cl_1 x.na_1_stands (se_v (by kernel_rfl)) (fun _ => rfl)) (se_neg se_int) (fun _ _ => rfl)) (fun _ => rfl))))
theorem b15 (x : Fx S) (w : W S lv rt) : SSs S ⟨N15, defScope (top 30), fun _ => true, false⟩ lv rt (defBody (top 30)) m15 :=
 (sss_one (ss_if (st_not (st_val (se_v (by kernel_rfl)) (fun _ _ => rfl))) (sss_one ss_bad) sss_nil))
end
end K70
namespace K70
open PySem PySem.Spec L2 Den
section
variable {S : Sy} {lv : Nat} {rt : Rt}
theorem b81 (x : Fx S) (w : W S lv rt) : SSs S ⟨N81, defScope (top 101), fun _ => true, true⟩ lv rt (defBody (top 101)) m81 :=
 (sss_cons (ss_st (by kernel_rfl) (se_call w.f_78_2 x.mg__law_book (by kernel_rfl) (sa_cons (se_v (by kernel_rfl)) (sa_cons (se_tup (sa_cons (se_tup (sa_cons (se_s (by kernel_rfl)) (sa_cons se_int (sa_cons (se_s (by kernel_rfl)) sa_nil (fun _ => rfl)) (fun _ => rfl)) (fun _ => rfl))) (sa_cons (se_tup (sa_cons (se_s (by kernel_rfl)) (sa_cons (se_s (by kernel_rfl)) sa_nil (fun _ => rfl)) (fun _ => rfl))) sa_nil (fun _ => rfl)) (fun _ => rfl))) sa_nil (fun _ => rfl)) (fun _ => rfl)) (by kernel_rfl) (fun _ => rfl) (fun _ => rfl)) (fun _ _ => rfl))
 (sss_cons (ss_lc (own := [("_law_x", 5)]) (by kernel_rfl) (by kernel_rfl) (sw_lc (by kernel_rfl) (by kernel_rfl) (by kernel_rfl) (by kernel_rfl)) (by kernel_rfl) (si_seq (se_tup (sa_cons (se_s (by kernel_rfl)) (sa_cons (se_s (by kernel_rfl)) (sa_cons (se_s (by kernel_rfl)) (sa_cons (se_s (by kernel_rfl)) (sa_cons (se_s (by kernel_rfl)) sa_nil (fun _ => rfl)) (fun _ => rfl)) (fun _ => rfl)) (fun _ => rfl)) (fun _ => rfl)))) (sg_n (by kernel_rfl) (by decide)) sts_nil (se_call w.f_77_2 x.mg__law_turned (by kernel_rfl) (sa_cons (se_v (by kernel_rfl)) (sa_cons (se_v (by kernel_rfl)) sa_nil (fun _ => rfl)) (fun _ => rfl)) (by kernel_rfl) (fun _ => rfl) (fun _ => rfl)) (fun _ _ => rfl))
 (sss_cons (ss_st (by kernel_rfl) (se_makeK x.mk_1 w.k_56_3 x.mg_Trial (by kernel_rfl) (sa_cons (se_v (by kernel_rfl)) (sa_cons (se_ix (se_v (by kernel_rfl)) se_int (fun _ _ => rfl)) sa_nil (fun _ => rfl)) (fun _ => rfl)) (sk_cons (se_s (by kernel_rfl)) sk_nil) (al_cons (al_cons al_nil)) (al_cons al_nil) (fun _ => rfl) (fun _ => rfl) (by kernel_rfl) (fun _ => rfl) (fun _ => rfl)) (fun _ _ => rfl))
 (sss_cons (ss_st (by kernel_rfl) (se_lst (sa_cons (se_prop x.cl_1 x.pr_1_question.choose_spec w.f_58_1 (se_v (by kernel_rfl)) (fun _ => rfl)) (sa_cons (se_meth x.cl_1 x.me_1_told w.f_68_3 (se_v (by kernel_rfl)) (sa_cons (se_ix (se_v (by kernel_rfl)) se_int (fun _ _ => rfl)) (sa_cons se_bl sa_nil (fun _ => rfl)) (fun _ => rfl)) (fun _ => rfl) (fun _ => rfl) (fun _ => rfl)) (sa_cons (se_meth x.cl_1 x.me_1_told w.f_68_3 (se_v (by kernel_rfl)) (sa_cons (se_ix (se_v (by kernel_rfl)) se_int (fun _ _ => rfl)) (sa_cons se_bl sa_nil (fun _ => rfl)) (fun _ => rfl)) (fun _ => rfl) (fun _ => rfl) (fun _ => rfl)) (sa_cons (se_ownIx x.me_1___getitem__ x.fi_72 w.f_72_2 (se_v (by kernel_rfl)) (se_ix (se_v (by kernel_rfl)) se_int (fun _ _ => rfl)) (fun _ _ => rfl)) (sa_cons (se_ownIx x.me_1___getitem__ x.fi_72 w.f_72_2 (se_v (by kernel_rfl)) (se_s (by kernel_rfl)) (fun _ _ => rfl)) sa_nil (fun _ => rfl)) (fun _ => rfl)) (fun _ => rfl)) (fun _ => rfl)) (fun _ => rfl))) (fun _ _ => rfl))
 (sss_cons (ss_if (st_not (st_val (se_callG rfl w.g_76_2 x.mg__law_same (by kernel_rfl) (sa_cons (se_v (by kernel_rfl)) (sa_cons (se_lst (sa_cons (se_ix (se_v (by kernel_rfl)) se_int (fun _ _ => rfl)) (sa_cons (se_ix (se_v (by kernel_rfl)) se_int (fun _ _ => rfl)) (sa_cons (se_ix (se_v (by kernel_rfl)) se_int (fun _ _ => rfl)) (sa_cons se_bl (sa_cons se_bl sa_nil (fun _ => rfl)) (fun _ => rfl)) (fun _ => rfl)) (fun _ => rfl)) (fun _ => rfl))) sa_nil (fun _ => rfl)) (fun _ => rfl)) (by kernel_rfl) (fun _ => rfl) (fun _ => rfl)) (fun _ _ => rfl))) (sss_one (ss_ret se_bl)) sss_nil)
 (sss_cons (ss_st (by kernel_rfl) (se_lst (sa_cons (se_meth x.cl_1 x.me_1_answer w.f_67_2 (se_v (by kernel_rfl)) (sa_cons se_bl sa_nil (fun _ => rfl)) (fun _ => rfl) (fun _ => rfl) (fun _ => rfl)) (sa_cons (se_prop x.cl_1 x.pr_1_question.choose_spec w.f_58_1 (se_v (by kernel_rfl)) (fun _ => rfl)) (sa_cons (se_call w.f_79_1 x.mg__law_state (by kernel_rfl) (sa_cons (se_v (by kernel_rfl)) sa_nil (fun _ => rfl)) (by kernel_rfl) (fun _ => rfl) (fun _ => rfl)) sa_nil (fun _ => rfl)) (fun _ => rfl)) (fun _ => rfl))) (fun _ _ => rfl))
 (sss_one (ss_ret (se_callG rfl w.g_76_2 x.mg__law_same (by kernel_rfl) (sa_cons (se_v (by kernel_rfl)) (sa_cons (se_lst (sa_cons se_non (sa_cons se_non (sa_cons (se_lst (sa_cons (se_ix (se_v (by kernel_rfl)) se_int (fun _ _ => rfl)) (sa_cons se_non (sa_cons (se_tup (sa_cons (se_ix (se_v (by kernel_rfl)) se_int (fun _ _ => rfl)) (sa_cons (se_ix (se_v (by kernel_rfl)) se_int (fun _ _ => rfl)) sa_nil (fun _ => rfl)) (fun _ => rfl))) (sa_cons se_int sa_nil (fun _ => rfl)) (fun _ => rfl)) (fun _ => rfl)) (fun _ => rfl))) sa_nil (fun _ => rfl)) (fun _ => rfl)) (fun _ => rfl))) sa_nil (fun _ => rfl)) (fun _ => rfl)) (by kernel_rfl) (fun _ => rfl) (fun _ => rfl))))))))))
theorem b13 (x : Fx S) (w : W S lv rt) : SSs S ⟨N13, defScope (top 26), fun _ => true, false⟩ lv rt (defBody (top 26)) m13 :=
 (sss_cons (ss_if (st_w (stw_or (st_not (st_val (se_call w.f_6_1 x.mg_is_pair (by kernel_rfl) (sa_cons (se_v (by kernel_rfl)) sa_nil (fun _ => rfl)) (by kernel_rfl) (fun _ => rfl) (fun _ => rfl)) (fun _ _ => rfl))) (stw_or (st_not (st_val (se_isi (by decide) x.no_isinstance (by kernel_rfl) (se_ix (se_v (by kernel_rfl)) se_int (fun _ _ => rfl)) x.no_tuple (by kernel_rfl) (by kernel_rfl) (by decide +kernel) (by kernel_rfl) (fun _ => rfl) (fun _ => rfl)) (fun _ _ => rfl))) (stw_or1 (st_not (st_val (se_isi (by decide) x.no_isinstance (by kernel_rfl) (se_ix (se_v (by kernel_rfl)) se_int (fun _ _ => rfl)) x.no_tuple (by kernel_rfl) (by kernel_rfl) (by decide +kernel) (by kernel_rfl) (fun _ => rfl) (fun _ => rfl)) (fun _ _ => rfl))))))) (sss_one (ss_ret (se_tup (sa_cons (se_s (by kernel_rfl)) (sa_cons (se_neg se_int) sa_nil (fun _ => rfl)) (fun _ => rfl))))) sss_nil)
 (sss_cons (ss_st (by kernel_rfl) (se_call w.f_11_1 x.mg_letters_fault (by kernel_rfl) (sa_cons (se_ix (se_v (by kernel_rfl)) se_int (fun _ _ => rfl)) sa_nil (fun _ => rfl)) (by kernel_rfl) (fun _ => rfl) (fun _ => rfl)) (fun _ _ => rfl))
 (sss_cons (ss_if (st_cmp so_isn (se_v (by kernel_rfl)) se_non rfl) (sss_one (ss_ret (se_v (by kernel_rfl)))) sss_nil)
 (sss_cons (ss_lc (own := [("letter", 5), ("lessers", 6)]) (by kernel_rfl) (by kernel_rfl) (sw_lc (by kernel_rfl) (by kernel_rfl) (by kernel_rfl) (by kernel_rfl)) (by kernel_rfl) (si_seq (se_ix (se_v (by kernel_rfl)) se_int (fun _ _ => rfl))) (sg_tup (sgs_cons (sg_n (by kernel_rfl) (by decide)) (sgs_cons (sg_n (by kernel_rfl) (by decide)) sgs_nil (fun _ => rfl)) (fun _ => rfl)) rfl (fun _ => rfl) (gsl_cons (gsl_cons gsl_nil))) sts_nil (se_v (by kernel_rfl)) (fun _ _ => rfl))
 (sss_cons (ss_for (ws := [3, 4]) (si_enum (fun _ ok => ok.gl (by kernel_rfl)) x.no_enumerate (se_ix (se_v (by kernel_rfl)) se_int (fun _ _ => rfl)) (fun _ => rfl) (fun _ => rfl)) (sg_tup (sgs_cons (sg_n (by kernel_rfl) (by decide)) (sgs_cons (sg_n (by kernel_rfl) (by decide)) sgs_nil (fun _ => rfl)) (fun _ => rfl)) rfl (fun _ => rfl) (gsl_cons (gsl_cons gsl_nil))) (sss_one (ss_if (st_w (stw_or (st_not (st_val (se_call w.f_9_1 x.mg_is_rule (by kernel_rfl) (sa_cons (se_v (by kernel_rfl)) sa_nil (fun _ => rfl)) (by kernel_rfl) (fun _ => rfl) (fun _ => rfl)) (fun _ _ => rfl))) (stw_or1 (st_not (st_val (se_call w.f_12_2 x.mg_are_letters_known (by kernel_rfl) (sa_cons (se_v (by kernel_rfl)) (sa_cons (se_v (by kernel_rfl)) sa_nil (fun _ => rfl)) (fun _ => rfl)) (by kernel_rfl) (fun _ => rfl) (fun _ => rfl)) (fun _ _ => rfl)))))) (sss_one (ss_ret (se_tup (sa_cons (se_s (by kernel_rfl)) (sa_cons (se_v (by kernel_rfl)) sa_nil (fun _ => rfl)) (fun _ => rfl))))) sss_nil)) (fun _ _ => rfl))
 (sss_one (ss_ret se_non)))))))
theorem b50 (x : Fx S) (w : W S lv rt) : SSs S ⟨N50, defScope (top 84), fun _ => true, false⟩ lv rt (defBody (top 84)) m50 :=
 (sss_cons (ss_asg (ws := [3, 4]) (se_fld x.cl_0 x.na_0_kept_question (se_v (by kernel_rfl)) (fun _ => rfl)) (sg_tup (sgs_cons (sg_n (by kernel_rfl) (by decide)) (sgs_cons (sg_n (by kernel_rfl) (by decide)) sgs_nil (fun _ => rfl)) (fun _ => rfl)) rfl (fun _ => rfl) (gsl_cons (gsl_cons gsl_nil))) (fun _ _ => rfl) (fun _ _ => rfl) (fun _ => rfl))
 (sss_cons (ss_st (by kernel_rfl) (se_tup (sa_star (se_fld x.cl_0 x.na_0_kept_told (se_v (by kernel_rfl)) (fun _ => rfl)) (sa_cons (se_tup (sa_cons (se_v (by kernel_rfl)) (sa_cons (se_v (by kernel_rfl)) sa_nil (fun _ => rfl)) (fun _ => rfl))) sa_nil (fun _ => rfl)) (fun _ => rfl))) (fun _ _ => rfl))
 (sss_cons (ss_asg (ws := [5, 6]) (se_if (st_val (se_v (by kernel_rfl)) (fun _ _ => rfl)) (se_tup (sa_cons (se_tup (sa_star (se_fld x.cl_0 x.na_0_kept_things (se_v (by kernel_rfl)) (fun _ => rfl)) (sa_cons (se_v (by kernel_rfl)) sa_nil (fun _ => rfl)) (fun _ => rfl))) (sa_cons (se_v (by kernel_rfl)) sa_nil (fun _ => rfl)) (fun _ => rfl))) (se_tup (sa_cons (se_fld x.cl_0 x.na_0_kept_things (se_v (by kernel_rfl)) (fun _ => rfl)) (sa_cons (se_fld x.cl_0 x.na_0_kept_rule (se_v (by kernel_rfl)) (fun _ => rfl)) sa_nil (fun _ => rfl)) (fun _ => rfl)))) (sg_tup (sgs_cons (sg_n (by kernel_rfl) (by decide)) (sgs_cons (sg_n (by kernel_rfl) (by decide)) sgs_nil (fun _ => rfl)) (fun _ => rfl)) rfl (fun _ => rfl) (gsl_cons (gsl_cons gsl_nil))) (fun _ _ => rfl) (fun _ _ => rfl) (fun _ => rfl))
 (sss_one (ss_ret (se_call w.f_44_1 x.mg_settled (by kernel_rfl) (sa_cons (se_make x.mk_0 w.f_40_7 x.mg_Stand (by kernel_rfl) (sa_cons (se_fld x.cl_0 x.na_0_kept_book (se_v (by kernel_rfl)) (fun _ => rfl)) (sa_cons (se_fld x.cl_0 x.na_0_kept_manner (se_v (by kernel_rfl)) (fun _ => rfl)) (sa_cons (se_v (by kernel_rfl)) (sa_cons (se_v (by kernel_rfl)) (sa_cons (se_v (by kernel_rfl)) (sa_cons (se_bin so_add (se_fld x.cl_0 x.na_0_kept_tries (se_v (by kernel_rfl)) (fun _ => rfl)) se_int) sa_nil (fun _ => rfl)) (fun _ => rfl)) (fun _ => rfl)) (fun _ => rfl)) (fun _ => rfl)) (fun _ => rfl)) (by kernel_rfl) (fun _ => rfl) (fun _ => rfl)) sa_nil (fun _ => rfl)) (by kernel_rfl) (fun _ => rfl) (fun _ => rfl)))))))
theorem b34 (x : Fx S) (w : W S lv rt) : SSs S ⟨N34, defScope (top 65), fun _ => true, false⟩ lv rt (defBody (top 65)) m34 :=
 (sss_cons (ss_dc (own := [("own", 6), ("less", 5)]) (by kernel_rfl) (by kernel_rfl) (sw_dc (by kernel_rfl) (by kernel_rfl) (by kernel_rfl) (by kernel_rfl)) (by kernel_rfl) (si_seq (se_ix (se_v (by kernel_rfl)) se_int (fun _ _ => rfl))) (sg_tup (sgs_cons (sg_n (by kernel_rfl) (by decide)) (sgs_cons (sg_n (by kernel_rfl) (by decide)) sgs_nil (fun _ => rfl)) (fun _ => rfl)) rfl (fun _ => rfl) (gsl_cons (gsl_cons gsl_nil))) sts_nil (se_v (by kernel_rfl)) (se_v (by kernel_rfl)) (fun _ _ => rfl))
 (sss_cons (ss_st (by kernel_rfl) (se_ty sc_list x.no_list (by kernel_rfl) (by kernel_rfl) (sa_cons (se_ix (se_v (by kernel_rfl)) (se_v (by kernel_rfl)) (fun _ _ => rfl)) sa_nil (fun _ => rfl)) (by decide +kernel) (by kernel_rfl) (fun _ => rfl) (fun _ => rfl)) (fun _ _ => rfl))
 (sss_cons (ss_st (by kernel_rfl) se_int (fun _ _ => rfl))
 (sss_cons (ss_while (st_cmp so_lt (se_v (by kernel_rfl)) (se_bf sc_len x.no_len (by kernel_rfl) (by kernel_rfl) (sa_cons (se_v (by kernel_rfl)) sa_nil (fun _ => rfl)) (by decide +kernel) (by kernel_rfl) (fun _ => rfl) (fun _ => rfl)) rfl) (sss_cons (ss_for (ws := [5]) (si_seq (se_ix (se_v (by kernel_rfl)) (se_ix (se_v (by kernel_rfl)) (se_v (by kernel_rfl)) (fun _ _ => rfl)) (fun _ _ => rfl))) (sg_n (by kernel_rfl) (by decide)) (sss_one (ss_if (st_cmp so_notIn (se_v (by kernel_rfl)) (se_v (by kernel_rfl)) rfl) (sss_one (ss_expr (se_bm (fun _ ok _ _ _ _ _ rl rv e => isLst_ok ok rl rv e) PySem.F.plainAttrs_list PySem.F.slot_list_append PySem.F.type_list_append sm_append (se_v (by kernel_rfl)) (sa_cons (se_v (by kernel_rfl)) sa_nil (fun _ => rfl)) (fun _ => rfl) (fun _ => rfl) rfl (fun _ => rfl) (fun _ => rfl)) (fun _ => rfl))) sss_nil)) (fun _ _ => rfl))
 (sss_one (ss_au (by kernel_rfl) so_iadd' se_int))))
 (sss_one (ss_ret (se_v (by kernel_rfl))))))))
theorem b22 (x : Fx S) (w : W S lv rt) : SSs S ⟨N22, defScope (top 39), fun _ => true, false⟩ lv rt (defBody (top 39)) m22 :=
 (sss_cons (ss_expr (se_call w.f_18_3 x.mg_want_thing (by kernel_rfl) (sa_cons (se_s (by kernel_rfl)) (sa_cons (se_v (by kernel_rfl)) (sa_cons (se_v (by kernel_rfl)) sa_nil (fun _ => rfl)) (fun _ => rfl)) (fun _ => rfl)) (by kernel_rfl) (fun _ => rfl) (fun _ => rfl)) (fun _ => rfl))
 (sss_cons (ss_expr (se_call w.f_18_3 x.mg_want_thing (by kernel_rfl) (sa_cons (se_s (by kernel_rfl)) (sa_cons (se_v (by kernel_rfl)) (sa_cons (se_v (by kernel_rfl)) sa_nil (fun _ => rfl)) (fun _ => rfl)) (fun _ => rfl)) (by kernel_rfl) (fun _ => rfl) (fun _ => rfl)) (fun _ => rfl))
 (sss_one (ss_ret (se_call w.f_21_3 x.mg_lies_at_most (by kernel_rfl) (sa_cons (se_ty sc_dict x.no_dict (by kernel_rfl) (by kernel_rfl) (sa_cons (se_ix (se_v (by kernel_rfl)) se_int (fun _ _ => rfl)) sa_nil (fun _ => rfl)) (by decide +kernel) (by kernel_rfl) (fun _ => rfl) (fun _ => rfl)) (sa_cons (se_v (by kernel_rfl)) (sa_cons (se_v (by kernel_rfl)) sa_nil (fun _ => rfl)) (fun _ => rfl)) (fun _ => rfl)) (by kernel_rfl) (fun _ => rfl) (fun _ => rfl))))))
theorem b66 (x : Fx S) (w : W S lv rt) : SSs S ⟨N66, defScope (mem 91 15), fun _ => true, false⟩ lv rt (defBody (mem 91 15)) m66 :=
 (sss_cons (ss_expr (se_bm (fun _ ok _ _ _ _ _ rl rv e => isLst_ok ok rl rv e) PySem.F.plainAttrs_list PySem.F.slot_list_append PySem.F.type_list_append sm_append (se_fld x.cl_1 x.na_1_started (se_v (by kernel_rfl)) (fun _ => rfl)) (sa_cons se_int sa_nil (fun _ => rfl)) (fun _ => rfl) (fun _ => rfl) rfl (fun _ => rfl) (fun _ => rfl)) (fun _ => rfl))
 (sss_one (ss_retFin (se_meth x.cl_1 x.me_1_apply_event w.f_65_2 (se_v (by kernel_rfl)) (sa_cons (se_v (by kernel_rfl)) sa_nil (fun _ => rfl)) (fun _ => rfl) (fun _ => rfl) (fun _ => rfl)) (sss_one (ss_expr (se_bm (fun _ ok _ _ _ _ _ rl rv e => isLst_ok ok rl rv e) PySem.F.plainAttrs_list PySem.F.slot_list_append PySem.F.type_list_append sm_append (se_fld x.cl_1 x.na_1_finished (se_v (by kernel_rfl)) (fun _ => rfl)) (sa_cons se_int sa_nil (fun _ => rfl)) (fun _ => rfl) (fun _ => rfl) rfl (fun _ => rfl) (fun _ => rfl)) (fun _ => rfl))))))
theorem b62 (x : Fx S) (w : W S lv rt) : SSs S ⟨N62, defScope (mem 91 11), fun _ => true, false⟩ lv rt (defBody (mem 91 11)) m62 :=
 (sss_cons (ss_st (by kernel_rfl) (se_ix (se_fld x.cl_1 x.na_1_stands (se_v (by kernel_rfl)) (fun _ => rfl)) (se_neg se_int) (fun _ _ => rfl)) (fun _ _ => rfl))
 (sss_one (ss_ret (se_call w.f_41_4 x.mg_asked_steps (by kernel_rfl) (sa_cons (se_fld x.cl_0 x.na_0_kept_book (se_v (by kernel_rfl)) (fun _ => rfl)) (sa_cons (se_fld x.cl_0 x.na_0_kept_manner (se_v (by kernel_rfl)) (fun _ => rfl)) (sa_cons (se_ix (se_fld x.cl_0 x.na_0_kept_things (se_v (by kernel_rfl)) (fun _ => rfl)) (se_neg se_int) (fun _ _ => rfl)) (sa_cons (se_fld x.cl_0 x.na_0_kept_rule (se_v (by kernel_rfl)) (fun _ => rfl)) sa_nil (fun _ => rfl)) (fun _ => rfl)) (fun _ => rfl)) (fun _ => rfl)) (by kernel_rfl) (fun _ => rfl) (fun _ => rfl)))))
theorem b59 (x : Fx S) (w : W S lv rt) : SSs S ⟨N59, defScope (mem 91 6), fun _ => true, false⟩ lv rt (defBody (mem 91 6)) m59 :=
 (sss_one (ss_ret (se_ty sc_tuple x.no_tuple (by kernel_rfl) (by kernel_rfl) (sa_cons (se_lc (own := [("step", 1), ("k", 2)]) (by kernel_rfl) (si_seq (se_meth0 x.cl_1 x.me_1_steps_of_now w.f_62_1 (se_v (by kernel_rfl)) (fun _ => rfl))) (sg_tup (sgs_cons (sg_n (by kernel_rfl) (by decide)) (sgs_cons (sg_n (by kernel_rfl) (by decide)) sgs_nil (fun _ => rfl)) (fun _ => rfl)) rfl (fun _ => rfl) (gsl_cons (gsl_cons gsl_nil))) sts_nil (se_v (by kernel_rfl)) (fun _ _ => rfl)) sa_nil (fun _ => rfl)) (by decide +kernel) (by kernel_rfl) (fun _ => rfl) (fun _ => rfl))))
theorem b79 (x : Fx S) (w : W S lv rt) : SSs S ⟨N79, defScope (top 99), fun _ => true, false⟩ lv rt (defBody (top 99)) m79 :=
 (sss_one (ss_ret (se_lst (sa_cons (se_prop x.cl_1 x.pr_1_thing_now.choose_spec w.f_57_1 (se_v (by kernel_rfl)) (fun _ => rfl)) (sa_cons (se_prop x.cl_1 x.pr_1_question.choose_spec w.f_58_1 (se_v (by kernel_rfl)) (fun _ => rfl)) (sa_cons (se_prop x.cl_1 x.pr_1_walk_now.choose_spec w.f_60_1 (se_v (by kernel_rfl)) (fun _ => rfl)) (sa_cons (se_prop x.cl_1 x.pr_1_tries_now.choose_spec w.f_61_1 (se_v (by kernel_rfl)) (fun _ => rfl)) sa_nil (fun _ => rfl)) (fun _ => rfl)) (fun _ => rfl)) (fun _ => rfl)))))
theorem b69 (x : Fx S) (w : W S lv rt) : SSs S ⟨N69, defScope (mem 91 19), fun _ => true, false⟩ lv rt (defBody (mem 91 19)) m69 :=
 (sss_one (ss_ret (se_meth x.cl_1 x.me_1_go w.f_66_2 (se_v (by kernel_rfl)) (sa_cons (se_tup (sa_cons (se_s (by kernel_rfl)) (sa_cons (se_v (by kernel_rfl)) (sa_cons (se_v (by kernel_rfl)) sa_nil (fun _ => rfl)) (fun _ => rfl)) (fun _ => rfl))) sa_nil (fun _ => rfl)) (fun _ => rfl) (fun _ => rfl) (fun _ => rfl))))
theorem b67 (x : Fx S) (w : W S lv rt) : SSs S ⟨N67, defScope (mem 91 17), fun _ => true, false⟩ lv rt (defBody (mem 91 17)) m67 :=
 (sss_one (ss_ret (se_meth x.cl_1 x.me_1_go w.f_66_2 (se_v (by kernel_rfl)) (sa_cons (se_tup (sa_cons (se_s (by kernel_rfl)) (sa_cons (se_v (by kernel_rfl)) sa_nil (fun _ => rfl)) (fun _ => rfl))) sa_nil (fun _ => rfl)) (fun _ => rfl) (fun _ => rfl) (fun _ => rfl))))
theorem b20 (x : Fx S) (w : W S lv rt) : SSs S ⟨N20, defScope (top 37), fun _ => true, false⟩ lv rt (defBody (top 37)) m20 :=
 (sss_one (ss_ret (se_call w.f_17_2 x.mg_is_thing_of (by kernel_rfl) (sa_cons (se_v (by kernel_rfl)) (sa_cons (se_v (by kernel_rfl)) sa_nil (fun _ => rfl)) (fun _ => rfl)) (by kernel_rfl) (fun _ => rfl) (fun _ => rfl))))
end
end K70
namespace K70
open PySem PySem.Spec L2 Den
section
variable {S : Sy} {lv : Nat} {rt : Rt}
theorem b74 (x : Fx S) (w : W S lv rt) : SSs S ⟨N74, defScope (top 94), fun _ => true, false⟩ lv rt (defBody (top 94)) m74 :=
 (sss_cons (ss_asg (ws := []) (se_bin so_add (se_ix (se_v (by kernel_rfl)) (se_s (by kernel_rfl)) (fun _ _ => rfl)) se_int) (sg_sub (se_v (by kernel_rfl)) (se_s (by kernel_rfl)) (fun _ _ => rfl)) (fun _ _ => rfl) (fun _ _ => rfl) (fun _ => rfl))
 (sss_cons (ss_if (st_cmp so_gt (se_ix (se_v (by kernel_rfl)) (se_s (by kernel_rfl)) (fun _ _ => rfl)) se_int rfl) (sss_cons (ss_st (by kernel_rfl) (se_bin so_mod (se_ty sc_int x.no_int (by kernel_rfl) (by kernel_rfl) (sa_cons (se_ix (se_v (by kernel_rfl)) (se_s (by kernel_rfl)) (fun _ _ => rfl)) sa_nil (fun _ => rfl)) (by decide +kernel) (by kernel_rfl) (fun _ => rfl) (fun _ => rfl)) (se_v (by kernel_rfl))) (fun _ _ => rfl))
 (sss_cons (ss_asg (ws := []) (se_bin so_fdiv (se_ix (se_v (by kernel_rfl)) (se_s (by kernel_rfl)) (fun _ _ => rfl)) (se_v (by kernel_rfl))) (sg_sub (se_v (by kernel_rfl)) (se_s (by kernel_rfl)) (fun _ _ => rfl)) (fun _ _ => rfl) (fun _ _ => rfl) (fun _ => rfl))
 (sss_one (ss_ret (se_v (by kernel_rfl)))))) sss_nil)
 (sss_cons (ss_st (by kernel_rfl) (se_ix (se_v (by kernel_rfl)) (se_s (by kernel_rfl)) (fun _ _ => rfl)) (fun _ _ => rfl))
 (sss_cons (ss_asg (ws := []) (se_bin so_add (se_v (by kernel_rfl)) se_int) (sg_sub (se_v (by kernel_rfl)) (se_s (by kernel_rfl)) (fun _ _ => rfl)) (fun _ _ => rfl) (fun _ _ => rfl) (fun _ => rfl))
 (sss_cons (ss_st (by kernel_rfl) (se_if (st_cmp so_ne (se_ix (se_v (by kernel_rfl)) (se_s (by kernel_rfl)) (fun _ _ => rfl)) (se_lst sa_nil) rfl) (se_ix (se_ix (se_v (by kernel_rfl)) (se_s (by kernel_rfl)) (fun _ _ => rfl)) (se_bin so_mod (se_ty sc_int x.no_int (by kernel_rfl) (by kernel_rfl) (sa_cons (se_v (by kernel_rfl)) sa_nil (fun _ => rfl)) (by decide +kernel) (by kernel_rfl) (fun _ => rfl) (fun _ => rfl)) (se_bf sc_len x.no_len (by kernel_rfl) (by kernel_rfl) (sa_cons (se_ix (se_v (by kernel_rfl)) (se_s (by kernel_rfl)) (fun _ _ => rfl)) sa_nil (fun _ => rfl)) (by decide +kernel) (by kernel_rfl) (fun _ => rfl) (fun _ => rfl))) (fun _ _ => rfl)) se_int) (fun _ _ => rfl))
 (sss_cons (ss_if (st_w (stw_and (st_cmp so_ge (se_v (by kernel_rfl)) (se_bin so_pow se_int se_int) rfl) (stw_and1 (st_cmp so_lt (se_v (by kernel_rfl)) (se_bf sc_len x.no_len (by kernel_rfl) (by kernel_rfl) (sa_cons (se_ix (se_v (by kernel_rfl)) (se_s (by kernel_rfl)) (fun _ _ => rfl)) sa_nil (fun _ => rfl)) (by decide +kernel) (by kernel_rfl) (fun _ => rfl) (fun _ => rfl)) rfl)))) (sss_cons (ss_asg (ws := []) (se_bin so_fdiv (se_v (by kernel_rfl)) (se_v (by kernel_rfl))) (sg_sub (se_v (by kernel_rfl)) (se_s (by kernel_rfl)) (fun _ _ => rfl)) (fun _ _ => rfl) (fun _ _ => rfl) (fun _ => rfl))
 (sss_one (ss_ret (se_bin so_mod (se_ty sc_int x.no_int (by kernel_rfl) (by kernel_rfl) (sa_cons (se_v (by kernel_rfl)) sa_nil (fun _ => rfl)) (by decide +kernel) (by kernel_rfl) (fun _ => rfl) (fun _ => rfl)) (se_v (by kernel_rfl)))))) sss_nil)
 (sss_cons (ss_st (by kernel_rfl) (se_bin so_mod (se_ty sc_int x.no_int (by kernel_rfl) (by kernel_rfl) (sa_cons (se_bin so_add (se_bin so_add (se_bin so_mod (se_ty sc_int x.no_int (by kernel_rfl) (by kernel_rfl) (sa_cons (se_v (by kernel_rfl)) sa_nil (fun _ => rfl)) (by decide +kernel) (by kernel_rfl) (fun _ => rfl) (fun _ => rfl)) se_int) (se_bin so_mul se_int (se_ix (se_v (by kernel_rfl)) (se_s (by kernel_rfl)) (fun _ _ => rfl)))) se_int) sa_nil (fun _ => rfl)) (by decide +kernel) (by kernel_rfl) (fun _ => rfl) (fun _ => rfl)) se_int) (fun _ _ => rfl))
 (sss_cons (ss_st (by kernel_rfl) (se_bin so_mod (se_ty sc_int x.no_int (by kernel_rfl) (by kernel_rfl) (sa_cons (se_bin so_add (se_bin so_add (se_bin so_mul (se_v (by kernel_rfl)) (se_v (by kernel_rfl))) (se_bin so_mul se_int (se_ix (se_v (by kernel_rfl)) (se_s (by kernel_rfl)) (fun _ _ => rfl)))) se_int) sa_nil (fun _ => rfl)) (by decide +kernel) (by kernel_rfl) (fun _ => rfl) (fun _ => rfl)) se_int) (fun _ _ => rfl))
 (sss_one (ss_ret (se_bin so_mod (se_ty sc_int x.no_int (by kernel_rfl) (by kernel_rfl) (sa_cons (se_bin so_fdiv (se_bin so_mod (se_ty sc_int x.no_int (by kernel_rfl) (by kernel_rfl) (sa_cons (se_bin so_add (se_bin so_mul (se_v (by kernel_rfl)) (se_v (by kernel_rfl))) (se_bin so_mul se_int (se_v (by kernel_rfl)))) sa_nil (fun _ => rfl)) (by decide +kernel) (by kernel_rfl) (fun _ => rfl) (fun _ => rfl)) se_int) se_int) sa_nil (fun _ => rfl)) (by decide +kernel) (by kernel_rfl) (fun _ => rfl) (fun _ => rfl)) (se_v (by kernel_rfl)))))))))))))
theorem b54 (x : Fx S) (w : W S lv rt) : SSs S ⟨N54, defScope (top 88), fun _ => true, false⟩ lv rt (defBody (top 88)) m54 :=
 (sss_cons (ss_st (by kernel_rfl) (se_ty sc_tuple x.no_tuple (by kernel_rfl) (by kernel_rfl) (sa_cons (se_lc (own := [("cause", 8)]) (by kernel_rfl) (si_seq (se_v (by kernel_rfl))) (sg_n (by kernel_rfl) (by decide)) sts_nil (se_tup (sa_cons (se_v (by kernel_rfl)) (sa_cons se_bl sa_nil (fun _ => rfl)) (fun _ => rfl))) (fun _ _ => rfl)) sa_nil (fun _ => rfl)) (by decide +kernel) (by kernel_rfl) (fun _ => rfl) (fun _ => rfl)) (fun _ _ => rfl))
 (sss_cons (ss_par (by kernel_rfl) (by kernel_rfl) (by decide) (by kernel_rfl) (by kernel_rfl) (sa_cons (se_fld x.cl_0 x.na_0_kept_things (se_v (by kernel_rfl)) (fun _ => rfl)) (sa_cons (se_fld x.cl_0 x.na_0_kept_rule (se_v (by kernel_rfl)) (fun _ => rfl)) sa_nil (fun _ => rfl)) (fun _ => rfl)) (sws_par2 (by kernel_rfl)) (fun _ _ => rfl))
 (sss_cons (ss_st (by kernel_rfl) (se_ix (se_v (by kernel_rfl)) (se_neg se_int) (fun _ _ => rfl)) (fun _ _ => rfl))
 (sss_one (ss_while (st_val se_bl (fun _ _ => rfl)) (sss_cons (ss_st (by kernel_rfl) (se_call w.f_41_4 x.mg_asked_steps (by kernel_rfl) (sa_cons (se_fld x.cl_0 x.na_0_kept_book (se_v (by kernel_rfl)) (fun _ => rfl)) (sa_cons (se_fld x.cl_0 x.na_0_kept_manner (se_v (by kernel_rfl)) (fun _ => rfl)) (sa_cons (se_v (by kernel_rfl)) (sa_cons (se_v (by kernel_rfl)) sa_nil (fun _ => rfl)) (fun _ => rfl)) (fun _ => rfl)) (fun _ => rfl)) (by kernel_rfl) (fun _ => rfl) (fun _ => rfl)) (fun _ _ => rfl))
 (sss_cons (ss_lc (own := [("step", 9), ("k", 10)]) (by kernel_rfl) (by kernel_rfl) (sw_lc (by kernel_rfl) (by kernel_rfl) (by kernel_rfl) (by kernel_rfl)) (by kernel_rfl) (si_seq (se_v (by kernel_rfl))) (sg_tup (sgs_cons (sg_n (by kernel_rfl) (by decide)) (sgs_cons (sg_n (by kernel_rfl) (by decide)) sgs_nil (fun _ => rfl)) (fun _ => rfl)) rfl (fun _ => rfl) (gsl_cons (gsl_cons gsl_nil))) (sts_one (st_cmp so_is (se_call w.f_42_3 x.mg_known_in (by kernel_rfl) (sa_cons (se_fld x.cl_0 x.na_0_kept_book (se_v (by kernel_rfl)) (fun _ => rfl)) (sa_cons (se_v (by kernel_rfl)) (sa_cons (se_v (by kernel_rfl)) sa_nil (fun _ => rfl)) (fun _ => rfl)) (fun _ => rfl)) (by kernel_rfl) (fun _ => rfl) (fun _ => rfl)) se_bl rfl)) (se_tup (sa_cons (se_v (by kernel_rfl)) (sa_cons (se_v (by kernel_rfl)) sa_nil (fun _ => rfl)) (fun _ => rfl))) (fun _ _ => rfl))
 (sss_cons (ss_if (st_cmp so_eq (se_bf sc_len x.no_len (by kernel_rfl) (by kernel_rfl) (sa_cons (se_v (by kernel_rfl)) sa_nil (fun _ => rfl)) (by decide +kernel) (by kernel_rfl) (fun _ => rfl) (fun _ => rfl)) se_int rfl) (sss_one (ss_ret (se_v (by kernel_rfl)))) sss_nil)
 (sss_one (ss_asg (ws := [3, 5]) (se_ix (se_v (by kernel_rfl)) se_int (fun _ _ => rfl)) (sg_tup (sgs_cons (sg_n (by kernel_rfl) (by decide)) (sgs_cons (sg_n (by kernel_rfl) (by decide)) sgs_nil (fun _ => rfl)) (fun _ => rfl)) rfl (fun _ => rfl) (gsl_cons (gsl_cons gsl_nil))) (fun _ _ => rfl) (fun _ _ => rfl) (fun _ => rfl)))))))))))
theorem b84 (x : Fx S) (w : W S lv rt) : SSs S ⟨N84, defScope (top 104), fun _ => true, true⟩ lv rt (defBody (top 104)) m84 :=
 (sss_cons (ss_st (by kernel_rfl) (se_call w.f_73_1 x.mg__law_feed (by kernel_rfl) (sa_cons (se_v (by kernel_rfl)) sa_nil (fun _ => rfl)) (by kernel_rfl) (fun _ => rfl) (fun _ => rfl)) (fun _ _ => rfl))
 (sss_cons (ss_par (by kernel_rfl) (by kernel_rfl) (by decide) (by kernel_rfl) (by kernel_rfl) (sa_cons (se_call w.f_75_2 x.mg__law_any (by kernel_rfl) (sa_cons (se_v (by kernel_rfl)) (sa_cons (se_lst (sa_cons (se_s (by kernel_rfl)) (sa_cons (se_s (by kernel_rfl)) (sa_cons (se_s (by kernel_rfl)) (sa_cons (se_s (by kernel_rfl)) sa_nil (fun _ => rfl)) (fun _ => rfl)) (fun _ => rfl)) (fun _ => rfl))) sa_nil (fun _ => rfl)) (fun _ => rfl)) (by kernel_rfl) (fun _ => rfl) (fun _ => rfl)) (sa_cons se_dict0 sa_nil (fun _ => rfl)) (fun _ => rfl)) (sws_par2 (by kernel_rfl)) (fun _ _ => rfl))
 (sss_cons (ss_for (ws := [2]) (si_rng1 (fun _ ok => ok.gl (by kernel_rfl)) x.no_range (sa_cons se_int sa_nil (fun _ => rfl)) (fun _ => rfl)) (sg_n (by kernel_rfl) (by decide)) (sss_one (ss_asg (ws := []) (se_ix (se_v (by kernel_rfl)) (se_v (by kernel_rfl)) (fun _ _ => rfl)) (sg_sub (se_v (by kernel_rfl)) (se_ix (se_s (by kernel_rfl)) (se_v (by kernel_rfl)) (fun _ _ => rfl)) (fun _ _ => rfl)) (fun _ _ => rfl) (fun _ _ => rfl) (fun _ => rfl))) (fun _ _ => rfl))
 (sss_cons (ss_if (st_w (stw_or (st_not (st_val (se_callFr rfl w.g_80_1 x.mg__law_over_two (by kernel_rfl) (se_v (by kernel_rfl)) (by kernel_rfl) (fun _ => rfl) (fun _ => rfl)) (fun _ _ => rfl))) (stw_or1 (st_not (st_val (se_callFr rfl w.g_81_1 x.mg__law_skipped (by kernel_rfl) (se_v (by kernel_rfl)) (by kernel_rfl) (fun _ => rfl) (fun _ => rfl)) (fun _ _ => rfl)))))) (sss_one (ss_ret se_bl)) sss_nil)
 (sss_one (ss_ret (se_and (se_cmp so_eq (se_callFr rfl w.g_82_1 x.mg__law_on (by kernel_rfl) (se_v (by kernel_rfl)) (by kernel_rfl) (fun _ => rfl) (fun _ => rfl)) (se_lst (sa_cons se_bl (sa_cons se_bl (sa_cons se_bl (sa_cons se_bl sa_nil (fun _ => rfl)) (fun _ => rfl)) (fun _ => rfl)) (fun _ => rfl))) rfl) (se_one (se_callFr rfl w.g_83_1 x.mg__law_rules_change (by kernel_rfl) (se_v (by kernel_rfl)) (by kernel_rfl) (fun _ => rfl) (fun _ => rfl))))))))))
theorem b10 (x : Fx S) (w : W S lv rt) : SSs S ⟨N10, defScope (top 23), fun _ => true, false⟩ lv rt (defBody (top 23)) m10 :=
 (sss_cons (ss_st (by kernel_rfl) (se_lst sa_nil) (fun _ _ => rfl))
 (sss_cons (ss_st (by kernel_rfl) (se_ty sc_list x.no_list (by kernel_rfl) (by kernel_rfl) (sa_cons (se_ix (se_v (by kernel_rfl)) (se_v (by kernel_rfl)) (fun _ _ => rfl)) sa_nil (fun _ => rfl)) (by decide +kernel) (by kernel_rfl) (fun _ => rfl) (fun _ => rfl)) (fun _ _ => rfl))
 (sss_cons (ss_while (st_cmp so_gt (se_bf sc_len x.no_len (by kernel_rfl) (by kernel_rfl) (sa_cons (se_v (by kernel_rfl)) sa_nil (fun _ => rfl)) (by decide +kernel) (by kernel_rfl) (fun _ => rfl) (fun _ => rfl)) se_int rfl) (sss_cons (ss_st (by kernel_rfl) (se_bm0 (fun _ ok _ _ _ _ _ rl rv e => isLst_ok ok rl rv e) PySem.F.plainAttrs_list PySem.F.slot_list_pop PySem.F.type_list_pop sm_pop (se_v (by kernel_rfl)) (fun _ => rfl) rfl) (fun _ _ => rfl))
 (sss_one (ss_if (st_cmp so_notIn (se_v (by kernel_rfl)) (se_v (by kernel_rfl)) rfl) (sss_cons (ss_expr (se_bm (fun _ ok _ _ _ _ _ rl rv e => isLst_ok ok rl rv e) PySem.F.plainAttrs_list PySem.F.slot_list_append PySem.F.type_list_append sm_append (se_v (by kernel_rfl)) (sa_cons (se_v (by kernel_rfl)) sa_nil (fun _ => rfl)) (fun _ => rfl) (fun _ => rfl) rfl (fun _ => rfl) (fun _ => rfl)) (fun _ => rfl))
 (sss_one (ss_expr (se_bm (fun _ ok _ _ _ _ _ rl rv e => isLst_ok ok rl rv e) PySem.F.plainAttrs_list PySem.F.slot_list_extend PySem.F.type_list_extend sm_extend (se_v (by kernel_rfl)) (sa_cons (se_ty sc_list x.no_list (by kernel_rfl) (by kernel_rfl) (sa_cons (se_ix (se_v (by kernel_rfl)) (se_v (by kernel_rfl)) (fun _ _ => rfl)) sa_nil (fun _ => rfl)) (by decide +kernel) (by kernel_rfl) (fun _ => rfl) (fun _ => rfl)) sa_nil (fun _ => rfl)) (fun _ => rfl) (fun _ => rfl) rfl (fun _ => rfl) (fun _ => rfl)) (fun _ => rfl)))) sss_nil))))
 (sss_one (ss_ret (se_v (by kernel_rfl)))))))
theorem b35 (x : Fx S) (w : W S lv rt) : SSs S ⟨N35, defScope (top 66), fun _ => true, false⟩ lv rt (defBody (top 66)) m35 :=
 (sss_cons (ss_for (ws := [1, 2]) (si_enum (fun _ ok => ok.gl (by kernel_rfl)) x.no_enumerate (se_ix (se_v (by kernel_rfl)) se_int (fun _ _ => rfl)) (fun _ => rfl) (fun _ => rfl)) (sg_tup (sgs_cons (sg_n (by kernel_rfl) (by decide)) (sgs_cons (sg_n (by kernel_rfl) (by decide)) sgs_nil (fun _ => rfl)) (fun _ => rfl)) rfl (fun _ => rfl) (gsl_cons (gsl_cons gsl_nil))) (sss_one (ss_if (st_w (stw_and (st_cmp so_eq (se_ix (se_v (by kernel_rfl)) se_int (fun _ _ => rfl)) (se_s (by kernel_rfl)) rfl) (stw_and (st_cmp so_ne (se_ix (se_v (by kernel_rfl)) se_int (fun _ _ => rfl)) (se_s (by kernel_rfl)) rfl) (stw_and1 (st_cmp so_notIn (se_ix (se_v (by kernel_rfl)) se_int (fun _ _ => rfl)) (se_call w.f_34_2 x.mg_letters_under (by kernel_rfl) (sa_cons (se_v (by kernel_rfl)) (sa_cons (se_ix (se_v (by kernel_rfl)) se_int (fun _ _ => rfl)) sa_nil (fun _ => rfl)) (fun _ => rfl)) (by kernel_rfl) (fun _ => rfl) (fun _ => rfl)) rfl))))) (sss_one (ss_ret (se_v (by kernel_rfl)))) sss_nil)) (fun _ _ => rfl))
 (sss_one (ss_ret se_non)))
theorem b72 (x : Fx S) (w : W S lv rt) : SSs S ⟨N72, defScope (mem 91 30), fun _ => true, false⟩ lv rt (defBody (mem 91 30)) m72 :=
 (sss_cons (ss_st (by kernel_rfl) (se_ix (se_fld x.cl_1 x.na_1_stands (se_v (by kernel_rfl)) (fun _ => rfl)) (se_neg se_int) (fun _ _ => rfl)) (fun _ _ => rfl))
 (sss_cons (ss_if (st_not (st_val (se_call w.f_20_2 x.mg_has_letters (by kernel_rfl) (sa_cons (se_fld x.cl_0 x.na_0_kept_book (se_v (by kernel_rfl)) (fun _ => rfl)) (sa_cons (se_v (by kernel_rfl)) sa_nil (fun _ => rfl)) (fun _ => rfl)) (by kernel_rfl) (fun _ => rfl) (fun _ => rfl)) (fun _ _ => rfl))) (sss_one ss_bad) sss_nil)
 (sss_one (ss_ret (se_call w.f_42_3 x.mg_known_in (by kernel_rfl) (sa_cons (se_fld x.cl_0 x.na_0_kept_book (se_v (by kernel_rfl)) (fun _ => rfl)) (sa_cons (se_fld x.cl_0 x.na_0_kept_told (se_v (by kernel_rfl)) (fun _ => rfl)) (sa_cons (se_v (by kernel_rfl)) sa_nil (fun _ => rfl)) (fun _ => rfl)) (fun _ => rfl)) (by kernel_rfl) (fun _ => rfl) (fun _ => rfl))))))
theorem b43 (x : Fx S) (w : W S lv rt) : SSs S ⟨N43, defScope (top 77), fun _ => true, false⟩ lv rt (defBody (top 77)) m43 :=
 (sss_cons (ss_for (ws := [3, 4]) (si_seq (se_v (by kernel_rfl))) (sg_tup (sgs_cons (sg_n (by kernel_rfl) (by decide)) (sgs_cons (sg_n (by kernel_rfl) (by decide)) sgs_nil (fun _ => rfl)) (fun _ => rfl)) rfl (fun _ => rfl) (gsl_cons (gsl_cons gsl_nil))) (sss_one (ss_if (st_cmp so_isn (se_call w.f_42_3 x.mg_known_in (by kernel_rfl) (sa_cons (se_v (by kernel_rfl)) (sa_cons (se_v (by kernel_rfl)) (sa_cons (se_v (by kernel_rfl)) sa_nil (fun _ => rfl)) (fun _ => rfl)) (fun _ => rfl)) (by kernel_rfl) (fun _ => rfl) (fun _ => rfl)) se_bl rfl) (sss_one (ss_ret (se_tup (sa_cons (se_v (by kernel_rfl)) (sa_cons (se_v (by kernel_rfl)) sa_nil (fun _ => rfl)) (fun _ => rfl))))) sss_nil)) (fun _ _ => rfl))
 (sss_one (ss_ret se_non)))
theorem b7 (x : Fx S) (w : W S lv rt) : SSs S ⟨N7, defScope (top 20), fun _ => true, false⟩ lv rt (defBody (top 20)) m7 :=
 (sss_one (ss_ret (se_and (se_call w.f_6_1 x.mg_is_pair (by kernel_rfl) (sa_cons (se_v (by kernel_rfl)) sa_nil (fun _ => rfl)) (by kernel_rfl) (fun _ => rfl) (fun _ => rfl)) (se_and (se_call w.f_2_1 x.mg_is_letter (by kernel_rfl) (sa_cons (se_ix (se_v (by kernel_rfl)) se_int (fun _ _ => rfl)) sa_nil (fun _ => rfl)) (by kernel_rfl) (fun _ => rfl) (fun _ => rfl)) (se_one (se_call w.f_5_1 x.mg_is_letter_set (by kernel_rfl) (sa_cons (se_ix (se_v (by kernel_rfl)) se_int (fun _ _ => rfl)) sa_nil (fun _ => rfl)) (by kernel_rfl) (fun _ => rfl) (fun _ => rfl)))))))
theorem b73 (x : Fx S) (w : W S lv rt) : SSs S ⟨N73, defScope (top 93), fun _ => true, false⟩ lv rt (defBody (top 93)) m73 :=
 (sss_one (ss_ret (se_disp (spp_cons (se_s (by kernel_rfl)) (se_ty sc_list x.no_list (by kernel_rfl) (by kernel_rfl) (sa_cons (se_sl (se_v (by kernel_rfl)) sp_none (sp_some se_int)) sa_nil (fun _ => rfl)) (by decide +kernel) (by kernel_rfl) (fun _ => rfl) (fun _ => rfl)) (spp_cons (se_s (by kernel_rfl)) se_int (spp_cons (se_s (by kernel_rfl)) se_int (spp_cons (se_s (by kernel_rfl)) se_int spp_nil)))) rfl rfl (fun z => nomatch z) (by decide))))
theorem b58 (x : Fx S) (w : W S lv rt) : SSs S ⟨N58, defScope (mem 91 5), fun _ => true, false⟩ lv rt (defBody (mem 91 5)) m58 :=
 (sss_cons (ss_st (by kernel_rfl) (se_fld x.cl_0 x.na_0_kept_question (se_ix (se_fld x.cl_1 x.na_1_stands (se_v (by kernel_rfl)) (fun _ => rfl)) (se_neg se_int) (fun _ _ => rfl)) (fun _ => rfl)) (fun _ _ => rfl))
 (sss_one (ss_ret (se_if (st_cmp so_is (se_v (by kernel_rfl)) se_non rfl) se_non (se_ix (se_v (by kernel_rfl)) se_int (fun _ _ => rfl))))))
theorem b36 (x : Fx S) (w : W S lv rt) : SSs S ⟨N36, defScope (top 67), fun _ => true, false⟩ lv rt (defBody (top 67)) m36 :=
 (sss_cons (ss_st (by kernel_rfl) (se_call w.f_35_1 x.mg_falling_fault (by kernel_rfl) (sa_cons (se_v (by kernel_rfl)) sa_nil (fun _ => rfl)) (by kernel_rfl) (fun _ => rfl) (fun _ => rfl)) (fun _ _ => rfl))
 (sss_one (ss_if (st_cmp so_isn (se_v (by kernel_rfl)) se_non rfl) (sss_one ss_bad) sss_nil)))
theorem b27 (x : Fx S) (w : W S lv rt) : SSs S ⟨N27, defScope (top 58), fun _ => true, false⟩ lv rt (defBody (top 58)) m27 :=
 (sss_one (ss_ret (se_if (st_cmp so_eq (se_v (by kernel_rfl)) (se_s (by kernel_rfl)) rfl) (se_listRg1 (by kernel_rfl) x.no_list (by kernel_rfl) x.no_range (se_v (by kernel_rfl)) (fun _ => rfl) (fun _ => rfl)) se_bad)))
end
end K70
namespace K70
open PySem PySem.Spec L2 Den
section
variable {S : Sy} {lv : Nat} {rt : Rt}
theorem b52 (x : Fx S) (w : W S lv rt) : SSs S ⟨N52, defScope (top 86), fun _ => true, false⟩ lv rt (defBody (top 86)) m52 :=
 (sss_cons (ss_par (by kernel_rfl) (by kernel_rfl) (by decide) (by kernel_rfl) (by kernel_rfl) (sa_cons (se_fld x.cl_0 x.na_0_kept_book (se_v (by kernel_rfl)) (fun _ => rfl)) (sa_cons (se_fld x.cl_0 x.na_0_kept_manner (se_v (by kernel_rfl)) (fun _ => rfl)) sa_nil (fun _ => rfl)) (fun _ => rfl)) (sws_par2 (by kernel_rfl)) (fun _ _ => rfl))
 (sss_cons (ss_par3 (by kernel_rfl) (by kernel_rfl) (by kernel_rfl) (by decide) (by decide) (by decide) (by kernel_rfl) (by kernel_rfl) (by kernel_rfl) (sa_cons (se_fld x.cl_0 x.na_0_kept_things (se_v (by kernel_rfl)) (fun _ => rfl)) (sa_cons (se_fld x.cl_0 x.na_0_kept_told (se_v (by kernel_rfl)) (fun _ => rfl)) (sa_cons (se_fld x.cl_0 x.na_0_kept_tries (se_v (by kernel_rfl)) (fun _ => rfl)) sa_nil (fun _ => rfl)) (fun _ => rfl)) (fun _ => rfl)) (sws_par3 (by kernel_rfl)) (fun _ _ => rfl))
 (sss_one (ss_match (se_ix (se_v (by kernel_rfl)) se_int (fun _ _ => rfl)) (scs_val (se_s (by kernel_rfl)) (sss_one (ss_ret (se_call w.f_50_2 x.mg_answered (by kernel_rfl) (sa_cons (se_v (by kernel_rfl)) (sa_cons (se_ix (se_v (by kernel_rfl)) se_int (fun _ _ => rfl)) sa_nil (fun _ => rfl)) (fun _ => rfl)) (by kernel_rfl) (fun _ => rfl) (fun _ => rfl)))) (scs_val (se_s (by kernel_rfl)) (sss_one (ss_ret (se_call w.f_44_1 x.mg_settled (by kernel_rfl) (sa_cons (se_make x.mk_0 w.f_40_7 x.mg_Stand (by kernel_rfl) (sa_cons (se_v (by kernel_rfl)) (sa_cons (se_v (by kernel_rfl)) (sa_cons (se_v (by kernel_rfl)) (sa_cons (se_fld x.cl_0 x.na_0_kept_rule (se_v (by kernel_rfl)) (fun _ => rfl)) (sa_cons (se_tup (sa_star (se_v (by kernel_rfl)) (sa_cons (se_sl (se_v (by kernel_rfl)) (sp_some se_int) sp_none) sa_nil (fun _ => rfl)) (fun _ => rfl))) (sa_cons (se_v (by kernel_rfl)) sa_nil (fun _ => rfl)) (fun _ => rfl)) (fun _ => rfl)) (fun _ => rfl)) (fun _ => rfl)) (fun _ => rfl)) (by kernel_rfl) (fun _ => rfl) (fun _ => rfl)) sa_nil (fun _ => rfl)) (by kernel_rfl) (fun _ => rfl) (fun _ => rfl)))) (scs_val (se_s (by kernel_rfl)) (sss_one (ss_ret (se_call w.f_44_1 x.mg_settled (by kernel_rfl) (sa_cons (se_make x.mk_0 w.f_40_7 x.mg_Stand (by kernel_rfl) (sa_cons (se_v (by kernel_rfl)) (sa_cons (se_v (by kernel_rfl)) (sa_cons (se_tup (sa_cons (se_ix (se_v (by kernel_rfl)) se_int (fun _ _ => rfl)) sa_nil (fun _ => rfl))) (sa_cons se_int (sa_cons (se_tup (sa_star (se_v (by kernel_rfl)) (sa_cons (se_tup (sa_cons (se_ix (se_v (by kernel_rfl)) se_int (fun _ _ => rfl)) (sa_cons se_bl sa_nil (fun _ => rfl)) (fun _ => rfl))) sa_nil (fun _ => rfl)) (fun _ => rfl))) (sa_cons (se_v (by kernel_rfl)) sa_nil (fun _ => rfl)) (fun _ => rfl)) (fun _ => rfl)) (fun _ => rfl)) (fun _ => rfl)) (fun _ => rfl)) (by kernel_rfl) (fun _ => rfl) (fun _ => rfl)) sa_nil (fun _ => rfl)) (by kernel_rfl) (fun _ => rfl) (fun _ => rfl)))) (scs_val (se_s (by kernel_rfl)) (sss_one (ss_ret (se_call w.f_44_1 x.mg_settled (by kernel_rfl) (sa_cons (se_make x.mk_0 w.f_40_7 x.mg_Stand (by kernel_rfl) (sa_cons (se_v (by kernel_rfl)) (sa_cons (se_ix (se_v (by kernel_rfl)) se_int (fun _ _ => rfl)) (sa_cons (se_v (by kernel_rfl)) (sa_cons se_int (sa_cons (se_v (by kernel_rfl)) (sa_cons (se_v (by kernel_rfl)) sa_nil (fun _ => rfl)) (fun _ => rfl)) (fun _ => rfl)) (fun _ => rfl)) (fun _ => rfl)) (fun _ => rfl)) (by kernel_rfl) (fun _ => rfl) (fun _ => rfl)) sa_nil (fun _ => rfl)) (by kernel_rfl) (fun _ => rfl) (fun _ => rfl)))) (scs_any (sss_one (ss_ret (se_call w.f_44_1 x.mg_settled (by kernel_rfl) (sa_cons (se_make x.mk_0 w.f_40_7 x.mg_Stand (by kernel_rfl) (sa_cons (se_call w.f_51_2 x.mg_book_behind (by kernel_rfl) (sa_cons (se_v (by kernel_rfl)) (sa_cons (se_v (by kernel_rfl)) sa_nil (fun _ => rfl)) (fun _ => rfl)) (by kernel_rfl) (fun _ => rfl) (fun _ => rfl)) (sa_cons (se_v (by kernel_rfl)) (sa_cons (se_v (by kernel_rfl)) (sa_cons se_int (sa_cons (se_v (by kernel_rfl)) (sa_cons (se_v (by kernel_rfl)) sa_nil (fun _ => rfl)) (fun _ => rfl)) (fun _ => rfl)) (fun _ => rfl)) (fun _ => rfl)) (fun _ => rfl)) (by kernel_rfl) (fun _ => rfl) (fun _ => rfl)) sa_nil (fun _ => rfl)) (by kernel_rfl) (fun _ => rfl) (fun _ => rfl)))))))))))))
theorem b11 (x : Fx S) (w : W S lv rt) : SSs S ⟨N11, defScope (top 24), fun _ => true, false⟩ lv rt (defBody (top 24)) m11 :=
 (sss_cons (ss_st (by kernel_rfl) (se_s (by kernel_rfl)) (fun _ _ => rfl))
 (sss_cons (ss_for (ws := [3, 4]) (si_enum (fun _ ok => ok.gl (by kernel_rfl)) x.no_enumerate (se_v (by kernel_rfl)) (fun _ => rfl) (fun _ => rfl)) (sg_tup (sgs_cons (sg_n (by kernel_rfl) (by decide)) (sgs_cons (sg_n (by kernel_rfl) (by decide)) sgs_nil (fun _ => rfl)) (fun _ => rfl)) rfl (fun _ => rfl) (gsl_cons (gsl_cons gsl_nil))) (sss_cons (ss_if (st_w (stw_or (st_not (st_val (se_call w.f_7_1 x.mg_is_entry (by kernel_rfl) (sa_cons (se_v (by kernel_rfl)) sa_nil (fun _ => rfl)) (by kernel_rfl) (fun _ => rfl) (fun _ => rfl)) (fun _ _ => rfl))) (stw_or1 (st_cmp so_le (se_ix (se_v (by kernel_rfl)) se_int (fun _ _ => rfl)) (se_v (by kernel_rfl)) rfl)))) (sss_one (ss_ret (se_tup (sa_cons (se_s (by kernel_rfl)) (sa_cons (se_v (by kernel_rfl)) sa_nil (fun _ => rfl)) (fun _ => rfl))))) sss_nil)
 (sss_one (ss_st (by kernel_rfl) (se_ix (se_v (by kernel_rfl)) se_int (fun _ _ => rfl)) (fun _ _ => rfl)))) (fun _ _ => rfl))
 (sss_cons (ss_st (by kernel_rfl) (se_dc (own := [("letter", 5), ("own", 6)]) (by kernel_rfl) (si_seq (se_v (by kernel_rfl))) (sg_tup (sgs_cons (sg_n (by kernel_rfl) (by decide)) (sgs_cons (sg_n (by kernel_rfl) (by decide)) sgs_nil (fun _ => rfl)) (fun _ => rfl)) rfl (fun _ => rfl) (gsl_cons (gsl_cons gsl_nil))) sts_nil (se_v (by kernel_rfl)) (se_v (by kernel_rfl)) (fun _ _ => rfl)) (sw_dcC (by kernel_rfl)))
 (sss_cons (ss_for (ws := [3, 5, 6]) (si_enum (fun _ ok => ok.gl (by kernel_rfl)) x.no_enumerate (se_v (by kernel_rfl)) (fun _ => rfl) (fun _ => rfl)) (sg_tup (sgs_cons (sg_n (by kernel_rfl) (by decide)) (sgs_cons (sg_tup (sgs_cons (sg_n (by kernel_rfl) (by decide)) (sgs_cons (sg_n (by kernel_rfl) (by decide)) sgs_nil (fun _ => rfl)) (fun _ => rfl)) rfl (fun _ => rfl) (gsl_cons (gsl_cons gsl_nil))) sgs_nil (fun _ => rfl)) (fun _ => rfl)) rfl (fun _ => rfl) (gsl_cons (gsl_cons gsl_nil))) (sss_one (ss_if (st_not (st_val (se_bf sc_all x.no_all (by kernel_rfl) (by kernel_rfl) (sa_cons (se_lc (own := [("one", 7)]) (by kernel_rfl) (si_seq (se_v (by kernel_rfl))) (sg_n (by kernel_rfl) (by decide)) sts_nil (se_and (se_cmp so_in (se_v (by kernel_rfl)) (se_v (by kernel_rfl)) rfl) (se_one (se_cmp so_ne (se_v (by kernel_rfl)) (se_v (by kernel_rfl)) rfl))) (fun _ _ => rfl)) sa_nil (fun _ => rfl)) (by decide +kernel) (by kernel_rfl) (fun _ => rfl) (fun _ => rfl)) (fun _ _ => rfl))) (sss_one (ss_ret (se_tup (sa_cons (se_s (by kernel_rfl)) (sa_cons (se_v (by kernel_rfl)) sa_nil (fun _ => rfl)) (fun _ => rfl))))) sss_nil)) (fun _ _ => rfl))
 (sss_cons (ss_for (ws := [3, 5, 6]) (si_enum (fun _ ok => ok.gl (by kernel_rfl)) x.no_enumerate (se_v (by kernel_rfl)) (fun _ => rfl) (fun _ => rfl)) (sg_tup (sgs_cons (sg_n (by kernel_rfl) (by decide)) (sgs_cons (sg_tup (sgs_cons (sg_n (by kernel_rfl) (by decide)) (sgs_cons (sg_n (by kernel_rfl) (by decide)) sgs_nil (fun _ => rfl)) (fun _ => rfl)) rfl (fun _ => rfl) (gsl_cons (gsl_cons gsl_nil))) sgs_nil (fun _ => rfl)) (fun _ => rfl)) rfl (fun _ => rfl) (gsl_cons (gsl_cons gsl_nil))) (sss_one (ss_if (st_cmp so_in (se_v (by kernel_rfl)) (se_call w.f_10_2 x.mg_reached_letters (by kernel_rfl) (sa_cons (se_v (by kernel_rfl)) (sa_cons (se_v (by kernel_rfl)) sa_nil (fun _ => rfl)) (fun _ => rfl)) (by kernel_rfl) (fun _ => rfl) (fun _ => rfl)) rfl) (sss_one (ss_ret (se_tup (sa_cons (se_s (by kernel_rfl)) (sa_cons (se_v (by kernel_rfl)) sa_nil (fun _ => rfl)) (fun _ => rfl))))) sss_nil)) (fun _ _ => rfl))
 (sss_one (ss_ret se_non)))))))
theorem b56 (x : Fx S) (w : W S lv rt) : SSs S ⟨N56, defScope (mem 91 1), fun _ => true, false⟩ lv rt (defBody (mem 91 1)) m56 :=
 (sss_cons (ss_expr (se_call w.f_14_1 x.mg_lets_book (by kernel_rfl) (sa_cons (se_v (by kernel_rfl)) sa_nil (fun _ => rfl)) (by kernel_rfl) (fun _ => rfl) (fun _ => rfl)) (fun _ => rfl))
 (sss_cons (ss_expr (se_call w.f_25_2 x.mg_want_stepusable (by kernel_rfl) (sa_cons (se_call w.f_20_2 x.mg_has_letters (by kernel_rfl) (sa_cons (se_v (by kernel_rfl)) (sa_cons (se_v (by kernel_rfl)) sa_nil (fun _ => rfl)) (fun _ => rfl)) (by kernel_rfl) (fun _ => rfl) (fun _ => rfl)) (sa_cons (se_s (by kernel_rfl)) sa_nil (fun _ => rfl)) (fun _ => rfl)) (by kernel_rfl) (fun _ => rfl) (fun _ => rfl)) (fun _ => rfl))
 (sss_cons (ss_expr (se_call w.f_26_1 x.mg_want_manner (by kernel_rfl) (sa_cons (se_v (by kernel_rfl)) sa_nil (fun _ => rfl)) (by kernel_rfl) (fun _ => rfl) (fun _ => rfl)) (fun _ => rfl))
 (sss_cons (ss_expr (se_call w.f_36_1 x.mg_want_falling (by kernel_rfl) (sa_cons (se_v (by kernel_rfl)) sa_nil (fun _ => rfl)) (by kernel_rfl) (fun _ => rfl) (fun _ => rfl)) (fun _ => rfl))
 (sss_cons (ss_fld x.cl_1 x.na_1_beginning (se_v (by kernel_rfl)) (se_tup (sa_cons (se_s (by kernel_rfl)) (sa_cons (se_v (by kernel_rfl)) (sa_cons (se_v (by kernel_rfl)) (sa_cons (se_v (by kernel_rfl)) sa_nil (fun _ => rfl)) (fun _ => rfl)) (fun _ => rfl)) (fun _ => rfl))) (fun _ _ => rfl))
 (sss_cons (ss_fld x.cl_1 x.na_1_given (se_v (by kernel_rfl)) (se_lst sa_nil) (fun _ _ => rfl))
 (sss_cons (ss_fld x.cl_1 x.na_1_stands (se_v (by kernel_rfl)) (se_lst (sa_cons (se_call w.f_45_3 x.mg_first_stand (by kernel_rfl) (sa_cons (se_v (by kernel_rfl)) (sa_cons (se_v (by kernel_rfl)) (sa_cons (se_v (by kernel_rfl)) sa_nil (fun _ => rfl)) (fun _ => rfl)) (fun _ => rfl)) (by kernel_rfl) (fun _ => rfl) (fun _ => rfl)) sa_nil (fun _ => rfl))) (fun _ _ => rfl))
 (sss_cons (ss_fld x.cl_1 x.na_1_started (se_v (by kernel_rfl)) (se_lst sa_nil) (fun _ _ => rfl))
 (sss_one (ss_fld x.cl_1 x.na_1_finished (se_v (by kernel_rfl)) (se_lst sa_nil) (fun _ _ => rfl)))))))))))
theorem b51 (x : Fx S) (w : W S lv rt) : SSs S ⟨N51, defScope (top 85), fun _ => true, false⟩ lv rt (defBody (top 85)) m51 :=
 (sss_cons (ss_asg (ws := [2, 3]) (se_v (by kernel_rfl)) (sg_tup (sgs_cons (sg_n (by kernel_rfl) (by decide)) (sgs_cons (sg_n (by kernel_rfl) (by decide)) sgs_nil (fun _ => rfl)) (fun _ => rfl)) rfl (fun _ => rfl) (gsl_cons (gsl_cons gsl_nil))) (fun _ _ => rfl) (fun _ _ => rfl) (fun _ => rfl))
 (sss_cons (ss_if (st_cmp so_eq (se_ix (se_v (by kernel_rfl)) se_int (fun _ _ => rfl)) (se_s (by kernel_rfl)) rfl) (sss_one (ss_ret (se_tup (sa_cons (se_v (by kernel_rfl)) (sa_cons (se_tup (sa_star (se_sl (se_v (by kernel_rfl)) sp_none (sp_some (se_ix (se_v (by kernel_rfl)) se_int (fun _ _ => rfl)))) (sa_cons (se_ix (se_v (by kernel_rfl)) se_int (fun _ _ => rfl)) (sa_star (se_sl (se_v (by kernel_rfl)) (sp_some (se_ix (se_v (by kernel_rfl)) se_int (fun _ _ => rfl))) sp_none) sa_nil (fun _ => rfl)) (fun _ => rfl)) (fun _ => rfl))) sa_nil (fun _ => rfl)) (fun _ => rfl))))) sss_nil)
 (sss_one (ss_ret (se_tup (sa_cons (se_v (by kernel_rfl)) (sa_cons (se_bin so_add (se_sl (se_v (by kernel_rfl)) sp_none (sp_some (se_ix (se_v (by kernel_rfl)) se_int (fun _ _ => rfl)))) (se_sl (se_v (by kernel_rfl)) (sp_some (se_bin so_add (se_ix (se_v (by kernel_rfl)) se_int (fun _ _ => rfl)) se_int)) sp_none)) sa_nil (fun _ => rfl)) (fun _ => rfl)))))))
theorem b78 (x : Fx S) (w : W S lv rt) : SSs S ⟨N78, defScope (top 98), fun _ => true, false⟩ lv rt (defBody (top 98)) m78 :=
 (sss_cons (ss_st (by kernel_rfl) (se_lst (sa_cons (se_tup (sa_cons (se_ix (se_v (by kernel_rfl)) (se_s (by kernel_rfl)) (fun _ _ => rfl)) (sa_cons (se_tup sa_nil) sa_nil (fun _ => rfl)) (fun _ => rfl))) (sa_cons (se_tup (sa_cons (se_ix (se_v (by kernel_rfl)) (se_s (by kernel_rfl)) (fun _ _ => rfl)) (sa_cons (se_tup (sa_cons (se_ix (se_v (by kernel_rfl)) (se_s (by kernel_rfl)) (fun _ _ => rfl)) sa_nil (fun _ => rfl))) sa_nil (fun _ => rfl)) (fun _ => rfl))) (sa_cons (se_tup (sa_cons (se_ix (se_v (by kernel_rfl)) (se_s (by kernel_rfl)) (fun _ _ => rfl)) (sa_cons (se_tup sa_nil) sa_nil (fun _ => rfl)) (fun _ => rfl))) sa_nil (fun _ => rfl)) (fun _ => rfl)) (fun _ => rfl))) (fun _ _ => rfl))
 (sss_one (ss_ret (se_tup (sa_cons (se_ty sc_tuple x.no_tuple (by kernel_rfl) (by kernel_rfl) (sa_cons (se_bf sc_sorted x.no_sorted (by kernel_rfl) (by kernel_rfl) (sa_cons (se_v (by kernel_rfl)) sa_nil (fun _ => rfl)) (by decide +kernel) (by kernel_rfl) (fun _ => rfl) (fun _ => rfl)) sa_nil (fun _ => rfl)) (by decide +kernel) (by kernel_rfl) (fun _ => rfl) (fun _ => rfl)) (sa_cons (se_v (by kernel_rfl)) sa_nil (fun _ => rfl)) (fun _ => rfl))))))
theorem b30 (x : Fx S) (w : W S lv rt) : SSs S ⟨N30, defScope (top 61), fun _ => true, false⟩ lv rt (defBody (top 61)) m30 :=
 (sss_one (ss_ret (se_lc2 (vs1 := [4]) (own := [("k", 3), ("less", 4)]) (by kernel_rfl) (by decide) (si_seq (se_call w.f_27_2 x.mg_places_of (by kernel_rfl) (sa_cons (se_bf sc_len x.no_len (by kernel_rfl) (by kernel_rfl) (sa_cons (se_v (by kernel_rfl)) sa_nil (fun _ => rfl)) (by decide +kernel) (by kernel_rfl) (fun _ => rfl) (fun _ => rfl)) (sa_cons (se_ix (se_v (by kernel_rfl)) se_int (fun _ _ => rfl)) sa_nil (fun _ => rfl)) (fun _ => rfl)) (by kernel_rfl) (fun _ => rfl) (fun _ => rfl))) (sg_n (by kernel_rfl) (by decide)) sts_nil (si_seq (se_ix (se_v (by kernel_rfl)) (se_ix (se_v (by kernel_rfl)) (se_v (by kernel_rfl)) (fun _ _ => rfl)) (fun _ _ => rfl))) (sg_n (by kernel_rfl) (by decide)) sts_nil (se_bin so_add (se_bin so_add (se_sl (se_v (by kernel_rfl)) sp_none (sp_some (se_v (by kernel_rfl)))) (se_v (by kernel_rfl))) (se_sl (se_v (by kernel_rfl)) (sp_some (se_bin so_add (se_v (by kernel_rfl)) se_int)) sp_none)) (fun _ _ => rfl) (fun _ _ => rfl))))
theorem b40 (x : Fx S) (w : W S lv rt) : SSs S ⟨N40, defScope (mem 74 0), fun _ => true, false⟩ lv rt (defBody (mem 74 0)) m40 :=
 (sss_cons (ss_fld x.cl_0 x.na_0_kept_book (se_v (by kernel_rfl)) (se_v (by kernel_rfl)) (fun _ _ => rfl))
 (sss_cons (ss_fld x.cl_0 x.na_0_kept_manner (se_v (by kernel_rfl)) (se_v (by kernel_rfl)) (fun _ _ => rfl))
 (sss_cons (ss_fld x.cl_0 x.na_0_kept_things (se_v (by kernel_rfl)) (se_v (by kernel_rfl)) (fun _ _ => rfl))
 (sss_cons (ss_fld x.cl_0 x.na_0_kept_rule (se_v (by kernel_rfl)) (se_v (by kernel_rfl)) (fun _ _ => rfl))
 (sss_cons (ss_fld x.cl_0 x.na_0_kept_told (se_v (by kernel_rfl)) (se_v (by kernel_rfl)) (fun _ _ => rfl))
 (sss_cons (ss_fld x.cl_0 x.na_0_kept_tries (se_v (by kernel_rfl)) (se_v (by kernel_rfl)) (fun _ _ => rfl))
 (sss_one (ss_fld x.cl_0 x.na_0_kept_question (se_v (by kernel_rfl)) se_non (fun _ _ => rfl)))))))))
theorem b3 (x : Fx S) (w : W S lv rt) : SSs S ⟨N3, defScope (top 16), fun _ => true, false⟩ lv rt (defBody (top 16)) m3 :=
 (sss_one (ss_ret (se_and (se_isi (by decide) x.no_isinstance (by kernel_rfl) (se_v (by kernel_rfl)) x.no_str (by kernel_rfl) (by kernel_rfl) (by decide +kernel) (by kernel_rfl) (fun _ => rfl) (fun _ => rfl)) (se_one (se_bf sc_all x.no_all (by kernel_rfl) (by kernel_rfl) (sa_cons (se_lc (own := [("sign", 1)]) (by kernel_rfl) (si_seq (se_v (by kernel_rfl))) (sg_n (by kernel_rfl) (by decide)) sts_nil (se_cmp so_in (se_v (by kernel_rfl)) (se_g x.gl_LOWERCASE (by kernel_rfl) (by kernel_rfl)) rfl) (fun _ _ => rfl)) sa_nil (fun _ => rfl)) (by decide +kernel) (by kernel_rfl) (fun _ => rfl) (fun _ => rfl))))))
theorem b2 (x : Fx S) (w : W S lv rt) : SSs S ⟨N2, defScope (top 15), fun _ => true, false⟩ lv rt (defBody (top 15)) m2 :=
 (sss_one (ss_ret (se_and (se_isi (by decide) x.no_isinstance (by kernel_rfl) (se_v (by kernel_rfl)) x.no_str (by kernel_rfl) (by kernel_rfl) (by decide +kernel) (by kernel_rfl) (fun _ => rfl) (fun _ => rfl)) (se_and (se_cmp so_eq (se_bf sc_len x.no_len (by kernel_rfl) (by kernel_rfl) (sa_cons (se_v (by kernel_rfl)) sa_nil (fun _ => rfl)) (by decide +kernel) (by kernel_rfl) (fun _ => rfl) (fun _ => rfl)) se_int rfl) (se_one (se_cmp so_in (se_v (by kernel_rfl)) (se_g x.gl_LOWERCASE (by kernel_rfl) (by kernel_rfl)) rfl))))))
theorem b18 (x : Fx S) (w : W S lv rt) : SSs S ⟨N18, defScope (top 34), fun _ => true, false⟩ lv rt (defBody (top 34)) m18 :=
 (sss_one (ss_expr (se_call w.f_15_2 x.mg_want_usable (by kernel_rfl) (sa_cons (se_call w.f_17_2 x.mg_is_thing_of (by kernel_rfl) (sa_cons (se_v (by kernel_rfl)) (sa_cons (se_v (by kernel_rfl)) sa_nil (fun _ => rfl)) (fun _ => rfl)) (by kernel_rfl) (fun _ => rfl) (fun _ => rfl)) (sa_cons (se_v (by kernel_rfl)) sa_nil (fun _ => rfl)) (fun _ => rfl)) (by kernel_rfl) (fun _ => rfl) (fun _ => rfl)) (fun _ => rfl)))
theorem b70 (x : Fx S) (w : W S lv rt) : SSs S ⟨N70, defScope (mem 91 20), fun _ => true, false⟩ lv rt (defBody (mem 91 20)) m70 :=
 (sss_one (ss_ret (se_meth x.cl_1 x.me_1_go w.f_66_2 (se_v (by kernel_rfl)) (sa_cons (se_tup (sa_cons (se_s (by kernel_rfl)) (sa_cons (se_v (by kernel_rfl)) sa_nil (fun _ => rfl)) (fun _ => rfl))) sa_nil (fun _ => rfl)) (fun _ => rfl) (fun _ => rfl) (fun _ => rfl))))
theorem b60 (x : Fx S) (w : W S lv rt) : SSs S ⟨N60, defScope (mem 91 7), fun _ => true, false⟩ lv rt (defBody (mem 91 7)) m60 :=
 (sss_one (ss_ret (se_fld x.cl_0 x.na_0_kept_things (se_ix (se_fld x.cl_1 x.na_1_stands (se_v (by kernel_rfl)) (fun _ => rfl)) (se_neg se_int) (fun _ _ => rfl)) (fun _ => rfl))))
theorem b25 (x : Fx S) (w : W S lv rt) : SSs S ⟨N25, defScope (top 54), fun _ => true, false⟩ lv rt (defBody (top 54)) m25 :=
 (sss_one (ss_if (st_not (st_val (se_v (by kernel_rfl)) (fun _ _ => rfl))) (sss_one ss_bad) sss_nil))
end
end K70
namespace K70
open PySem PySem.Spec L2 Den
section
variable {S : Sy} {lv : Nat} {rt : Rt}
theorem b9 (x : Fx S) (w : W S lv rt) : SSs S ⟨N9, defScope (top 22), fun _ => true, false⟩ lv rt (defBody (top 22)) m9 :=
 (sss_cons (ss_if (st_w (stw_or (st_not (st_val (se_isi (by decide) x.no_isinstance (by kernel_rfl) (se_v (by kernel_rfl)) x.no_tuple (by kernel_rfl) (by kernel_rfl) (by decide +kernel) (by kernel_rfl) (fun _ => rfl) (fun _ => rfl)) (fun _ _ => rfl))) (stw_or (st_cmp so_eq (se_bf sc_len x.no_len (by kernel_rfl) (by kernel_rfl) (sa_cons (se_v (by kernel_rfl)) sa_nil (fun _ => rfl)) (by decide +kernel) (by kernel_rfl) (fun _ => rfl) (fun _ => rfl)) se_int rfl) (stw_or1 (st_not (st_val (se_isi (by decide) x.no_isinstance (by kernel_rfl) (se_ix (se_v (by kernel_rfl)) se_int (fun _ _ => rfl)) x.no_str (by kernel_rfl) (by kernel_rfl) (by decide +kernel) (by kernel_rfl) (fun _ => rfl) (fun _ => rfl)) (fun _ _ => rfl))))))) (sss_one (ss_ret se_bl)) sss_nil)
 (sss_cons (ss_par (by kernel_rfl) (by kernel_rfl) (by decide) (by kernel_rfl) (by kernel_rfl) (sa_cons (se_ix (se_v (by kernel_rfl)) se_int (fun _ _ => rfl)) (sa_cons (se_sl (se_v (by kernel_rfl)) (sp_some se_int) sp_none) sa_nil (fun _ => rfl)) (fun _ => rfl)) (sws_par2 (by kernel_rfl)) (fun _ _ => rfl))
 (sss_cons (ss_if (st_cmp so_eq (se_v (by kernel_rfl)) (se_s (by kernel_rfl)) rfl) (sss_one (ss_ret (se_and (se_cmp so_eq (se_bf sc_len x.no_len (by kernel_rfl) (by kernel_rfl) (sa_cons (se_v (by kernel_rfl)) sa_nil (fun _ => rfl)) (by decide +kernel) (by kernel_rfl) (fun _ => rfl) (fun _ => rfl)) se_int rfl) (se_and (se_call w.f_1_1 x.mg_is_number (by kernel_rfl) (sa_cons (se_ix (se_v (by kernel_rfl)) se_int (fun _ _ => rfl)) sa_nil (fun _ => rfl)) (by kernel_rfl) (fun _ => rfl) (fun _ => rfl)) (se_and (se_cmp so_gt (se_ix (se_v (by kernel_rfl)) se_int (fun _ _ => rfl)) se_int rfl) (se_one (se_call w.f_8_1 x.mg_is_side (by kernel_rfl) (sa_cons (se_ix (se_v (by kernel_rfl)) se_int (fun _ _ => rfl)) sa_nil (fun _ => rfl)) (by kernel_rfl) (fun _ => rfl) (fun _ => rfl)))))))) sss_nil)
 (sss_cons (ss_if (st_cmp so_in (se_v (by kernel_rfl)) (se_tup (sa_cons (se_s (by kernel_rfl)) (sa_cons (se_s (by kernel_rfl)) sa_nil (fun _ => rfl)) (fun _ => rfl))) rfl) (sss_one (ss_ret (se_and (se_cmp so_eq (se_bf sc_len x.no_len (by kernel_rfl) (by kernel_rfl) (sa_cons (se_v (by kernel_rfl)) sa_nil (fun _ => rfl)) (by decide +kernel) (by kernel_rfl) (fun _ => rfl) (fun _ => rfl)) se_int rfl) (se_one (se_call w.f_8_1 x.mg_is_side (by kernel_rfl) (sa_cons (se_ix (se_v (by kernel_rfl)) se_int (fun _ _ => rfl)) sa_nil (fun _ => rfl)) (by kernel_rfl) (fun _ => rfl) (fun _ => rfl)))))) sss_nil)
 (sss_cons (ss_if (st_cmp so_eq (se_v (by kernel_rfl)) (se_s (by kernel_rfl)) rfl) (sss_cons (ss_if (st_w (stw_or (st_cmp so_ne (se_bf sc_len x.no_len (by kernel_rfl) (by kernel_rfl) (sa_cons (se_v (by kernel_rfl)) sa_nil (fun _ => rfl)) (by decide +kernel) (by kernel_rfl) (fun _ => rfl) (fun _ => rfl)) se_int rfl) (stw_or (st_not (st_val (se_call w.f_2_1 x.mg_is_letter (by kernel_rfl) (sa_cons (se_ix (se_v (by kernel_rfl)) se_int (fun _ _ => rfl)) sa_nil (fun _ => rfl)) (by kernel_rfl) (fun _ => rfl) (fun _ => rfl)) (fun _ _ => rfl))) (stw_or1 (st_not (st_val (se_call w.f_3_1 x.mg_is_thing (by kernel_rfl) (sa_cons (se_ix (se_v (by kernel_rfl)) se_int (fun _ _ => rfl)) sa_nil (fun _ => rfl)) (by kernel_rfl) (fun _ => rfl) (fun _ => rfl)) (fun _ _ => rfl))))))) (sss_one (ss_ret se_bl)) sss_nil)
 (sss_one (ss_ret (se_and (se_cmp so_ne (se_ix (se_v (by kernel_rfl)) se_int (fun _ _ => rfl)) (se_ix (se_v (by kernel_rfl)) se_int (fun _ _ => rfl)) rfl) (se_one (se_call w.f_8_1 x.mg_is_side (by kernel_rfl) (sa_cons (se_ix (se_v (by kernel_rfl)) se_int (fun _ _ => rfl)) sa_nil (fun _ => rfl)) (by kernel_rfl) (fun _ => rfl) (fun _ => rfl))))))) sss_nil)
 (sss_one (ss_ret (se_and (se_cmp so_eq (se_v (by kernel_rfl)) (se_s (by kernel_rfl)) rfl) (se_one (se_cmp so_eq (se_bf sc_len x.no_len (by kernel_rfl) (by kernel_rfl) (sa_cons (se_v (by kernel_rfl)) sa_nil (fun _ => rfl)) (by decide +kernel) (by kernel_rfl) (fun _ => rfl) (fun _ => rfl)) se_int rfl))))))))))
theorem b44 (x : Fx S) (w : W S lv rt) : SSs S ⟨N44, defScope (top 78), fun _ => true, false⟩ lv rt (defBody (top 78)) m44 :=
 (sss_cons (ss_par (by kernel_rfl) (by kernel_rfl) (by decide) (by kernel_rfl) (by kernel_rfl) (sa_cons (se_fld x.cl_0 x.na_0_kept_book (se_v (by kernel_rfl)) (fun _ => rfl)) (sa_cons (se_fld x.cl_0 x.na_0_kept_told (se_v (by kernel_rfl)) (fun _ => rfl)) sa_nil (fun _ => rfl)) (fun _ => rfl)) (sws_par2 (by kernel_rfl)) (fun _ _ => rfl))
 (sss_cons (ss_par (by kernel_rfl) (by kernel_rfl) (by decide) (by kernel_rfl) (by kernel_rfl) (sa_cons (se_fld x.cl_0 x.na_0_kept_things (se_v (by kernel_rfl)) (fun _ => rfl)) (sa_cons (se_fld x.cl_0 x.na_0_kept_rule (se_v (by kernel_rfl)) (fun _ => rfl)) sa_nil (fun _ => rfl)) (fun _ => rfl)) (sws_par2 (by kernel_rfl)) (fun _ _ => rfl))
 (sss_cons (ss_st (by kernel_rfl) (se_call w.f_43_3 x.mg_first_open (by kernel_rfl) (sa_cons (se_v (by kernel_rfl)) (sa_cons (se_v (by kernel_rfl)) (sa_cons (se_call w.f_41_4 x.mg_asked_steps (by kernel_rfl) (sa_cons (se_v (by kernel_rfl)) (sa_cons (se_fld x.cl_0 x.na_0_kept_manner (se_v (by kernel_rfl)) (fun _ => rfl)) (sa_cons (se_ix (se_v (by kernel_rfl)) (se_neg se_int) (fun _ _ => rfl)) (sa_cons (se_v (by kernel_rfl)) sa_nil (fun _ => rfl)) (fun _ => rfl)) (fun _ => rfl)) (fun _ => rfl)) (by kernel_rfl) (fun _ => rfl) (fun _ => rfl)) sa_nil (fun _ => rfl)) (fun _ => rfl)) (fun _ => rfl)) (by kernel_rfl) (fun _ => rfl) (fun _ => rfl)) (fun _ _ => rfl))
 (sss_cons (ss_while (st_w (stw_and (st_cmp so_isn (se_v (by kernel_rfl)) se_non rfl) (stw_and1 (st_cmp so_is (se_call w.f_42_3 x.mg_known_in (by kernel_rfl) (sa_cons (se_v (by kernel_rfl)) (sa_cons (se_v (by kernel_rfl)) (sa_cons (se_ix (se_v (by kernel_rfl)) se_int (fun _ _ => rfl)) sa_nil (fun _ => rfl)) (fun _ => rfl)) (fun _ => rfl)) (by kernel_rfl) (fun _ => rfl) (fun _ => rfl)) se_bl rfl)))) (sss_cons (ss_par (by kernel_rfl) (by kernel_rfl) (by decide) (by kernel_rfl) (by kernel_rfl) (sa_cons (se_tup (sa_star (se_v (by kernel_rfl)) (sa_cons (se_ix (se_v (by kernel_rfl)) se_int (fun _ _ => rfl)) sa_nil (fun _ => rfl)) (fun _ => rfl))) (sa_cons (se_ix (se_v (by kernel_rfl)) se_int (fun _ _ => rfl)) sa_nil (fun _ => rfl)) (fun _ => rfl)) (sws_par2 (by kernel_rfl)) (fun _ _ => rfl))
 (sss_one (ss_st (by kernel_rfl) (se_call w.f_43_3 x.mg_first_open (by kernel_rfl) (sa_cons (se_v (by kernel_rfl)) (sa_cons (se_v (by kernel_rfl)) (sa_cons (se_call w.f_41_4 x.mg_asked_steps (by kernel_rfl) (sa_cons (se_v (by kernel_rfl)) (sa_cons (se_fld x.cl_0 x.na_0_kept_manner (se_v (by kernel_rfl)) (fun _ => rfl)) (sa_cons (se_ix (se_v (by kernel_rfl)) (se_neg se_int) (fun _ _ => rfl)) (sa_cons (se_v (by kernel_rfl)) sa_nil (fun _ => rfl)) (fun _ => rfl)) (fun _ => rfl)) (fun _ => rfl)) (by kernel_rfl) (fun _ => rfl) (fun _ => rfl)) sa_nil (fun _ => rfl)) (fun _ => rfl)) (fun _ => rfl)) (by kernel_rfl) (fun _ => rfl) (fun _ => rfl)) (fun _ _ => rfl)))))
 (sss_cons (ss_st (by kernel_rfl) (se_make x.mk_0 w.f_40_7 x.mg_Stand (by kernel_rfl) (sa_cons (se_v (by kernel_rfl)) (sa_cons (se_fld x.cl_0 x.na_0_kept_manner (se_v (by kernel_rfl)) (fun _ => rfl)) (sa_cons (se_v (by kernel_rfl)) (sa_cons (se_v (by kernel_rfl)) (sa_cons (se_v (by kernel_rfl)) (sa_cons (se_fld x.cl_0 x.na_0_kept_tries (se_v (by kernel_rfl)) (fun _ => rfl)) sa_nil (fun _ => rfl)) (fun _ => rfl)) (fun _ => rfl)) (fun _ => rfl)) (fun _ => rfl)) (fun _ => rfl)) (by kernel_rfl) (fun _ => rfl) (fun _ => rfl)) (fun _ _ => rfl))
 (sss_cons (ss_fld x.cl_0 x.na_0_kept_question (se_v (by kernel_rfl)) (se_v (by kernel_rfl)) (fun _ _ => rfl))
 (sss_one (ss_ret (se_v (by kernel_rfl))))))))))
theorem b23 (x : Fx S) (w : W S lv rt) : SSs S ⟨N23, defScope (top 40), fun _ => true, false⟩ lv rt (defBody (top 40)) m23 :=
 (sss_cons (ss_st (by kernel_rfl) (se_lst sa_nil) (fun _ _ => rfl))
 (sss_cons (ss_for (ws := [3, 4]) (si_enum (fun _ ok => ok.gl (by kernel_rfl)) x.no_enumerate (se_v (by kernel_rfl)) (fun _ => rfl) (fun _ => rfl)) (sg_tup (sgs_cons (sg_n (by kernel_rfl) (by decide)) (sgs_cons (sg_n (by kernel_rfl) (by decide)) sgs_nil (fun _ => rfl)) (fun _ => rfl)) rfl (fun _ => rfl) (gsl_cons (gsl_cons gsl_nil))) (sss_one (ss_if (st_cmp so_eq (se_bf sc_len x.no_len (by kernel_rfl) (by kernel_rfl) (sa_cons (se_ix (se_v (by kernel_rfl)) (se_v (by kernel_rfl)) (fun _ _ => rfl)) sa_nil (fun _ => rfl)) (by decide +kernel) (by kernel_rfl) (fun _ => rfl) (fun _ => rfl)) se_int rfl) (sss_one (ss_expr (se_bm (fun _ ok _ _ _ _ _ rl rv e => isLst_ok ok rl rv e) PySem.F.plainAttrs_list PySem.F.slot_list_append PySem.F.type_list_append sm_append (se_v (by kernel_rfl)) (sa_cons (se_bin so_add (se_sl (se_v (by kernel_rfl)) sp_none (sp_some (se_v (by kernel_rfl)))) (se_sl (se_v (by kernel_rfl)) (sp_some (se_bin so_add (se_v (by kernel_rfl)) se_int)) sp_none)) sa_nil (fun _ => rfl)) (fun _ => rfl) (fun _ => rfl) rfl (fun _ => rfl) (fun _ => rfl)) (fun _ => rfl))) (sss_one (ss_expr (se_bm (fun _ ok _ _ _ _ _ rl rv e => isLst_ok ok rl rv e) PySem.F.plainAttrs_list PySem.F.slot_list_extend PySem.F.type_list_extend sm_extend (se_v (by kernel_rfl)) (sa_cons (se_lc (own := [("less", 5)]) (by kernel_rfl) (si_seq (se_call w.f_19_2 x.mg_next_ones (by kernel_rfl) (sa_cons (se_v (by kernel_rfl)) (sa_cons (se_v (by kernel_rfl)) sa_nil (fun _ => rfl)) (fun _ => rfl)) (by kernel_rfl) (fun _ => rfl) (fun _ => rfl))) (sg_n (by kernel_rfl) (by decide)) sts_nil (se_bin so_add (se_bin so_add (se_sl (se_v (by kernel_rfl)) sp_none (sp_some (se_v (by kernel_rfl)))) (se_v (by kernel_rfl))) (se_sl (se_v (by kernel_rfl)) (sp_some (se_bin so_add (se_v (by kernel_rfl)) se_int)) sp_none)) (fun _ _ => rfl)) sa_nil (fun _ => rfl)) (fun _ => rfl) (fun _ => rfl) rfl (fun _ => rfl) (fun _ => rfl)) (fun _ => rfl))))) (fun _ _ => rfl))
 (sss_one (ss_ret (se_v (by kernel_rfl))))))
theorem b48 (x : Fx S) (w : W S lv rt) : SSs S ⟨N48, defScope (top 82), fun _ => true, false⟩ lv rt (defBody (top 82)) m48 :=
 (sss_cons (ss_if (st_cmp so_gt (se_v (by kernel_rfl)) (se_bf sc_len x.no_len (by kernel_rfl) (by kernel_rfl) (sa_cons (se_ix (se_v (by kernel_rfl)) se_int (fun _ _ => rfl)) sa_nil (fun _ => rfl)) (by decide +kernel) (by kernel_rfl) (fun _ => rfl) (fun _ => rfl)) rfl) (sss_one (ss_ret (se_s (by kernel_rfl)))) sss_nil)
 (sss_cons (ss_if (st_cmp so_ne (se_ix (se_v (by kernel_rfl)) se_int (fun _ _ => rfl)) (se_s (by kernel_rfl)) rfl) (sss_one (ss_ret se_non)) sss_nil)
 (sss_cons (ss_if (st_not (st_val (se_call w.f_20_2 x.mg_has_letters (by kernel_rfl) (sa_cons (se_v (by kernel_rfl)) (sa_cons (se_bin so_add (se_ix (se_v (by kernel_rfl)) se_int (fun _ _ => rfl)) (se_ix (se_v (by kernel_rfl)) se_int (fun _ _ => rfl))) sa_nil (fun _ => rfl)) (fun _ => rfl)) (by kernel_rfl) (fun _ => rfl) (fun _ => rfl)) (fun _ _ => rfl))) (sss_one (ss_ret (se_s (by kernel_rfl)))) sss_nil)
 (sss_one (ss_ret (se_if (st_cmp so_is (se_call w.f_35_1 x.mg_falling_fault (by kernel_rfl) (sa_cons (se_tup (sa_cons (se_ix (se_v (by kernel_rfl)) se_int (fun _ _ => rfl)) (sa_cons (se_tup (sa_cons (se_v (by kernel_rfl)) sa_nil (fun _ => rfl))) sa_nil (fun _ => rfl)) (fun _ => rfl))) sa_nil (fun _ => rfl)) (by kernel_rfl) (fun _ => rfl) (fun _ => rfl)) se_non rfl) se_non (se_s (by kernel_rfl))))))))
theorem b42 (x : Fx S) (w : W S lv rt) : SSs S ⟨N42, defScope (top 76), fun _ => true, false⟩ lv rt (defBody (top 76)) m42 :=
 (sss_cons (ss_for (ws := [3, 4]) (si_seq (se_v (by kernel_rfl))) (sg_tup (sgs_cons (sg_n (by kernel_rfl) (by decide)) (sgs_cons (sg_n (by kernel_rfl) (by decide)) sgs_nil (fun _ => rfl)) (fun _ => rfl)) rfl (fun _ => rfl) (gsl_cons (gsl_cons gsl_nil))) (sss_cons (ss_if (st_w (stw_and (st_val (se_v (by kernel_rfl)) (fun _ _ => rfl)) (stw_and1 (st_val (se_call w.f_22_3 x.mg_is_at_most (by kernel_rfl) (sa_cons (se_v (by kernel_rfl)) (sa_cons (se_v (by kernel_rfl)) (sa_cons (se_v (by kernel_rfl)) sa_nil (fun _ => rfl)) (fun _ => rfl)) (fun _ => rfl)) (by kernel_rfl) (fun _ => rfl) (fun _ => rfl)) (fun _ _ => rfl))))) (sss_one (ss_ret se_bl)) sss_nil)
 (sss_one (ss_if (st_w (stw_and (st_not (st_val (se_v (by kernel_rfl)) (fun _ _ => rfl))) (stw_and1 (st_val (se_call w.f_22_3 x.mg_is_at_most (by kernel_rfl) (sa_cons (se_v (by kernel_rfl)) (sa_cons (se_v (by kernel_rfl)) (sa_cons (se_v (by kernel_rfl)) sa_nil (fun _ => rfl)) (fun _ => rfl)) (fun _ => rfl)) (by kernel_rfl) (fun _ => rfl) (fun _ => rfl)) (fun _ _ => rfl))))) (sss_one (ss_ret se_bl)) sss_nil))) (fun _ _ => rfl))
 (sss_one (ss_ret se_non)))
theorem b31 (x : Fx S) (w : W S lv rt) : SSs S ⟨N31, defScope (top 62), fun _ => true, false⟩ lv rt (defBody (top 62)) m31 :=
 (sss_one (ss_ret (se_lc (own := [("k", 2)]) (by kernel_rfl) (si_seq (se_call w.f_27_2 x.mg_places_of (by kernel_rfl) (sa_cons (se_bf sc_len x.no_len (by kernel_rfl) (by kernel_rfl) (sa_cons (se_v (by kernel_rfl)) sa_nil (fun _ => rfl)) (by decide +kernel) (by kernel_rfl) (fun _ => rfl) (fun _ => rfl)) (sa_cons (se_ix (se_v (by kernel_rfl)) se_int (fun _ _ => rfl)) sa_nil (fun _ => rfl)) (fun _ => rfl)) (by kernel_rfl) (fun _ => rfl) (fun _ => rfl))) (sg_n (by kernel_rfl) (by decide)) (sts_one (st_cmp so_eq (se_ix (se_v (by kernel_rfl)) (se_v (by kernel_rfl)) (fun _ _ => rfl)) (se_ix (se_v (by kernel_rfl)) se_int (fun _ _ => rfl)) rfl)) (se_bin so_add (se_bin so_add (se_sl (se_v (by kernel_rfl)) sp_none (sp_some (se_v (by kernel_rfl)))) (se_ix (se_v (by kernel_rfl)) se_int (fun _ _ => rfl))) (se_sl (se_v (by kernel_rfl)) (sp_some (se_bin so_add (se_v (by kernel_rfl)) se_int)) sp_none)) (fun _ _ => rfl))))
theorem b17 (x : Fx S) (w : W S lv rt) : SSs S ⟨N17, defScope (top 33), fun _ => true, false⟩ lv rt (defBody (top 33)) m17 :=
 (sss_cons (ss_st (by kernel_rfl) (se_call w.f_16_1 x.mg_known_letters (by kernel_rfl) (sa_cons (se_v (by kernel_rfl)) sa_nil (fun _ => rfl)) (by kernel_rfl) (fun _ => rfl) (fun _ => rfl)) (fun _ _ => rfl))
 (sss_one (ss_ret (se_and (se_call w.f_3_1 x.mg_is_thing (by kernel_rfl) (sa_cons (se_v (by kernel_rfl)) sa_nil (fun _ => rfl)) (by kernel_rfl) (fun _ => rfl) (fun _ => rfl)) (se_one (se_bf sc_all x.no_all (by kernel_rfl) (by kernel_rfl) (sa_cons (se_lc (own := [("letter", 3)]) (by kernel_rfl) (si_seq (se_v (by kernel_rfl))) (sg_n (by kernel_rfl) (by decide)) sts_nil (se_cmp so_in (se_v (by kernel_rfl)) (se_v (by kernel_rfl)) rfl) (fun _ _ => rfl)) sa_nil (fun _ => rfl)) (by decide +kernel) (by kernel_rfl) (fun _ => rfl) (fun _ => rfl)))))))
theorem b45 (x : Fx S) (w : W S lv rt) : SSs S ⟨N45, defScope (top 79), fun _ => true, false⟩ lv rt (defBody (top 79)) m45 :=
 (sss_one (ss_ret (se_call w.f_44_1 x.mg_settled (by kernel_rfl) (sa_cons (se_make x.mk_0 w.f_40_7 x.mg_Stand (by kernel_rfl) (sa_cons (se_v (by kernel_rfl)) (sa_cons (se_v (by kernel_rfl)) (sa_cons (se_tup (sa_cons (se_v (by kernel_rfl)) sa_nil (fun _ => rfl))) (sa_cons se_int (sa_cons (se_tup (sa_cons (se_tup (sa_cons (se_v (by kernel_rfl)) (sa_cons se_bl sa_nil (fun _ => rfl)) (fun _ => rfl))) sa_nil (fun _ => rfl))) (sa_cons se_int sa_nil (fun _ => rfl)) (fun _ => rfl)) (fun _ => rfl)) (fun _ => rfl)) (fun _ => rfl)) (fun _ => rfl)) (by kernel_rfl) (fun _ => rfl) (fun _ => rfl)) sa_nil (fun _ => rfl)) (by kernel_rfl) (fun _ => rfl) (fun _ => rfl))))
theorem b14 (x : Fx S) (w : W S lv rt) : SSs S ⟨N14, defScope (top 28), fun _ => true, false⟩ lv rt (defBody (top 28)) m14 :=
 (sss_cons (ss_st (by kernel_rfl) (se_call w.f_13_1 x.mg_book_fault (by kernel_rfl) (sa_cons (se_v (by kernel_rfl)) sa_nil (fun _ => rfl)) (by kernel_rfl) (fun _ => rfl) (fun _ => rfl)) (fun _ _ => rfl))
 (sss_cons (ss_if (st_cmp so_isn (se_v (by kernel_rfl)) se_non rfl) (sss_one ss_bad) sss_nil)
 (sss_one (ss_ret (se_bf sc_len x.no_len (by kernel_rfl) (by kernel_rfl) (sa_cons (se_ix (se_v (by kernel_rfl)) se_int (fun _ _ => rfl)) sa_nil (fun _ => rfl)) (by decide +kernel) (by kernel_rfl) (fun _ => rfl) (fun _ => rfl))))))
theorem b76 (x : Fx S) (w : W S lv rt) : SSs S ⟨N76, defScope (top 96), fun _ => true, true⟩ lv rt (defBody (top 96)) m76 :=
 (sss_one (ss_ret (se_cmp so_eq (se_bf (sc_repr rfl) x.no_repr (by kernel_rfl) (by kernel_rfl) (sa_cons (se_v (by kernel_rfl)) sa_nil (fun _ => rfl)) (by decide +kernel) (by kernel_rfl) (fun _ => rfl) (fun _ => rfl)) (se_bf (sc_repr rfl) x.no_repr (by kernel_rfl) (by kernel_rfl) (sa_cons (se_v (by kernel_rfl)) sa_nil (fun _ => rfl)) (by decide +kernel) (by kernel_rfl) (fun _ => rfl) (fun _ => rfl)) rfl)))
theorem b63 (x : Fx S) (w : W S lv rt) : SSs S ⟨N63, defScope (mem 91 12), fun _ => true, false⟩ lv rt (defBody (mem 91 12)) m63 :=
 (sss_one (ss_ret (se_call w.f_55_1 x.mg_ends_from (by kernel_rfl) (sa_cons (se_ix (se_fld x.cl_1 x.na_1_stands (se_v (by kernel_rfl)) (fun _ => rfl)) (se_neg se_int) (fun _ _ => rfl)) sa_nil (fun _ => rfl)) (by kernel_rfl) (fun _ => rfl) (fun _ => rfl))))
theorem b37 (x : Fx S) (w : W S lv rt) : SSs S ⟨N37, defScope (top 69), fun _ => true, false⟩ lv rt (defBody (top 69)) m37 :=
 (sss_one (ss_ret (se_isi (by decide) x.no_isinstance (by kernel_rfl) (se_v (by kernel_rfl)) x.no_bool (by kernel_rfl) (by kernel_rfl) (by decide +kernel) (by kernel_rfl) (fun _ => rfl) (fun _ => rfl))))
end
end K70
namespace K70
open PySem PySem.Spec L2 Den
structure Dx (S : Sy) : Prop where
  d_0 : ∃ fd, FunD S.K "is_integer" "is_integer" (defArgs (top 13)) (defBody (top 13)) (defScope (top 13)) [] [] (S.fa 0) fd
  k_0 : PySem.W.keepIn S.K (.ref (S.fa 0)) = true
  d_1 : ∃ fd, FunD S.K "is_number" "is_number" (defArgs (top 14)) (defBody (top 14)) (defScope (top 14)) [] [] (S.fa 1) fd
  k_1 : PySem.W.keepIn S.K (.ref (S.fa 1)) = true
  d_2 : ∃ fd, FunD S.K "is_letter" "is_letter" (defArgs (top 15)) (defBody (top 15)) (defScope (top 15)) [] [] (S.fa 2) fd
  k_2 : PySem.W.keepIn S.K (.ref (S.fa 2)) = true
  d_3 : ∃ fd, FunD S.K "is_thing" "is_thing" (defArgs (top 16)) (defBody (top 16)) (defScope (top 16)) [] [] (S.fa 3) fd
  k_3 : PySem.W.keepIn S.K (.ref (S.fa 3)) = true
  d_4 : ∃ fd, FunD S.K "is_rising_row" "is_rising_row" (defArgs (top 17)) (defBody (top 17)) (defScope (top 17)) [] [] (S.fa 4) fd
  k_4 : PySem.W.keepIn S.K (.ref (S.fa 4)) = true
  d_5 : ∃ fd, FunD S.K "is_letter_set" "is_letter_set" (defArgs (top 18)) (defBody (top 18)) (defScope (top 18)) [] [] (S.fa 5) fd
  k_5 : PySem.W.keepIn S.K (.ref (S.fa 5)) = true
  d_6 : ∃ fd, FunD S.K "is_pair" "is_pair" (defArgs (top 19)) (defBody (top 19)) (defScope (top 19)) [] [] (S.fa 6) fd
  k_6 : PySem.W.keepIn S.K (.ref (S.fa 6)) = true
  d_7 : ∃ fd, FunD S.K "is_entry" "is_entry" (defArgs (top 20)) (defBody (top 20)) (defScope (top 20)) [] [] (S.fa 7) fd
  k_7 : PySem.W.keepIn S.K (.ref (S.fa 7)) = true
  d_8 : ∃ fd, FunD S.K "is_side" "is_side" (defArgs (top 21)) (defBody (top 21)) (defScope (top 21)) [] [] (S.fa 8) fd
  k_8 : PySem.W.keepIn S.K (.ref (S.fa 8)) = true
  d_9 : ∃ fd, FunD S.K "is_rule" "is_rule" (defArgs (top 22)) (defBody (top 22)) (defScope (top 22)) [] [] (S.fa 9) fd
  k_9 : PySem.W.keepIn S.K (.ref (S.fa 9)) = true
  d_10 : ∃ fd, FunD S.K "reached_letters" "reached_letters" (defArgs (top 23)) (defBody (top 23)) (defScope (top 23)) [] [] (S.fa 10) fd
  k_10 : PySem.W.keepIn S.K (.ref (S.fa 10)) = true
  d_11 : ∃ fd, FunD S.K "letters_fault" "letters_fault" (defArgs (top 24)) (defBody (top 24)) (defScope (top 24)) [] [] (S.fa 11) fd
  k_11 : PySem.W.keepIn S.K (.ref (S.fa 11)) = true
  d_12 : ∃ fd, FunD S.K "are_letters_known" "are_letters_known" (defArgs (top 25)) (defBody (top 25)) (defScope (top 25)) [] [] (S.fa 12) fd
  k_12 : PySem.W.keepIn S.K (.ref (S.fa 12)) = true
  d_13 : ∃ fd, FunD S.K "book_fault" "book_fault" (defArgs (top 26)) (defBody (top 26)) (defScope (top 26)) [] [] (S.fa 13) fd
  k_13 : PySem.W.keepIn S.K (.ref (S.fa 13)) = true
  d_14 : ∃ fd, FunD S.K "lets_book" "lets_book" (defArgs (top 28)) (defBody (top 28)) (defScope (top 28)) [] [] (S.fa 14) fd
  k_14 : PySem.W.keepIn S.K (.ref (S.fa 14)) = true
  d_15 : ∃ fd, FunD S.K "want" "want" (defArgs (top 30)) (defBody (top 30)) (defScope (top 30)) [.int (-1)] [] (S.fa 15) fd
  k_15 : PySem.W.keepIn S.K (.ref (S.fa 15)) = true
  d_16 : ∃ fd, FunD S.K "known_letters" "known_letters" (defArgs (top 32)) (defBody (top 32)) (defScope (top 32)) [] [] (S.fa 16) fd
  k_16 : PySem.W.keepIn S.K (.ref (S.fa 16)) = true
  d_17 : ∃ fd, FunD S.K "is_thing_of" "is_thing_of" (defArgs (top 33)) (defBody (top 33)) (defScope (top 33)) [] [] (S.fa 17) fd
  k_17 : PySem.W.keepIn S.K (.ref (S.fa 17)) = true
  d_18 : ∃ fd, FunD S.K "want_thing" "want_thing" (defArgs (top 34)) (defBody (top 34)) (defScope (top 34)) [] [] (S.fa 18) fd
  k_18 : PySem.W.keepIn S.K (.ref (S.fa 18)) = true
  d_19 : ∃ fd, FunD S.K "next_ones" "next_ones" (defArgs (top 36)) (defBody (top 36)) (defScope (top 36)) [] [] (S.fa 19) fd
  k_19 : PySem.W.keepIn S.K (.ref (S.fa 19)) = true
  d_20 : ∃ fd, FunD S.K "has_letters" "has_letters" (defArgs (top 37)) (defBody (top 37)) (defScope (top 37)) [] [] (S.fa 20) fd
  k_20 : PySem.W.keepIn S.K (.ref (S.fa 20)) = true
  d_21 : ∃ fd, FunD S.K "lies_at_most" "lies_at_most" (defArgs (top 38)) (defBody (top 38)) (defScope (top 38)) [] [] (S.fa 21) fd
  k_21 : PySem.W.keepIn S.K (.ref (S.fa 21)) = true
  d_22 : ∃ fd, FunD S.K "is_at_most" "is_at_most" (defArgs (top 39)) (defBody (top 39)) (defScope (top 39)) [] [] (S.fa 22) fd
  k_22 : PySem.W.keepIn S.K (.ref (S.fa 22)) = true
  d_23 : ∃ fd, FunD S.K "next_ones_below" "next_ones_below" (defArgs (top 40)) (defBody (top 40)) (defScope (top 40)) [] [] (S.fa 23) fd
  k_23 : PySem.W.keepIn S.K (.ref (S.fa 23)) = true
  d_24 : ∃ fd, FunD S.K "things_at_most" "things_at_most" (defArgs (top 41)) (defBody (top 41)) (defScope (top 41)) [] [] (S.fa 24) fd
  k_24 : PySem.W.keepIn S.K (.ref (S.fa 24)) = true
  d_25 : ∃ fd, FunD S.K "want" "want" (defArgs (top 54)) (defBody (top 54)) (defScope (top 54)) [.int (-1)] [] (S.fa 25) fd
  k_25 : PySem.W.keepIn S.K (.ref (S.fa 25)) = true
  d_26 : ∃ fd, FunD S.K "want_manner" "want_manner" (defArgs (top 56)) (defBody (top 56)) (defScope (top 56)) [] [] (S.fa 26) fd
  k_26 : PySem.W.keepIn S.K (.ref (S.fa 26)) = true
  d_27 : ∃ fd, FunD S.K "places_of" "places_of" (defArgs (top 58)) (defBody (top 58)) (defScope (top 58)) [] [] (S.fa 27) fd
  k_27 : PySem.W.keepIn S.K (.ref (S.fa 27)) = true
  d_28 : ∃ fd, FunD S.K "dropped" "dropped" (defArgs (top 59)) (defBody (top 59)) (defScope (top 59)) [] [] (S.fa 28) fd
  k_28 : PySem.W.keepIn S.K (.ref (S.fa 28)) = true
  d_29 : ∃ fd, FunD S.K "halved" "halved" (defArgs (top 60)) (defBody (top 60)) (defScope (top 60)) [] [] (S.fa 29) fd
  k_29 : PySem.W.keepIn S.K (.ref (S.fa 29)) = true
  d_30 : ∃ fd, FunD S.K "lowered" "lowered" (defArgs (top 61)) (defBody (top 61)) (defScope (top 61)) [] [] (S.fa 30) fd
  k_30 : PySem.W.keepIn S.K (.ref (S.fa 30)) = true
  d_31 : ∃ fd, FunD S.K "put_results" "put_results" (defArgs (top 62)) (defBody (top 62)) (defScope (top 62)) [] [] (S.fa 31) fd
  k_31 : PySem.W.keepIn S.K (.ref (S.fa 31)) = true
  d_32 : ∃ fd, FunD S.K "results_of" "results_of" (defArgs (top 63)) (defBody (top 63)) (defScope (top 63)) [] [] (S.fa 32) fd
  k_32 : PySem.W.keepIn S.K (.ref (S.fa 32)) = true
  d_33 : ∃ fd, FunD S.K "steps_from" "steps_from" (defArgs (top 64)) (defBody (top 64)) (defScope (top 64)) [] [] (S.fa 33) fd
  k_33 : PySem.W.keepIn S.K (.ref (S.fa 33)) = true
  d_34 : ∃ fd, FunD S.K "letters_under" "letters_under" (defArgs (top 65)) (defBody (top 65)) (defScope (top 65)) [] [] (S.fa 34) fd
  k_34 : PySem.W.keepIn S.K (.ref (S.fa 34)) = true
  d_35 : ∃ fd, FunD S.K "falling_fault" "falling_fault" (defArgs (top 66)) (defBody (top 66)) (defScope (top 66)) [] [] (S.fa 35) fd
  k_35 : PySem.W.keepIn S.K (.ref (S.fa 35)) = true
  d_36 : ∃ fd, FunD S.K "want_falling" "want_falling" (defArgs (top 67)) (defBody (top 67)) (defScope (top 67)) [] [] (S.fa 36) fd
  k_36 : PySem.W.keepIn S.K (.ref (S.fa 36)) = true
  d_37 : ∃ fd, FunD S.K "is_bool" "is_bool" (defArgs (top 69)) (defBody (top 69)) (defScope (top 69)) [] [] (S.fa 37) fd
  k_37 : PySem.W.keepIn S.K (.ref (S.fa 37)) = true
  d_38 : ∃ fd, FunD S.K "is_manner" "is_manner" (defArgs (top 70)) (defBody (top 70)) (defScope (top 70)) [] [] (S.fa 38) fd
  k_38 : PySem.W.keepIn S.K (.ref (S.fa 38)) = true
  d_39 : ∃ fd, FunD S.K "is_event" "is_event" (defArgs (top 72)) (defBody (top 72)) (defScope (top 72)) [] [] (S.fa 39) fd
  k_39 : PySem.W.keepIn S.K (.ref (S.fa 39)) = true
  d_40 : ∃ fd, FunD S.K "__init__" "Stand.__init__" (defArgs (mem 74 0)) (defBody (mem 74 0)) (defScope (mem 74 0)) [] [] (S.fa 40) fd
  k_40 : PySem.W.keepIn S.K (.ref (S.fa 40)) = true
  d_41 : ∃ fd, FunD S.K "asked_steps" "asked_steps" (defArgs (top 75)) (defBody (top 75)) (defScope (top 75)) [] [] (S.fa 41) fd
  k_41 : PySem.W.keepIn S.K (.ref (S.fa 41)) = true
  d_42 : ∃ fd, FunD S.K "known_in" "known_in" (defArgs (top 76)) (defBody (top 76)) (defScope (top 76)) [] [] (S.fa 42) fd
  k_42 : PySem.W.keepIn S.K (.ref (S.fa 42)) = true
  d_43 : ∃ fd, FunD S.K "first_open" "first_open" (defArgs (top 77)) (defBody (top 77)) (defScope (top 77)) [] [] (S.fa 43) fd
  k_43 : PySem.W.keepIn S.K (.ref (S.fa 43)) = true
  d_44 : ∃ fd, FunD S.K "settled" "settled" (defArgs (top 78)) (defBody (top 78)) (defScope (top 78)) [] [] (S.fa 44) fd
  k_44 : PySem.W.keepIn S.K (.ref (S.fa 44)) = true
  d_45 : ∃ fd, FunD S.K "first_stand" "first_stand" (defArgs (top 79)) (defBody (top 79)) (defScope (top 79)) [] [] (S.fa 45) fd
  k_45 : PySem.W.keepIn S.K (.ref (S.fa 45)) = true
  d_46 : ∃ fd, FunD S.K "told_reason" "told_reason" (defArgs (top 80)) (defBody (top 80)) (defScope (top 80)) [] [] (S.fa 46) fd
  k_46 : PySem.W.keepIn S.K (.ref (S.fa 46)) = true
  d_47 : ∃ fd, FunD S.K "start_reason" "start_reason" (defArgs (top 81)) (defBody (top 81)) (defScope (top 81)) [] [] (S.fa 47) fd
  k_47 : PySem.W.keepIn S.K (.ref (S.fa 47)) = true
  d_48 : ∃ fd, FunD S.K "rule_reason" "rule_reason" (defArgs (top 82)) (defBody (top 82)) (defScope (top 82)) [] [] (S.fa 48) fd
  k_48 : PySem.W.keepIn S.K (.ref (S.fa 48)) = true
  d_49 : ∃ fd, FunD S.K "reason_of" "reason_of" (defArgs (top 83)) (defBody (top 83)) (defScope (top 83)) [] [] (S.fa 49) fd
  k_49 : PySem.W.keepIn S.K (.ref (S.fa 49)) = true
  d_50 : ∃ fd, FunD S.K "answered" "answered" (defArgs (top 84)) (defBody (top 84)) (defScope (top 84)) [] [] (S.fa 50) fd
  k_50 : PySem.W.keepIn S.K (.ref (S.fa 50)) = true
  d_51 : ∃ fd, FunD S.K "book_behind" "book_behind" (defArgs (top 85)) (defBody (top 85)) (defScope (top 85)) [] [] (S.fa 51) fd
  k_51 : PySem.W.keepIn S.K (.ref (S.fa 51)) = true
  d_52 : ∃ fd, FunD S.K "changed" "changed" (defArgs (top 86)) (defBody (top 86)) (defScope (top 86)) [] [] (S.fa 52) fd
  k_52 : PySem.W.keepIn S.K (.ref (S.fa 52)) = true
  d_53 : ∃ fd, FunD S.K "least_failing" "least_failing" (defArgs (top 87)) (defBody (top 87)) (defScope (top 87)) [] [] (S.fa 53) fd
  k_53 : PySem.W.keepIn S.K (.ref (S.fa 53)) = true
  d_54 : ∃ fd, FunD S.K "end_by" "end_by" (defArgs (top 88)) (defBody (top 88)) (defScope (top 88)) [] [] (S.fa 54) fd
  k_54 : PySem.W.keepIn S.K (.ref (S.fa 54)) = true
  d_55 : ∃ fd, FunD S.K "ends_from" "ends_from" (defArgs (top 89)) (defBody (top 89)) (defScope (top 89)) [] [] (S.fa 55) fd
  k_55 : PySem.W.keepIn S.K (.ref (S.fa 55)) = true
  d_56 : ∃ fd, FunD S.K "__init__" "Trial.__init__" (defArgs (mem 91 1)) (defBody (mem 91 1)) (defScope (mem 91 1)) [] [("manner", .str "again")] (S.fa 56) fd
  k_56 : PySem.W.keepIn S.K (.ref (S.fa 56)) = true
  d_57 : ∃ fd, FunD S.K "thing_now" "Trial.thing_now" (defArgs (mem 91 4)) (defBody (mem 91 4)) (defScope (mem 91 4)) [] [] (S.fa 57) fd
  k_57 : PySem.W.keepIn S.K (.ref (S.fa 57)) = true
  d_58 : ∃ fd, FunD S.K "question" "Trial.question" (defArgs (mem 91 5)) (defBody (mem 91 5)) (defScope (mem 91 5)) [] [] (S.fa 58) fd
  k_58 : PySem.W.keepIn S.K (.ref (S.fa 58)) = true
  d_59 : ∃ fd, FunD S.K "steps_now" "Trial.steps_now" (defArgs (mem 91 6)) (defBody (mem 91 6)) (defScope (mem 91 6)) [] [] (S.fa 59) fd
  k_59 : PySem.W.keepIn S.K (.ref (S.fa 59)) = true
  d_60 : ∃ fd, FunD S.K "walk_now" "Trial.walk_now" (defArgs (mem 91 7)) (defBody (mem 91 7)) (defScope (mem 91 7)) [] [] (S.fa 60) fd
  k_60 : PySem.W.keepIn S.K (.ref (S.fa 60)) = true
  d_61 : ∃ fd, FunD S.K "tries_now" "Trial.tries_now" (defArgs (mem 91 8)) (defBody (mem 91 8)) (defScope (mem 91 8)) [] [] (S.fa 61) fd
  k_61 : PySem.W.keepIn S.K (.ref (S.fa 61)) = true
  d_62 : ∃ fd, FunD S.K "steps_of_now" "Trial.steps_of_now" (defArgs (mem 91 11)) (defBody (mem 91 11)) (defScope (mem 91 11)) [] [] (S.fa 62) fd
  k_62 : PySem.W.keepIn S.K (.ref (S.fa 62)) = true
  d_63 : ∃ fd, FunD S.K "ends_left" "Trial.ends_left" (defArgs (mem 91 12)) (defBody (mem 91 12)) (defScope (mem 91 12)) [] [] (S.fa 63) fd
  k_63 : PySem.W.keepIn S.K (.ref (S.fa 63)) = true
  d_64 : ∃ fd, FunD S.K "barred" "Trial.barred" (defArgs (mem 91 13)) (defBody (mem 91 13)) (defScope (mem 91 13)) [] [] (S.fa 64) fd
  k_64 : PySem.W.keepIn S.K (.ref (S.fa 64)) = true
  d_65 : ∃ fd, FunD S.K "apply_event" "Trial.apply_event" (defArgs (mem 91 14)) (defBody (mem 91 14)) (defScope (mem 91 14)) [] [] (S.fa 65) fd
  k_65 : PySem.W.keepIn S.K (.ref (S.fa 65)) = true
  d_66 : ∃ fd, FunD S.K "go" "Trial.go" (defArgs (mem 91 15)) (defBody (mem 91 15)) (defScope (mem 91 15)) [] [] (S.fa 66) fd
  k_66 : PySem.W.keepIn S.K (.ref (S.fa 66)) = true
  d_67 : ∃ fd, FunD S.K "answer" "Trial.answer" (defArgs (mem 91 17)) (defBody (mem 91 17)) (defScope (mem 91 17)) [] [] (S.fa 67) fd
  k_67 : PySem.W.keepIn S.K (.ref (S.fa 67)) = true
  d_68 : ∃ fd, FunD S.K "told" "Trial.told" (defArgs (mem 91 18)) (defBody (mem 91 18)) (defScope (mem 91 18)) [] [] (S.fa 68) fd
  k_68 : PySem.W.keepIn S.K (.ref (S.fa 68)) = true
  d_69 : ∃ fd, FunD S.K "add_rule" "Trial.add_rule" (defArgs (mem 91 19)) (defBody (mem 91 19)) (defScope (mem 91 19)) [] [] (S.fa 69) fd
  k_69 : PySem.W.keepIn S.K (.ref (S.fa 69)) = true
  d_70 : ∃ fd, FunD S.K "take_rule" "Trial.take_rule" (defArgs (mem 91 20)) (defBody (mem 91 20)) (defScope (mem 91 20)) [] [] (S.fa 70) fd
  k_70 : PySem.W.keepIn S.K (.ref (S.fa 70)) = true
  d_71 : ∃ fd, FunD S.K "start" "Trial.start" (defArgs (mem 91 21)) (defBody (mem 91 21)) (defScope (mem 91 21)) [] [] (S.fa 71) fd
  k_71 : PySem.W.keepIn S.K (.ref (S.fa 71)) = true
  d_72 : ∃ fd, FunD S.K "__getitem__" "Trial.__getitem__" (defArgs (mem 91 30)) (defBody (mem 91 30)) (defScope (mem 91 30)) [] [] (S.fa 72) fd
  k_72 : PySem.W.keepIn S.K (.ref (S.fa 72)) = true
  d_73 : ∃ fd, FunD S.K "_law_feed" "_law_feed" (defArgs (top 93)) (defBody (top 93)) (defScope (top 93)) [] [] (S.fa 73) fd
  k_73 : PySem.W.keepIn S.K (.ref (S.fa 73)) = true
  d_74 : ∃ fd, FunD S.K "_law_draw" "_law_draw" (defArgs (top 94)) (defBody (top 94)) (defScope (top 94)) [] [] (S.fa 74) fd
  k_74 : PySem.W.keepIn S.K (.ref (S.fa 74)) = true
  d_75 : ∃ fd, FunD S.K "_law_any" "_law_any" (defArgs (top 95)) (defBody (top 95)) (defScope (top 95)) [] [] (S.fa 75) fd
  k_75 : PySem.W.keepIn S.K (.ref (S.fa 75)) = true
  d_76 : ∃ fd, FunD S.K "_law_same" "_law_same" (defArgs (top 96)) (defBody (top 96)) (defScope (top 96)) [] [] (S.fa 76) fd
  k_76 : PySem.W.keepIn S.K (.ref (S.fa 76)) = true
  d_77 : ∃ fd, FunD S.K "_law_turned" "_law_turned" (defArgs (top 97)) (defBody (top 97)) (defScope (top 97)) [] [] (S.fa 77) fd
  k_77 : PySem.W.keepIn S.K (.ref (S.fa 77)) = true
  d_78 : ∃ fd, FunD S.K "_law_book" "_law_book" (defArgs (top 98)) (defBody (top 98)) (defScope (top 98)) [] [] (S.fa 78) fd
  k_78 : PySem.W.keepIn S.K (.ref (S.fa 78)) = true
  d_79 : ∃ fd, FunD S.K "_law_state" "_law_state" (defArgs (top 99)) (defBody (top 99)) (defScope (top 99)) [] [] (S.fa 79) fd
  k_79 : PySem.W.keepIn S.K (.ref (S.fa 79)) = true
  d_80 : ∃ fd, FunD S.K "_law_over_two" "_law_over_two" (defArgs (top 100)) (defBody (top 100)) (defScope (top 100)) [] [] (S.fa 80) fd
  k_80 : PySem.W.keepIn S.K (.ref (S.fa 80)) = true
  d_81 : ∃ fd, FunD S.K "_law_skipped" "_law_skipped" (defArgs (top 101)) (defBody (top 101)) (defScope (top 101)) [] [] (S.fa 81) fd
  k_81 : PySem.W.keepIn S.K (.ref (S.fa 81)) = true
  d_82 : ∃ fd, FunD S.K "_law_on" "_law_on" (defArgs (top 102)) (defBody (top 102)) (defScope (top 102)) [] [] (S.fa 82) fd
  k_82 : PySem.W.keepIn S.K (.ref (S.fa 82)) = true
  d_83 : ∃ fd, FunD S.K "_law_rules_change" "_law_rules_change" (defArgs (top 103)) (defBody (top 103)) (defScope (top 103)) [] [] (S.fa 83) fd
  k_83 : PySem.W.keepIn S.K (.ref (S.fa 83)) = true
  d_84 : ∃ fd, FunD S.K "law" "law" (defArgs (top 104)) (defBody (top 104)) (defScope (top 104)) [] [] (S.fa 84) fd
  k_84 : PySem.W.keepIn S.K (.ref (S.fa 84)) = true
section
variable {S : Sy} {lv : Nat} {rt : Rt} {F : Nat}
theorem w_f_0_1 (X : Dx S) (G : ∀ fd, FunD S.K "is_integer" "is_integer" (defArgs (top 13)) (defBody (top 13)) (defScope (top 13)) [] [] (S.fa 0) fd → FnOk S.P S.w S.K S.mg S.base CX0 lv (S.fa 0) fd ["thing"] (spC S (rt.call 0) 1)) (ar : ∀ args h d h', rt.call 0 args h = .ok d h' → args.length = 1) : FnF S lv rt 0 ["thing"] [] := by
  obtain ⟨fd, d⟩ := X.d_0
  have hb := d.bindsN (ps := ["thing"]) fun _ _ _ _ _ _ us hl => match us, hl with | [_], _ => rfl
  exact ⟨⟨fd, [], [], G fd d, hb, .nil, fun _ _ => .nil⟩, X.k_0, ar⟩
theorem w_f_4_1 (X : Dx S) (G : ∀ fd, FunD S.K "is_rising_row" "is_rising_row" (defArgs (top 17)) (defBody (top 17)) (defScope (top 17)) [] [] (S.fa 4) fd → FnOk S.P S.w S.K S.mg S.base CX0 lv (S.fa 4) fd ["row"] (spC S (rt.call 4) 1)) (ar : ∀ args h d h', rt.call 4 args h = .ok d h' → args.length = 1) : FnF S lv rt 4 ["row"] [] := by
  obtain ⟨fd, d⟩ := X.d_4
  have hb := d.bindsN (ps := ["row"]) fun _ _ _ _ _ _ us hl => match us, hl with | [_], _ => rfl
  exact ⟨⟨fd, [], [], G fd d, hb, .nil, fun _ _ => .nil⟩, X.k_4, ar⟩
theorem w_f_2_1 (X : Dx S) (G : ∀ fd, FunD S.K "is_letter" "is_letter" (defArgs (top 15)) (defBody (top 15)) (defScope (top 15)) [] [] (S.fa 2) fd → FnOk S.P S.w S.K S.mg S.base CX0 lv (S.fa 2) fd ["thing"] (spC S (rt.call 2) 1)) (ar : ∀ args h d h', rt.call 2 args h = .ok d h' → args.length = 1) : FnF S lv rt 2 ["thing"] [] := by
  obtain ⟨fd, d⟩ := X.d_2
  have hb := d.bindsN (ps := ["thing"]) fun _ _ _ _ _ _ us hl => match us, hl with | [_], _ => rfl
  exact ⟨⟨fd, [], [], G fd d, hb, .nil, fun _ _ => .nil⟩, X.k_2, ar⟩
theorem w_f_5_1 (X : Dx S) (G : ∀ fd, FunD S.K "is_letter_set" "is_letter_set" (defArgs (top 18)) (defBody (top 18)) (defScope (top 18)) [] [] (S.fa 5) fd → FnOk S.P S.w S.K S.mg S.base CX0 lv (S.fa 5) fd ["thing"] (spC S (rt.call 5) 1)) (ar : ∀ args h d h', rt.call 5 args h = .ok d h' → args.length = 1) : FnF S lv rt 5 ["thing"] [] := by
  obtain ⟨fd, d⟩ := X.d_5
  have hb := d.bindsN (ps := ["thing"]) fun _ _ _ _ _ _ us hl => match us, hl with | [_], _ => rfl
  exact ⟨⟨fd, [], [], G fd d, hb, .nil, fun _ _ => .nil⟩, X.k_5, ar⟩
theorem w_f_6_1 (X : Dx S) (G : ∀ fd, FunD S.K "is_pair" "is_pair" (defArgs (top 19)) (defBody (top 19)) (defScope (top 19)) [] [] (S.fa 6) fd → FnOk S.P S.w S.K S.mg S.base CX0 lv (S.fa 6) fd ["thing"] (spC S (rt.call 6) 1)) (ar : ∀ args h d h', rt.call 6 args h = .ok d h' → args.length = 1) : FnF S lv rt 6 ["thing"] [] := by
  obtain ⟨fd, d⟩ := X.d_6
  have hb := d.bindsN (ps := ["thing"]) fun _ _ _ _ _ _ us hl => match us, hl with | [_], _ => rfl
  exact ⟨⟨fd, [], [], G fd d, hb, .nil, fun _ _ => .nil⟩, X.k_6, ar⟩
theorem w_f_8_1 (X : Dx S) (G : ∀ fd, FunD S.K "is_side" "is_side" (defArgs (top 21)) (defBody (top 21)) (defScope (top 21)) [] [] (S.fa 8) fd → FnOk S.P S.w S.K S.mg S.base CX0 lv (S.fa 8) fd ["thing"] (spC S (rt.call 8) 1)) (ar : ∀ args h d h', rt.call 8 args h = .ok d h' → args.length = 1) : FnF S lv rt 8 ["thing"] [] := by
  obtain ⟨fd, d⟩ := X.d_8
  have hb := d.bindsN (ps := ["thing"]) fun _ _ _ _ _ _ us hl => match us, hl with | [_], _ => rfl
  exact ⟨⟨fd, [], [], G fd d, hb, .nil, fun _ _ => .nil⟩, X.k_8, ar⟩
theorem w_f_1_1 (X : Dx S) (G : ∀ fd, FunD S.K "is_number" "is_number" (defArgs (top 14)) (defBody (top 14)) (defScope (top 14)) [] [] (S.fa 1) fd → FnOk S.P S.w S.K S.mg S.base CX0 lv (S.fa 1) fd ["thing"] (spC S (rt.call 1) 1)) (ar : ∀ args h d h', rt.call 1 args h = .ok d h' → args.length = 1) : FnF S lv rt 1 ["thing"] [] := by
  obtain ⟨fd, d⟩ := X.d_1
  have hb := d.bindsN (ps := ["thing"]) fun _ _ _ _ _ _ us hl => match us, hl with | [_], _ => rfl
  exact ⟨⟨fd, [], [], G fd d, hb, .nil, fun _ _ => .nil⟩, X.k_1, ar⟩
theorem w_f_3_1 (X : Dx S) (G : ∀ fd, FunD S.K "is_thing" "is_thing" (defArgs (top 16)) (defBody (top 16)) (defScope (top 16)) [] [] (S.fa 3) fd → FnOk S.P S.w S.K S.mg S.base CX0 lv (S.fa 3) fd ["thing"] (spC S (rt.call 3) 1)) (ar : ∀ args h d h', rt.call 3 args h = .ok d h' → args.length = 1) : FnF S lv rt 3 ["thing"] [] := by
  obtain ⟨fd, d⟩ := X.d_3
  have hb := d.bindsN (ps := ["thing"]) fun _ _ _ _ _ _ us hl => match us, hl with | [_], _ => rfl
  exact ⟨⟨fd, [], [], G fd d, hb, .nil, fun _ _ => .nil⟩, X.k_3, ar⟩
theorem w_f_7_1 (X : Dx S) (G : ∀ fd, FunD S.K "is_entry" "is_entry" (defArgs (top 20)) (defBody (top 20)) (defScope (top 20)) [] [] (S.fa 7) fd → FnOk S.P S.w S.K S.mg S.base CX0 lv (S.fa 7) fd ["thing"] (spC S (rt.call 7) 1)) (ar : ∀ args h d h', rt.call 7 args h = .ok d h' → args.length = 1) : FnF S lv rt 7 ["thing"] [] := by
  obtain ⟨fd, d⟩ := X.d_7
  have hb := d.bindsN (ps := ["thing"]) fun _ _ _ _ _ _ us hl => match us, hl with | [_], _ => rfl
  exact ⟨⟨fd, [], [], G fd d, hb, .nil, fun _ _ => .nil⟩, X.k_7, ar⟩
theorem w_f_10_2 (X : Dx S) (G : ∀ fd, FunD S.K "reached_letters" "reached_letters" (defArgs (top 23)) (defBody (top 23)) (defScope (top 23)) [] [] (S.fa 10) fd → FnOk S.P S.w S.K S.mg S.base CX0 lv (S.fa 10) fd ["lessers", "letter"] (spC S (rt.call 10) 2)) (ar : ∀ args h d h', rt.call 10 args h = .ok d h' → args.length = 2) : FnF S lv rt 10 ["lessers", "letter"] [] := by
  obtain ⟨fd, d⟩ := X.d_10
  have hb := d.bindsN (ps := ["lessers", "letter"]) fun _ _ _ _ _ _ us hl => match us, hl with | [_, _], _ => rfl
  exact ⟨⟨fd, [], [], G fd d, hb, .nil, fun _ _ => .nil⟩, X.k_10, ar⟩
theorem w_f_11_1 (X : Dx S) (G : ∀ fd, FunD S.K "letters_fault" "letters_fault" (defArgs (top 24)) (defBody (top 24)) (defScope (top 24)) [] [] (S.fa 11) fd → FnOk S.P S.w S.K S.mg S.base CX0 lv (S.fa 11) fd ["letters"] (spC S (rt.call 11) 1)) (ar : ∀ args h d h', rt.call 11 args h = .ok d h' → args.length = 1) : FnF S lv rt 11 ["letters"] [] := by
  obtain ⟨fd, d⟩ := X.d_11
  have hb := d.bindsN (ps := ["letters"]) fun _ _ _ _ _ _ us hl => match us, hl with | [_], _ => rfl
  exact ⟨⟨fd, [], [], G fd d, hb, .nil, fun _ _ => .nil⟩, X.k_11, ar⟩
theorem w_f_12_2 (X : Dx S) (G : ∀ fd, FunD S.K "are_letters_known" "are_letters_known" (defArgs (top 25)) (defBody (top 25)) (defScope (top 25)) [] [] (S.fa 12) fd → FnOk S.P S.w S.K S.mg S.base CX0 lv (S.fa 12) fd ["known", "rule"] (spC S (rt.call 12) 2)) (ar : ∀ args h d h', rt.call 12 args h = .ok d h' → args.length = 2) : FnF S lv rt 12 ["known", "rule"] [] := by
  obtain ⟨fd, d⟩ := X.d_12
  have hb := d.bindsN (ps := ["known", "rule"]) fun _ _ _ _ _ _ us hl => match us, hl with | [_, _], _ => rfl
  exact ⟨⟨fd, [], [], G fd d, hb, .nil, fun _ _ => .nil⟩, X.k_12, ar⟩
theorem w_f_9_1 (X : Dx S) (G : ∀ fd, FunD S.K "is_rule" "is_rule" (defArgs (top 22)) (defBody (top 22)) (defScope (top 22)) [] [] (S.fa 9) fd → FnOk S.P S.w S.K S.mg S.base CX0 lv (S.fa 9) fd ["thing"] (spC S (rt.call 9) 1)) (ar : ∀ args h d h', rt.call 9 args h = .ok d h' → args.length = 1) : FnF S lv rt 9 ["thing"] [] := by
  obtain ⟨fd, d⟩ := X.d_9
  have hb := d.bindsN (ps := ["thing"]) fun _ _ _ _ _ _ us hl => match us, hl with | [_], _ => rfl
  exact ⟨⟨fd, [], [], G fd d, hb, .nil, fun _ _ => .nil⟩, X.k_9, ar⟩
theorem w_f_13_1 (X : Dx S) (G : ∀ fd, FunD S.K "book_fault" "book_fault" (defArgs (top 26)) (defBody (top 26)) (defScope (top 26)) [] [] (S.fa 13) fd → FnOk S.P S.w S.K S.mg S.base CX0 lv (S.fa 13) fd ["thing"] (spC S (rt.call 13) 1)) (ar : ∀ args h d h', rt.call 13 args h = .ok d h' → args.length = 1) : FnF S lv rt 13 ["thing"] [] := by
  obtain ⟨fd, d⟩ := X.d_13
  have hb := d.bindsN (ps := ["thing"]) fun _ _ _ _ _ _ us hl => match us, hl with | [_], _ => rfl
  exact ⟨⟨fd, [], [], G fd d, hb, .nil, fun _ _ => .nil⟩, X.k_13, ar⟩
theorem w_f_16_1 (X : Dx S) (G : ∀ fd, FunD S.K "known_letters" "known_letters" (defArgs (top 32)) (defBody (top 32)) (defScope (top 32)) [] [] (S.fa 16) fd → FnOk S.P S.w S.K S.mg S.base CX0 lv (S.fa 16) fd ["book"] (spC S (rt.call 16) 1)) (ar : ∀ args h d h', rt.call 16 args h = .ok d h' → args.length = 1) : FnF S lv rt 16 ["book"] [] := by
  obtain ⟨fd, d⟩ := X.d_16
  have hb := d.bindsN (ps := ["book"]) fun _ _ _ _ _ _ us hl => match us, hl with | [_], _ => rfl
  exact ⟨⟨fd, [], [], G fd d, hb, .nil, fun _ _ => .nil⟩, X.k_16, ar⟩
theorem w_f_17_2 (X : Dx S) (G : ∀ fd, FunD S.K "is_thing_of" "is_thing_of" (defArgs (top 33)) (defBody (top 33)) (defScope (top 33)) [] [] (S.fa 17) fd → FnOk S.P S.w S.K S.mg S.base CX0 lv (S.fa 17) fd ["book", "thing"] (spC S (rt.call 17) 2)) (ar : ∀ args h d h', rt.call 17 args h = .ok d h' → args.length = 2) : FnF S lv rt 17 ["book", "thing"] [] := by
  obtain ⟨fd, d⟩ := X.d_17
  have hb := d.bindsN (ps := ["book", "thing"]) fun _ _ _ _ _ _ us hl => match us, hl with | [_, _], _ => rfl
  exact ⟨⟨fd, [], [], G fd d, hb, .nil, fun _ _ => .nil⟩, X.k_17, ar⟩
theorem w_f_15_2 (X : Dx S) (G : ∀ fd, FunD S.K "want" "want" (defArgs (top 30)) (defBody (top 30)) (defScope (top 30)) [.int (-1)] [] (S.fa 15) fd → FnOk S.P S.w S.K S.mg S.base CX0 lv (S.fa 15) fd ["is_right", "word", "at"] (spC S (rt.call 15) 3)) (ar : ∀ args h d h', rt.call 15 args h = .ok d h' → args.length = 3) : FnF S lv rt 15 ["is_right", "word", "at"] [.int (-1)] := by
  obtain ⟨fd, d⟩ := X.d_15
  obtain ⟨ds, hv, hb⟩ := d.binds1 (ps := ["is_right", "word", "at"]) 2 0 (by simp) rfl fun _ _ _ _ _ _ _ us its hl hi => match us, its, hl, hi with | [_, _], [_], _, _ => ⟨_, rfl, rfl⟩
  exact ⟨⟨fd, [.int (-1)], ds, G fd d, hb, hv, fun _ _ => (.cons (rv_i _) .nil)⟩, X.k_15, ar⟩
theorem w_f_18_3 (X : Dx S) (G : ∀ fd, FunD S.K "want_thing" "want_thing" (defArgs (top 34)) (defBody (top 34)) (defScope (top 34)) [] [] (S.fa 18) fd → FnOk S.P S.w S.K S.mg S.base CX0 lv (S.fa 18) fd ["word", "book", "thing"] (spC S (rt.call 18) 3)) (ar : ∀ args h d h', rt.call 18 args h = .ok d h' → args.length = 3) : FnF S lv rt 18 ["word", "book", "thing"] [] := by
  obtain ⟨fd, d⟩ := X.d_18
  have hb := d.bindsN (ps := ["word", "book", "thing"]) fun _ _ _ _ _ _ us hl => match us, hl with | [_, _, _], _ => rfl
  exact ⟨⟨fd, [], [], G fd d, hb, .nil, fun _ _ => .nil⟩, X.k_18, ar⟩
theorem w_f_21_3 (X : Dx S) (G : ∀ fd, FunD S.K "lies_at_most" "lies_at_most" (defArgs (top 38)) (defBody (top 38)) (defScope (top 38)) [] [] (S.fa 21) fd → FnOk S.P S.w S.K S.mg S.base CX0 lv (S.fa 21) fd ["lessers", "u", "v"] (spC S (rt.call 21) 3)) (ar : ∀ args h d h', rt.call 21 args h = .ok d h' → args.length = 3) : FnF S lv rt 21 ["lessers", "u", "v"] [] := by
  obtain ⟨fd, d⟩ := X.d_21
  have hb := d.bindsN (ps := ["lessers", "u", "v"]) fun _ _ _ _ _ _ us hl => match us, hl with | [_, _, _], _ => rfl
  exact ⟨⟨fd, [], [], G fd d, hb, .nil, fun _ _ => .nil⟩, X.k_21, ar⟩
theorem w_f_19_2 (X : Dx S) (G : ∀ fd, FunD S.K "next_ones" "next_ones" (defArgs (top 36)) (defBody (top 36)) (defScope (top 36)) [] [] (S.fa 19) fd → FnOk S.P S.w S.K S.mg S.base CX0 lv (S.fa 19) fd ["lessers", "letter"] (spC S (rt.call 19) 2)) (ar : ∀ args h d h', rt.call 19 args h = .ok d h' → args.length = 2) : FnF S lv rt 19 ["lessers", "letter"] [] := by
  obtain ⟨fd, d⟩ := X.d_19
  have hb := d.bindsN (ps := ["lessers", "letter"]) fun _ _ _ _ _ _ us hl => match us, hl with | [_, _], _ => rfl
  exact ⟨⟨fd, [], [], G fd d, hb, .nil, fun _ _ => .nil⟩, X.k_19, ar⟩
theorem w_f_23_2 (X : Dx S) (G : ∀ fd, FunD S.K "next_ones_below" "next_ones_below" (defArgs (top 40)) (defBody (top 40)) (defScope (top 40)) [] [] (S.fa 23) fd → FnOk S.P S.w S.K S.mg S.base CX0 lv (S.fa 23) fd ["lessers", "x"] (spC S (rt.call 23) 2)) (ar : ∀ args h d h', rt.call 23 args h = .ok d h' → args.length = 2) : FnF S lv rt 23 ["lessers", "x"] [] := by
  obtain ⟨fd, d⟩ := X.d_23
  have hb := d.bindsN (ps := ["lessers", "x"]) fun _ _ _ _ _ _ us hl => match us, hl with | [_, _], _ => rfl
  exact ⟨⟨fd, [], [], G fd d, hb, .nil, fun _ _ => .nil⟩, X.k_23, ar⟩
theorem w_f_25_2 (X : Dx S) (G : ∀ fd, FunD S.K "want" "want" (defArgs (top 54)) (defBody (top 54)) (defScope (top 54)) [.int (-1)] [] (S.fa 25) fd → FnOk S.P S.w S.K S.mg S.base CX0 lv (S.fa 25) fd ["is_right", "name", "at"] (spC S (rt.call 25) 3)) (ar : ∀ args h d h', rt.call 25 args h = .ok d h' → args.length = 3) : FnF S lv rt 25 ["is_right", "name", "at"] [.int (-1)] := by
  obtain ⟨fd, d⟩ := X.d_25
  obtain ⟨ds, hv, hb⟩ := d.binds1 (ps := ["is_right", "name", "at"]) 2 0 (by simp) rfl fun _ _ _ _ _ _ _ us its hl hi => match us, its, hl, hi with | [_, _], [_], _, _ => ⟨_, rfl, rfl⟩
  exact ⟨⟨fd, [.int (-1)], ds, G fd d, hb, hv, fun _ _ => (.cons (rv_i _) .nil)⟩, X.k_25, ar⟩
theorem w_f_27_2 (X : Dx S) (G : ∀ fd, FunD S.K "places_of" "places_of" (defArgs (top 58)) (defBody (top 58)) (defScope (top 58)) [] [] (S.fa 27) fd → FnOk S.P S.w S.K S.mg S.base CX0 lv (S.fa 27) fd ["many", "side"] (spC S (rt.call 27) 2)) (ar : ∀ args h d h', rt.call 27 args h = .ok d h' → args.length = 2) : FnF S lv rt 27 ["many", "side"] [] := by
  obtain ⟨fd, d⟩ := X.d_27
  have hb := d.bindsN (ps := ["many", "side"]) fun _ _ _ _ _ _ us hl => match us, hl with | [_, _], _ => rfl
  exact ⟨⟨fd, [], [], G fd d, hb, .nil, fun _ _ => .nil⟩, X.k_27, ar⟩
theorem w_f_28_2 (X : Dx S) (G : ∀ fd, FunD S.K "dropped" "dropped" (defArgs (top 59)) (defBody (top 59)) (defScope (top 59)) [] [] (S.fa 28) fd → FnOk S.P S.w S.K S.mg S.base CX0 lv (S.fa 28) fd ["rule", "x"] (spC S (rt.call 28) 2)) (ar : ∀ args h d h', rt.call 28 args h = .ok d h' → args.length = 2) : FnF S lv rt 28 ["rule", "x"] [] := by
  obtain ⟨fd, d⟩ := X.d_28
  have hb := d.bindsN (ps := ["rule", "x"]) fun _ _ _ _ _ _ us hl => match us, hl with | [_, _], _ => rfl
  exact ⟨⟨fd, [], [], G fd d, hb, .nil, fun _ _ => .nil⟩, X.k_28, ar⟩
theorem w_f_29_2 (X : Dx S) (G : ∀ fd, FunD S.K "halved" "halved" (defArgs (top 60)) (defBody (top 60)) (defScope (top 60)) [] [] (S.fa 29) fd → FnOk S.P S.w S.K S.mg S.base CX0 lv (S.fa 29) fd ["rule", "x"] (spC S (rt.call 29) 2)) (ar : ∀ args h d h', rt.call 29 args h = .ok d h' → args.length = 2) : FnF S lv rt 29 ["rule", "x"] [] := by
  obtain ⟨fd, d⟩ := X.d_29
  have hb := d.bindsN (ps := ["rule", "x"]) fun _ _ _ _ _ _ us hl => match us, hl with | [_, _], _ => rfl
  exact ⟨⟨fd, [], [], G fd d, hb, .nil, fun _ _ => .nil⟩, X.k_29, ar⟩
theorem w_f_30_3 (X : Dx S) (G : ∀ fd, FunD S.K "lowered" "lowered" (defArgs (top 61)) (defBody (top 61)) (defScope (top 61)) [] [] (S.fa 30) fd → FnOk S.P S.w S.K S.mg S.base CX0 lv (S.fa 30) fd ["lessers", "rule", "x"] (spC S (rt.call 30) 3)) (ar : ∀ args h d h', rt.call 30 args h = .ok d h' → args.length = 3) : FnF S lv rt 30 ["lessers", "rule", "x"] [] := by
  obtain ⟨fd, d⟩ := X.d_30
  have hb := d.bindsN (ps := ["lessers", "rule", "x"]) fun _ _ _ _ _ _ us hl => match us, hl with | [_, _, _], _ => rfl
  exact ⟨⟨fd, [], [], G fd d, hb, .nil, fun _ _ => .nil⟩, X.k_30, ar⟩
theorem w_f_31_2 (X : Dx S) (G : ∀ fd, FunD S.K "put_results" "put_results" (defArgs (top 62)) (defBody (top 62)) (defScope (top 62)) [] [] (S.fa 31) fd → FnOk S.P S.w S.K S.mg S.base CX0 lv (S.fa 31) fd ["rule", "x"] (spC S (rt.call 31) 2)) (ar : ∀ args h d h', rt.call 31 args h = .ok d h' → args.length = 2) : FnF S lv rt 31 ["rule", "x"] [] := by
  obtain ⟨fd, d⟩ := X.d_31
  have hb := d.bindsN (ps := ["rule", "x"]) fun _ _ _ _ _ _ us hl => match us, hl with | [_, _], _ => rfl
  exact ⟨⟨fd, [], [], G fd d, hb, .nil, fun _ _ => .nil⟩, X.k_31, ar⟩
theorem w_f_32_3 (X : Dx S) (G : ∀ fd, FunD S.K "results_of" "results_of" (defArgs (top 63)) (defBody (top 63)) (defScope (top 63)) [] [] (S.fa 32) fd → FnOk S.P S.w S.K S.mg S.base CX0 lv (S.fa 32) fd ["book", "k", "x"] (spC S (rt.call 32) 3)) (ar : ∀ args h d h', rt.call 32 args h = .ok d h' → args.length = 3) : FnF S lv rt 32 ["book", "k", "x"] [] := by
  obtain ⟨fd, d⟩ := X.d_32
  have hb := d.bindsN (ps := ["book", "k", "x"]) fun _ _ _ _ _ _ us hl => match us, hl with | [_, _, _], _ => rfl
  exact ⟨⟨fd, [], [], G fd d, hb, .nil, fun _ _ => .nil⟩, X.k_32, ar⟩
theorem w_f_34_2 (X : Dx S) (G : ∀ fd, FunD S.K "letters_under" "letters_under" (defArgs (top 65)) (defBody (top 65)) (defScope (top 65)) [] [] (S.fa 34) fd → FnOk S.P S.w S.K S.mg S.base CX0 lv (S.fa 34) fd ["book", "letter"] (spC S (rt.call 34) 2)) (ar : ∀ args h d h', rt.call 34 args h = .ok d h' → args.length = 2) : FnF S lv rt 34 ["book", "letter"] [] := by
  obtain ⟨fd, d⟩ := X.d_34
  have hb := d.bindsN (ps := ["book", "letter"]) fun _ _ _ _ _ _ us hl => match us, hl with | [_, _], _ => rfl
  exact ⟨⟨fd, [], [], G fd d, hb, .nil, fun _ _ => .nil⟩, X.k_34, ar⟩
theorem w_f_35_1 (X : Dx S) (G : ∀ fd, FunD S.K "falling_fault" "falling_fault" (defArgs (top 66)) (defBody (top 66)) (defScope (top 66)) [] [] (S.fa 35) fd → FnOk S.P S.w S.K S.mg S.base CX0 lv (S.fa 35) fd ["book"] (spC S (rt.call 35) 1)) (ar : ∀ args h d h', rt.call 35 args h = .ok d h' → args.length = 1) : FnF S lv rt 35 ["book"] [] := by
  obtain ⟨fd, d⟩ := X.d_35
  have hb := d.bindsN (ps := ["book"]) fun _ _ _ _ _ _ us hl => match us, hl with | [_], _ => rfl
  exact ⟨⟨fd, [], [], G fd d, hb, .nil, fun _ _ => .nil⟩, X.k_35, ar⟩
theorem w_f_37_1 (X : Dx S) (G : ∀ fd, FunD S.K "is_bool" "is_bool" (defArgs (top 69)) (defBody (top 69)) (defScope (top 69)) [] [] (S.fa 37) fd → FnOk S.P S.w S.K S.mg S.base CX0 lv (S.fa 37) fd ["thing"] (spC S (rt.call 37) 1)) (ar : ∀ args h d h', rt.call 37 args h = .ok d h' → args.length = 1) : FnF S lv rt 37 ["thing"] [] := by
  obtain ⟨fd, d⟩ := X.d_37
  have hb := d.bindsN (ps := ["thing"]) fun _ _ _ _ _ _ us hl => match us, hl with | [_], _ => rfl
  exact ⟨⟨fd, [], [], G fd d, hb, .nil, fun _ _ => .nil⟩, X.k_37, ar⟩
theorem w_f_38_1 (X : Dx S) (G : ∀ fd, FunD S.K "is_manner" "is_manner" (defArgs (top 70)) (defBody (top 70)) (defScope (top 70)) [] [] (S.fa 38) fd → FnOk S.P S.w S.K S.mg S.base CX0 lv (S.fa 38) fd ["thing"] (spC S (rt.call 38) 1)) (ar : ∀ args h d h', rt.call 38 args h = .ok d h' → args.length = 1) : FnF S lv rt 38 ["thing"] [] := by
  obtain ⟨fd, d⟩ := X.d_38
  have hb := d.bindsN (ps := ["thing"]) fun _ _ _ _ _ _ us hl => match us, hl with | [_], _ => rfl
  exact ⟨⟨fd, [], [], G fd d, hb, .nil, fun _ _ => .nil⟩, X.k_38, ar⟩
theorem w_f_33_3 (X : Dx S) (G : ∀ fd, FunD S.K "steps_from" "steps_from" (defArgs (top 64)) (defBody (top 64)) (defScope (top 64)) [] [] (S.fa 33) fd → FnOk S.P S.w S.K S.mg S.base CX0 lv (S.fa 33) fd ["book", "x", "first"] (spC S (rt.call 33) 3)) (ar : ∀ args h d h', rt.call 33 args h = .ok d h' → args.length = 3) : FnF S lv rt 33 ["book", "x", "first"] [] := by
  obtain ⟨fd, d⟩ := X.d_33
  have hb := d.bindsN (ps := ["book", "x", "first"]) fun _ _ _ _ _ _ us hl => match us, hl with | [_, _, _], _ => rfl
  exact ⟨⟨fd, [], [], G fd d, hb, .nil, fun _ _ => .nil⟩, X.k_33, ar⟩
theorem w_f_22_3 (X : Dx S) (G : ∀ fd, FunD S.K "is_at_most" "is_at_most" (defArgs (top 39)) (defBody (top 39)) (defScope (top 39)) [] [] (S.fa 22) fd → FnOk S.P S.w S.K S.mg S.base CX0 lv (S.fa 22) fd ["book", "u", "v"] (spC S (rt.call 22) 3)) (ar : ∀ args h d h', rt.call 22 args h = .ok d h' → args.length = 3) : FnF S lv rt 22 ["book", "u", "v"] [] := by
  obtain ⟨fd, d⟩ := X.d_22
  have hb := d.bindsN (ps := ["book", "u", "v"]) fun _ _ _ _ _ _ us hl => match us, hl with | [_, _, _], _ => rfl
  exact ⟨⟨fd, [], [], G fd d, hb, .nil, fun _ _ => .nil⟩, X.k_22, ar⟩
theorem w_f_42_3 (X : Dx S) (G : ∀ fd, FunD S.K "known_in" "known_in" (defArgs (top 76)) (defBody (top 76)) (defScope (top 76)) [] [] (S.fa 42) fd → FnOk S.P S.w S.K S.mg S.base CX0 lv (S.fa 42) fd ["book", "told", "thing"] (spC S (rt.call 42) 3)) (ar : ∀ args h d h', rt.call 42 args h = .ok d h' → args.length = 3) : FnF S lv rt 42 ["book", "told", "thing"] [] := by
  obtain ⟨fd, d⟩ := X.d_42
  have hb := d.bindsN (ps := ["book", "told", "thing"]) fun _ _ _ _ _ _ us hl => match us, hl with | [_, _, _], _ => rfl
  exact ⟨⟨fd, [], [], G fd d, hb, .nil, fun _ _ => .nil⟩, X.k_42, ar⟩
theorem w_f_41_4 (X : Dx S) (G : ∀ fd, FunD S.K "asked_steps" "asked_steps" (defArgs (top 75)) (defBody (top 75)) (defScope (top 75)) [] [] (S.fa 41) fd → FnOk S.P S.w S.K S.mg S.base CX0 lv (S.fa 41) fd ["book", "manner", "thing", "rule_now"] (spC S (rt.call 41) 4)) (ar : ∀ args h d h', rt.call 41 args h = .ok d h' → args.length = 4) : FnF S lv rt 41 ["book", "manner", "thing", "rule_now"] [] := by
  obtain ⟨fd, d⟩ := X.d_41
  have hb := d.bindsN (ps := ["book", "manner", "thing", "rule_now"]) fun _ _ _ _ _ _ us hl => match us, hl with | [_, _, _, _], _ => rfl
  exact ⟨⟨fd, [], [], G fd d, hb, .nil, fun _ _ => .nil⟩, X.k_41, ar⟩
theorem w_f_43_3 (X : Dx S) (G : ∀ fd, FunD S.K "first_open" "first_open" (defArgs (top 77)) (defBody (top 77)) (defScope (top 77)) [] [] (S.fa 43) fd → FnOk S.P S.w S.K S.mg S.base CX0 lv (S.fa 43) fd ["book", "told", "steps"] (spC S (rt.call 43) 3)) (ar : ∀ args h d h', rt.call 43 args h = .ok d h' → args.length = 3) : FnF S lv rt 43 ["book", "told", "steps"] [] := by
  obtain ⟨fd, d⟩ := X.d_43
  have hb := d.bindsN (ps := ["book", "told", "steps"]) fun _ _ _ _ _ _ us hl => match us, hl with | [_, _, _], _ => rfl
  exact ⟨⟨fd, [], [], G fd d, hb, .nil, fun _ _ => .nil⟩, X.k_43, ar⟩
theorem w_f_40_7 (X : Dx S) (G : ∀ fd, FunD S.K "__init__" "Stand.__init__" (defArgs (mem 74 0)) (defBody (mem 74 0)) (defScope (mem 74 0)) [] [] (S.fa 40) fd → FnOk S.P S.w S.K S.mg S.base CX0 lv (S.fa 40) fd ["self", "book", "manner", "things", "rule_now", "told", "tries"] (spC S (rt.call 40) 7)) (ar : ∀ args h d h', rt.call 40 args h = .ok d h' → args.length = 7) : FnF S lv rt 40 ["self", "book", "manner", "things", "rule_now", "told", "tries"] [] := by
  obtain ⟨fd, d⟩ := X.d_40
  have hb := d.bindsN (ps := ["self", "book", "manner", "things", "rule_now", "told", "tries"]) fun _ _ _ _ _ _ us hl => match us, hl with | [_, _, _, _, _, _, _], _ => rfl
  exact ⟨⟨fd, [], [], G fd d, hb, .nil, fun _ _ => .nil⟩, X.k_40, ar⟩
theorem w_f_44_1 (X : Dx S) (G : ∀ fd, FunD S.K "settled" "settled" (defArgs (top 78)) (defBody (top 78)) (defScope (top 78)) [] [] (S.fa 44) fd → FnOk S.P S.w S.K S.mg S.base CX0 lv (S.fa 44) fd ["stand"] (spC S (rt.call 44) 1)) (ar : ∀ args h d h', rt.call 44 args h = .ok d h' → args.length = 1) : FnF S lv rt 44 ["stand"] [] := by
  obtain ⟨fd, d⟩ := X.d_44
  have hb := d.bindsN (ps := ["stand"]) fun _ _ _ _ _ _ us hl => match us, hl with | [_], _ => rfl
  exact ⟨⟨fd, [], [], G fd d, hb, .nil, fun _ _ => .nil⟩, X.k_44, ar⟩
theorem w_f_20_2 (X : Dx S) (G : ∀ fd, FunD S.K "has_letters" "has_letters" (defArgs (top 37)) (defBody (top 37)) (defScope (top 37)) [] [] (S.fa 20) fd → FnOk S.P S.w S.K S.mg S.base CX0 lv (S.fa 20) fd ["book", "thing"] (spC S (rt.call 20) 2)) (ar : ∀ args h d h', rt.call 20 args h = .ok d h' → args.length = 2) : FnF S lv rt 20 ["book", "thing"] [] := by
  obtain ⟨fd, d⟩ := X.d_20
  have hb := d.bindsN (ps := ["book", "thing"]) fun _ _ _ _ _ _ us hl => match us, hl with | [_, _], _ => rfl
  exact ⟨⟨fd, [], [], G fd d, hb, .nil, fun _ _ => .nil⟩, X.k_20, ar⟩
theorem w_f_39_1 (X : Dx S) (G : ∀ fd, FunD S.K "is_event" "is_event" (defArgs (top 72)) (defBody (top 72)) (defScope (top 72)) [] [] (S.fa 39) fd → FnOk S.P S.w S.K S.mg S.base CX0 lv (S.fa 39) fd ["thing"] (spC S (rt.call 39) 1)) (ar : ∀ args h d h', rt.call 39 args h = .ok d h' → args.length = 1) : FnF S lv rt 39 ["thing"] [] := by
  obtain ⟨fd, d⟩ := X.d_39
  have hb := d.bindsN (ps := ["thing"]) fun _ _ _ _ _ _ us hl => match us, hl with | [_], _ => rfl
  exact ⟨⟨fd, [], [], G fd d, hb, .nil, fun _ _ => .nil⟩, X.k_39, ar⟩
theorem w_f_48_3 (X : Dx S) (G : ∀ fd, FunD S.K "rule_reason" "rule_reason" (defArgs (top 82)) (defBody (top 82)) (defScope (top 82)) [] [] (S.fa 48) fd → FnOk S.P S.w S.K S.mg S.base CX0 lv (S.fa 48) fd ["book", "rule", "at_rule"] (spC S (rt.call 48) 3)) (ar : ∀ args h d h', rt.call 48 args h = .ok d h' → args.length = 3) : FnF S lv rt 48 ["book", "rule", "at_rule"] [] := by
  obtain ⟨fd, d⟩ := X.d_48
  have hb := d.bindsN (ps := ["book", "rule", "at_rule"]) fun _ _ _ _ _ _ us hl => match us, hl with | [_, _, _], _ => rfl
  exact ⟨⟨fd, [], [], G fd d, hb, .nil, fun _ _ => .nil⟩, X.k_48, ar⟩
theorem w_f_47_2 (X : Dx S) (G : ∀ fd, FunD S.K "start_reason" "start_reason" (defArgs (top 81)) (defBody (top 81)) (defScope (top 81)) [] [] (S.fa 47) fd → FnOk S.P S.w S.K S.mg S.base CX0 lv (S.fa 47) fd ["stand", "thing"] (spC S (rt.call 47) 2)) (ar : ∀ args h d h', rt.call 47 args h = .ok d h' → args.length = 2) : FnF S lv rt 47 ["stand", "thing"] [] := by
  obtain ⟨fd, d⟩ := X.d_47
  have hb := d.bindsN (ps := ["stand", "thing"]) fun _ _ _ _ _ _ us hl => match us, hl with | [_, _], _ => rfl
  exact ⟨⟨fd, [], [], G fd d, hb, .nil, fun _ _ => .nil⟩, X.k_47, ar⟩
theorem w_f_46_3 (X : Dx S) (G : ∀ fd, FunD S.K "told_reason" "told_reason" (defArgs (top 80)) (defBody (top 80)) (defScope (top 80)) [] [] (S.fa 46) fd → FnOk S.P S.w S.K S.mg S.base CX0 lv (S.fa 46) fd ["stand", "thing", "it_fails"] (spC S (rt.call 46) 3)) (ar : ∀ args h d h', rt.call 46 args h = .ok d h' → args.length = 3) : FnF S lv rt 46 ["stand", "thing", "it_fails"] [] := by
  obtain ⟨fd, d⟩ := X.d_46
  have hb := d.bindsN (ps := ["stand", "thing", "it_fails"]) fun _ _ _ _ _ _ us hl => match us, hl with | [_, _, _], _ => rfl
  exact ⟨⟨fd, [], [], G fd d, hb, .nil, fun _ _ => .nil⟩, X.k_46, ar⟩
theorem w_f_51_2 (X : Dx S) (G : ∀ fd, FunD S.K "book_behind" "book_behind" (defArgs (top 85)) (defBody (top 85)) (defScope (top 85)) [] [] (S.fa 51) fd → FnOk S.P S.w S.K S.mg S.base CX0 lv (S.fa 51) fd ["book", "event"] (spC S (rt.call 51) 2)) (ar : ∀ args h d h', rt.call 51 args h = .ok d h' → args.length = 2) : FnF S lv rt 51 ["book", "event"] [] := by
  obtain ⟨fd, d⟩ := X.d_51
  have hb := d.bindsN (ps := ["book", "event"]) fun _ _ _ _ _ _ us hl => match us, hl with | [_, _], _ => rfl
  exact ⟨⟨fd, [], [], G fd d, hb, .nil, fun _ _ => .nil⟩, X.k_51, ar⟩
theorem w_f_50_2 (X : Dx S) (G : ∀ fd, FunD S.K "answered" "answered" (defArgs (top 84)) (defBody (top 84)) (defScope (top 84)) [] [] (S.fa 50) fd → FnOk S.P S.w S.K S.mg S.base CX0 lv (S.fa 50) fd ["stand", "it_fails"] (spC S (rt.call 50) 2)) (ar : ∀ args h d h', rt.call 50 args h = .ok d h' → args.length = 2) : FnF S lv rt 50 ["stand", "it_fails"] [] := by
  obtain ⟨fd, d⟩ := X.d_50
  have hb := d.bindsN (ps := ["stand", "it_fails"]) fun _ _ _ _ _ _ us hl => match us, hl with | [_, _], _ => rfl
  exact ⟨⟨fd, [], [], G fd d, hb, .nil, fun _ _ => .nil⟩, X.k_50, ar⟩
theorem w_f_53_1 (X : Dx S) (G : ∀ fd, FunD S.K "least_failing" "least_failing" (defArgs (top 87)) (defBody (top 87)) (defScope (top 87)) [] [] (S.fa 53) fd → FnOk S.P S.w S.K S.mg S.base CX0 lv (S.fa 53) fd ["stand"] (spC S (rt.call 53) 1)) (ar : ∀ args h d h', rt.call 53 args h = .ok d h' → args.length = 1) : FnF S lv rt 53 ["stand"] [] := by
  obtain ⟨fd, d⟩ := X.d_53
  have hb := d.bindsN (ps := ["stand"]) fun _ _ _ _ _ _ us hl => match us, hl with | [_], _ => rfl
  exact ⟨⟨fd, [], [], G fd d, hb, .nil, fun _ _ => .nil⟩, X.k_53, ar⟩
theorem w_f_24_2 (X : Dx S) (G : ∀ fd, FunD S.K "things_at_most" "things_at_most" (defArgs (top 41)) (defBody (top 41)) (defScope (top 41)) [] [] (S.fa 24) fd → FnOk S.P S.w S.K S.mg S.base CX0 lv (S.fa 24) fd ["book", "x"] (spC S (rt.call 24) 2)) (ar : ∀ args h d h', rt.call 24 args h = .ok d h' → args.length = 2) : FnF S lv rt 24 ["book", "x"] [] := by
  obtain ⟨fd, d⟩ := X.d_24
  have hb := d.bindsN (ps := ["book", "x"]) fun _ _ _ _ _ _ us hl => match us, hl with | [_, _], _ => rfl
  exact ⟨⟨fd, [], [], G fd d, hb, .nil, fun _ _ => .nil⟩, X.k_24, ar⟩
theorem w_f_54_2 (X : Dx S) (G : ∀ fd, FunD S.K "end_by" "end_by" (defArgs (top 88)) (defBody (top 88)) (defScope (top 88)) [] [] (S.fa 54) fd → FnOk S.P S.w S.K S.mg S.base CX0 lv (S.fa 54) fd ["stand", "causes"] (spC S (rt.call 54) 2)) (ar : ∀ args h d h', rt.call 54 args h = .ok d h' → args.length = 2) : FnF S lv rt 54 ["stand", "causes"] [] := by
  obtain ⟨fd, d⟩ := X.d_54
  have hb := d.bindsN (ps := ["stand", "causes"]) fun _ _ _ _ _ _ us hl => match us, hl with | [_, _], _ => rfl
  exact ⟨⟨fd, [], [], G fd d, hb, .nil, fun _ _ => .nil⟩, X.k_54, ar⟩
theorem w_f_14_1 (X : Dx S) (G : ∀ fd, FunD S.K "lets_book" "lets_book" (defArgs (top 28)) (defBody (top 28)) (defScope (top 28)) [] [] (S.fa 14) fd → FnOk S.P S.w S.K S.mg S.base CX0 lv (S.fa 14) fd ["thing"] (spC S (rt.call 14) 1)) (ar : ∀ args h d h', rt.call 14 args h = .ok d h' → args.length = 1) : FnF S lv rt 14 ["thing"] [] := by
  obtain ⟨fd, d⟩ := X.d_14
  have hb := d.bindsN (ps := ["thing"]) fun _ _ _ _ _ _ us hl => match us, hl with | [_], _ => rfl
  exact ⟨⟨fd, [], [], G fd d, hb, .nil, fun _ _ => .nil⟩, X.k_14, ar⟩
theorem w_f_26_1 (X : Dx S) (G : ∀ fd, FunD S.K "want_manner" "want_manner" (defArgs (top 56)) (defBody (top 56)) (defScope (top 56)) [] [] (S.fa 26) fd → FnOk S.P S.w S.K S.mg S.base CX0 lv (S.fa 26) fd ["manner"] (spC S (rt.call 26) 1)) (ar : ∀ args h d h', rt.call 26 args h = .ok d h' → args.length = 1) : FnF S lv rt 26 ["manner"] [] := by
  obtain ⟨fd, d⟩ := X.d_26
  have hb := d.bindsN (ps := ["manner"]) fun _ _ _ _ _ _ us hl => match us, hl with | [_], _ => rfl
  exact ⟨⟨fd, [], [], G fd d, hb, .nil, fun _ _ => .nil⟩, X.k_26, ar⟩
theorem w_f_36_1 (X : Dx S) (G : ∀ fd, FunD S.K "want_falling" "want_falling" (defArgs (top 67)) (defBody (top 67)) (defScope (top 67)) [] [] (S.fa 36) fd → FnOk S.P S.w S.K S.mg S.base CX0 lv (S.fa 36) fd ["book"] (spC S (rt.call 36) 1)) (ar : ∀ args h d h', rt.call 36 args h = .ok d h' → args.length = 1) : FnF S lv rt 36 ["book"] [] := by
  obtain ⟨fd, d⟩ := X.d_36
  have hb := d.bindsN (ps := ["book"]) fun _ _ _ _ _ _ us hl => match us, hl with | [_], _ => rfl
  exact ⟨⟨fd, [], [], G fd d, hb, .nil, fun _ _ => .nil⟩, X.k_36, ar⟩
theorem w_f_45_3 (X : Dx S) (G : ∀ fd, FunD S.K "first_stand" "first_stand" (defArgs (top 79)) (defBody (top 79)) (defScope (top 79)) [] [] (S.fa 45) fd → FnOk S.P S.w S.K S.mg S.base CX0 lv (S.fa 45) fd ["book", "x", "manner"] (spC S (rt.call 45) 3)) (ar : ∀ args h d h', rt.call 45 args h = .ok d h' → args.length = 3) : FnF S lv rt 45 ["book", "x", "manner"] [] := by
  obtain ⟨fd, d⟩ := X.d_45
  have hb := d.bindsN (ps := ["book", "x", "manner"]) fun _ _ _ _ _ _ us hl => match us, hl with | [_, _, _], _ => rfl
  exact ⟨⟨fd, [], [], G fd d, hb, .nil, fun _ _ => .nil⟩, X.k_45, ar⟩
theorem w_f_62_1 (X : Dx S) (G : ∀ fd, FunD S.K "steps_of_now" "Trial.steps_of_now" (defArgs (mem 91 11)) (defBody (mem 91 11)) (defScope (mem 91 11)) [] [] (S.fa 62) fd → FnOk S.P S.w S.K S.mg S.base CX0 lv (S.fa 62) fd ["self"] (spC S (rt.call 62) 1)) (ar : ∀ args h d h', rt.call 62 args h = .ok d h' → args.length = 1) : FnF S lv rt 62 ["self"] [] := by
  obtain ⟨fd, d⟩ := X.d_62
  have hb := d.bindsN (ps := ["self"]) fun _ _ _ _ _ _ us hl => match us, hl with | [_], _ => rfl
  exact ⟨⟨fd, [], [], G fd d, hb, .nil, fun _ _ => .nil⟩, X.k_62, ar⟩
theorem w_f_55_1 (X : Dx S) (G : ∀ fd, FunD S.K "ends_from" "ends_from" (defArgs (top 89)) (defBody (top 89)) (defScope (top 89)) [] [] (S.fa 55) fd → FnOk S.P S.w S.K S.mg S.base CX0 lv (S.fa 55) fd ["stand"] (spC S (rt.call 55) 1)) (ar : ∀ args h d h', rt.call 55 args h = .ok d h' → args.length = 1) : FnF S lv rt 55 ["stand"] [] := by
  obtain ⟨fd, d⟩ := X.d_55
  have hb := d.bindsN (ps := ["stand"]) fun _ _ _ _ _ _ us hl => match us, hl with | [_], _ => rfl
  exact ⟨⟨fd, [], [], G fd d, hb, .nil, fun _ _ => .nil⟩, X.k_55, ar⟩
theorem w_f_49_3 (X : Dx S) (G : ∀ fd, FunD S.K "reason_of" "reason_of" (defArgs (top 83)) (defBody (top 83)) (defScope (top 83)) [] [] (S.fa 49) fd → FnOk S.P S.w S.K S.mg S.base CX0 lv (S.fa 49) fd ["stand", "event", "is_full"] (spC S (rt.call 49) 3)) (ar : ∀ args h d h', rt.call 49 args h = .ok d h' → args.length = 3) : FnF S lv rt 49 ["stand", "event", "is_full"] [] := by
  obtain ⟨fd, d⟩ := X.d_49
  have hb := d.bindsN (ps := ["stand", "event", "is_full"]) fun _ _ _ _ _ _ us hl => match us, hl with | [_, _, _], _ => rfl
  exact ⟨⟨fd, [], [], G fd d, hb, .nil, fun _ _ => .nil⟩, X.k_49, ar⟩
theorem w_f_64_2 (X : Dx S) (G : ∀ fd, FunD S.K "barred" "Trial.barred" (defArgs (mem 91 13)) (defBody (mem 91 13)) (defScope (mem 91 13)) [] [] (S.fa 64) fd → FnOk S.P S.w S.K S.mg S.base CX0 lv (S.fa 64) fd ["self", "event"] (spC S (rt.call 64) 2)) (ar : ∀ args h d h', rt.call 64 args h = .ok d h' → args.length = 2) : FnF S lv rt 64 ["self", "event"] [] := by
  obtain ⟨fd, d⟩ := X.d_64
  have hb := d.bindsN (ps := ["self", "event"]) fun _ _ _ _ _ _ us hl => match us, hl with | [_, _], _ => rfl
  exact ⟨⟨fd, [], [], G fd d, hb, .nil, fun _ _ => .nil⟩, X.k_64, ar⟩
theorem w_f_52_2 (X : Dx S) (G : ∀ fd, FunD S.K "changed" "changed" (defArgs (top 86)) (defBody (top 86)) (defScope (top 86)) [] [] (S.fa 52) fd → FnOk S.P S.w S.K S.mg S.base CX0 lv (S.fa 52) fd ["stand", "event"] (spC S (rt.call 52) 2)) (ar : ∀ args h d h', rt.call 52 args h = .ok d h' → args.length = 2) : FnF S lv rt 52 ["stand", "event"] [] := by
  obtain ⟨fd, d⟩ := X.d_52
  have hb := d.bindsN (ps := ["stand", "event"]) fun _ _ _ _ _ _ us hl => match us, hl with | [_, _], _ => rfl
  exact ⟨⟨fd, [], [], G fd d, hb, .nil, fun _ _ => .nil⟩, X.k_52, ar⟩
theorem w_f_58_1 (X : Dx S) (G : ∀ fd, FunD S.K "question" "Trial.question" (defArgs (mem 91 5)) (defBody (mem 91 5)) (defScope (mem 91 5)) [] [] (S.fa 58) fd → FnOk S.P S.w S.K S.mg S.base CX0 lv (S.fa 58) fd ["self"] (spC S (rt.call 58) 1)) (ar : ∀ args h d h', rt.call 58 args h = .ok d h' → args.length = 1) : FnF S lv rt 58 ["self"] [] := by
  obtain ⟨fd, d⟩ := X.d_58
  have hb := d.bindsN (ps := ["self"]) fun _ _ _ _ _ _ us hl => match us, hl with | [_], _ => rfl
  exact ⟨⟨fd, [], [], G fd d, hb, .nil, fun _ _ => .nil⟩, X.k_58, ar⟩
theorem w_f_65_2 (X : Dx S) (G : ∀ fd, FunD S.K "apply_event" "Trial.apply_event" (defArgs (mem 91 14)) (defBody (mem 91 14)) (defScope (mem 91 14)) [] [] (S.fa 65) fd → FnOk S.P S.w S.K S.mg S.base CX0 lv (S.fa 65) fd ["self", "event"] (spC S (rt.call 65) 2)) (ar : ∀ args h d h', rt.call 65 args h = .ok d h' → args.length = 2) : FnF S lv rt 65 ["self", "event"] [] := by
  obtain ⟨fd, d⟩ := X.d_65
  have hb := d.bindsN (ps := ["self", "event"]) fun _ _ _ _ _ _ us hl => match us, hl with | [_, _], _ => rfl
  exact ⟨⟨fd, [], [], G fd d, hb, .nil, fun _ _ => .nil⟩, X.k_65, ar⟩
theorem w_f_66_2 (X : Dx S) (G : ∀ fd, FunD S.K "go" "Trial.go" (defArgs (mem 91 15)) (defBody (mem 91 15)) (defScope (mem 91 15)) [] [] (S.fa 66) fd → FnOk S.P S.w S.K S.mg S.base CX0 lv (S.fa 66) fd ["self", "event"] (spC S (rt.call 66) 2)) (ar : ∀ args h d h', rt.call 66 args h = .ok d h' → args.length = 2) : FnF S lv rt 66 ["self", "event"] [] := by
  obtain ⟨fd, d⟩ := X.d_66
  have hb := d.bindsN (ps := ["self", "event"]) fun _ _ _ _ _ _ us hl => match us, hl with | [_, _], _ => rfl
  exact ⟨⟨fd, [], [], G fd d, hb, .nil, fun _ _ => .nil⟩, X.k_66, ar⟩
theorem w_f_74_2 (X : Dx S) (G : ∀ fd, FunD S.K "_law_draw" "_law_draw" (defArgs (top 94)) (defBody (top 94)) (defScope (top 94)) [] [] (S.fa 74) fd → FnOk S.P S.w S.K S.mg S.base CX0 lv (S.fa 74) fd ["_law_feed_here", "_law_many"] (spC S (rt.call 74) 2)) (ar : ∀ args h d h', rt.call 74 args h = .ok d h' → args.length = 2) : FnF S lv rt 74 ["_law_feed_here", "_law_many"] [] := by
  obtain ⟨fd, d⟩ := X.d_74
  have hb := d.bindsN (ps := ["_law_feed_here", "_law_many"]) fun _ _ _ _ _ _ us hl => match us, hl with | [_, _], _ => rfl
  exact ⟨⟨fd, [], [], G fd d, hb, .nil, fun _ _ => .nil⟩, X.k_74, ar⟩
theorem w_f_61_1 (X : Dx S) (G : ∀ fd, FunD S.K "tries_now" "Trial.tries_now" (defArgs (mem 91 8)) (defBody (mem 91 8)) (defScope (mem 91 8)) [] [] (S.fa 61) fd → FnOk S.P S.w S.K S.mg S.base CX0 lv (S.fa 61) fd ["self"] (spC S (rt.call 61) 1)) (ar : ∀ args h d h', rt.call 61 args h = .ok d h' → args.length = 1) : FnF S lv rt 61 ["self"] [] := by
  obtain ⟨fd, d⟩ := X.d_61
  have hb := d.bindsN (ps := ["self"]) fun _ _ _ _ _ _ us hl => match us, hl with | [_], _ => rfl
  exact ⟨⟨fd, [], [], G fd d, hb, .nil, fun _ _ => .nil⟩, X.k_61, ar⟩
theorem w_f_60_1 (X : Dx S) (G : ∀ fd, FunD S.K "walk_now" "Trial.walk_now" (defArgs (mem 91 7)) (defBody (mem 91 7)) (defScope (mem 91 7)) [] [] (S.fa 60) fd → FnOk S.P S.w S.K S.mg S.base CX0 lv (S.fa 60) fd ["self"] (spC S (rt.call 60) 1)) (ar : ∀ args h d h', rt.call 60 args h = .ok d h' → args.length = 1) : FnF S lv rt 60 ["self"] [] := by
  obtain ⟨fd, d⟩ := X.d_60
  have hb := d.bindsN (ps := ["self"]) fun _ _ _ _ _ _ us hl => match us, hl with | [_], _ => rfl
  exact ⟨⟨fd, [], [], G fd d, hb, .nil, fun _ _ => .nil⟩, X.k_60, ar⟩
theorem w_f_57_1 (X : Dx S) (G : ∀ fd, FunD S.K "thing_now" "Trial.thing_now" (defArgs (mem 91 4)) (defBody (mem 91 4)) (defScope (mem 91 4)) [] [] (S.fa 57) fd → FnOk S.P S.w S.K S.mg S.base CX0 lv (S.fa 57) fd ["self"] (spC S (rt.call 57) 1)) (ar : ∀ args h d h', rt.call 57 args h = .ok d h' → args.length = 1) : FnF S lv rt 57 ["self"] [] := by
  obtain ⟨fd, d⟩ := X.d_57
  have hb := d.bindsN (ps := ["self"]) fun _ _ _ _ _ _ us hl => match us, hl with | [_], _ => rfl
  exact ⟨⟨fd, [], [], G fd d, hb, .nil, fun _ _ => .nil⟩, X.k_57, ar⟩
theorem w_f_78_2 (X : Dx S) (G : ∀ fd, FunD S.K "_law_book" "_law_book" (defArgs (top 98)) (defBody (top 98)) (defScope (top 98)) [] [] (S.fa 78) fd → FnOk S.P S.w S.K S.mg S.base CX0 lv (S.fa 78) fd ["_law_names", "_law_rules"] (spC S (rt.call 78) 2)) (ar : ∀ args h d h', rt.call 78 args h = .ok d h' → args.length = 2) : FnF S lv rt 78 ["_law_names", "_law_rules"] [] := by
  obtain ⟨fd, d⟩ := X.d_78
  have hb := d.bindsN (ps := ["_law_names", "_law_rules"]) fun _ _ _ _ _ _ us hl => match us, hl with | [_, _], _ => rfl
  exact ⟨⟨fd, [], [], G fd d, hb, .nil, fun _ _ => .nil⟩, X.k_78, ar⟩
theorem w_f_77_2 (X : Dx S) (G : ∀ fd, FunD S.K "_law_turned" "_law_turned" (defArgs (top 97)) (defBody (top 97)) (defScope (top 97)) [] [] (S.fa 77) fd → FnOk S.P S.w S.K S.mg S.base CX0 lv (S.fa 77) fd ["_law_x", "_law_names"] (spC S (rt.call 77) 2)) (ar : ∀ args h d h', rt.call 77 args h = .ok d h' → args.length = 2) : FnF S lv rt 77 ["_law_x", "_law_names"] [] := by
  obtain ⟨fd, d⟩ := X.d_77
  have hb := d.bindsN (ps := ["_law_x", "_law_names"]) fun _ _ _ _ _ _ us hl => match us, hl with | [_, _], _ => rfl
  exact ⟨⟨fd, [], [], G fd d, hb, .nil, fun _ _ => .nil⟩, X.k_77, ar⟩
theorem w_f_56_3 (X : Dx S) (G : ∀ fd, FunD S.K "__init__" "Trial.__init__" (defArgs (mem 91 1)) (defBody (mem 91 1)) (defScope (mem 91 1)) [] [("manner", .str "again")] (S.fa 56) fd → FnOk S.P S.w S.K S.mg S.base CX0 lv (S.fa 56) fd ["self", "book", "x", "manner"] (spC S (rt.call 56) 4)) (ar : ∀ args h d h', rt.call 56 args h = .ok d h' → args.length = 4) : FnF S lv rt 56 ["self", "book", "x", "manner"] [.str [97, 103, 97, 105, 110]] := by
  obtain ⟨fd, d⟩ := X.d_56
  obtain ⟨ds, hv, hb⟩ := d.binds0 (ps := ["self", "book", "x", "manner"]) 3 (by simp) rfl fun _ _ _ _ _ _ us ks hl hk => match us, ks, hl, hk with | [_, _, _], [_], _, _ => ⟨_, _, _, _, _, _, rfl, rfl, rfl⟩
  exact ⟨⟨fd, [.str "again"], ds, G fd d, hb, hv, fun _ _ => (.cons (rv_sl (by kernel_rfl)) .nil)⟩, X.k_56, ar⟩
theorem w_f_79_1 (X : Dx S) (G : ∀ fd, FunD S.K "_law_state" "_law_state" (defArgs (top 99)) (defBody (top 99)) (defScope (top 99)) [] [] (S.fa 79) fd → FnOk S.P S.w S.K S.mg S.base CX0 lv (S.fa 79) fd ["_law_trial"] (spC S (rt.call 79) 1)) (ar : ∀ args h d h', rt.call 79 args h = .ok d h' → args.length = 1) : FnF S lv rt 79 ["_law_trial"] [] := by
  obtain ⟨fd, d⟩ := X.d_79
  have hb := d.bindsN (ps := ["_law_trial"]) fun _ _ _ _ _ _ us hl => match us, hl with | [_], _ => rfl
  exact ⟨⟨fd, [], [], G fd d, hb, .nil, fun _ _ => .nil⟩, X.k_79, ar⟩
theorem w_g_76_2 (X : Dx S) (G : ∀ fd, FunD S.K "_law_same" "_law_same" (defArgs (top 96)) (defBody (top 96)) (defScope (top 96)) [] [] (S.fa 76) fd → FnG S lv (S.fa 76) fd ["_law_told", "_law_due"] (spC S (rt.call 76) 2)) (ar : ∀ args h d h', rt.call 76 args h = .ok d h' → args.length = 2) : FnGF S lv rt 76 ["_law_told", "_law_due"] [] := by
  obtain ⟨fd, d⟩ := X.d_76
  have hb := d.bindsN (ps := ["_law_told", "_law_due"]) fun _ _ _ _ _ _ us hl => match us, hl with | [_, _], _ => rfl
  exact ⟨⟨fd, [], [], G fd d, hb, .nil, fun _ _ => .nil⟩, X.k_76, ar⟩
theorem w_f_68_3 (X : Dx S) (G : ∀ fd, FunD S.K "told" "Trial.told" (defArgs (mem 91 18)) (defBody (mem 91 18)) (defScope (mem 91 18)) [] [] (S.fa 68) fd → FnOk S.P S.w S.K S.mg S.base CX0 lv (S.fa 68) fd ["self", "thing", "it_fails"] (spC S (rt.call 68) 3)) (ar : ∀ args h d h', rt.call 68 args h = .ok d h' → args.length = 3) : FnF S lv rt 68 ["self", "thing", "it_fails"] [] := by
  obtain ⟨fd, d⟩ := X.d_68
  have hb := d.bindsN (ps := ["self", "thing", "it_fails"]) fun _ _ _ _ _ _ us hl => match us, hl with | [_, _, _], _ => rfl
  exact ⟨⟨fd, [], [], G fd d, hb, .nil, fun _ _ => .nil⟩, X.k_68, ar⟩
theorem w_f_63_1 (X : Dx S) (G : ∀ fd, FunD S.K "ends_left" "Trial.ends_left" (defArgs (mem 91 12)) (defBody (mem 91 12)) (defScope (mem 91 12)) [] [] (S.fa 63) fd → FnOk S.P S.w S.K S.mg S.base CX0 lv (S.fa 63) fd ["self"] (spC S (rt.call 63) 1)) (ar : ∀ args h d h', rt.call 63 args h = .ok d h' → args.length = 1) : FnF S lv rt 63 ["self"] [] := by
  obtain ⟨fd, d⟩ := X.d_63
  have hb := d.bindsN (ps := ["self"]) fun _ _ _ _ _ _ us hl => match us, hl with | [_], _ => rfl
  exact ⟨⟨fd, [], [], G fd d, hb, .nil, fun _ _ => .nil⟩, X.k_63, ar⟩
theorem w_f_67_2 (X : Dx S) (G : ∀ fd, FunD S.K "answer" "Trial.answer" (defArgs (mem 91 17)) (defBody (mem 91 17)) (defScope (mem 91 17)) [] [] (S.fa 67) fd → FnOk S.P S.w S.K S.mg S.base CX0 lv (S.fa 67) fd ["self", "it_fails"] (spC S (rt.call 67) 2)) (ar : ∀ args h d h', rt.call 67 args h = .ok d h' → args.length = 2) : FnF S lv rt 67 ["self", "it_fails"] [] := by
  obtain ⟨fd, d⟩ := X.d_67
  have hb := d.bindsN (ps := ["self", "it_fails"]) fun _ _ _ _ _ _ us hl => match us, hl with | [_, _], _ => rfl
  exact ⟨⟨fd, [], [], G fd d, hb, .nil, fun _ _ => .nil⟩, X.k_67, ar⟩
theorem w_k_56_3 (X : Dx S) (G : ∀ fd, FunD S.K "__init__" "Trial.__init__" (defArgs (mem 91 1)) (defBody (mem 91 1)) (defScope (mem 91 1)) [] [("manner", .str "again")] (S.fa 56) fd → FnOk S.P S.w S.K S.mg S.base CX0 lv (S.fa 56) fd ["self", "book", "x", "manner"] (spC S (rt.call 56) 4)) (ar : ∀ args h d h', rt.call 56 args h = .ok d h' → args.length = 4) : FnKF S lv rt 56 ["self", "book", "x", "manner"] 3 ["manner"] := by
  obtain ⟨fd, d⟩ := X.d_56
  obtain ⟨mv, kb⟩ := d.kbinds0 (ps := ["self", "book", "x", "manner"]) 3 ["manner"] [] (fun us _ ws => us ++ ws) (by simp) (fun _ h => nomatch h) (fun a _ c => a.append c) fun _ _ _ _ _ _ us mv ws hl hm hw => match us, mv, ws, hl, hm, hw with | [_, _, _], [], [_], _, _, _ => rfl
  exact ⟨⟨fd, G fd d, kb⟩, X.k_56, ar⟩
theorem w_f_72_2 (X : Dx S) (G : ∀ fd, FunD S.K "__getitem__" "Trial.__getitem__" (defArgs (mem 91 30)) (defBody (mem 91 30)) (defScope (mem 91 30)) [] [] (S.fa 72) fd → FnOk S.P S.w S.K S.mg S.base CX0 lv (S.fa 72) fd ["self", "thing"] (spC S (rt.call 72) 2)) (ar : ∀ args h d h', rt.call 72 args h = .ok d h' → args.length = 2) : FnF S lv rt 72 ["self", "thing"] [] := by
  obtain ⟨fd, d⟩ := X.d_72
  have hb := d.bindsN (ps := ["self", "thing"]) fun _ _ _ _ _ _ us hl => match us, hl with | [_, _], _ => rfl
  exact ⟨⟨fd, [], [], G fd d, hb, .nil, fun _ _ => .nil⟩, X.k_72, ar⟩
theorem w_f_59_1 (X : Dx S) (G : ∀ fd, FunD S.K "steps_now" "Trial.steps_now" (defArgs (mem 91 6)) (defBody (mem 91 6)) (defScope (mem 91 6)) [] [] (S.fa 59) fd → FnOk S.P S.w S.K S.mg S.base CX0 lv (S.fa 59) fd ["self"] (spC S (rt.call 59) 1)) (ar : ∀ args h d h', rt.call 59 args h = .ok d h' → args.length = 1) : FnF S lv rt 59 ["self"] [] := by
  obtain ⟨fd, d⟩ := X.d_59
  have hb := d.bindsN (ps := ["self"]) fun _ _ _ _ _ _ us hl => match us, hl with | [_], _ => rfl
  exact ⟨⟨fd, [], [], G fd d, hb, .nil, fun _ _ => .nil⟩, X.k_59, ar⟩
theorem w_f_70_2 (X : Dx S) (G : ∀ fd, FunD S.K "take_rule" "Trial.take_rule" (defArgs (mem 91 20)) (defBody (mem 91 20)) (defScope (mem 91 20)) [] [] (S.fa 70) fd → FnOk S.P S.w S.K S.mg S.base CX0 lv (S.fa 70) fd ["self", "k"] (spC S (rt.call 70) 2)) (ar : ∀ args h d h', rt.call 70 args h = .ok d h' → args.length = 2) : FnF S lv rt 70 ["self", "k"] [] := by
  obtain ⟨fd, d⟩ := X.d_70
  have hb := d.bindsN (ps := ["self", "k"]) fun _ _ _ _ _ _ us hl => match us, hl with | [_, _], _ => rfl
  exact ⟨⟨fd, [], [], G fd d, hb, .nil, fun _ _ => .nil⟩, X.k_70, ar⟩
theorem w_f_69_3 (X : Dx S) (G : ∀ fd, FunD S.K "add_rule" "Trial.add_rule" (defArgs (mem 91 19)) (defBody (mem 91 19)) (defScope (mem 91 19)) [] [] (S.fa 69) fd → FnOk S.P S.w S.K S.mg S.base CX0 lv (S.fa 69) fd ["self", "rule", "at"] (spC S (rt.call 69) 3)) (ar : ∀ args h d h', rt.call 69 args h = .ok d h' → args.length = 3) : FnF S lv rt 69 ["self", "rule", "at"] [] := by
  obtain ⟨fd, d⟩ := X.d_69
  have hb := d.bindsN (ps := ["self", "rule", "at"]) fun _ _ _ _ _ _ us hl => match us, hl with | [_, _, _], _ => rfl
  exact ⟨⟨fd, [], [], G fd d, hb, .nil, fun _ _ => .nil⟩, X.k_69, ar⟩
theorem w_f_71_2 (X : Dx S) (G : ∀ fd, FunD S.K "start" "Trial.start" (defArgs (mem 91 21)) (defBody (mem 91 21)) (defScope (mem 91 21)) [] [] (S.fa 71) fd → FnOk S.P S.w S.K S.mg S.base CX0 lv (S.fa 71) fd ["self", "thing"] (spC S (rt.call 71) 2)) (ar : ∀ args h d h', rt.call 71 args h = .ok d h' → args.length = 2) : FnF S lv rt 71 ["self", "thing"] [] := by
  obtain ⟨fd, d⟩ := X.d_71
  have hb := d.bindsN (ps := ["self", "thing"]) fun _ _ _ _ _ _ us hl => match us, hl with | [_, _], _ => rfl
  exact ⟨⟨fd, [], [], G fd d, hb, .nil, fun _ _ => .nil⟩, X.k_71, ar⟩
theorem w_f_73_1 (X : Dx S) (G : ∀ fd, FunD S.K "_law_feed" "_law_feed" (defArgs (top 93)) (defBody (top 93)) (defScope (top 93)) [] [] (S.fa 73) fd → FnOk S.P S.w S.K S.mg S.base CX0 lv (S.fa 73) fd ["_law_script"] (spC S (rt.call 73) 1)) (ar : ∀ args h d h', rt.call 73 args h = .ok d h' → args.length = 1) : FnF S lv rt 73 ["_law_script"] [] := by
  obtain ⟨fd, d⟩ := X.d_73
  have hb := d.bindsN (ps := ["_law_script"]) fun _ _ _ _ _ _ us hl => match us, hl with | [_], _ => rfl
  exact ⟨⟨fd, [], [], G fd d, hb, .nil, fun _ _ => .nil⟩, X.k_73, ar⟩
theorem w_f_75_2 (X : Dx S) (G : ∀ fd, FunD S.K "_law_any" "_law_any" (defArgs (top 95)) (defBody (top 95)) (defScope (top 95)) [] [] (S.fa 75) fd → FnOk S.P S.w S.K S.mg S.base CX0 lv (S.fa 75) fd ["_law_feed_here", "_law_some"] (spC S (rt.call 75) 2)) (ar : ∀ args h d h', rt.call 75 args h = .ok d h' → args.length = 2) : FnF S lv rt 75 ["_law_feed_here", "_law_some"] [] := by
  obtain ⟨fd, d⟩ := X.d_75
  have hb := d.bindsN (ps := ["_law_feed_here", "_law_some"]) fun _ _ _ _ _ _ us hl => match us, hl with | [_, _], _ => rfl
  exact ⟨⟨fd, [], [], G fd d, hb, .nil, fun _ _ => .nil⟩, X.k_75, ar⟩
theorem w_g_81_1 (X : Dx S) (G : ∀ fd, FunD S.K "_law_skipped" "_law_skipped" (defArgs (top 101)) (defBody (top 101)) (defScope (top 101)) [] [] (S.fa 81) fd → FnG S lv (S.fa 81) fd ["_law_names"] (spC S (rt.call 81) 1)) (ar : ∀ args h d h', rt.call 81 args h = .ok d h' → args.length = 1) : FnGF S lv rt 81 ["_law_names"] [] := by
  obtain ⟨fd, d⟩ := X.d_81
  have hb := d.bindsN (ps := ["_law_names"]) fun _ _ _ _ _ _ us hl => match us, hl with | [_], _ => rfl
  exact ⟨⟨fd, [], [], G fd d, hb, .nil, fun _ _ => .nil⟩, X.k_81, ar⟩
theorem w_g_80_1 (X : Dx S) (G : ∀ fd, FunD S.K "_law_over_two" "_law_over_two" (defArgs (top 100)) (defBody (top 100)) (defScope (top 100)) [] [] (S.fa 80) fd → FnG S lv (S.fa 80) fd ["_law_names"] (spC S (rt.call 80) 1)) (ar : ∀ args h d h', rt.call 80 args h = .ok d h' → args.length = 1) : FnGF S lv rt 80 ["_law_names"] [] := by
  obtain ⟨fd, d⟩ := X.d_80
  have hb := d.bindsN (ps := ["_law_names"]) fun _ _ _ _ _ _ us hl => match us, hl with | [_], _ => rfl
  exact ⟨⟨fd, [], [], G fd d, hb, .nil, fun _ _ => .nil⟩, X.k_80, ar⟩
theorem w_g_83_1 (X : Dx S) (G : ∀ fd, FunD S.K "_law_rules_change" "_law_rules_change" (defArgs (top 103)) (defBody (top 103)) (defScope (top 103)) [] [] (S.fa 83) fd → FnG S lv (S.fa 83) fd ["_law_names"] (spC S (rt.call 83) 1)) (ar : ∀ args h d h', rt.call 83 args h = .ok d h' → args.length = 1) : FnGF S lv rt 83 ["_law_names"] [] := by
  obtain ⟨fd, d⟩ := X.d_83
  have hb := d.bindsN (ps := ["_law_names"]) fun _ _ _ _ _ _ us hl => match us, hl with | [_], _ => rfl
  exact ⟨⟨fd, [], [], G fd d, hb, .nil, fun _ _ => .nil⟩, X.k_83, ar⟩
theorem w_g_82_1 (X : Dx S) (G : ∀ fd, FunD S.K "_law_on" "_law_on" (defArgs (top 102)) (defBody (top 102)) (defScope (top 102)) [] [] (S.fa 82) fd → FnG S lv (S.fa 82) fd ["_law_names"] (spC S (rt.call 82) 1)) (ar : ∀ args h d h', rt.call 82 args h = .ok d h' → args.length = 1) : FnGF S lv rt 82 ["_law_names"] [] := by
  obtain ⟨fd, d⟩ := X.d_82
  have hb := d.bindsN (ps := ["_law_names"]) fun _ _ _ _ _ _ us hl => match us, hl with | [_], _ => rfl
  exact ⟨⟨fd, [], [], G fd d, hb, .nil, fun _ _ => .nil⟩, X.k_82, ar⟩
theorem o0 (x : Fx S) (w : W S lv rt) {fd : FuncData} (d : FunD S.K "is_integer" "is_integer" (defArgs (top 13)) (defBody (top 13)) (defScope (top 13)) [] [] (S.fa 0) fd) : FnOk S.P S.w S.K S.mg S.base CX0 (lv + 3) (S.fa 0) fd ["thing"] (spC S (callG ⟨m0, 1, 1⟩ rt) 1) := Den.FnOk.forget (fn_step (F := ⟨m0, 1, 1⟩) (N := N0) (ps := ["thing"]) d (C8.fnScope_by (by kernel_rfl)) rfl rfl (b0 x w))
theorem o1 (x : Fx S) (w : W S lv rt) {fd : FuncData} (d : FunD S.K "is_number" "is_number" (defArgs (top 14)) (defBody (top 14)) (defScope (top 14)) [] [] (S.fa 1) fd) : FnOk S.P S.w S.K S.mg S.base CX0 (lv + 3) (S.fa 1) fd ["thing"] (spC S (callG ⟨m1, 1, 1⟩ rt) 1) := Den.FnOk.forget (fn_step (F := ⟨m1, 1, 1⟩) (N := N1) (ps := ["thing"]) d (C8.fnScope_by (by kernel_rfl)) rfl rfl (b1 x w))
theorem o2 (x : Fx S) (w : W S lv rt) {fd : FuncData} (d : FunD S.K "is_letter" "is_letter" (defArgs (top 15)) (defBody (top 15)) (defScope (top 15)) [] [] (S.fa 2) fd) : FnOk S.P S.w S.K S.mg S.base CX0 (lv + 3) (S.fa 2) fd ["thing"] (spC S (callG ⟨m2, 1, 1⟩ rt) 1) := Den.FnOk.forget (fn_step (F := ⟨m2, 1, 1⟩) (N := N2) (ps := ["thing"]) d (C8.fnScope_by (by kernel_rfl)) rfl rfl (b2 x w))
theorem o3 (x : Fx S) (w : W S lv rt) {fd : FuncData} (d : FunD S.K "is_thing" "is_thing" (defArgs (top 16)) (defBody (top 16)) (defScope (top 16)) [] [] (S.fa 3) fd) : FnOk S.P S.w S.K S.mg S.base CX0 (lv + 3) (S.fa 3) fd ["thing"] (spC S (callG ⟨m3, 2, 1⟩ rt) 1) := Den.FnOk.forget (fn_step (F := ⟨m3, 2, 1⟩) (N := N3) (ps := ["thing"]) d (C8.fnScope_by (by kernel_rfl)) rfl rfl (b3 x w))
theorem o4 (x : Fx S) (w : W S lv rt) {fd : FuncData} (d : FunD S.K "is_rising_row" "is_rising_row" (defArgs (top 17)) (defBody (top 17)) (defScope (top 17)) [] [] (S.fa 4) fd) : FnOk S.P S.w S.K S.mg S.base CX0 (lv + 3) (S.fa 4) fd ["row"] (spC S (callG ⟨m4, 3, 1⟩ rt) 1) := Den.FnOk.forget (fn_step (F := ⟨m4, 3, 1⟩) (N := N4) (ps := ["row"]) d (C8.fnScope_by (by kernel_rfl)) rfl rfl (b4 x w))
theorem o5 (x : Fx S) (w : W S lv rt) {fd : FuncData} (d : FunD S.K "is_letter_set" "is_letter_set" (defArgs (top 18)) (defBody (top 18)) (defScope (top 18)) [] [] (S.fa 5) fd) : FnOk S.P S.w S.K S.mg S.base CX0 (lv + 3) (S.fa 5) fd ["thing"] (spC S (callG ⟨m5, 2, 1⟩ rt) 1) := Den.FnOk.forget (fn_step (F := ⟨m5, 2, 1⟩) (N := N5) (ps := ["thing"]) d (C8.fnScope_by (by kernel_rfl)) rfl rfl (b5 x w))
theorem o6 (x : Fx S) (w : W S lv rt) {fd : FuncData} (d : FunD S.K "is_pair" "is_pair" (defArgs (top 19)) (defBody (top 19)) (defScope (top 19)) [] [] (S.fa 6) fd) : FnOk S.P S.w S.K S.mg S.base CX0 (lv + 3) (S.fa 6) fd ["thing"] (spC S (callG ⟨m6, 1, 1⟩ rt) 1) := Den.FnOk.forget (fn_step (F := ⟨m6, 1, 1⟩) (N := N6) (ps := ["thing"]) d (C8.fnScope_by (by kernel_rfl)) rfl rfl (b6 x w))
theorem o7 (x : Fx S) (w : W S lv rt) {fd : FuncData} (d : FunD S.K "is_entry" "is_entry" (defArgs (top 20)) (defBody (top 20)) (defScope (top 20)) [] [] (S.fa 7) fd) : FnOk S.P S.w S.K S.mg S.base CX0 (lv + 3) (S.fa 7) fd ["thing"] (spC S (callG ⟨m7, 1, 1⟩ rt) 1) := Den.FnOk.forget (fn_step (F := ⟨m7, 1, 1⟩) (N := N7) (ps := ["thing"]) d (C8.fnScope_by (by kernel_rfl)) rfl rfl (b7 x w))
theorem o8 (x : Fx S) (w : W S lv rt) {fd : FuncData} (d : FunD S.K "is_side" "is_side" (defArgs (top 21)) (defBody (top 21)) (defScope (top 21)) [] [] (S.fa 8) fd) : FnOk S.P S.w S.K S.mg S.base CX0 (lv + 3) (S.fa 8) fd ["thing"] (spC S (callG ⟨m8, 1, 1⟩ rt) 1) := Den.FnOk.forget (fn_step (F := ⟨m8, 1, 1⟩) (N := N8) (ps := ["thing"]) d (C8.fnScope_by (by kernel_rfl)) rfl rfl (b8 x w))
theorem o9 (x : Fx S) (w : W S lv rt) {fd : FuncData} (d : FunD S.K "is_rule" "is_rule" (defArgs (top 22)) (defBody (top 22)) (defScope (top 22)) [] [] (S.fa 9) fd) : FnOk S.P S.w S.K S.mg S.base CX0 (lv + 3) (S.fa 9) fd ["thing"] (spC S (callG ⟨m9, 3, 1⟩ rt) 1) := Den.FnOk.forget (fn_step (F := ⟨m9, 3, 1⟩) (N := N9) (ps := ["thing"]) d (C8.fnScope_by (by kernel_rfl)) rfl rfl (b9 x w))
theorem o10 (x : Fx S) (w : W S lv rt) {fd : FuncData} (d : FunD S.K "reached_letters" "reached_letters" (defArgs (top 23)) (defBody (top 23)) (defScope (top 23)) [] [] (S.fa 10) fd) : FnOk S.P S.w S.K S.mg S.base CX0 (lv + 3) (S.fa 10) fd ["lessers", "letter"] (spC S (callG ⟨m10, 5, 2⟩ rt) 2) := Den.FnOk.forget (fn_step (F := ⟨m10, 5, 2⟩) (N := N10) (ps := ["lessers", "letter"]) d (C8.fnScope_by (by kernel_rfl)) rfl rfl (b10 x w))
theorem o11 (x : Fx S) (w : W S lv rt) {fd : FuncData} (d : FunD S.K "letters_fault" "letters_fault" (defArgs (top 24)) (defBody (top 24)) (defScope (top 24)) [] [] (S.fa 11) fd) : FnOk S.P S.w S.K S.mg S.base CX0 (lv + 3) (S.fa 11) fd ["letters"] (spC S (callG ⟨m11, 8, 1⟩ rt) 1) := Den.FnOk.forget (fn_step (F := ⟨m11, 8, 1⟩) (N := N11) (ps := ["letters"]) d (C8.fnScope_by (by kernel_rfl)) rfl rfl (b11 x w))
theorem o12 (x : Fx S) (w : W S lv rt) {fd : FuncData} (d : FunD S.K "are_letters_known" "are_letters_known" (defArgs (top 25)) (defBody (top 25)) (defScope (top 25)) [] [] (S.fa 12) fd) : FnOk S.P S.w S.K S.mg S.base CX0 (lv + 3) (S.fa 12) fd ["known", "rule"] (spC S (callG ⟨m12, 3, 2⟩ rt) 2) := Den.FnOk.forget (fn_step (F := ⟨m12, 3, 2⟩) (N := N12) (ps := ["known", "rule"]) d (C8.fnScope_by (by kernel_rfl)) rfl rfl (b12 x w))
theorem o13 (x : Fx S) (w : W S lv rt) {fd : FuncData} (d : FunD S.K "book_fault" "book_fault" (defArgs (top 26)) (defBody (top 26)) (defScope (top 26)) [] [] (S.fa 13) fd) : FnOk S.P S.w S.K S.mg S.base CX0 (lv + 3) (S.fa 13) fd ["thing"] (spC S (callG ⟨m13, 7, 1⟩ rt) 1) := Den.FnOk.forget (fn_step (F := ⟨m13, 7, 1⟩) (N := N13) (ps := ["thing"]) d (C8.fnScope_by (by kernel_rfl)) rfl rfl (b13 x w))
theorem o14 (x : Fx S) (w : W S lv rt) {fd : FuncData} (d : FunD S.K "lets_book" "lets_book" (defArgs (top 28)) (defBody (top 28)) (defScope (top 28)) [] [] (S.fa 14) fd) : FnOk S.P S.w S.K S.mg S.base CX0 (lv + 3) (S.fa 14) fd ["thing"] (spC S (callG ⟨m14, 2, 1⟩ rt) 1) := Den.FnOk.forget (fn_step (F := ⟨m14, 2, 1⟩) (N := N14) (ps := ["thing"]) d (C8.fnScope_by (by kernel_rfl)) rfl rfl (b14 x w))
theorem o15 (x : Fx S) (w : W S lv rt) {fd : FuncData} (d : FunD S.K "want" "want" (defArgs (top 30)) (defBody (top 30)) (defScope (top 30)) [.int (-1)] [] (S.fa 15) fd) : FnOk S.P S.w S.K S.mg S.base CX0 (lv + 3) (S.fa 15) fd ["is_right", "word", "at"] (spC S (callG ⟨m15, 3, 3⟩ rt) 3) := Den.FnOk.forget (fn_step (F := ⟨m15, 3, 3⟩) (N := N15) (ps := ["is_right", "word", "at"]) d (C8.fnScope_by (by kernel_rfl)) rfl rfl (b15 x w))
theorem o16 (x : Fx S) (w : W S lv rt) {fd : FuncData} (d : FunD S.K "known_letters" "known_letters" (defArgs (top 32)) (defBody (top 32)) (defScope (top 32)) [] [] (S.fa 16) fd) : FnOk S.P S.w S.K S.mg S.base CX0 (lv + 3) (S.fa 16) fd ["book"] (spC S (callG ⟨m16, 3, 1⟩ rt) 1) := Den.FnOk.forget (fn_step (F := ⟨m16, 3, 1⟩) (N := N16) (ps := ["book"]) d (C8.fnScope_by (by kernel_rfl)) rfl rfl (b16 x w))
theorem o17 (x : Fx S) (w : W S lv rt) {fd : FuncData} (d : FunD S.K "is_thing_of" "is_thing_of" (defArgs (top 33)) (defBody (top 33)) (defScope (top 33)) [] [] (S.fa 17) fd) : FnOk S.P S.w S.K S.mg S.base CX0 (lv + 3) (S.fa 17) fd ["book", "thing"] (spC S (callG ⟨m17, 4, 2⟩ rt) 2) := Den.FnOk.forget (fn_step (F := ⟨m17, 4, 2⟩) (N := N17) (ps := ["book", "thing"]) d (C8.fnScope_by (by kernel_rfl)) rfl rfl (b17 x w))
theorem o18 (x : Fx S) (w : W S lv rt) {fd : FuncData} (d : FunD S.K "want_thing" "want_thing" (defArgs (top 34)) (defBody (top 34)) (defScope (top 34)) [] [] (S.fa 18) fd) : FnOk S.P S.w S.K S.mg S.base CX0 (lv + 3) (S.fa 18) fd ["word", "book", "thing"] (spC S (callG ⟨m18, 3, 3⟩ rt) 3) := Den.FnOk.forget (fn_step (F := ⟨m18, 3, 3⟩) (N := N18) (ps := ["word", "book", "thing"]) d (C8.fnScope_by (by kernel_rfl)) rfl rfl (b18 x w))
theorem o19 (x : Fx S) (w : W S lv rt) {fd : FuncData} (d : FunD S.K "next_ones" "next_ones" (defArgs (top 36)) (defBody (top 36)) (defScope (top 36)) [] [] (S.fa 19) fd) : FnOk S.P S.w S.K S.mg S.base CX0 (lv + 3) (S.fa 19) fd ["lessers", "letter"] (spC S (callG ⟨m19, 6, 2⟩ rt) 2) := Den.FnOk.forget (fn_step (F := ⟨m19, 6, 2⟩) (N := N19) (ps := ["lessers", "letter"]) d (C8.fnScope_by (by kernel_rfl)) rfl rfl (b19 x w))
theorem o20 (x : Fx S) (w : W S lv rt) {fd : FuncData} (d : FunD S.K "has_letters" "has_letters" (defArgs (top 37)) (defBody (top 37)) (defScope (top 37)) [] [] (S.fa 20) fd) : FnOk S.P S.w S.K S.mg S.base CX0 (lv + 3) (S.fa 20) fd ["book", "thing"] (spC S (callG ⟨m20, 2, 2⟩ rt) 2) := Den.FnOk.forget (fn_step (F := ⟨m20, 2, 2⟩) (N := N20) (ps := ["book", "thing"]) d (C8.fnScope_by (by kernel_rfl)) rfl rfl (b20 x w))
theorem o21 (x : Fx S) (w : W S lv rt) {fd : FuncData} (d : FunD S.K "lies_at_most" "lies_at_most" (defArgs (top 38)) (defBody (top 38)) (defScope (top 38)) [] [] (S.fa 21) fd) : FnOk S.P S.w S.K S.mg S.base CX0 (lv + 3) (S.fa 21) fd ["lessers", "u", "v"] (spC S (callG ⟨m21, 5, 3⟩ rt) 3) := Den.FnOk.forget (fn_step (F := ⟨m21, 5, 3⟩) (N := N21) (ps := ["lessers", "u", "v"]) d (C8.fnScope_by (by kernel_rfl)) rfl rfl (b21 x w))
theorem o22 (x : Fx S) (w : W S lv rt) {fd : FuncData} (d : FunD S.K "is_at_most" "is_at_most" (defArgs (top 39)) (defBody (top 39)) (defScope (top 39)) [] [] (S.fa 22) fd) : FnOk S.P S.w S.K S.mg S.base CX0 (lv + 3) (S.fa 22) fd ["book", "u", "v"] (spC S (callG ⟨m22, 3, 3⟩ rt) 3) := Den.FnOk.forget (fn_step (F := ⟨m22, 3, 3⟩) (N := N22) (ps := ["book", "u", "v"]) d (C8.fnScope_by (by kernel_rfl)) rfl rfl (b22 x w))
theorem o23 (x : Fx S) (w : W S lv rt) {fd : FuncData} (d : FunD S.K "next_ones_below" "next_ones_below" (defArgs (top 40)) (defBody (top 40)) (defScope (top 40)) [] [] (S.fa 23) fd) : FnOk S.P S.w S.K S.mg S.base CX0 (lv + 3) (S.fa 23) fd ["lessers", "x"] (spC S (callG ⟨m23, 6, 2⟩ rt) 2) := Den.FnOk.forget (fn_step (F := ⟨m23, 6, 2⟩) (N := N23) (ps := ["lessers", "x"]) d (C8.fnScope_by (by kernel_rfl)) rfl rfl (b23 x w))
theorem o24 (x : Fx S) (w : W S lv rt) {fd : FuncData} (d : FunD S.K "things_at_most" "things_at_most" (defArgs (top 41)) (defBody (top 41)) (defScope (top 41)) [] [] (S.fa 24) fd) : FnOk S.P S.w S.K S.mg S.base CX0 (lv + 3) (S.fa 24) fd ["book", "x"] (spC S (callG ⟨m24, 6, 2⟩ rt) 2) := Den.FnOk.forget (fn_step (F := ⟨m24, 6, 2⟩) (N := N24) (ps := ["book", "x"]) d (C8.fnScope_by (by kernel_rfl)) rfl rfl (b24 x w))
theorem o25 (x : Fx S) (w : W S lv rt) {fd : FuncData} (d : FunD S.K "want" "want" (defArgs (top 54)) (defBody (top 54)) (defScope (top 54)) [.int (-1)] [] (S.fa 25) fd) : FnOk S.P S.w S.K S.mg S.base CX0 (lv + 3) (S.fa 25) fd ["is_right", "name", "at"] (spC S (callG ⟨m25, 3, 3⟩ rt) 3) := Den.FnOk.forget (fn_step (F := ⟨m25, 3, 3⟩) (N := N25) (ps := ["is_right", "name", "at"]) d (C8.fnScope_by (by kernel_rfl)) rfl rfl (b25 x w))
theorem o26 (x : Fx S) (w : W S lv rt) {fd : FuncData} (d : FunD S.K "want_manner" "want_manner" (defArgs (top 56)) (defBody (top 56)) (defScope (top 56)) [] [] (S.fa 26) fd) : FnOk S.P S.w S.K S.mg S.base CX0 (lv + 3) (S.fa 26) fd ["manner"] (spC S (callG ⟨m26, 1, 1⟩ rt) 1) := Den.FnOk.forget (fn_step (F := ⟨m26, 1, 1⟩) (N := N26) (ps := ["manner"]) d (C8.fnScope_by (by kernel_rfl)) rfl rfl (b26 x w))
theorem o27 (x : Fx S) (w : W S lv rt) {fd : FuncData} (d : FunD S.K "places_of" "places_of" (defArgs (top 58)) (defBody (top 58)) (defScope (top 58)) [] [] (S.fa 27) fd) : FnOk S.P S.w S.K S.mg S.base CX0 (lv + 3) (S.fa 27) fd ["many", "side"] (spC S (callG ⟨m27, 2, 2⟩ rt) 2) := Den.FnOk.forget (fn_step (F := ⟨m27, 2, 2⟩) (N := N27) (ps := ["many", "side"]) d (C8.fnScope_by (by kernel_rfl)) rfl rfl (b27 x w))
theorem o28 (x : Fx S) (w : W S lv rt) {fd : FuncData} (d : FunD S.K "dropped" "dropped" (defArgs (top 59)) (defBody (top 59)) (defScope (top 59)) [] [] (S.fa 28) fd) : FnOk S.P S.w S.K S.mg S.base CX0 (lv + 3) (S.fa 28) fd ["rule", "x"] (spC S (callG ⟨m28, 4, 2⟩ rt) 2) := Den.FnOk.forget (fn_step (F := ⟨m28, 4, 2⟩) (N := N28) (ps := ["rule", "x"]) d (C8.fnScope_by (by kernel_rfl)) rfl rfl (b28 x w))
theorem o29 (x : Fx S) (w : W S lv rt) {fd : FuncData} (d : FunD S.K "halved" "halved" (defArgs (top 60)) (defBody (top 60)) (defScope (top 60)) [] [] (S.fa 29) fd) : FnOk S.P S.w S.K S.mg S.base CX0 (lv + 3) (S.fa 29) fd ["rule", "x"] (spC S (callG ⟨m29, 3, 2⟩ rt) 2) := Den.FnOk.forget (fn_step (F := ⟨m29, 3, 2⟩) (N := N29) (ps := ["rule", "x"]) d (C8.fnScope_by (by kernel_rfl)) rfl rfl (b29 x w))
theorem o30 (x : Fx S) (w : W S lv rt) {fd : FuncData} (d : FunD S.K "lowered" "lowered" (defArgs (top 61)) (defBody (top 61)) (defScope (top 61)) [] [] (S.fa 30) fd) : FnOk S.P S.w S.K S.mg S.base CX0 (lv + 3) (S.fa 30) fd ["lessers", "rule", "x"] (spC S (callG ⟨m30, 5, 3⟩ rt) 3) := Den.FnOk.forget (fn_step (F := ⟨m30, 5, 3⟩) (N := N30) (ps := ["lessers", "rule", "x"]) d (C8.fnScope_by (by kernel_rfl)) rfl rfl (b30 x w))
theorem o31 (x : Fx S) (w : W S lv rt) {fd : FuncData} (d : FunD S.K "put_results" "put_results" (defArgs (top 62)) (defBody (top 62)) (defScope (top 62)) [] [] (S.fa 31) fd) : FnOk S.P S.w S.K S.mg S.base CX0 (lv + 3) (S.fa 31) fd ["rule", "x"] (spC S (callG ⟨m31, 3, 2⟩ rt) 2) := Den.FnOk.forget (fn_step (F := ⟨m31, 3, 2⟩) (N := N31) (ps := ["rule", "x"]) d (C8.fnScope_by (by kernel_rfl)) rfl rfl (b31 x w))
theorem o32 (x : Fx S) (w : W S lv rt) {fd : FuncData} (d : FunD S.K "results_of" "results_of" (defArgs (top 63)) (defBody (top 63)) (defScope (top 63)) [] [] (S.fa 32) fd) : FnOk S.P S.w S.K S.mg S.base CX0 (lv + 3) (S.fa 32) fd ["book", "k", "x"] (spC S (callG ⟨m32, 6, 3⟩ rt) 3) := Den.FnOk.forget (fn_step (F := ⟨m32, 6, 3⟩) (N := N32) (ps := ["book", "k", "x"]) d (C8.fnScope_by (by kernel_rfl)) rfl rfl (b32 x w))
theorem o33 (x : Fx S) (w : W S lv rt) {fd : FuncData} (d : FunD S.K "steps_from" "steps_from" (defArgs (top 64)) (defBody (top 64)) (defScope (top 64)) [] [] (S.fa 33) fd) : FnOk S.P S.w S.K S.mg S.base CX0 (lv + 3) (S.fa 33) fd ["book", "x", "first"] (spC S (callG ⟨m33, 6, 3⟩ rt) 3) := Den.FnOk.forget (fn_step (F := ⟨m33, 6, 3⟩) (N := N33) (ps := ["book", "x", "first"]) d (C8.fnScope_by (by kernel_rfl)) rfl rfl (b33 x w))
theorem o34 (x : Fx S) (w : W S lv rt) {fd : FuncData} (d : FunD S.K "letters_under" "letters_under" (defArgs (top 65)) (defBody (top 65)) (defScope (top 65)) [] [] (S.fa 34) fd) : FnOk S.P S.w S.K S.mg S.base CX0 (lv + 3) (S.fa 34) fd ["book", "letter"] (spC S (callG ⟨m34, 7, 2⟩ rt) 2) := Den.FnOk.forget (fn_step (F := ⟨m34, 7, 2⟩) (N := N34) (ps := ["book", "letter"]) d (C8.fnScope_by (by kernel_rfl)) rfl rfl (b34 x w))
theorem o35 (x : Fx S) (w : W S lv rt) {fd : FuncData} (d : FunD S.K "falling_fault" "falling_fault" (defArgs (top 66)) (defBody (top 66)) (defScope (top 66)) [] [] (S.fa 35) fd) : FnOk S.P S.w S.K S.mg S.base CX0 (lv + 3) (S.fa 35) fd ["book"] (spC S (callG ⟨m35, 3, 1⟩ rt) 1) := Den.FnOk.forget (fn_step (F := ⟨m35, 3, 1⟩) (N := N35) (ps := ["book"]) d (C8.fnScope_by (by kernel_rfl)) rfl rfl (b35 x w))
theorem o36 (x : Fx S) (w : W S lv rt) {fd : FuncData} (d : FunD S.K "want_falling" "want_falling" (defArgs (top 67)) (defBody (top 67)) (defScope (top 67)) [] [] (S.fa 36) fd) : FnOk S.P S.w S.K S.mg S.base CX0 (lv + 3) (S.fa 36) fd ["book"] (spC S (callG ⟨m36, 2, 1⟩ rt) 1) := Den.FnOk.forget (fn_step (F := ⟨m36, 2, 1⟩) (N := N36) (ps := ["book"]) d (C8.fnScope_by (by kernel_rfl)) rfl rfl (b36 x w))
theorem o37 (x : Fx S) (w : W S lv rt) {fd : FuncData} (d : FunD S.K "is_bool" "is_bool" (defArgs (top 69)) (defBody (top 69)) (defScope (top 69)) [] [] (S.fa 37) fd) : FnOk S.P S.w S.K S.mg S.base CX0 (lv + 3) (S.fa 37) fd ["thing"] (spC S (callG ⟨m37, 1, 1⟩ rt) 1) := Den.FnOk.forget (fn_step (F := ⟨m37, 1, 1⟩) (N := N37) (ps := ["thing"]) d (C8.fnScope_by (by kernel_rfl)) rfl rfl (b37 x w))
theorem o38 (x : Fx S) (w : W S lv rt) {fd : FuncData} (d : FunD S.K "is_manner" "is_manner" (defArgs (top 70)) (defBody (top 70)) (defScope (top 70)) [] [] (S.fa 38) fd) : FnOk S.P S.w S.K S.mg S.base CX0 (lv + 3) (S.fa 38) fd ["thing"] (spC S (callG ⟨m38, 1, 1⟩ rt) 1) := Den.FnOk.forget (fn_step (F := ⟨m38, 1, 1⟩) (N := N38) (ps := ["thing"]) d (C8.fnScope_by (by kernel_rfl)) rfl rfl (b38 x w))
theorem o39 (x : Fx S) (w : W S lv rt) {fd : FuncData} (d : FunD S.K "is_event" "is_event" (defArgs (top 72)) (defBody (top 72)) (defScope (top 72)) [] [] (S.fa 39) fd) : FnOk S.P S.w S.K S.mg S.base CX0 (lv + 3) (S.fa 39) fd ["thing"] (spC S (callG ⟨m39, 4, 1⟩ rt) 1) := Den.FnOk.forget (fn_step (F := ⟨m39, 4, 1⟩) (N := N39) (ps := ["thing"]) d (C8.fnScope_by (by kernel_rfl)) rfl rfl (b39 x w))
theorem o40 (x : Fx S) (w : W S lv rt) {fd : FuncData} (d : FunD S.K "__init__" "Stand.__init__" (defArgs (mem 74 0)) (defBody (mem 74 0)) (defScope (mem 74 0)) [] [] (S.fa 40) fd) : FnOk S.P S.w S.K S.mg S.base CX0 (lv + 3) (S.fa 40) fd ["self", "book", "manner", "things", "rule_now", "told", "tries"] (spC S (callG ⟨m40, 7, 7⟩ rt) 7) := Den.FnOk.forget (fn_step (F := ⟨m40, 7, 7⟩) (N := N40) (ps := ["self", "book", "manner", "things", "rule_now", "told", "tries"]) d (C8.fnScope_by (by kernel_rfl)) rfl rfl (b40 x w))
theorem o41 (x : Fx S) (w : W S lv rt) {fd : FuncData} (d : FunD S.K "asked_steps" "asked_steps" (defArgs (top 75)) (defBody (top 75)) (defScope (top 75)) [] [] (S.fa 41) fd) : FnOk S.P S.w S.K S.mg S.base CX0 (lv + 3) (S.fa 41) fd ["book", "manner", "thing", "rule_now"] (spC S (callG ⟨m41, 6, 4⟩ rt) 4) := Den.FnOk.forget (fn_step (F := ⟨m41, 6, 4⟩) (N := N41) (ps := ["book", "manner", "thing", "rule_now"]) d (C8.fnScope_by (by kernel_rfl)) rfl rfl (b41 x w))
theorem o42 (x : Fx S) (w : W S lv rt) {fd : FuncData} (d : FunD S.K "known_in" "known_in" (defArgs (top 76)) (defBody (top 76)) (defScope (top 76)) [] [] (S.fa 42) fd) : FnOk S.P S.w S.K S.mg S.base CX0 (lv + 3) (S.fa 42) fd ["book", "told", "thing"] (spC S (callG ⟨m42, 5, 3⟩ rt) 3) := Den.FnOk.forget (fn_step (F := ⟨m42, 5, 3⟩) (N := N42) (ps := ["book", "told", "thing"]) d (C8.fnScope_by (by kernel_rfl)) rfl rfl (b42 x w))
theorem o43 (x : Fx S) (w : W S lv rt) {fd : FuncData} (d : FunD S.K "first_open" "first_open" (defArgs (top 77)) (defBody (top 77)) (defScope (top 77)) [] [] (S.fa 43) fd) : FnOk S.P S.w S.K S.mg S.base CX0 (lv + 3) (S.fa 43) fd ["book", "told", "steps"] (spC S (callG ⟨m43, 5, 3⟩ rt) 3) := Den.FnOk.forget (fn_step (F := ⟨m43, 5, 3⟩) (N := N43) (ps := ["book", "told", "steps"]) d (C8.fnScope_by (by kernel_rfl)) rfl rfl (b43 x w))
theorem o44 (x : Fx S) (w : W S lv rt) {fd : FuncData} (d : FunD S.K "settled" "settled" (defArgs (top 78)) (defBody (top 78)) (defScope (top 78)) [] [] (S.fa 44) fd) : FnOk S.P S.w S.K S.mg S.base CX0 (lv + 3) (S.fa 44) fd ["stand"] (spC S (callG ⟨m44, 7, 1⟩ rt) 1) := Den.FnOk.forget (fn_step (F := ⟨m44, 7, 1⟩) (N := N44) (ps := ["stand"]) d (C8.fnScope_by (by kernel_rfl)) rfl rfl (b44 x w))
theorem o45 (x : Fx S) (w : W S lv rt) {fd : FuncData} (d : FunD S.K "first_stand" "first_stand" (defArgs (top 79)) (defBody (top 79)) (defScope (top 79)) [] [] (S.fa 45) fd) : FnOk S.P S.w S.K S.mg S.base CX0 (lv + 3) (S.fa 45) fd ["book", "x", "manner"] (spC S (callG ⟨m45, 3, 3⟩ rt) 3) := Den.FnOk.forget (fn_step (F := ⟨m45, 3, 3⟩) (N := N45) (ps := ["book", "x", "manner"]) d (C8.fnScope_by (by kernel_rfl)) rfl rfl (b45 x w))
theorem o46 (x : Fx S) (w : W S lv rt) {fd : FuncData} (d : FunD S.K "told_reason" "told_reason" (defArgs (top 80)) (defBody (top 80)) (defScope (top 80)) [] [] (S.fa 46) fd) : FnOk S.P S.w S.K S.mg S.base CX0 (lv + 3) (S.fa 46) fd ["stand", "thing", "it_fails"] (spC S (callG ⟨m46, 4, 3⟩ rt) 3) := Den.FnOk.forget (fn_step (F := ⟨m46, 4, 3⟩) (N := N46) (ps := ["stand", "thing", "it_fails"]) d (C8.fnScope_by (by kernel_rfl)) rfl rfl (b46 x w))
theorem o47 (x : Fx S) (w : W S lv rt) {fd : FuncData} (d : FunD S.K "start_reason" "start_reason" (defArgs (top 81)) (defBody (top 81)) (defScope (top 81)) [] [] (S.fa 47) fd) : FnOk S.P S.w S.K S.mg S.base CX0 (lv + 3) (S.fa 47) fd ["stand", "thing"] (spC S (callG ⟨m47, 2, 2⟩ rt) 2) := Den.FnOk.forget (fn_step (F := ⟨m47, 2, 2⟩) (N := N47) (ps := ["stand", "thing"]) d (C8.fnScope_by (by kernel_rfl)) rfl rfl (b47 x w))
theorem o48 (x : Fx S) (w : W S lv rt) {fd : FuncData} (d : FunD S.K "rule_reason" "rule_reason" (defArgs (top 82)) (defBody (top 82)) (defScope (top 82)) [] [] (S.fa 48) fd) : FnOk S.P S.w S.K S.mg S.base CX0 (lv + 3) (S.fa 48) fd ["book", "rule", "at_rule"] (spC S (callG ⟨m48, 3, 3⟩ rt) 3) := Den.FnOk.forget (fn_step (F := ⟨m48, 3, 3⟩) (N := N48) (ps := ["book", "rule", "at_rule"]) d (C8.fnScope_by (by kernel_rfl)) rfl rfl (b48 x w))
theorem o49 (x : Fx S) (w : W S lv rt) {fd : FuncData} (d : FunD S.K "reason_of" "reason_of" (defArgs (top 83)) (defBody (top 83)) (defScope (top 83)) [] [] (S.fa 49) fd) : FnOk S.P S.w S.K S.mg S.base CX0 (lv + 3) (S.fa 49) fd ["stand", "event", "is_full"] (spC S (callG ⟨m49, 3, 3⟩ rt) 3) := Den.FnOk.forget (fn_step (F := ⟨m49, 3, 3⟩) (N := N49) (ps := ["stand", "event", "is_full"]) d (C8.fnScope_by (by kernel_rfl)) rfl rfl (b49 x w))
theorem o50 (x : Fx S) (w : W S lv rt) {fd : FuncData} (d : FunD S.K "answered" "answered" (defArgs (top 84)) (defBody (top 84)) (defScope (top 84)) [] [] (S.fa 50) fd) : FnOk S.P S.w S.K S.mg S.base CX0 (lv + 3) (S.fa 50) fd ["stand", "it_fails"] (spC S (callG ⟨m50, 7, 2⟩ rt) 2) := Den.FnOk.forget (fn_step (F := ⟨m50, 7, 2⟩) (N := N50) (ps := ["stand", "it_fails"]) d (C8.fnScope_by (by kernel_rfl)) rfl rfl (b50 x w))
theorem o51 (x : Fx S) (w : W S lv rt) {fd : FuncData} (d : FunD S.K "book_behind" "book_behind" (defArgs (top 85)) (defBody (top 85)) (defScope (top 85)) [] [] (S.fa 51) fd) : FnOk S.P S.w S.K S.mg S.base CX0 (lv + 3) (S.fa 51) fd ["book", "event"] (spC S (callG ⟨m51, 4, 2⟩ rt) 2) := Den.FnOk.forget (fn_step (F := ⟨m51, 4, 2⟩) (N := N51) (ps := ["book", "event"]) d (C8.fnScope_by (by kernel_rfl)) rfl rfl (b51 x w))
theorem o52 (x : Fx S) (w : W S lv rt) {fd : FuncData} (d : FunD S.K "changed" "changed" (defArgs (top 86)) (defBody (top 86)) (defScope (top 86)) [] [] (S.fa 52) fd) : FnOk S.P S.w S.K S.mg S.base CX0 (lv + 3) (S.fa 52) fd ["stand", "event"] (spC S (callG ⟨m52, 7, 2⟩ rt) 2) := Den.FnOk.forget (fn_step (F := ⟨m52, 7, 2⟩) (N := N52) (ps := ["stand", "event"]) d (C8.fnScope_by (by kernel_rfl)) rfl rfl (b52 x w))
theorem o53 (x : Fx S) (w : W S lv rt) {fd : FuncData} (d : FunD S.K "least_failing" "least_failing" (defArgs (top 87)) (defBody (top 87)) (defScope (top 87)) [] [] (S.fa 53) fd) : FnOk S.P S.w S.K S.mg S.base CX0 (lv + 3) (S.fa 53) fd ["stand"] (spC S (callG ⟨m53, 7, 1⟩ rt) 1) := Den.FnOk.forget (fn_step (F := ⟨m53, 7, 1⟩) (N := N53) (ps := ["stand"]) d (C8.fnScope_by (by kernel_rfl)) rfl rfl (b53 x w))
theorem o54 (x : Fx S) (w : W S lv rt) {fd : FuncData} (d : FunD S.K "end_by" "end_by" (defArgs (top 88)) (defBody (top 88)) (defScope (top 88)) [] [] (S.fa 54) fd) : FnOk S.P S.w S.K S.mg S.base CX0 (lv + 3) (S.fa 54) fd ["stand", "causes"] (spC S (callG ⟨m54, 11, 2⟩ rt) 2) := Den.FnOk.forget (fn_step (F := ⟨m54, 11, 2⟩) (N := N54) (ps := ["stand", "causes"]) d (C8.fnScope_by (by kernel_rfl)) rfl rfl (b54 x w))
theorem o55 (x : Fx S) (w : W S lv rt) {fd : FuncData} (d : FunD S.K "ends_from" "ends_from" (defArgs (top 89)) (defBody (top 89)) (defScope (top 89)) [] [] (S.fa 55) fd) : FnOk S.P S.w S.K S.mg S.base CX0 (lv + 3) (S.fa 55) fd ["stand"] (spC S (callG ⟨m55, 7, 1⟩ rt) 1) := Den.FnOk.forget (fn_step (F := ⟨m55, 7, 1⟩) (N := N55) (ps := ["stand"]) d (C8.fnScope_by (by kernel_rfl)) rfl rfl (b55 x w))
theorem o56 (x : Fx S) (w : W S lv rt) {fd : FuncData} (d : FunD S.K "__init__" "Trial.__init__" (defArgs (mem 91 1)) (defBody (mem 91 1)) (defScope (mem 91 1)) [] [("manner", .str "again")] (S.fa 56) fd) : FnOk S.P S.w S.K S.mg S.base CX0 (lv + 3) (S.fa 56) fd ["self", "book", "x", "manner"] (spC S (callG ⟨m56, 4, 4⟩ rt) 4) := Den.FnOk.forget (fn_step (F := ⟨m56, 4, 4⟩) (N := N56) (ps := ["self", "book", "x", "manner"]) d (C8.fnScope_by (by kernel_rfl)) rfl rfl (b56 x w))
theorem o57 (x : Fx S) (w : W S lv rt) {fd : FuncData} (d : FunD S.K "thing_now" "Trial.thing_now" (defArgs (mem 91 4)) (defBody (mem 91 4)) (defScope (mem 91 4)) [] [] (S.fa 57) fd) : FnOk S.P S.w S.K S.mg S.base CX0 (lv + 3) (S.fa 57) fd ["self"] (spC S (callG ⟨m57, 1, 1⟩ rt) 1) := Den.FnOk.forget (fn_step (F := ⟨m57, 1, 1⟩) (N := N57) (ps := ["self"]) d (C8.fnScope_by (by kernel_rfl)) rfl rfl (b57 x w))
theorem o58 (x : Fx S) (w : W S lv rt) {fd : FuncData} (d : FunD S.K "question" "Trial.question" (defArgs (mem 91 5)) (defBody (mem 91 5)) (defScope (mem 91 5)) [] [] (S.fa 58) fd) : FnOk S.P S.w S.K S.mg S.base CX0 (lv + 3) (S.fa 58) fd ["self"] (spC S (callG ⟨m58, 2, 1⟩ rt) 1) := Den.FnOk.forget (fn_step (F := ⟨m58, 2, 1⟩) (N := N58) (ps := ["self"]) d (C8.fnScope_by (by kernel_rfl)) rfl rfl (b58 x w))
theorem o59 (x : Fx S) (w : W S lv rt) {fd : FuncData} (d : FunD S.K "steps_now" "Trial.steps_now" (defArgs (mem 91 6)) (defBody (mem 91 6)) (defScope (mem 91 6)) [] [] (S.fa 59) fd) : FnOk S.P S.w S.K S.mg S.base CX0 (lv + 3) (S.fa 59) fd ["self"] (spC S (callG ⟨m59, 3, 1⟩ rt) 1) := Den.FnOk.forget (fn_step (F := ⟨m59, 3, 1⟩) (N := N59) (ps := ["self"]) d (C8.fnScope_by (by kernel_rfl)) rfl rfl (b59 x w))
theorem o60 (x : Fx S) (w : W S lv rt) {fd : FuncData} (d : FunD S.K "walk_now" "Trial.walk_now" (defArgs (mem 91 7)) (defBody (mem 91 7)) (defScope (mem 91 7)) [] [] (S.fa 60) fd) : FnOk S.P S.w S.K S.mg S.base CX0 (lv + 3) (S.fa 60) fd ["self"] (spC S (callG ⟨m60, 1, 1⟩ rt) 1) := Den.FnOk.forget (fn_step (F := ⟨m60, 1, 1⟩) (N := N60) (ps := ["self"]) d (C8.fnScope_by (by kernel_rfl)) rfl rfl (b60 x w))
theorem o61 (x : Fx S) (w : W S lv rt) {fd : FuncData} (d : FunD S.K "tries_now" "Trial.tries_now" (defArgs (mem 91 8)) (defBody (mem 91 8)) (defScope (mem 91 8)) [] [] (S.fa 61) fd) : FnOk S.P S.w S.K S.mg S.base CX0 (lv + 3) (S.fa 61) fd ["self"] (spC S (callG ⟨m61, 1, 1⟩ rt) 1) := Den.FnOk.forget (fn_step (F := ⟨m61, 1, 1⟩) (N := N61) (ps := ["self"]) d (C8.fnScope_by (by kernel_rfl)) rfl rfl (b61 x w))
theorem o62 (x : Fx S) (w : W S lv rt) {fd : FuncData} (d : FunD S.K "steps_of_now" "Trial.steps_of_now" (defArgs (mem 91 11)) (defBody (mem 91 11)) (defScope (mem 91 11)) [] [] (S.fa 62) fd) : FnOk S.P S.w S.K S.mg S.base CX0 (lv + 3) (S.fa 62) fd ["self"] (spC S (callG ⟨m62, 2, 1⟩ rt) 1) := Den.FnOk.forget (fn_step (F := ⟨m62, 2, 1⟩) (N := N62) (ps := ["self"]) d (C8.fnScope_by (by kernel_rfl)) rfl rfl (b62 x w))
theorem o63 (x : Fx S) (w : W S lv rt) {fd : FuncData} (d : FunD S.K "ends_left" "Trial.ends_left" (defArgs (mem 91 12)) (defBody (mem 91 12)) (defScope (mem 91 12)) [] [] (S.fa 63) fd) : FnOk S.P S.w S.K S.mg S.base CX0 (lv + 3) (S.fa 63) fd ["self"] (spC S (callG ⟨m63, 1, 1⟩ rt) 1) := Den.FnOk.forget (fn_step (F := ⟨m63, 1, 1⟩) (N := N63) (ps := ["self"]) d (C8.fnScope_by (by kernel_rfl)) rfl rfl (b63 x w))
theorem o64 (x : Fx S) (w : W S lv rt) {fd : FuncData} (d : FunD S.K "barred" "Trial.barred" (defArgs (mem 91 13)) (defBody (mem 91 13)) (defScope (mem 91 13)) [] [] (S.fa 64) fd) : FnOk S.P S.w S.K S.mg S.base CX0 (lv + 3) (S.fa 64) fd ["self", "event"] (spC S (callG ⟨m64, 2, 2⟩ rt) 2) := Den.FnOk.forget (fn_step (F := ⟨m64, 2, 2⟩) (N := N64) (ps := ["self", "event"]) d (C8.fnScope_by (by kernel_rfl)) rfl rfl (b64 x w))
theorem o65 (x : Fx S) (w : W S lv rt) {fd : FuncData} (d : FunD S.K "apply_event" "Trial.apply_event" (defArgs (mem 91 14)) (defBody (mem 91 14)) (defScope (mem 91 14)) [] [] (S.fa 65) fd) : FnOk S.P S.w S.K S.mg S.base CX0 (lv + 3) (S.fa 65) fd ["self", "event"] (spC S (callG ⟨m65, 3, 2⟩ rt) 2) := Den.FnOk.forget (fn_step (F := ⟨m65, 3, 2⟩) (N := N65) (ps := ["self", "event"]) d (C8.fnScope_by (by kernel_rfl)) rfl rfl (b65 x w))
theorem o66 (x : Fx S) (w : W S lv rt) {fd : FuncData} (d : FunD S.K "go" "Trial.go" (defArgs (mem 91 15)) (defBody (mem 91 15)) (defScope (mem 91 15)) [] [] (S.fa 66) fd) : FnOk S.P S.w S.K S.mg S.base CX0 (lv + 3) (S.fa 66) fd ["self", "event"] (spC S (callG ⟨m66, 2, 2⟩ rt) 2) := Den.FnOk.forget (fn_step (F := ⟨m66, 2, 2⟩) (N := N66) (ps := ["self", "event"]) d (C8.fnScope_by (by kernel_rfl)) rfl rfl (b66 x w))
theorem o67 (x : Fx S) (w : W S lv rt) {fd : FuncData} (d : FunD S.K "answer" "Trial.answer" (defArgs (mem 91 17)) (defBody (mem 91 17)) (defScope (mem 91 17)) [] [] (S.fa 67) fd) : FnOk S.P S.w S.K S.mg S.base CX0 (lv + 3) (S.fa 67) fd ["self", "it_fails"] (spC S (callG ⟨m67, 2, 2⟩ rt) 2) := Den.FnOk.forget (fn_step (F := ⟨m67, 2, 2⟩) (N := N67) (ps := ["self", "it_fails"]) d (C8.fnScope_by (by kernel_rfl)) rfl rfl (b67 x w))
theorem o68 (x : Fx S) (w : W S lv rt) {fd : FuncData} (d : FunD S.K "told" "Trial.told" (defArgs (mem 91 18)) (defBody (mem 91 18)) (defScope (mem 91 18)) [] [] (S.fa 68) fd) : FnOk S.P S.w S.K S.mg S.base CX0 (lv + 3) (S.fa 68) fd ["self", "thing", "it_fails"] (spC S (callG ⟨m68, 3, 3⟩ rt) 3) := Den.FnOk.forget (fn_step (F := ⟨m68, 3, 3⟩) (N := N68) (ps := ["self", "thing", "it_fails"]) d (C8.fnScope_by (by kernel_rfl)) rfl rfl (b68 x w))
theorem o69 (x : Fx S) (w : W S lv rt) {fd : FuncData} (d : FunD S.K "add_rule" "Trial.add_rule" (defArgs (mem 91 19)) (defBody (mem 91 19)) (defScope (mem 91 19)) [] [] (S.fa 69) fd) : FnOk S.P S.w S.K S.mg S.base CX0 (lv + 3) (S.fa 69) fd ["self", "rule", "at"] (spC S (callG ⟨m69, 3, 3⟩ rt) 3) := Den.FnOk.forget (fn_step (F := ⟨m69, 3, 3⟩) (N := N69) (ps := ["self", "rule", "at"]) d (C8.fnScope_by (by kernel_rfl)) rfl rfl (b69 x w))
theorem o70 (x : Fx S) (w : W S lv rt) {fd : FuncData} (d : FunD S.K "take_rule" "Trial.take_rule" (defArgs (mem 91 20)) (defBody (mem 91 20)) (defScope (mem 91 20)) [] [] (S.fa 70) fd) : FnOk S.P S.w S.K S.mg S.base CX0 (lv + 3) (S.fa 70) fd ["self", "k"] (spC S (callG ⟨m70, 2, 2⟩ rt) 2) := Den.FnOk.forget (fn_step (F := ⟨m70, 2, 2⟩) (N := N70) (ps := ["self", "k"]) d (C8.fnScope_by (by kernel_rfl)) rfl rfl (b70 x w))
theorem o71 (x : Fx S) (w : W S lv rt) {fd : FuncData} (d : FunD S.K "start" "Trial.start" (defArgs (mem 91 21)) (defBody (mem 91 21)) (defScope (mem 91 21)) [] [] (S.fa 71) fd) : FnOk S.P S.w S.K S.mg S.base CX0 (lv + 3) (S.fa 71) fd ["self", "thing"] (spC S (callG ⟨m71, 2, 2⟩ rt) 2) := Den.FnOk.forget (fn_step (F := ⟨m71, 2, 2⟩) (N := N71) (ps := ["self", "thing"]) d (C8.fnScope_by (by kernel_rfl)) rfl rfl (b71 x w))
theorem o72 (x : Fx S) (w : W S lv rt) {fd : FuncData} (d : FunD S.K "__getitem__" "Trial.__getitem__" (defArgs (mem 91 30)) (defBody (mem 91 30)) (defScope (mem 91 30)) [] [] (S.fa 72) fd) : FnOk S.P S.w S.K S.mg S.base CX0 (lv + 3) (S.fa 72) fd ["self", "thing"] (spC S (callG ⟨m72, 3, 2⟩ rt) 2) := Den.FnOk.forget (fn_step (F := ⟨m72, 3, 2⟩) (N := N72) (ps := ["self", "thing"]) d (C8.fnScope_by (by kernel_rfl)) rfl rfl (b72 x w))
theorem o73 (x : Fx S) (w : W S lv rt) {fd : FuncData} (d : FunD S.K "_law_feed" "_law_feed" (defArgs (top 93)) (defBody (top 93)) (defScope (top 93)) [] [] (S.fa 73) fd) : FnOk S.P S.w S.K S.mg S.base CX0 (lv + 3) (S.fa 73) fd ["_law_script"] (spC S (callG ⟨m73, 1, 1⟩ rt) 1) := Den.FnOk.forget (fn_step (F := ⟨m73, 1, 1⟩) (N := N73) (ps := ["_law_script"]) d (C8.fnScope_by (by kernel_rfl)) rfl rfl (b73 x w))
theorem o74 (x : Fx S) (w : W S lv rt) {fd : FuncData} (d : FunD S.K "_law_draw" "_law_draw" (defArgs (top 94)) (defBody (top 94)) (defScope (top 94)) [] [] (S.fa 74) fd) : FnOk S.P S.w S.K S.mg S.base CX0 (lv + 3) (S.fa 74) fd ["_law_feed_here", "_law_many"] (spC S (callG ⟨m74, 6, 2⟩ rt) 2) := Den.FnOk.forget (fn_step (F := ⟨m74, 6, 2⟩) (N := N74) (ps := ["_law_feed_here", "_law_many"]) d (C8.fnScope_by (by kernel_rfl)) rfl rfl (b74 x w))
theorem o75 (x : Fx S) (w : W S lv rt) {fd : FuncData} (d : FunD S.K "_law_any" "_law_any" (defArgs (top 95)) (defBody (top 95)) (defScope (top 95)) [] [] (S.fa 75) fd) : FnOk S.P S.w S.K S.mg S.base CX0 (lv + 3) (S.fa 75) fd ["_law_feed_here", "_law_some"] (spC S (callG ⟨m75, 2, 2⟩ rt) 2) := Den.FnOk.forget (fn_step (F := ⟨m75, 2, 2⟩) (N := N75) (ps := ["_law_feed_here", "_law_some"]) d (C8.fnScope_by (by kernel_rfl)) rfl rfl (b75 x w))
theorem o76 (x : Fx S) (w : W S lv rt) {fd : FuncData} (d : FunD S.K "_law_same" "_law_same" (defArgs (top 96)) (defBody (top 96)) (defScope (top 96)) [] [] (S.fa 76) fd) : FnG S (lv + 3) (S.fa 76) fd ["_law_told", "_law_due"] (spC S (callG ⟨m76, 2, 2⟩ rt) 2) := Den.FnG.forget (fn_stepG (F := ⟨m76, 2, 2⟩) (N := N76) (ps := ["_law_told", "_law_due"]) d (C8.fnScope_by (by kernel_rfl)) rfl rfl (b76 x w))
theorem o77 (x : Fx S) (w : W S lv rt) {fd : FuncData} (d : FunD S.K "_law_turned" "_law_turned" (defArgs (top 97)) (defBody (top 97)) (defScope (top 97)) [] [] (S.fa 77) fd) : FnOk S.P S.w S.K S.mg S.base CX0 (lv + 3) (S.fa 77) fd ["_law_x", "_law_names"] (spC S (callG ⟨m77, 3, 2⟩ rt) 2) := Den.FnOk.forget (fn_step (F := ⟨m77, 3, 2⟩) (N := N77) (ps := ["_law_x", "_law_names"]) d (C8.fnScope_by (by kernel_rfl)) rfl rfl (b77 x w))
theorem o78 (x : Fx S) (w : W S lv rt) {fd : FuncData} (d : FunD S.K "_law_book" "_law_book" (defArgs (top 98)) (defBody (top 98)) (defScope (top 98)) [] [] (S.fa 78) fd) : FnOk S.P S.w S.K S.mg S.base CX0 (lv + 3) (S.fa 78) fd ["_law_names", "_law_rules"] (spC S (callG ⟨m78, 3, 2⟩ rt) 2) := Den.FnOk.forget (fn_step (F := ⟨m78, 3, 2⟩) (N := N78) (ps := ["_law_names", "_law_rules"]) d (C8.fnScope_by (by kernel_rfl)) rfl rfl (b78 x w))
theorem o79 (x : Fx S) (w : W S lv rt) {fd : FuncData} (d : FunD S.K "_law_state" "_law_state" (defArgs (top 99)) (defBody (top 99)) (defScope (top 99)) [] [] (S.fa 79) fd) : FnOk S.P S.w S.K S.mg S.base CX0 (lv + 3) (S.fa 79) fd ["_law_trial"] (spC S (callG ⟨m79, 1, 1⟩ rt) 1) := Den.FnOk.forget (fn_step (F := ⟨m79, 1, 1⟩) (N := N79) (ps := ["_law_trial"]) d (C8.fnScope_by (by kernel_rfl)) rfl rfl (b79 x w))
theorem o80 (x : Fx S) (w : W S lv rt) {fd : FuncData} (d : FunD S.K "_law_over_two" "_law_over_two" (defArgs (top 100)) (defBody (top 100)) (defScope (top 100)) [] [] (S.fa 80) fd) : FnG S (lv + 3) (S.fa 80) fd ["_law_names"] (spC S (callG ⟨m80, 7, 1⟩ rt) 1) := Den.FnG.forget (fn_stepG (F := ⟨m80, 7, 1⟩) (N := N80) (ps := ["_law_names"]) d (C8.fnScope_by (by kernel_rfl)) rfl rfl (b80 x w))
theorem o81 (x : Fx S) (w : W S lv rt) {fd : FuncData} (d : FunD S.K "_law_skipped" "_law_skipped" (defArgs (top 101)) (defBody (top 101)) (defScope (top 101)) [] [] (S.fa 81) fd) : FnG S (lv + 3) (S.fa 81) fd ["_law_names"] (spC S (callG ⟨m81, 6, 1⟩ rt) 1) := Den.FnG.forget (fn_stepG (F := ⟨m81, 6, 1⟩) (N := N81) (ps := ["_law_names"]) d (C8.fnScope_by (by kernel_rfl)) rfl rfl (b81 x w))
theorem o82 (x : Fx S) (w : W S lv rt) {fd : FuncData} (d : FunD S.K "_law_on" "_law_on" (defArgs (top 102)) (defBody (top 102)) (defScope (top 102)) [] [] (S.fa 82) fd) : FnG S (lv + 3) (S.fa 82) fd ["_law_names"] (spC S (callG ⟨m82, 9, 1⟩ rt) 1) := Den.FnG.forget (fn_stepG (F := ⟨m82, 9, 1⟩) (N := N82) (ps := ["_law_names"]) d (C8.fnScope_by (by kernel_rfl)) rfl rfl (b82 x w))
theorem o83 (x : Fx S) (w : W S lv rt) {fd : FuncData} (d : FunD S.K "_law_rules_change" "_law_rules_change" (defArgs (top 103)) (defBody (top 103)) (defScope (top 103)) [] [] (S.fa 83) fd) : FnG S (lv + 3) (S.fa 83) fd ["_law_names"] (spC S (callG ⟨m83, 6, 1⟩ rt) 1) := Den.FnG.forget (fn_stepG (F := ⟨m83, 6, 1⟩) (N := N83) (ps := ["_law_names"]) d (C8.fnScope_by (by kernel_rfl)) rfl rfl (b83 x w))
theorem o84 (x : Fx S) (w : W S lv rt) {fd : FuncData} (d : FunD S.K "law" "law" (defArgs (top 104)) (defBody (top 104)) (defScope (top 104)) [] [] (S.fa 84) fd) : FnG S (lv + 3) (S.fa 84) fd ["_law_script"] (spC S (callG ⟨m84, 5, 1⟩ rt) 1) := Den.FnG.forget (fn_stepG (F := ⟨m84, 5, 1⟩) (N := N84) (ps := ["_law_script"]) d (C8.fnScope_by (by kernel_rfl)) rfl rfl (b84 x w))
theorem w_all (x : Fx S) (X : Dx S) : ∀ n, W S (3 * n) (rtG F tab n)
  | 0 => ⟨w_f_0_1 X (fun _ _ => fn_bad (n := 0)) (fun _ _ _ _ e => nomatch e), w_f_4_1 X (fun _ _ => fn_bad (n := 0)) (fun _ _ _ _ e => nomatch e), w_f_2_1 X (fun _ _ => fn_bad (n := 0)) (fun _ _ _ _ e => nomatch e), w_f_5_1 X (fun _ _ => fn_bad (n := 0)) (fun _ _ _ _ e => nomatch e), w_f_6_1 X (fun _ _ => fn_bad (n := 0)) (fun _ _ _ _ e => nomatch e), w_f_8_1 X (fun _ _ => fn_bad (n := 0)) (fun _ _ _ _ e => nomatch e), w_f_1_1 X (fun _ _ => fn_bad (n := 0)) (fun _ _ _ _ e => nomatch e), w_f_3_1 X (fun _ _ => fn_bad (n := 0)) (fun _ _ _ _ e => nomatch e), w_f_7_1 X (fun _ _ => fn_bad (n := 0)) (fun _ _ _ _ e => nomatch e), w_f_10_2 X (fun _ _ => fn_bad (n := 0)) (fun _ _ _ _ e => nomatch e), w_f_11_1 X (fun _ _ => fn_bad (n := 0)) (fun _ _ _ _ e => nomatch e), w_f_12_2 X (fun _ _ => fn_bad (n := 0)) (fun _ _ _ _ e => nomatch e), w_f_9_1 X (fun _ _ => fn_bad (n := 0)) (fun _ _ _ _ e => nomatch e), w_f_13_1 X (fun _ _ => fn_bad (n := 0)) (fun _ _ _ _ e => nomatch e), w_f_16_1 X (fun _ _ => fn_bad (n := 0)) (fun _ _ _ _ e => nomatch e), w_f_17_2 X (fun _ _ => fn_bad (n := 0)) (fun _ _ _ _ e => nomatch e), w_f_15_2 X (fun _ _ => fn_bad (n := 0)) (fun _ _ _ _ e => nomatch e), w_f_18_3 X (fun _ _ => fn_bad (n := 0)) (fun _ _ _ _ e => nomatch e), w_f_21_3 X (fun _ _ => fn_bad (n := 0)) (fun _ _ _ _ e => nomatch e), w_f_19_2 X (fun _ _ => fn_bad (n := 0)) (fun _ _ _ _ e => nomatch e), w_f_23_2 X (fun _ _ => fn_bad (n := 0)) (fun _ _ _ _ e => nomatch e), w_f_25_2 X (fun _ _ => fn_bad (n := 0)) (fun _ _ _ _ e => nomatch e), w_f_27_2 X (fun _ _ => fn_bad (n := 0)) (fun _ _ _ _ e => nomatch e), w_f_28_2 X (fun _ _ => fn_bad (n := 0)) (fun _ _ _ _ e => nomatch e), w_f_29_2 X (fun _ _ => fn_bad (n := 0)) (fun _ _ _ _ e => nomatch e), w_f_30_3 X (fun _ _ => fn_bad (n := 0)) (fun _ _ _ _ e => nomatch e), w_f_31_2 X (fun _ _ => fn_bad (n := 0)) (fun _ _ _ _ e => nomatch e), w_f_32_3 X (fun _ _ => fn_bad (n := 0)) (fun _ _ _ _ e => nomatch e), w_f_34_2 X (fun _ _ => fn_bad (n := 0)) (fun _ _ _ _ e => nomatch e), w_f_35_1 X (fun _ _ => fn_bad (n := 0)) (fun _ _ _ _ e => nomatch e), w_f_37_1 X (fun _ _ => fn_bad (n := 0)) (fun _ _ _ _ e => nomatch e), w_f_38_1 X (fun _ _ => fn_bad (n := 0)) (fun _ _ _ _ e => nomatch e), w_f_33_3 X (fun _ _ => fn_bad (n := 0)) (fun _ _ _ _ e => nomatch e), w_f_22_3 X (fun _ _ => fn_bad (n := 0)) (fun _ _ _ _ e => nomatch e), w_f_42_3 X (fun _ _ => fn_bad (n := 0)) (fun _ _ _ _ e => nomatch e), w_f_41_4 X (fun _ _ => fn_bad (n := 0)) (fun _ _ _ _ e => nomatch e), w_f_43_3 X (fun _ _ => fn_bad (n := 0)) (fun _ _ _ _ e => nomatch e), w_f_40_7 X (fun _ _ => fn_bad (n := 0)) (fun _ _ _ _ e => nomatch e), w_f_44_1 X (fun _ _ => fn_bad (n := 0)) (fun _ _ _ _ e => nomatch e), w_f_20_2 X (fun _ _ => fn_bad (n := 0)) (fun _ _ _ _ e => nomatch e), w_f_39_1 X (fun _ _ => fn_bad (n := 0)) (fun _ _ _ _ e => nomatch e), w_f_48_3 X (fun _ _ => fn_bad (n := 0)) (fun _ _ _ _ e => nomatch e), w_f_47_2 X (fun _ _ => fn_bad (n := 0)) (fun _ _ _ _ e => nomatch e), w_f_46_3 X (fun _ _ => fn_bad (n := 0)) (fun _ _ _ _ e => nomatch e), w_f_51_2 X (fun _ _ => fn_bad (n := 0)) (fun _ _ _ _ e => nomatch e), w_f_50_2 X (fun _ _ => fn_bad (n := 0)) (fun _ _ _ _ e => nomatch e), w_f_53_1 X (fun _ _ => fn_bad (n := 0)) (fun _ _ _ _ e => nomatch e), w_f_24_2 X (fun _ _ => fn_bad (n := 0)) (fun _ _ _ _ e => nomatch e), w_f_54_2 X (fun _ _ => fn_bad (n := 0)) (fun _ _ _ _ e => nomatch e), w_f_14_1 X (fun _ _ => fn_bad (n := 0)) (fun _ _ _ _ e => nomatch e), w_f_26_1 X (fun _ _ => fn_bad (n := 0)) (fun _ _ _ _ e => nomatch e), w_f_36_1 X (fun _ _ => fn_bad (n := 0)) (fun _ _ _ _ e => nomatch e), w_f_45_3 X (fun _ _ => fn_bad (n := 0)) (fun _ _ _ _ e => nomatch e), w_f_62_1 X (fun _ _ => fn_bad (n := 0)) (fun _ _ _ _ e => nomatch e), w_f_55_1 X (fun _ _ => fn_bad (n := 0)) (fun _ _ _ _ e => nomatch e), w_f_49_3 X (fun _ _ => fn_bad (n := 0)) (fun _ _ _ _ e => nomatch e), w_f_64_2 X (fun _ _ => fn_bad (n := 0)) (fun _ _ _ _ e => nomatch e), w_f_52_2 X (fun _ _ => fn_bad (n := 0)) (fun _ _ _ _ e => nomatch e), w_f_58_1 X (fun _ _ => fn_bad (n := 0)) (fun _ _ _ _ e => nomatch e), w_f_65_2 X (fun _ _ => fn_bad (n := 0)) (fun _ _ _ _ e => nomatch e), w_f_66_2 X (fun _ _ => fn_bad (n := 0)) (fun _ _ _ _ e => nomatch e), w_f_74_2 X (fun _ _ => fn_bad (n := 0)) (fun _ _ _ _ e => nomatch e), w_f_61_1 X (fun _ _ => fn_bad (n := 0)) (fun _ _ _ _ e => nomatch e), w_f_60_1 X (fun _ _ => fn_bad (n := 0)) (fun _ _ _ _ e => nomatch e), w_f_57_1 X (fun _ _ => fn_bad (n := 0)) (fun _ _ _ _ e => nomatch e), w_f_78_2 X (fun _ _ => fn_bad (n := 0)) (fun _ _ _ _ e => nomatch e), w_f_77_2 X (fun _ _ => fn_bad (n := 0)) (fun _ _ _ _ e => nomatch e), w_f_56_3 X (fun _ _ => fn_bad (n := 0)) (fun _ _ _ _ e => nomatch e), w_f_79_1 X (fun _ _ => fn_bad (n := 0)) (fun _ _ _ _ e => nomatch e), w_g_76_2 X (fun _ _ => fng_bad) (fun _ _ _ _ e => nomatch e), w_f_68_3 X (fun _ _ => fn_bad (n := 0)) (fun _ _ _ _ e => nomatch e), w_f_63_1 X (fun _ _ => fn_bad (n := 0)) (fun _ _ _ _ e => nomatch e), w_f_67_2 X (fun _ _ => fn_bad (n := 0)) (fun _ _ _ _ e => nomatch e), w_k_56_3 X (fun _ _ => fn_bad (n := 0)) (fun _ _ _ _ e => nomatch e), w_f_72_2 X (fun _ _ => fn_bad (n := 0)) (fun _ _ _ _ e => nomatch e), w_f_59_1 X (fun _ _ => fn_bad (n := 0)) (fun _ _ _ _ e => nomatch e), w_f_70_2 X (fun _ _ => fn_bad (n := 0)) (fun _ _ _ _ e => nomatch e), w_f_69_3 X (fun _ _ => fn_bad (n := 0)) (fun _ _ _ _ e => nomatch e), w_f_71_2 X (fun _ _ => fn_bad (n := 0)) (fun _ _ _ _ e => nomatch e), w_f_73_1 X (fun _ _ => fn_bad (n := 0)) (fun _ _ _ _ e => nomatch e), w_f_75_2 X (fun _ _ => fn_bad (n := 0)) (fun _ _ _ _ e => nomatch e), w_g_81_1 X (fun _ _ => fng_bad) (fun _ _ _ _ e => nomatch e), w_g_80_1 X (fun _ _ => fng_bad) (fun _ _ _ _ e => nomatch e), w_g_83_1 X (fun _ _ => fng_bad) (fun _ _ _ _ e => nomatch e), w_g_82_1 X (fun _ _ => fng_bad) (fun _ _ _ _ e => nomatch e)⟩
  | n + 1 => ⟨w_f_0_1 X (fun _ d => o0 x (w_all x X n) d) (fun _ _ _ _ e => callG_len (f := tab 0) e), w_f_4_1 X (fun _ d => o4 x (w_all x X n) d) (fun _ _ _ _ e => callG_len (f := tab 4) e), w_f_2_1 X (fun _ d => o2 x (w_all x X n) d) (fun _ _ _ _ e => callG_len (f := tab 2) e), w_f_5_1 X (fun _ d => o5 x (w_all x X n) d) (fun _ _ _ _ e => callG_len (f := tab 5) e), w_f_6_1 X (fun _ d => o6 x (w_all x X n) d) (fun _ _ _ _ e => callG_len (f := tab 6) e), w_f_8_1 X (fun _ d => o8 x (w_all x X n) d) (fun _ _ _ _ e => callG_len (f := tab 8) e), w_f_1_1 X (fun _ d => o1 x (w_all x X n) d) (fun _ _ _ _ e => callG_len (f := tab 1) e), w_f_3_1 X (fun _ d => o3 x (w_all x X n) d) (fun _ _ _ _ e => callG_len (f := tab 3) e), w_f_7_1 X (fun _ d => o7 x (w_all x X n) d) (fun _ _ _ _ e => callG_len (f := tab 7) e), w_f_10_2 X (fun _ d => o10 x (w_all x X n) d) (fun _ _ _ _ e => callG_len (f := tab 10) e), w_f_11_1 X (fun _ d => o11 x (w_all x X n) d) (fun _ _ _ _ e => callG_len (f := tab 11) e), w_f_12_2 X (fun _ d => o12 x (w_all x X n) d) (fun _ _ _ _ e => callG_len (f := tab 12) e), w_f_9_1 X (fun _ d => o9 x (w_all x X n) d) (fun _ _ _ _ e => callG_len (f := tab 9) e), w_f_13_1 X (fun _ d => o13 x (w_all x X n) d) (fun _ _ _ _ e => callG_len (f := tab 13) e), w_f_16_1 X (fun _ d => o16 x (w_all x X n) d) (fun _ _ _ _ e => callG_len (f := tab 16) e), w_f_17_2 X (fun _ d => o17 x (w_all x X n) d) (fun _ _ _ _ e => callG_len (f := tab 17) e), w_f_15_2 X (fun _ d => o15 x (w_all x X n) d) (fun _ _ _ _ e => callG_len (f := tab 15) e), w_f_18_3 X (fun _ d => o18 x (w_all x X n) d) (fun _ _ _ _ e => callG_len (f := tab 18) e), w_f_21_3 X (fun _ d => o21 x (w_all x X n) d) (fun _ _ _ _ e => callG_len (f := tab 21) e), w_f_19_2 X (fun _ d => o19 x (w_all x X n) d) (fun _ _ _ _ e => callG_len (f := tab 19) e), w_f_23_2 X (fun _ d => o23 x (w_all x X n) d) (fun _ _ _ _ e => callG_len (f := tab 23) e), w_f_25_2 X (fun _ d => o25 x (w_all x X n) d) (fun _ _ _ _ e => callG_len (f := tab 25) e), w_f_27_2 X (fun _ d => o27 x (w_all x X n) d) (fun _ _ _ _ e => callG_len (f := tab 27) e), w_f_28_2 X (fun _ d => o28 x (w_all x X n) d) (fun _ _ _ _ e => callG_len (f := tab 28) e), w_f_29_2 X (fun _ d => o29 x (w_all x X n) d) (fun _ _ _ _ e => callG_len (f := tab 29) e), w_f_30_3 X (fun _ d => o30 x (w_all x X n) d) (fun _ _ _ _ e => callG_len (f := tab 30) e), w_f_31_2 X (fun _ d => o31 x (w_all x X n) d) (fun _ _ _ _ e => callG_len (f := tab 31) e), w_f_32_3 X (fun _ d => o32 x (w_all x X n) d) (fun _ _ _ _ e => callG_len (f := tab 32) e), w_f_34_2 X (fun _ d => o34 x (w_all x X n) d) (fun _ _ _ _ e => callG_len (f := tab 34) e), w_f_35_1 X (fun _ d => o35 x (w_all x X n) d) (fun _ _ _ _ e => callG_len (f := tab 35) e), w_f_37_1 X (fun _ d => o37 x (w_all x X n) d) (fun _ _ _ _ e => callG_len (f := tab 37) e), w_f_38_1 X (fun _ d => o38 x (w_all x X n) d) (fun _ _ _ _ e => callG_len (f := tab 38) e), w_f_33_3 X (fun _ d => o33 x (w_all x X n) d) (fun _ _ _ _ e => callG_len (f := tab 33) e), w_f_22_3 X (fun _ d => o22 x (w_all x X n) d) (fun _ _ _ _ e => callG_len (f := tab 22) e), w_f_42_3 X (fun _ d => o42 x (w_all x X n) d) (fun _ _ _ _ e => callG_len (f := tab 42) e), w_f_41_4 X (fun _ d => o41 x (w_all x X n) d) (fun _ _ _ _ e => callG_len (f := tab 41) e), w_f_43_3 X (fun _ d => o43 x (w_all x X n) d) (fun _ _ _ _ e => callG_len (f := tab 43) e), w_f_40_7 X (fun _ d => o40 x (w_all x X n) d) (fun _ _ _ _ e => callG_len (f := tab 40) e), w_f_44_1 X (fun _ d => o44 x (w_all x X n) d) (fun _ _ _ _ e => callG_len (f := tab 44) e), w_f_20_2 X (fun _ d => o20 x (w_all x X n) d) (fun _ _ _ _ e => callG_len (f := tab 20) e), w_f_39_1 X (fun _ d => o39 x (w_all x X n) d) (fun _ _ _ _ e => callG_len (f := tab 39) e), w_f_48_3 X (fun _ d => o48 x (w_all x X n) d) (fun _ _ _ _ e => callG_len (f := tab 48) e), w_f_47_2 X (fun _ d => o47 x (w_all x X n) d) (fun _ _ _ _ e => callG_len (f := tab 47) e), w_f_46_3 X (fun _ d => o46 x (w_all x X n) d) (fun _ _ _ _ e => callG_len (f := tab 46) e), w_f_51_2 X (fun _ d => o51 x (w_all x X n) d) (fun _ _ _ _ e => callG_len (f := tab 51) e), w_f_50_2 X (fun _ d => o50 x (w_all x X n) d) (fun _ _ _ _ e => callG_len (f := tab 50) e), w_f_53_1 X (fun _ d => o53 x (w_all x X n) d) (fun _ _ _ _ e => callG_len (f := tab 53) e), w_f_24_2 X (fun _ d => o24 x (w_all x X n) d) (fun _ _ _ _ e => callG_len (f := tab 24) e), w_f_54_2 X (fun _ d => o54 x (w_all x X n) d) (fun _ _ _ _ e => callG_len (f := tab 54) e), w_f_14_1 X (fun _ d => o14 x (w_all x X n) d) (fun _ _ _ _ e => callG_len (f := tab 14) e), w_f_26_1 X (fun _ d => o26 x (w_all x X n) d) (fun _ _ _ _ e => callG_len (f := tab 26) e), w_f_36_1 X (fun _ d => o36 x (w_all x X n) d) (fun _ _ _ _ e => callG_len (f := tab 36) e), w_f_45_3 X (fun _ d => o45 x (w_all x X n) d) (fun _ _ _ _ e => callG_len (f := tab 45) e), w_f_62_1 X (fun _ d => o62 x (w_all x X n) d) (fun _ _ _ _ e => callG_len (f := tab 62) e), w_f_55_1 X (fun _ d => o55 x (w_all x X n) d) (fun _ _ _ _ e => callG_len (f := tab 55) e), w_f_49_3 X (fun _ d => o49 x (w_all x X n) d) (fun _ _ _ _ e => callG_len (f := tab 49) e), w_f_64_2 X (fun _ d => o64 x (w_all x X n) d) (fun _ _ _ _ e => callG_len (f := tab 64) e), w_f_52_2 X (fun _ d => o52 x (w_all x X n) d) (fun _ _ _ _ e => callG_len (f := tab 52) e), w_f_58_1 X (fun _ d => o58 x (w_all x X n) d) (fun _ _ _ _ e => callG_len (f := tab 58) e), w_f_65_2 X (fun _ d => o65 x (w_all x X n) d) (fun _ _ _ _ e => callG_len (f := tab 65) e), w_f_66_2 X (fun _ d => o66 x (w_all x X n) d) (fun _ _ _ _ e => callG_len (f := tab 66) e), w_f_74_2 X (fun _ d => o74 x (w_all x X n) d) (fun _ _ _ _ e => callG_len (f := tab 74) e), w_f_61_1 X (fun _ d => o61 x (w_all x X n) d) (fun _ _ _ _ e => callG_len (f := tab 61) e), w_f_60_1 X (fun _ d => o60 x (w_all x X n) d) (fun _ _ _ _ e => callG_len (f := tab 60) e), w_f_57_1 X (fun _ d => o57 x (w_all x X n) d) (fun _ _ _ _ e => callG_len (f := tab 57) e), w_f_78_2 X (fun _ d => o78 x (w_all x X n) d) (fun _ _ _ _ e => callG_len (f := tab 78) e), w_f_77_2 X (fun _ d => o77 x (w_all x X n) d) (fun _ _ _ _ e => callG_len (f := tab 77) e), w_f_56_3 X (fun _ d => o56 x (w_all x X n) d) (fun _ _ _ _ e => callG_len (f := tab 56) e), w_f_79_1 X (fun _ d => o79 x (w_all x X n) d) (fun _ _ _ _ e => callG_len (f := tab 79) e), w_g_76_2 X (fun _ d => o76 x (w_all x X n) d) (fun _ _ _ _ e => callG_len (f := tab 76) e), w_f_68_3 X (fun _ d => o68 x (w_all x X n) d) (fun _ _ _ _ e => callG_len (f := tab 68) e), w_f_63_1 X (fun _ d => o63 x (w_all x X n) d) (fun _ _ _ _ e => callG_len (f := tab 63) e), w_f_67_2 X (fun _ d => o67 x (w_all x X n) d) (fun _ _ _ _ e => callG_len (f := tab 67) e), w_k_56_3 X (fun _ d => o56 x (w_all x X n) d) (fun _ _ _ _ e => callG_len (f := tab 56) e), w_f_72_2 X (fun _ d => o72 x (w_all x X n) d) (fun _ _ _ _ e => callG_len (f := tab 72) e), w_f_59_1 X (fun _ d => o59 x (w_all x X n) d) (fun _ _ _ _ e => callG_len (f := tab 59) e), w_f_70_2 X (fun _ d => o70 x (w_all x X n) d) (fun _ _ _ _ e => callG_len (f := tab 70) e), w_f_69_3 X (fun _ d => o69 x (w_all x X n) d) (fun _ _ _ _ e => callG_len (f := tab 69) e), w_f_71_2 X (fun _ d => o71 x (w_all x X n) d) (fun _ _ _ _ e => callG_len (f := tab 71) e), w_f_73_1 X (fun _ d => o73 x (w_all x X n) d) (fun _ _ _ _ e => callG_len (f := tab 73) e), w_f_75_2 X (fun _ d => o75 x (w_all x X n) d) (fun _ _ _ _ e => callG_len (f := tab 75) e), w_g_81_1 X (fun _ d => o81 x (w_all x X n) d) (fun _ _ _ _ e => callG_len (f := tab 81) e), w_g_80_1 X (fun _ d => o80 x (w_all x X n) d) (fun _ _ _ _ e => callG_len (f := tab 80) e), w_g_83_1 X (fun _ d => o83 x (w_all x X n) d) (fun _ _ _ _ e => callG_len (f := tab 83) e), w_g_82_1 X (fun _ d => o82 x (w_all x X n) d) (fun _ _ _ _ e => callG_len (f := tab 82) e)⟩
end
end K70
namespace K70
open PySem PySem.Spec L2 Den
def fa (K : Frag) (i : Nat) : Addr := (cond (Nat.blt i 42) (cond (Nat.blt i 21) (cond (Nat.blt i 10) (cond (Nat.blt i 5) (cond (Nat.blt i 2) (cond (Nat.blt i 1) (He.ga K "is_integer") (He.ga K "is_number")) (cond (Nat.blt i 3) (He.ga K "is_letter") (cond (Nat.blt i 4) (He.ga K "is_thing") (He.ga K "is_rising_row")))) (cond (Nat.blt i 7) (cond (Nat.blt i 6) (He.ga K "is_letter_set") (He.ga K "is_pair")) (cond (Nat.blt i 8) (He.ga K "is_entry") (cond (Nat.blt i 9) (He.ga K "is_side") (He.ga K "is_rule"))))) (cond (Nat.blt i 15) (cond (Nat.blt i 12) (cond (Nat.blt i 11) (He.ga K "reached_letters") (He.ga K "letters_fault")) (cond (Nat.blt i 13) (He.ga K "are_letters_known") (cond (Nat.blt i 14) (He.ga K "book_fault") (He.ga K "lets_book")))) (cond (Nat.blt i 18) (cond (Nat.blt i 16) (He.ga K "want_usable") (cond (Nat.blt i 17) (He.ga K "known_letters") (He.ga K "is_thing_of"))) (cond (Nat.blt i 19) (He.ga K "want_thing") (cond (Nat.blt i 20) (He.ga K "next_ones") (He.ga K "has_letters")))))) (cond (Nat.blt i 31) (cond (Nat.blt i 26) (cond (Nat.blt i 23) (cond (Nat.blt i 22) (He.ga K "lies_at_most") (He.ga K "is_at_most")) (cond (Nat.blt i 24) (He.ga K "next_ones_below") (cond (Nat.blt i 25) (He.ga K "things_at_most") (He.ga K "want")))) (cond (Nat.blt i 28) (cond (Nat.blt i 27) (He.ga K "want_manner") (He.ga K "places_of")) (cond (Nat.blt i 29) (He.ga K "dropped") (cond (Nat.blt i 30) (He.ga K "halved") (He.ga K "lowered"))))) (cond (Nat.blt i 36) (cond (Nat.blt i 33) (cond (Nat.blt i 32) (He.ga K "put_results") (He.ga K "results_of")) (cond (Nat.blt i 34) (He.ga K "steps_from") (cond (Nat.blt i 35) (He.ga K "letters_under") (He.ga K "falling_fault")))) (cond (Nat.blt i 39) (cond (Nat.blt i 37) (He.ga K "want_falling") (cond (Nat.blt i 38) (He.ga K "is_bool") (He.ga K "is_manner"))) (cond (Nat.blt i 40) (He.ga K "is_event") (cond (Nat.blt i 41) (He.ma K (He.ga K "Stand") "__init__") (He.ga K "asked_steps"))))))) (cond (Nat.blt i 63) (cond (Nat.blt i 52) (cond (Nat.blt i 47) (cond (Nat.blt i 44) (cond (Nat.blt i 43) (He.ga K "known_in") (He.ga K "first_open")) (cond (Nat.blt i 45) (He.ga K "settled") (cond (Nat.blt i 46) (He.ga K "first_stand") (He.ga K "told_reason")))) (cond (Nat.blt i 49) (cond (Nat.blt i 48) (He.ga K "start_reason") (He.ga K "rule_reason")) (cond (Nat.blt i 50) (He.ga K "reason_of") (cond (Nat.blt i 51) (He.ga K "answered") (He.ga K "book_behind"))))) (cond (Nat.blt i 57) (cond (Nat.blt i 54) (cond (Nat.blt i 53) (He.ga K "changed") (He.ga K "least_failing")) (cond (Nat.blt i 55) (He.ga K "end_by") (cond (Nat.blt i 56) (He.ga K "ends_from") (He.ma K (He.ga K "Trial") "__init__")))) (cond (Nat.blt i 60) (cond (Nat.blt i 58) (pgAt K (He.ga K "Trial") "thing_now") (cond (Nat.blt i 59) (pgAt K (He.ga K "Trial") "question") (pgAt K (He.ga K "Trial") "steps_now"))) (cond (Nat.blt i 61) (pgAt K (He.ga K "Trial") "walk_now") (cond (Nat.blt i 62) (pgAt K (He.ga K "Trial") "tries_now") (He.ma K (He.ga K "Trial") "steps_of_now")))))) (cond (Nat.blt i 74) (cond (Nat.blt i 68) (cond (Nat.blt i 65) (cond (Nat.blt i 64) (He.ma K (He.ga K "Trial") "ends_left") (He.ma K (He.ga K "Trial") "barred")) (cond (Nat.blt i 66) (He.ma K (He.ga K "Trial") "apply_event") (cond (Nat.blt i 67) (He.ma K (He.ga K "Trial") "go") (He.ma K (He.ga K "Trial") "answer")))) (cond (Nat.blt i 71) (cond (Nat.blt i 69) (He.ma K (He.ga K "Trial") "told") (cond (Nat.blt i 70) (He.ma K (He.ga K "Trial") "add_rule") (He.ma K (He.ga K "Trial") "take_rule"))) (cond (Nat.blt i 72) (He.ma K (He.ga K "Trial") "start") (cond (Nat.blt i 73) (He.ma K (He.ga K "Trial") "__getitem__") (He.ga K "_law_feed"))))) (cond (Nat.blt i 79) (cond (Nat.blt i 76) (cond (Nat.blt i 75) (He.ga K "_law_draw") (He.ga K "_law_any")) (cond (Nat.blt i 77) (He.ga K "_law_same") (cond (Nat.blt i 78) (He.ga K "_law_turned") (He.ga K "_law_book")))) (cond (Nat.blt i 82) (cond (Nat.blt i 80) (He.ga K "_law_state") (cond (Nat.blt i 81) (He.ga K "_law_over_two") (He.ga K "_law_skipped"))) (cond (Nat.blt i 83) (He.ga K "_law_on") (cond (Nat.blt i 84) (He.ga K "_law_rules_change") (He.ga K "law"))))))))
def ca (K : Frag) (i : Nat) : Addr := match i with
  | 0 => He.ga K "Stand"
  | 1 => He.ga K "Trial"
  | _ => 0
def bsP0 : List (Frag → Bool) := [fun K => (He.Fa.free "isinstance").ok K, fun K => (He.Fa.free "bool").ok K, fun K => (He.Fa.free "int").ok K, fun K => He.eqO (PySem.W.nsIn K mainGlobals "is_integer") (some (some (.ref (He.ga K "is_integer")))), fun K => gloB fa "LOWERCASE" (.str [97, 98, 99, 100, 101, 102, 103, 104, 105, 106, 107, 108, 109, 110, 111, 112, 113, 114, 115, 116, 117, 118, 119, 120, 121, 122]) K, fun K => (He.Fa.free "len").ok K, fun K => (He.Fa.free "str").ok K, fun K => (He.Fa.free "all").ok K, fun K => (He.Fa.free "zip").ok K, fun K => He.eqO (PySem.W.nsIn K mainGlobals "is_rising_row") (some (some (.ref (He.ga K "is_rising_row")))), fun K => He.eqO (PySem.W.nsIn K mainGlobals "is_letter") (some (some (.ref (He.ga K "is_letter")))), fun K => (He.Fa.free "tuple").ok K, fun K => He.eqO (PySem.W.nsIn K mainGlobals "is_letter_set") (some (some (.ref (He.ga K "is_letter_set")))), fun K => He.eqO (PySem.W.nsIn K mainGlobals "is_pair") (some (some (.ref (He.ga K "is_pair")))), fun K => gloB fa "SIDES" (.tup true [.str [108, 101, 102, 116], .str [114, 105, 103, 104, 116]]) K, fun K => He.eqO (PySem.W.nsIn K mainGlobals "is_side") (some (some (.ref (He.ga K "is_side")))), fun K => He.eqO (PySem.W.nsIn K mainGlobals "is_number") (some (some (.ref (He.ga K "is_number")))), fun K => He.eqO (PySem.W.nsIn K mainGlobals "is_thing") (some (some (.ref (He.ga K "is_thing")))), fun K => (He.Fa.free "list").ok K, fun K => (He.Fa.free "enumerate").ok K, fun K => He.eqO (PySem.W.nsIn K mainGlobals "is_entry") (some (some (.ref (He.ga K "is_entry")))), fun K => He.eqO (PySem.W.nsIn K mainGlobals "reached_letters") (some (some (.ref (He.ga K "reached_letters")))), fun K => He.eqO (PySem.W.nsIn K mainGlobals "letters_fault") (some (some (.ref (He.ga K "letters_fault")))), fun K => He.eqO (PySem.W.nsIn K mainGlobals "are_letters_known") (some (some (.ref (He.ga K "are_letters_known")))), fun K => He.eqO (PySem.W.nsIn K mainGlobals "is_rule") (some (some (.ref (He.ga K "is_rule")))), fun K => He.eqO (PySem.W.nsIn K mainGlobals "book_fault") (some (some (.ref (He.ga K "book_fault")))), fun K => He.eqO (PySem.W.nsIn K mainGlobals "known_letters") (some (some (.ref (He.ga K "known_letters")))), fun K => He.eqO (PySem.W.nsIn K mainGlobals "is_thing_of") (some (some (.ref (He.ga K "is_thing_of")))), fun K => He.eqO (PySem.W.nsIn K mainGlobals "want_usable") (some (some (.ref (He.ga K "want_usable")))), fun K => He.eqO (PySem.W.nsIn K mainGlobals "want_thing") (some (some (.ref (He.ga K "want_thing")))), fun K => (He.Fa.free "dict").ok K, fun K => He.eqO (PySem.W.nsIn K mainGlobals "lies_at_most") (some (some (.ref (He.ga K "lies_at_most")))), fun K => He.eqO (PySem.W.nsIn K mainGlobals "next_ones") (some (some (.ref (He.ga K "next_ones")))), fun K => He.eqO (PySem.W.nsIn K mainGlobals "next_ones_below") (some (some (.ref (He.ga K "next_ones_below")))), fun K => (He.Fa.free "sorted").ok K, fun K => gloB fa "MANNERS" (.tup true [.str [97, 103, 97, 105, 110], .str [111, 110]]) K, fun K => He.eqO (PySem.W.nsIn K mainGlobals "want_stepusable") (some (some (.ref (He.ga K "want")))), fun K => (He.Fa.free "range").ok K, fun K => (He.Fa.free "max").ok K, fun K => He.eqO (PySem.W.nsIn K mainGlobals "places_of") (some (some (.ref (He.ga K "places_of")))), fun K => He.eqO (PySem.W.nsIn K mainGlobals "dropped") (some (some (.ref (He.ga K "dropped")))), fun K => He.eqO (PySem.W.nsIn K mainGlobals "halved") (some (some (.ref (He.ga K "halved")))), fun K => He.eqO (PySem.W.nsIn K mainGlobals "lowered") (some (some (.ref (He.ga K "lowered")))), fun K => He.eqO (PySem.W.nsIn K mainGlobals "put_results") (some (some (.ref (He.ga K "put_results")))), fun K => He.eqO (PySem.W.nsIn K mainGlobals "results_of") (some (some (.ref (He.ga K "results_of")))), fun K => He.eqO (PySem.W.nsIn K mainGlobals "letters_under") (some (some (.ref (He.ga K "letters_under")))), fun K => He.eqO (PySem.W.nsIn K mainGlobals "falling_fault") (some (some (.ref (He.ga K "falling_fault")))), fun K => kdB fa "FORMS" [[97, 110, 115, 119, 101, 114], [116, 111, 108, 100], [114, 117, 108, 101], [110, 111, 114, 117, 108, 101], [115, 116, 97, 114, 116], [109, 97, 110, 110, 101, 114]] [.tup true [.fn 37], .tup true [.fn 3, .fn 37], .tup true [.fn 9, .fn 1], .tup true [.fn 1], .tup true [.fn 3], .tup true [.fn 38]] K, fun K => (He.Fa.cls "Stand").ok K, fun K => (He.Fa.noat "Stand" "kept_book").ok K, fun K => (He.Fa.noat "Stand" "kept_manner").ok K, fun K => (He.Fa.noat "Stand" "kept_things").ok K, fun K => (He.Fa.noat "Stand" "kept_rule").ok K, fun K => (He.Fa.noat "Stand" "kept_told").ok K, fun K => (He.Fa.noat "Stand" "kept_tries").ok K, fun K => (He.Fa.noat "Stand" "kept_question").ok K, fun K => He.eqO (PySem.W.nsIn K mainGlobals "steps_from") (some (some (.ref (He.ga K "steps_from")))), fun K => He.eqO (PySem.W.nsIn K mainGlobals "is_at_most") (some (some (.ref (He.ga K "is_at_most")))), fun K => He.eqO (PySem.W.nsIn K mainGlobals "known_in") (some (some (.ref (He.ga K "known_in")))), fun K => He.eqO (PySem.W.nsIn K mainGlobals "asked_steps") (some (some (.ref (He.ga K "asked_steps")))), fun K => He.eqO (PySem.W.nsIn K mainGlobals "first_open") (some (some (.ref (He.ga K "first_open")))), fun K => (He.Fa.mkr "Stand").ok K, fun K => He.eqO (PySem.W.nsIn K mainGlobals "Stand") (some (some (.ref (He.ga K "Stand")))), fun K => He.eqO (PySem.W.nsIn K mainGlobals "settled") (some (some (.ref (He.ga K "settled")))), fun K => He.eqO (PySem.W.nsIn K mainGlobals "has_letters") (some (some (.ref (He.ga K "has_letters")))), fun K => He.eqO (PySem.W.nsIn K mainGlobals "is_event") (some (some (.ref (He.ga K "is_event")))), fun K => He.eqO (PySem.W.nsIn K mainGlobals "rule_reason") (some (some (.ref (He.ga K "rule_reason")))), fun K => He.eqO (PySem.W.nsIn K mainGlobals "start_reason") (some (some (.ref (He.ga K "start_reason")))), fun K => He.eqO (PySem.W.nsIn K mainGlobals "told_reason") (some (some (.ref (He.ga K "told_reason"))))]
def bsP1 : List (Frag → Bool) := [fun K => He.eqO (PySem.W.nsIn K mainGlobals "book_behind") (some (some (.ref (He.ga K "book_behind")))), fun K => He.eqO (PySem.W.nsIn K mainGlobals "answered") (some (some (.ref (He.ga K "answered")))), fun K => (He.Fa.free "any").ok K, fun K => He.eqO (PySem.W.nsIn K mainGlobals "least_failing") (some (some (.ref (He.ga K "least_failing")))), fun K => He.eqO (PySem.W.nsIn K mainGlobals "things_at_most") (some (some (.ref (He.ga K "things_at_most")))), fun K => He.eqO (PySem.W.nsIn K mainGlobals "end_by") (some (some (.ref (He.ga K "end_by")))), fun K => He.eqO (PySem.W.nsIn K mainGlobals "lets_book") (some (some (.ref (He.ga K "lets_book")))), fun K => He.eqO (PySem.W.nsIn K mainGlobals "want_manner") (some (some (.ref (He.ga K "want_manner")))), fun K => He.eqO (PySem.W.nsIn K mainGlobals "want_falling") (some (some (.ref (He.ga K "want_falling")))), fun K => (He.Fa.cls "Trial").ok K, fun K => (He.Fa.noat "Trial" "beginning").ok K, fun K => (He.Fa.noat "Trial" "given").ok K, fun K => He.eqO (PySem.W.nsIn K mainGlobals "first_stand") (some (some (.ref (He.ga K "first_stand")))), fun K => (He.Fa.noat "Trial" "stands").ok K, fun K => (He.Fa.noat "Trial" "started").ok K, fun K => (He.Fa.noat "Trial" "finished").ok K, fun K => (He.Fa.meth "Trial" "steps_of_now").ok K, fun K => He.eqO (PySem.W.nsIn K mainGlobals "ends_from") (some (some (.ref (He.ga K "ends_from")))), fun K => He.eqO (PySem.W.nsIn K mainGlobals "Trial") (some (some (.ref (He.ga K "Trial")))), fun K => cvalB "Trial" "MOST" 40 K, fun K => He.eqO (PySem.W.nsIn K mainGlobals "reason_of") (some (some (.ref (He.ga K "reason_of")))), fun K => (He.Fa.meth "Trial" "barred").ok K, fun K => He.eqO (PySem.W.nsIn K mainGlobals "changed") (some (some (.ref (He.ga K "changed")))), fun K => propB "Trial" "question" K, fun K => (He.Fa.meth "Trial" "apply_event").ok K, fun K => (He.Fa.meth "Trial" "go").ok K, fun K => He.eqO (PySem.W.nsIn K mainGlobals "_law_draw") (some (some (.ref (He.ga K "_law_draw")))), fun K => (He.Fa.free "repr").ok K, fun K => propB "Trial" "tries_now" K, fun K => propB "Trial" "walk_now" K, fun K => propB "Trial" "thing_now" K, fun K => He.eqO (PySem.W.nsIn K mainGlobals "_law_book") (some (some (.ref (He.ga K "_law_book")))), fun K => He.eqO (PySem.W.nsIn K mainGlobals "_law_turned") (some (some (.ref (He.ga K "_law_turned")))), fun K => (He.Fa.mkr "Trial").ok K, fun K => He.eqO (PySem.W.nsIn K mainGlobals "_law_state") (some (some (.ref (He.ga K "_law_state")))), fun K => He.eqO (PySem.W.nsIn K mainGlobals "_law_same") (some (some (.ref (He.ga K "_law_same")))), fun K => (He.Fa.meth "Trial" "told").ok K, fun K => (He.Fa.meth "Trial" "ends_left").ok K, fun K => (He.Fa.meth "Trial" "answer").ok K, fun K => (He.Fa.meth "Trial" "__getitem__").ok K, fun K => PySem.W.fnIn K (He.ma K (He.ga K "Trial") "__getitem__"), fun K => propB "Trial" "steps_now" K, fun K => (He.Fa.meth "Trial" "take_rule").ok K, fun K => (He.Fa.meth "Trial" "add_rule").ok K, fun K => (He.Fa.meth "Trial" "start").ok K, fun K => He.eqO (PySem.W.nsIn K mainGlobals "_law_feed") (some (some (.ref (He.ga K "_law_feed")))), fun K => He.eqO (PySem.W.nsIn K mainGlobals "_law_any") (some (some (.ref (He.ga K "_law_any")))), fun K => He.eqO (PySem.W.nsIn K mainGlobals "_law_skipped") (some (some (.ref (He.ga K "_law_skipped")))), fun K => He.eqO (PySem.W.nsIn K mainGlobals "_law_over_two") (some (some (.ref (He.ga K "_law_over_two")))), fun K => He.eqO (PySem.W.nsIn K mainGlobals "_law_rules_change") (some (some (.ref (He.ga K "_law_rules_change")))), fun K => He.eqO (PySem.W.nsIn K mainGlobals "_law_on") (some (some (.ref (He.ga K "_law_on")))), fun K => He.eqO (PySem.W.nsIn K mainGlobals "law") (some (some (.ref (He.ga K "law")))), fun K => PySem.W.keepIn K (.ref (He.ga K "is_integer")), fun K => PySem.W.keepIn K (.ref (He.ga K "is_number")), fun K => PySem.W.keepIn K (.ref (He.ga K "is_letter")), fun K => PySem.W.keepIn K (.ref (He.ga K "is_thing")), fun K => PySem.W.keepIn K (.ref (He.ga K "is_rising_row")), fun K => PySem.W.keepIn K (.ref (He.ga K "is_letter_set")), fun K => PySem.W.keepIn K (.ref (He.ga K "is_pair")), fun K => PySem.W.keepIn K (.ref (He.ga K "is_entry")), fun K => PySem.W.keepIn K (.ref (He.ga K "is_side")), fun K => PySem.W.keepIn K (.ref (He.ga K "is_rule")), fun K => PySem.W.keepIn K (.ref (He.ga K "reached_letters")), fun K => PySem.W.keepIn K (.ref (He.ga K "letters_fault")), fun K => PySem.W.keepIn K (.ref (He.ga K "are_letters_known")), fun K => PySem.W.keepIn K (.ref (He.ga K "book_fault")), fun K => PySem.W.keepIn K (.ref (He.ga K "lets_book")), fun K => PySem.W.keepIn K (.ref (He.ga K "want_usable")), fun K => PySem.W.keepIn K (.ref (He.ga K "known_letters"))]
def bsP2 : List (Frag → Bool) := [fun K => PySem.W.keepIn K (.ref (He.ga K "is_thing_of")), fun K => PySem.W.keepIn K (.ref (He.ga K "want_thing")), fun K => PySem.W.keepIn K (.ref (He.ga K "next_ones")), fun K => PySem.W.keepIn K (.ref (He.ga K "has_letters")), fun K => PySem.W.keepIn K (.ref (He.ga K "lies_at_most")), fun K => PySem.W.keepIn K (.ref (He.ga K "is_at_most")), fun K => PySem.W.keepIn K (.ref (He.ga K "next_ones_below")), fun K => PySem.W.keepIn K (.ref (He.ga K "things_at_most")), fun K => PySem.W.keepIn K (.ref (He.ga K "want")), fun K => PySem.W.keepIn K (.ref (He.ga K "want_manner")), fun K => PySem.W.keepIn K (.ref (He.ga K "places_of")), fun K => PySem.W.keepIn K (.ref (He.ga K "dropped")), fun K => PySem.W.keepIn K (.ref (He.ga K "halved")), fun K => PySem.W.keepIn K (.ref (He.ga K "lowered")), fun K => PySem.W.keepIn K (.ref (He.ga K "put_results")), fun K => PySem.W.keepIn K (.ref (He.ga K "results_of")), fun K => PySem.W.keepIn K (.ref (He.ga K "steps_from")), fun K => PySem.W.keepIn K (.ref (He.ga K "letters_under")), fun K => PySem.W.keepIn K (.ref (He.ga K "falling_fault")), fun K => PySem.W.keepIn K (.ref (He.ga K "want_falling")), fun K => PySem.W.keepIn K (.ref (He.ga K "is_bool")), fun K => PySem.W.keepIn K (.ref (He.ga K "is_manner")), fun K => PySem.W.keepIn K (.ref (He.ga K "is_event")), fun K => PySem.W.keepIn K (.ref (He.ma K (He.ga K "Stand") "__init__")), fun K => PySem.W.keepIn K (.ref (He.ga K "asked_steps")), fun K => PySem.W.keepIn K (.ref (He.ga K "known_in")), fun K => PySem.W.keepIn K (.ref (He.ga K "first_open")), fun K => PySem.W.keepIn K (.ref (He.ga K "settled")), fun K => PySem.W.keepIn K (.ref (He.ga K "first_stand")), fun K => PySem.W.keepIn K (.ref (He.ga K "told_reason")), fun K => PySem.W.keepIn K (.ref (He.ga K "start_reason")), fun K => PySem.W.keepIn K (.ref (He.ga K "rule_reason")), fun K => PySem.W.keepIn K (.ref (He.ga K "reason_of")), fun K => PySem.W.keepIn K (.ref (He.ga K "answered")), fun K => PySem.W.keepIn K (.ref (He.ga K "book_behind")), fun K => PySem.W.keepIn K (.ref (He.ga K "changed")), fun K => PySem.W.keepIn K (.ref (He.ga K "least_failing")), fun K => PySem.W.keepIn K (.ref (He.ga K "end_by")), fun K => PySem.W.keepIn K (.ref (He.ga K "ends_from")), fun K => PySem.W.keepIn K (.ref (He.ma K (He.ga K "Trial") "__init__")), fun K => PySem.W.keepIn K (.ref (pgAt K (He.ga K "Trial") "thing_now")), fun K => PySem.W.keepIn K (.ref (pgAt K (He.ga K "Trial") "question")), fun K => PySem.W.keepIn K (.ref (pgAt K (He.ga K "Trial") "steps_now")), fun K => PySem.W.keepIn K (.ref (pgAt K (He.ga K "Trial") "walk_now")), fun K => PySem.W.keepIn K (.ref (pgAt K (He.ga K "Trial") "tries_now")), fun K => PySem.W.keepIn K (.ref (He.ma K (He.ga K "Trial") "steps_of_now")), fun K => PySem.W.keepIn K (.ref (He.ma K (He.ga K "Trial") "ends_left")), fun K => PySem.W.keepIn K (.ref (He.ma K (He.ga K "Trial") "barred")), fun K => PySem.W.keepIn K (.ref (He.ma K (He.ga K "Trial") "apply_event")), fun K => PySem.W.keepIn K (.ref (He.ma K (He.ga K "Trial") "go")), fun K => PySem.W.keepIn K (.ref (He.ma K (He.ga K "Trial") "answer")), fun K => PySem.W.keepIn K (.ref (He.ma K (He.ga K "Trial") "told")), fun K => PySem.W.keepIn K (.ref (He.ma K (He.ga K "Trial") "add_rule")), fun K => PySem.W.keepIn K (.ref (He.ma K (He.ga K "Trial") "take_rule")), fun K => PySem.W.keepIn K (.ref (He.ma K (He.ga K "Trial") "start")), fun K => PySem.W.keepIn K (.ref (He.ma K (He.ga K "Trial") "__getitem__")), fun K => PySem.W.keepIn K (.ref (He.ga K "_law_feed")), fun K => PySem.W.keepIn K (.ref (He.ga K "_law_draw")), fun K => PySem.W.keepIn K (.ref (He.ga K "_law_any")), fun K => PySem.W.keepIn K (.ref (He.ga K "_law_same")), fun K => PySem.W.keepIn K (.ref (He.ga K "_law_turned")), fun K => PySem.W.keepIn K (.ref (He.ga K "_law_book")), fun K => PySem.W.keepIn K (.ref (He.ga K "_law_state")), fun K => PySem.W.keepIn K (.ref (He.ga K "_law_over_two")), fun K => PySem.W.keepIn K (.ref (He.ga K "_law_skipped")), fun K => PySem.W.keepIn K (.ref (He.ga K "_law_on")), fun K => PySem.W.keepIn K (.ref (He.ga K "_law_rules_change")), fun K => PySem.W.keepIn K (.ref (He.ga K "law"))]
def bs : List (Frag → Bool) := bsP0 ++ (bsP1 ++ (bsP2))
def d0 : He5.DefA := ⟨fun K => He.ga K "is_integer", "is_integer", "is_integer", defArgs (top 13), defBody (top 13), defScope (top 13), [], []⟩
def d1 : He5.DefA := ⟨fun K => He.ga K "is_number", "is_number", "is_number", defArgs (top 14), defBody (top 14), defScope (top 14), [], []⟩
def d2 : He5.DefA := ⟨fun K => He.ga K "is_letter", "is_letter", "is_letter", defArgs (top 15), defBody (top 15), defScope (top 15), [], []⟩
def d3 : He5.DefA := ⟨fun K => He.ga K "is_thing", "is_thing", "is_thing", defArgs (top 16), defBody (top 16), defScope (top 16), [], []⟩
def d4 : He5.DefA := ⟨fun K => He.ga K "is_rising_row", "is_rising_row", "is_rising_row", defArgs (top 17), defBody (top 17), defScope (top 17), [], []⟩
def d5 : He5.DefA := ⟨fun K => He.ga K "is_letter_set", "is_letter_set", "is_letter_set", defArgs (top 18), defBody (top 18), defScope (top 18), [], []⟩
def d6 : He5.DefA := ⟨fun K => He.ga K "is_pair", "is_pair", "is_pair", defArgs (top 19), defBody (top 19), defScope (top 19), [], []⟩
def d7 : He5.DefA := ⟨fun K => He.ga K "is_entry", "is_entry", "is_entry", defArgs (top 20), defBody (top 20), defScope (top 20), [], []⟩
def d8 : He5.DefA := ⟨fun K => He.ga K "is_side", "is_side", "is_side", defArgs (top 21), defBody (top 21), defScope (top 21), [], []⟩
def d9 : He5.DefA := ⟨fun K => He.ga K "is_rule", "is_rule", "is_rule", defArgs (top 22), defBody (top 22), defScope (top 22), [], []⟩
def d10 : He5.DefA := ⟨fun K => He.ga K "reached_letters", "reached_letters", "reached_letters", defArgs (top 23), defBody (top 23), defScope (top 23), [], []⟩
def d11 : He5.DefA := ⟨fun K => He.ga K "letters_fault", "letters_fault", "letters_fault", defArgs (top 24), defBody (top 24), defScope (top 24), [], []⟩
def d12 : He5.DefA := ⟨fun K => He.ga K "are_letters_known", "are_letters_known", "are_letters_known", defArgs (top 25), defBody (top 25), defScope (top 25), [], []⟩
def d13 : He5.DefA := ⟨fun K => He.ga K "book_fault", "book_fault", "book_fault", defArgs (top 26), defBody (top 26), defScope (top 26), [], []⟩
def d14 : He5.DefA := ⟨fun K => He.ga K "lets_book", "lets_book", "lets_book", defArgs (top 28), defBody (top 28), defScope (top 28), [], []⟩
def d15 : He5.DefA := ⟨fun K => He.ga K "want_usable", "want", "want", defArgs (top 30), defBody (top 30), defScope (top 30), [.int (-1)], []⟩
def d16 : He5.DefA := ⟨fun K => He.ga K "known_letters", "known_letters", "known_letters", defArgs (top 32), defBody (top 32), defScope (top 32), [], []⟩
def d17 : He5.DefA := ⟨fun K => He.ga K "is_thing_of", "is_thing_of", "is_thing_of", defArgs (top 33), defBody (top 33), defScope (top 33), [], []⟩
def d18 : He5.DefA := ⟨fun K => He.ga K "want_thing", "want_thing", "want_thing", defArgs (top 34), defBody (top 34), defScope (top 34), [], []⟩
def d19 : He5.DefA := ⟨fun K => He.ga K "next_ones", "next_ones", "next_ones", defArgs (top 36), defBody (top 36), defScope (top 36), [], []⟩
def d20 : He5.DefA := ⟨fun K => He.ga K "has_letters", "has_letters", "has_letters", defArgs (top 37), defBody (top 37), defScope (top 37), [], []⟩
def d21 : He5.DefA := ⟨fun K => He.ga K "lies_at_most", "lies_at_most", "lies_at_most", defArgs (top 38), defBody (top 38), defScope (top 38), [], []⟩
def d22 : He5.DefA := ⟨fun K => He.ga K "is_at_most", "is_at_most", "is_at_most", defArgs (top 39), defBody (top 39), defScope (top 39), [], []⟩
def d23 : He5.DefA := ⟨fun K => He.ga K "next_ones_below", "next_ones_below", "next_ones_below", defArgs (top 40), defBody (top 40), defScope (top 40), [], []⟩
def d24 : He5.DefA := ⟨fun K => He.ga K "things_at_most", "things_at_most", "things_at_most", defArgs (top 41), defBody (top 41), defScope (top 41), [], []⟩
def d25 : He5.DefA := ⟨fun K => He.ga K "want", "want", "want", defArgs (top 54), defBody (top 54), defScope (top 54), [.int (-1)], []⟩
def d26 : He5.DefA := ⟨fun K => He.ga K "want_manner", "want_manner", "want_manner", defArgs (top 56), defBody (top 56), defScope (top 56), [], []⟩
def d27 : He5.DefA := ⟨fun K => He.ga K "places_of", "places_of", "places_of", defArgs (top 58), defBody (top 58), defScope (top 58), [], []⟩
def d28 : He5.DefA := ⟨fun K => He.ga K "dropped", "dropped", "dropped", defArgs (top 59), defBody (top 59), defScope (top 59), [], []⟩
def d29 : He5.DefA := ⟨fun K => He.ga K "halved", "halved", "halved", defArgs (top 60), defBody (top 60), defScope (top 60), [], []⟩
def d30 : He5.DefA := ⟨fun K => He.ga K "lowered", "lowered", "lowered", defArgs (top 61), defBody (top 61), defScope (top 61), [], []⟩
def d31 : He5.DefA := ⟨fun K => He.ga K "put_results", "put_results", "put_results", defArgs (top 62), defBody (top 62), defScope (top 62), [], []⟩
def d32 : He5.DefA := ⟨fun K => He.ga K "results_of", "results_of", "results_of", defArgs (top 63), defBody (top 63), defScope (top 63), [], []⟩
def d33 : He5.DefA := ⟨fun K => He.ga K "steps_from", "steps_from", "steps_from", defArgs (top 64), defBody (top 64), defScope (top 64), [], []⟩
def d34 : He5.DefA := ⟨fun K => He.ga K "letters_under", "letters_under", "letters_under", defArgs (top 65), defBody (top 65), defScope (top 65), [], []⟩
def d35 : He5.DefA := ⟨fun K => He.ga K "falling_fault", "falling_fault", "falling_fault", defArgs (top 66), defBody (top 66), defScope (top 66), [], []⟩
def d36 : He5.DefA := ⟨fun K => He.ga K "want_falling", "want_falling", "want_falling", defArgs (top 67), defBody (top 67), defScope (top 67), [], []⟩
def d37 : He5.DefA := ⟨fun K => He.ga K "is_bool", "is_bool", "is_bool", defArgs (top 69), defBody (top 69), defScope (top 69), [], []⟩
def d38 : He5.DefA := ⟨fun K => He.ga K "is_manner", "is_manner", "is_manner", defArgs (top 70), defBody (top 70), defScope (top 70), [], []⟩
def d39 : He5.DefA := ⟨fun K => He.ga K "is_event", "is_event", "is_event", defArgs (top 72), defBody (top 72), defScope (top 72), [], []⟩
def d40 : He5.DefA := ⟨fun K => He.ma K (He.ga K "Stand") "__init__", "__init__", "Stand.__init__", defArgs (mem 74 0), defBody (mem 74 0), defScope (mem 74 0), [], []⟩
def d41 : He5.DefA := ⟨fun K => He.ga K "asked_steps", "asked_steps", "asked_steps", defArgs (top 75), defBody (top 75), defScope (top 75), [], []⟩
def d42 : He5.DefA := ⟨fun K => He.ga K "known_in", "known_in", "known_in", defArgs (top 76), defBody (top 76), defScope (top 76), [], []⟩
def d43 : He5.DefA := ⟨fun K => He.ga K "first_open", "first_open", "first_open", defArgs (top 77), defBody (top 77), defScope (top 77), [], []⟩
def d44 : He5.DefA := ⟨fun K => He.ga K "settled", "settled", "settled", defArgs (top 78), defBody (top 78), defScope (top 78), [], []⟩
def d45 : He5.DefA := ⟨fun K => He.ga K "first_stand", "first_stand", "first_stand", defArgs (top 79), defBody (top 79), defScope (top 79), [], []⟩
def d46 : He5.DefA := ⟨fun K => He.ga K "told_reason", "told_reason", "told_reason", defArgs (top 80), defBody (top 80), defScope (top 80), [], []⟩
def d47 : He5.DefA := ⟨fun K => He.ga K "start_reason", "start_reason", "start_reason", defArgs (top 81), defBody (top 81), defScope (top 81), [], []⟩
def d48 : He5.DefA := ⟨fun K => He.ga K "rule_reason", "rule_reason", "rule_reason", defArgs (top 82), defBody (top 82), defScope (top 82), [], []⟩
def d49 : He5.DefA := ⟨fun K => He.ga K "reason_of", "reason_of", "reason_of", defArgs (top 83), defBody (top 83), defScope (top 83), [], []⟩
def d50 : He5.DefA := ⟨fun K => He.ga K "answered", "answered", "answered", defArgs (top 84), defBody (top 84), defScope (top 84), [], []⟩
def d51 : He5.DefA := ⟨fun K => He.ga K "book_behind", "book_behind", "book_behind", defArgs (top 85), defBody (top 85), defScope (top 85), [], []⟩
def d52 : He5.DefA := ⟨fun K => He.ga K "changed", "changed", "changed", defArgs (top 86), defBody (top 86), defScope (top 86), [], []⟩
def d53 : He5.DefA := ⟨fun K => He.ga K "least_failing", "least_failing", "least_failing", defArgs (top 87), defBody (top 87), defScope (top 87), [], []⟩
def d54 : He5.DefA := ⟨fun K => He.ga K "end_by", "end_by", "end_by", defArgs (top 88), defBody (top 88), defScope (top 88), [], []⟩
def d55 : He5.DefA := ⟨fun K => He.ga K "ends_from", "ends_from", "ends_from", defArgs (top 89), defBody (top 89), defScope (top 89), [], []⟩
def d56 : He5.DefA := ⟨fun K => He.ma K (He.ga K "Trial") "__init__", "__init__", "Trial.__init__", defArgs (mem 91 1), defBody (mem 91 1), defScope (mem 91 1), [], [("manner", .str "again")]⟩
def d57 : He5.DefA := ⟨fun K => pgAt K (He.ga K "Trial") "thing_now", "thing_now", "Trial.thing_now", defArgs (mem 91 4), defBody (mem 91 4), defScope (mem 91 4), [], []⟩
def d58 : He5.DefA := ⟨fun K => pgAt K (He.ga K "Trial") "question", "question", "Trial.question", defArgs (mem 91 5), defBody (mem 91 5), defScope (mem 91 5), [], []⟩
def d59 : He5.DefA := ⟨fun K => pgAt K (He.ga K "Trial") "steps_now", "steps_now", "Trial.steps_now", defArgs (mem 91 6), defBody (mem 91 6), defScope (mem 91 6), [], []⟩
def d60 : He5.DefA := ⟨fun K => pgAt K (He.ga K "Trial") "walk_now", "walk_now", "Trial.walk_now", defArgs (mem 91 7), defBody (mem 91 7), defScope (mem 91 7), [], []⟩
def d61 : He5.DefA := ⟨fun K => pgAt K (He.ga K "Trial") "tries_now", "tries_now", "Trial.tries_now", defArgs (mem 91 8), defBody (mem 91 8), defScope (mem 91 8), [], []⟩
def d62 : He5.DefA := ⟨fun K => He.ma K (He.ga K "Trial") "steps_of_now", "steps_of_now", "Trial.steps_of_now", defArgs (mem 91 11), defBody (mem 91 11), defScope (mem 91 11), [], []⟩
def d63 : He5.DefA := ⟨fun K => He.ma K (He.ga K "Trial") "ends_left", "ends_left", "Trial.ends_left", defArgs (mem 91 12), defBody (mem 91 12), defScope (mem 91 12), [], []⟩
def d64 : He5.DefA := ⟨fun K => He.ma K (He.ga K "Trial") "barred", "barred", "Trial.barred", defArgs (mem 91 13), defBody (mem 91 13), defScope (mem 91 13), [], []⟩
def d65 : He5.DefA := ⟨fun K => He.ma K (He.ga K "Trial") "apply_event", "apply_event", "Trial.apply_event", defArgs (mem 91 14), defBody (mem 91 14), defScope (mem 91 14), [], []⟩
def d66 : He5.DefA := ⟨fun K => He.ma K (He.ga K "Trial") "go", "go", "Trial.go", defArgs (mem 91 15), defBody (mem 91 15), defScope (mem 91 15), [], []⟩
def d67 : He5.DefA := ⟨fun K => He.ma K (He.ga K "Trial") "answer", "answer", "Trial.answer", defArgs (mem 91 17), defBody (mem 91 17), defScope (mem 91 17), [], []⟩
def d68 : He5.DefA := ⟨fun K => He.ma K (He.ga K "Trial") "told", "told", "Trial.told", defArgs (mem 91 18), defBody (mem 91 18), defScope (mem 91 18), [], []⟩
def d69 : He5.DefA := ⟨fun K => He.ma K (He.ga K "Trial") "add_rule", "add_rule", "Trial.add_rule", defArgs (mem 91 19), defBody (mem 91 19), defScope (mem 91 19), [], []⟩
def d70 : He5.DefA := ⟨fun K => He.ma K (He.ga K "Trial") "take_rule", "take_rule", "Trial.take_rule", defArgs (mem 91 20), defBody (mem 91 20), defScope (mem 91 20), [], []⟩
def d71 : He5.DefA := ⟨fun K => He.ma K (He.ga K "Trial") "start", "start", "Trial.start", defArgs (mem 91 21), defBody (mem 91 21), defScope (mem 91 21), [], []⟩
def d72 : He5.DefA := ⟨fun K => He.ma K (He.ga K "Trial") "__getitem__", "__getitem__", "Trial.__getitem__", defArgs (mem 91 30), defBody (mem 91 30), defScope (mem 91 30), [], []⟩
def d73 : He5.DefA := ⟨fun K => He.ga K "_law_feed", "_law_feed", "_law_feed", defArgs (top 93), defBody (top 93), defScope (top 93), [], []⟩
def d74 : He5.DefA := ⟨fun K => He.ga K "_law_draw", "_law_draw", "_law_draw", defArgs (top 94), defBody (top 94), defScope (top 94), [], []⟩
def d75 : He5.DefA := ⟨fun K => He.ga K "_law_any", "_law_any", "_law_any", defArgs (top 95), defBody (top 95), defScope (top 95), [], []⟩
def d76 : He5.DefA := ⟨fun K => He.ga K "_law_same", "_law_same", "_law_same", defArgs (top 96), defBody (top 96), defScope (top 96), [], []⟩
def d77 : He5.DefA := ⟨fun K => He.ga K "_law_turned", "_law_turned", "_law_turned", defArgs (top 97), defBody (top 97), defScope (top 97), [], []⟩
def d78 : He5.DefA := ⟨fun K => He.ga K "_law_book", "_law_book", "_law_book", defArgs (top 98), defBody (top 98), defScope (top 98), [], []⟩
def d79 : He5.DefA := ⟨fun K => He.ga K "_law_state", "_law_state", "_law_state", defArgs (top 99), defBody (top 99), defScope (top 99), [], []⟩
def d80 : He5.DefA := ⟨fun K => He.ga K "_law_over_two", "_law_over_two", "_law_over_two", defArgs (top 100), defBody (top 100), defScope (top 100), [], []⟩
def d81 : He5.DefA := ⟨fun K => He.ga K "_law_skipped", "_law_skipped", "_law_skipped", defArgs (top 101), defBody (top 101), defScope (top 101), [], []⟩
def d82 : He5.DefA := ⟨fun K => He.ga K "_law_on", "_law_on", "_law_on", defArgs (top 102), defBody (top 102), defScope (top 102), [], []⟩
def d83 : He5.DefA := ⟨fun K => He.ga K "_law_rules_change", "_law_rules_change", "_law_rules_change", defArgs (top 103), defBody (top 103), defScope (top 103), [], []⟩
def d84 : He5.DefA := ⟨fun K => He.ga K "law", "law", "law", defArgs (top 104), defBody (top 104), defScope (top 104), [], []⟩
def fnP0 : List He5.DefA := [d0, d1, d2, d3, d4, d5, d6, d7, d8, d9, d10, d11, d12, d13, d14, d15, d16, d17, d18, d19, d20, d21, d22, d23, d24, d25, d26, d27, d28]
def fnP1 : List He5.DefA := [d29, d30, d31, d32, d33, d34, d35, d36, d37, d38, d39, d40, d41, d42, d43, d44, d45, d46, d47, d48, d49, d50, d51, d52, d53, d54, d55, d56, d57]
def fnP2 : List He5.DefA := [d58, d59, d60, d61, d62, d63, d64, d65, d66, d67, d68, d69, d70, d71, d72, d73, d74, d75, d76, d77, d78, d79, d80, d81, d82, d83, d84]
def fn : List He5.DefA := fnP0 ++ (fnP1 ++ (fnP2))
def tsP0 : List He.Tab := [(fun K => He.ga K "FORMS", ([[97, 110, 115, 119, 101, 114], [116, 111, 108, 100], [114, 117, 108, 101], [110, 111, 114, 117, 108, 101], [115, 116, 97, 114, 116], [109, 97, 110, 110, 101, 114]] : List (List Nat)).map fun k => (⟨k.toArray⟩ : Str))]
def tsP1 : List He.Tab := []
def tsP2 : List He.Tab := []
def ts : List He.Tab := tsP0 ++ (tsP1 ++ (tsP2))
def sy (w : World) (K : Frag) (mg : Str → Option Value) (base : Heap) : Sy := ⟨PySem.Challenge.pw_firstfailing_k70_told_and_gone_at_once, w, K, mg, base, fa K, ca K⟩
section
variable {w : World} {K : Frag} {mg : Str → Option Value} {base h : Heap}
theorem fx_of (c : SaysB bs fn ts w K) (kin : K.In h) (G : h.Ns mainGlobals mg) : Fx (sy w K mg base) := ⟨He.free_ok kin G (c.fact 0 rfl),
 He.free_ok kin G (c.fact 1 rfl),
 He.free_ok kin G (c.fact 2 rfl),
 PySem.W.mg_of kin G (He.eqO_ok (c.fact 3 rfl)),
 gloB_ok (S := sy w K mg base) (fa := fa) rfl kin G (c.fact 4 rfl),
 He.free_ok kin G (c.fact 5 rfl),
 He.free_ok kin G (c.fact 6 rfl),
 He.free_ok kin G (c.fact 7 rfl),
 He.free_ok kin G (c.fact 8 rfl),
 PySem.W.mg_of kin G (He.eqO_ok (c.fact 9 rfl)),
 PySem.W.mg_of kin G (He.eqO_ok (c.fact 10 rfl)),
 He.free_ok kin G (c.fact 11 rfl),
 PySem.W.mg_of kin G (He.eqO_ok (c.fact 12 rfl)),
 PySem.W.mg_of kin G (He.eqO_ok (c.fact 13 rfl)),
 gloB_ok (S := sy w K mg base) (fa := fa) rfl kin G (c.fact 14 rfl),
 PySem.W.mg_of kin G (He.eqO_ok (c.fact 15 rfl)),
 PySem.W.mg_of kin G (He.eqO_ok (c.fact 16 rfl)),
 PySem.W.mg_of kin G (He.eqO_ok (c.fact 17 rfl)),
 He.free_ok kin G (c.fact 18 rfl),
 He.free_ok kin G (c.fact 19 rfl),
 PySem.W.mg_of kin G (He.eqO_ok (c.fact 20 rfl)),
 PySem.W.mg_of kin G (He.eqO_ok (c.fact 21 rfl)),
 PySem.W.mg_of kin G (He.eqO_ok (c.fact 22 rfl)),
 PySem.W.mg_of kin G (He.eqO_ok (c.fact 23 rfl)),
 PySem.W.mg_of kin G (He.eqO_ok (c.fact 24 rfl)),
 PySem.W.mg_of kin G (He.eqO_ok (c.fact 25 rfl)),
 PySem.W.mg_of kin G (He.eqO_ok (c.fact 26 rfl)),
 PySem.W.mg_of kin G (He.eqO_ok (c.fact 27 rfl)),
 PySem.W.mg_of kin G (He.eqO_ok (c.fact 28 rfl)),
 PySem.W.mg_of kin G (He.eqO_ok (c.fact 29 rfl)),
 He.free_ok kin G (c.fact 30 rfl),
 PySem.W.mg_of kin G (He.eqO_ok (c.fact 31 rfl)),
 PySem.W.mg_of kin G (He.eqO_ok (c.fact 32 rfl)),
 PySem.W.mg_of kin G (He.eqO_ok (c.fact 33 rfl)),
 He.free_ok kin G (c.fact 34 rfl),
 gloB_ok (S := sy w K mg base) (fa := fa) rfl kin G (c.fact 35 rfl),
 PySem.W.mg_of kin G (He.eqO_ok (c.fact 36 rfl)),
 He.free_ok kin G (c.fact 37 rfl),
 He.free_ok kin G (c.fact 38 rfl),
 PySem.W.mg_of kin G (He.eqO_ok (c.fact 39 rfl)),
 PySem.W.mg_of kin G (He.eqO_ok (c.fact 40 rfl)),
 PySem.W.mg_of kin G (He.eqO_ok (c.fact 41 rfl)),
 PySem.W.mg_of kin G (He.eqO_ok (c.fact 42 rfl)),
 PySem.W.mg_of kin G (He.eqO_ok (c.fact 43 rfl)),
 PySem.W.mg_of kin G (He.eqO_ok (c.fact 44 rfl)),
 PySem.W.mg_of kin G (He.eqO_ok (c.fact 45 rfl)),
 PySem.W.mg_of kin G (He.eqO_ok (c.fact 46 rfl)),
 kd_ok (S := sy w K mg base) (fa := fa) rfl kin G (c.fact 47 rfl) (c.tabW 0 rfl),
 He.cls_ok (c.fact 48 rfl),
 He.noat_ok (c.fact 49 rfl),
 He.noat_ok (c.fact 50 rfl),
 He.noat_ok (c.fact 51 rfl),
 He.noat_ok (c.fact 52 rfl),
 He.noat_ok (c.fact 53 rfl),
 He.noat_ok (c.fact 54 rfl),
 He.noat_ok (c.fact 55 rfl),
 PySem.W.mg_of kin G (He.eqO_ok (c.fact 56 rfl)),
 PySem.W.mg_of kin G (He.eqO_ok (c.fact 57 rfl)),
 PySem.W.mg_of kin G (He.eqO_ok (c.fact 58 rfl)),
 PySem.W.mg_of kin G (He.eqO_ok (c.fact 59 rfl)),
 PySem.W.mg_of kin G (He.eqO_ok (c.fact 60 rfl)),
 He.mkr_ok (c.fact 61 rfl),
 PySem.W.mg_of kin G (He.eqO_ok (c.fact 62 rfl)),
 PySem.W.mg_of kin G (He.eqO_ok (c.fact 63 rfl)),
 PySem.W.mg_of kin G (He.eqO_ok (c.fact 64 rfl)),
 PySem.W.mg_of kin G (He.eqO_ok (c.fact 65 rfl)),
 PySem.W.mg_of kin G (He.eqO_ok (c.fact 66 rfl)),
 PySem.W.mg_of kin G (He.eqO_ok (c.fact 67 rfl)),
 PySem.W.mg_of kin G (He.eqO_ok (c.fact 68 rfl)),
 PySem.W.mg_of kin G (He.eqO_ok (c.fact 69 rfl)),
 PySem.W.mg_of kin G (He.eqO_ok (c.fact 70 rfl)),
 He.free_ok kin G (c.fact 71 rfl),
 PySem.W.mg_of kin G (He.eqO_ok (c.fact 72 rfl)),
 PySem.W.mg_of kin G (He.eqO_ok (c.fact 73 rfl)),
 PySem.W.mg_of kin G (He.eqO_ok (c.fact 74 rfl)),
 PySem.W.mg_of kin G (He.eqO_ok (c.fact 75 rfl)),
 PySem.W.mg_of kin G (He.eqO_ok (c.fact 76 rfl)),
 PySem.W.mg_of kin G (He.eqO_ok (c.fact 77 rfl)),
 He.cls_ok (c.fact 78 rfl),
 He.noat_ok (c.fact 79 rfl),
 He.noat_ok (c.fact 80 rfl),
 PySem.W.mg_of kin G (He.eqO_ok (c.fact 81 rfl)),
 He.noat_ok (c.fact 82 rfl),
 He.noat_ok (c.fact 83 rfl),
 He.noat_ok (c.fact 84 rfl),
 He.meth_ok (c.fact 85 rfl),
 PySem.W.mg_of kin G (He.eqO_ok (c.fact 86 rfl)),
 PySem.W.mg_of kin G (He.eqO_ok (c.fact 87 rfl)),
 cvalB_ok (c.fact 88 rfl),
 PySem.W.mg_of kin G (He.eqO_ok (c.fact 89 rfl)),
 He.meth_ok (c.fact 90 rfl),
 PySem.W.mg_of kin G (He.eqO_ok (c.fact 91 rfl)),
 ⟨_, propB_ok (c.fact 92 rfl)⟩,
 He.meth_ok (c.fact 93 rfl),
 He.meth_ok (c.fact 94 rfl),
 PySem.W.mg_of kin G (He.eqO_ok (c.fact 95 rfl)),
 He.free_ok kin G (c.fact 96 rfl),
 ⟨_, propB_ok (c.fact 97 rfl)⟩,
 ⟨_, propB_ok (c.fact 98 rfl)⟩,
 ⟨_, propB_ok (c.fact 99 rfl)⟩,
 PySem.W.mg_of kin G (He.eqO_ok (c.fact 100 rfl)),
 PySem.W.mg_of kin G (He.eqO_ok (c.fact 101 rfl)),
 He.mkr_ok (c.fact 102 rfl),
 PySem.W.mg_of kin G (He.eqO_ok (c.fact 103 rfl)),
 PySem.W.mg_of kin G (He.eqO_ok (c.fact 104 rfl)),
 He.meth_ok (c.fact 105 rfl),
 He.meth_ok (c.fact 106 rfl),
 He.meth_ok (c.fact 107 rfl),
 He.meth_ok (c.fact 108 rfl),
 c.fact 109 rfl,
 ⟨_, propB_ok (c.fact 110 rfl)⟩,
 He.meth_ok (c.fact 111 rfl),
 He.meth_ok (c.fact 112 rfl),
 He.meth_ok (c.fact 113 rfl),
 PySem.W.mg_of kin G (He.eqO_ok (c.fact 114 rfl)),
 PySem.W.mg_of kin G (He.eqO_ok (c.fact 115 rfl)),
 PySem.W.mg_of kin G (He.eqO_ok (c.fact 116 rfl)),
 PySem.W.mg_of kin G (He.eqO_ok (c.fact 117 rfl)),
 PySem.W.mg_of kin G (He.eqO_ok (c.fact 118 rfl)),
 PySem.W.mg_of kin G (He.eqO_ok (c.fact 119 rfl)),
 PySem.W.mg_of kin G (He.eqO_ok (c.fact 120 rfl))⟩
theorem dx_of (c : SaysB bs fn ts w K) : Dx (sy w K mg base) := ⟨c.def_ 0 (d := d0) rfl, c.fact 121 rfl,
 c.def_ 1 (d := d1) rfl, c.fact 122 rfl,
 c.def_ 2 (d := d2) rfl, c.fact 123 rfl,
 c.def_ 3 (d := d3) rfl, c.fact 124 rfl,
 c.def_ 4 (d := d4) rfl, c.fact 125 rfl,
 c.def_ 5 (d := d5) rfl, c.fact 126 rfl,
 c.def_ 6 (d := d6) rfl, c.fact 127 rfl,
 c.def_ 7 (d := d7) rfl, c.fact 128 rfl,
 c.def_ 8 (d := d8) rfl, c.fact 129 rfl,
 c.def_ 9 (d := d9) rfl, c.fact 130 rfl,
 c.def_ 10 (d := d10) rfl, c.fact 131 rfl,
 c.def_ 11 (d := d11) rfl, c.fact 132 rfl,
 c.def_ 12 (d := d12) rfl, c.fact 133 rfl,
 c.def_ 13 (d := d13) rfl, c.fact 134 rfl,
 c.def_ 14 (d := d14) rfl, c.fact 135 rfl,
 c.def_ 15 (d := d15) rfl, c.fact 136 rfl,
 c.def_ 16 (d := d16) rfl, c.fact 137 rfl,
 c.def_ 17 (d := d17) rfl, c.fact 138 rfl,
 c.def_ 18 (d := d18) rfl, c.fact 139 rfl,
 c.def_ 19 (d := d19) rfl, c.fact 140 rfl,
 c.def_ 20 (d := d20) rfl, c.fact 141 rfl,
 c.def_ 21 (d := d21) rfl, c.fact 142 rfl,
 c.def_ 22 (d := d22) rfl, c.fact 143 rfl,
 c.def_ 23 (d := d23) rfl, c.fact 144 rfl,
 c.def_ 24 (d := d24) rfl, c.fact 145 rfl,
 c.def_ 25 (d := d25) rfl, c.fact 146 rfl,
 c.def_ 26 (d := d26) rfl, c.fact 147 rfl,
 c.def_ 27 (d := d27) rfl, c.fact 148 rfl,
 c.def_ 28 (d := d28) rfl, c.fact 149 rfl,
 c.def_ 29 (d := d29) rfl, c.fact 150 rfl,
 c.def_ 30 (d := d30) rfl, c.fact 151 rfl,
 c.def_ 31 (d := d31) rfl, c.fact 152 rfl,
 c.def_ 32 (d := d32) rfl, c.fact 153 rfl,
 c.def_ 33 (d := d33) rfl, c.fact 154 rfl,
 c.def_ 34 (d := d34) rfl, c.fact 155 rfl,
 c.def_ 35 (d := d35) rfl, c.fact 156 rfl,
 c.def_ 36 (d := d36) rfl, c.fact 157 rfl,
 c.def_ 37 (d := d37) rfl, c.fact 158 rfl,
 c.def_ 38 (d := d38) rfl, c.fact 159 rfl,
 c.def_ 39 (d := d39) rfl, c.fact 160 rfl,
 c.def_ 40 (d := d40) rfl, c.fact 161 rfl,
 c.def_ 41 (d := d41) rfl, c.fact 162 rfl,
 c.def_ 42 (d := d42) rfl, c.fact 163 rfl,
 c.def_ 43 (d := d43) rfl, c.fact 164 rfl,
 c.def_ 44 (d := d44) rfl, c.fact 165 rfl,
 c.def_ 45 (d := d45) rfl, c.fact 166 rfl,
 c.def_ 46 (d := d46) rfl, c.fact 167 rfl,
 c.def_ 47 (d := d47) rfl, c.fact 168 rfl,
 c.def_ 48 (d := d48) rfl, c.fact 169 rfl,
 c.def_ 49 (d := d49) rfl, c.fact 170 rfl,
 c.def_ 50 (d := d50) rfl, c.fact 171 rfl,
 c.def_ 51 (d := d51) rfl, c.fact 172 rfl,
 c.def_ 52 (d := d52) rfl, c.fact 173 rfl,
 c.def_ 53 (d := d53) rfl, c.fact 174 rfl,
 c.def_ 54 (d := d54) rfl, c.fact 175 rfl,
 c.def_ 55 (d := d55) rfl, c.fact 176 rfl,
 c.def_ 56 (d := d56) rfl, c.fact 177 rfl,
 c.def_ 57 (d := d57) rfl, c.fact 178 rfl,
 c.def_ 58 (d := d58) rfl, c.fact 179 rfl,
 c.def_ 59 (d := d59) rfl, c.fact 180 rfl,
 c.def_ 60 (d := d60) rfl, c.fact 181 rfl,
 c.def_ 61 (d := d61) rfl, c.fact 182 rfl,
 c.def_ 62 (d := d62) rfl, c.fact 183 rfl,
 c.def_ 63 (d := d63) rfl, c.fact 184 rfl,
 c.def_ 64 (d := d64) rfl, c.fact 185 rfl,
 c.def_ 65 (d := d65) rfl, c.fact 186 rfl,
 c.def_ 66 (d := d66) rfl, c.fact 187 rfl,
 c.def_ 67 (d := d67) rfl, c.fact 188 rfl,
 c.def_ 68 (d := d68) rfl, c.fact 189 rfl,
 c.def_ 69 (d := d69) rfl, c.fact 190 rfl,
 c.def_ 70 (d := d70) rfl, c.fact 191 rfl,
 c.def_ 71 (d := d71) rfl, c.fact 192 rfl,
 c.def_ 72 (d := d72) rfl, c.fact 193 rfl,
 c.def_ 73 (d := d73) rfl, c.fact 194 rfl,
 c.def_ 74 (d := d74) rfl, c.fact 195 rfl,
 c.def_ 75 (d := d75) rfl, c.fact 196 rfl,
 c.def_ 76 (d := d76) rfl, c.fact 197 rfl,
 c.def_ 77 (d := d77) rfl, c.fact 198 rfl,
 c.def_ 78 (d := d78) rfl, c.fact 199 rfl,
 c.def_ 79 (d := d79) rfl, c.fact 200 rfl,
 c.def_ 80 (d := d80) rfl, c.fact 201 rfl,
 c.def_ 81 (d := d81) rfl, c.fact 202 rfl,
 c.def_ 82 (d := d82) rfl, c.fact 203 rfl,
 c.def_ 83 (d := d83) rfl, c.fact 204 rfl,
 c.def_ 84 (d := d84) rfl, c.fact 205 rfl⟩
end
end K70
namespace K70
open PySem PySem.Spec L2 Den PySem.W PySem.Calls PyProof.Rows
abbrev RR : PySem.W.OpenRow := PySem.W.OpenLaw.row PySem.Challenge.rw_firstfailing_k70_told_and_gone_at_once
def loose0 : List PySem.Str := [("_wall" : PySem.Str), ("FailError" : PySem.Str), ("PaperError" : PySem.Str), ("BookError" : PySem.Str), ("TrialError" : PySem.Str), ("InvalidPaper" : PySem.Str), ("NotUsable" : PySem.Str), ("NotFalling" : PySem.Str), ("InvalidEvent" : PySem.Str), ("LOWERCASE" : PySem.Str), ("SIDES" : PySem.Str), ("is_integer" : PySem.Str), ("is_number" : PySem.Str), ("is_letter" : PySem.Str), ("is_thing" : PySem.Str), ("is_rising_row" : PySem.Str), ("is_letter_set" : PySem.Str), ("is_pair" : PySem.Str), ("is_entry" : PySem.Str), ("is_side" : PySem.Str), ("is_rule" : PySem.Str), ("reached_letters" : PySem.Str), ("letters_fault" : PySem.Str), ("are_letters_known" : PySem.Str), ("book_fault" : PySem.Str), ("lets_book" : PySem.Str), ("want" : PySem.Str), ("want_usable" : PySem.Str), ("known_letters" : PySem.Str), ("is_thing_of" : PySem.Str)]
def loose1 : List PySem.Str := [("want_thing" : PySem.Str), ("next_ones" : PySem.Str), ("has_letters" : PySem.Str), ("lies_at_most" : PySem.Str), ("is_at_most" : PySem.Str), ("next_ones_below" : PySem.Str), ("things_at_most" : PySem.Str), ("written_rule" : PySem.Str), ("rule_line" : PySem.Str), ("EMPTY" : PySem.Str), ("thing_word" : PySem.Str), ("known_word" : PySem.Str), ("rule_words" : PySem.Str), ("event_line" : PySem.Str), ("events_text" : PySem.Str), ("MANNERS" : PySem.Str), ("want_stepusable" : PySem.Str), ("want_manner" : PySem.Str), ("places_of" : PySem.Str), ("dropped" : PySem.Str), ("halved" : PySem.Str), ("lowered" : PySem.Str), ("put_results" : PySem.Str), ("results_of" : PySem.Str), ("steps_from" : PySem.Str), ("letters_under" : PySem.Str), ("falling_fault" : PySem.Str), ("want_falling" : PySem.Str), ("is_bool" : PySem.Str), ("is_manner" : PySem.Str)]
def loose2 : List PySem.Str := [("FORMS" : PySem.Str), ("is_event" : PySem.Str), ("Stand" : PySem.Str), ("asked_steps" : PySem.Str), ("known_in" : PySem.Str), ("first_open" : PySem.Str), ("settled" : PySem.Str), ("first_stand" : PySem.Str), ("told_reason" : PySem.Str), ("start_reason" : PySem.Str), ("rule_reason" : PySem.Str), ("reason_of" : PySem.Str), ("answered" : PySem.Str), ("book_behind" : PySem.Str), ("changed" : PySem.Str), ("least_failing" : PySem.Str), ("end_by" : PySem.Str), ("ends_from" : PySem.Str), ("Trial" : PySem.Str), ("_law_feed" : PySem.Str), ("_law_draw" : PySem.Str), ("_law_any" : PySem.Str), ("_law_same" : PySem.Str), ("_law_turned" : PySem.Str), ("_law_book" : PySem.Str), ("_law_state" : PySem.Str), ("_law_over_two" : PySem.Str), ("_law_skipped" : PySem.Str), ("_law_on" : PySem.Str), ("_law_rules_change" : PySem.Str)]
def loose : List PySem.Str := loose0 ++ loose1 ++ loose2
def LL : List Addr := [3, 6, 4, 21, 31, 44, 56, 68, 89, 110, 131, 152, 155, 162, 169, 176, 181, 186, 191, 198, 205, 212, 219, 226, 231, 236, 241, 248, 363, 256, 261, 266, 273, 278, 285, 292, 299, 304, 311, 316, 323, 330, 337, 344, 349, 354, 355, 370, 377, 382, 389, 394, 399, 404, 409, 414, 421, 428, 435, 442, 443, 454, 471, 480, 487, 494, 501, 508, 515, 522, 529, 534, 541, 548, 553, 558, 563, 568, 839, 850, 857, 864, 871, 876, 883, 890, 895, 900, 905, 910, 917, 0, 20, 30, 43, 55, 67, 88, 109, 130, 151, 161, 168, 175, 180, 185, 190, 197, 204, 211, 218, 225, 230, 235, 240, 247, 362, 356, 255, 249, 260, 265, 272, 277, 284, 291, 298, 303, 310, 315, 322, 329, 336, 343, 348, 353, 369, 376, 381, 388, 393, 398, 403, 408, 413, 420, 427, 434, 441, 444, 445, 446, 447, 448, 449, 453, 470, 479, 486, 493, 500, 507, 514, 521, 528, 533, 540, 547, 552, 557, 562, 567, 838, 849, 856, 863, 870, 875, 882, 889, 894, 899, 904, 909, 916, 15, 16, 17, 18, 19, 29, 32, 42, 54, 66, 86, 87, 107, 108, 128, 129, 149, 150, 156, 157, 158, 159, 160, 163, 164, 165, 166, 167, 170, 171, 172, 173, 174, 177, 178, 179, 182, 183, 184, 187, 188, 189, 192, 193, 194, 195, 196, 199, 200, 201, 202, 203, 206, 207, 208, 209, 210, 213, 214, 215, 216, 217, 220, 221, 222, 223, 224, 227, 228, 229, 232, 233, 234, 237, 238, 239, 242, 243, 244, 245, 246, 357, 358, 359, 360, 361, 250, 251, 252, 253, 254, 257, 258, 259, 262, 263, 264, 267, 268, 269, 270, 271, 274, 275, 276, 279, 280, 281, 282, 283, 286, 287, 288, 289, 290, 293, 294, 295, 296, 297, 300, 301, 302, 305, 306, 307, 308, 309, 312, 313, 314, 317, 318, 319, 320, 321, 324, 325, 326, 327, 328, 331, 332, 333, 334, 335, 338, 339, 340, 341, 342, 345, 346, 347, 350, 351, 352, 364, 365, 366, 367, 368, 371, 372, 373, 374, 375, 378, 379, 380, 383, 384, 385, 386, 387, 390, 391, 392, 395, 396, 397, 400, 401, 402, 405, 406, 407, 410, 411, 412, 415, 416, 417, 418, 419, 422, 423, 424, 425, 426, 429, 430, 431, 432, 433, 436, 437, 438, 439, 440, 450, 451, 452, 468, 469, 472, 473, 476, 477, 478, 481, 482, 483, 484, 485, 488, 489, 490, 491, 492, 495, 496, 497, 498, 499, 502, 503, 504, 505, 506, 509, 510, 511, 512, 513, 516, 517, 518, 519, 520, 523, 524, 525, 526, 527, 530, 531, 532, 535, 536, 537, 538, 539, 542, 543, 544, 545, 546, 549, 550, 551, 554, 555, 556, 559, 560, 561, 564, 565, 566, 583, 591, 599, 607, 615, 621, 629, 637, 645, 653, 660, 667, 674, 681, 688, 695, 702, 709, 716, 723, 730, 737, 744, 751, 759, 766, 773, 780, 787, 794, 801, 808, 815, 822, 829, 836, 837, 840, 841, 844, 845, 846, 847, 848, 851, 852, 853, 854, 855, 858, 859, 860, 861, 862, 865, 866, 867, 868, 869, 872, 873, 874, 877, 878, 879, 880, 881, 884, 885, 886, 887, 888, 891, 892, 893, 896, 897, 898, 901, 902, 903, 906, 907, 908, 911, 912, 913, 914, 915, 85, 74, 106, 95, 127, 116, 148, 137, 467, 582, 576, 590, 598, 606, 614, 620, 628, 636, 644, 652, 659, 666, 673, 680, 687, 694, 701, 708, 715, 722, 729, 736, 743, 750, 758, 752, 765, 772, 779, 786, 793, 800, 807, 814, 821, 828, 835, 80, 81, 82, 83, 84, 101, 102, 103, 104, 105, 122, 123, 124, 125, 126, 143, 144, 145, 146, 147, 462, 463, 464, 465, 466, 577, 578, 579, 580, 581, 589, 597, 605, 613, 619, 627, 635, 643, 651, 654, 655, 656, 657, 658, 661, 662, 663, 664, 665, 668, 669, 670, 671, 672, 675, 676, 677, 678, 679, 682, 683, 684, 685, 686, 689, 690, 691, 692, 693, 696, 697, 698, 699, 700, 703, 704, 705, 706, 707, 710, 711, 712, 713, 714, 717, 718, 719, 720, 721, 724, 725, 726, 727, 728, 731, 732, 733, 734, 735, 738, 739, 740, 741, 742, 745, 746, 747, 748, 749, 753, 754, 755, 756, 757, 760, 761, 762, 763, 764, 767, 768, 769, 770, 771, 774, 775, 776, 777, 778, 781, 782, 783, 784, 785, 788, 789, 790, 791, 792, 795, 796, 797, 798, 799, 802, 803, 804, 805, 806, 809, 810, 811, 812, 813, 816, 817, 818, 819, 820, 823, 824, 825, 826, 827, 830, 831, 832, 833, 834, 2]
abbrev qv : Program := PySem.W.view RR.prog [104]
end K70
namespace K70
open PySem PySem.Spec L2 Den PySem.W PySem.Calls PyProof.Rows
theorem runt (w : World) : HandSHeadRun.RunEq RR qv (hookL LL bs fn ts) (obL LL bs fn ts) 8000 loose (w.withFollow "special-get-raises" true) := by
  intro os
  kernel_rfl
end K70
namespace K70
open PySem PySem.Spec L2 Den PySem.W PySem.Calls PyProof.Rows
theorem runf (w : World) : HandSHeadRun.RunEq RR qv (hookL LL bs fn ts) (obL LL bs fn ts) 8000 loose (w.withFollow "special-get-raises" false) := by
  intro os
  kernel_rfl
end K70
namespace K70
open PySem PySem.Spec L2 Den PySem.W PySem.Calls PyProof.Rows
theorem run_all (w : World) : HandSHeadRun.RunEq RR qv (hookL LL bs fn ts) (obL LL bs fn ts) 8000 loose w := Den.both (P := fun w => HandSHeadRun.RunEq RR qv (hookL LL bs fn ts) (obL LL bs fn ts) 8000 loose w) "special-get-raises" (fun b w => match b with
  | true => runt w
  | false => runf w) w
end K70
namespace K70
open PySem PySem.Spec L2 Den
abbrev nm0 : AO := .dct [(D.str [97], D.str [97]), (D.str [98], D.str [98]), (D.str [99], D.str [99])]
theorem ev0_80 : (rtG 200 tab 20).call 80 [.ref 0] [nm0] = .ok (.bl true) [nm0] := by kernel_rfl
theorem ev0_81 : (rtG 200 tab 20).call 81 [.ref 0] [nm0] = .ok (.bl true) [nm0] := by kernel_rfl
theorem ev0_82 : (rtG 200 tab 20).call 82 [.ref 0] [nm0] = .ok (.ref 1) [nm0, .lst [.bl true, .bl true, .bl true, .bl true]] := by kernel_rfl
theorem ev0_83 : (rtG 200 tab 20).call 83 [.ref 0] [nm0] = .ok (.bl true) [nm0] := by kernel_rfl
end K70
namespace K70
open PySem PySem.Spec L2 Den
abbrev nm1 : AO := .dct [(D.str [97], D.str [120]), (D.str [98], D.str [121]), (D.str [99], D.str [122])]
theorem ev1_80 : (rtG 200 tab 20).call 80 [.ref 0] [nm1] = .ok (.bl true) [nm1] := by kernel_rfl
theorem ev1_81 : (rtG 200 tab 20).call 81 [.ref 0] [nm1] = .ok (.bl true) [nm1] := by kernel_rfl
theorem ev1_82 : (rtG 200 tab 20).call 82 [.ref 0] [nm1] = .ok (.ref 1) [nm1, .lst [.bl true, .bl true, .bl true, .bl true]] := by kernel_rfl
theorem ev1_83 : (rtG 200 tab 20).call 83 [.ref 0] [nm1] = .ok (.bl true) [nm1] := by kernel_rfl
end K70
namespace K70
open PySem PySem.Spec L2 Den
abbrev nm2 : AO := .dct [(D.str [97], D.str [109]), (D.str [98], D.str [110]), (D.str [99], D.str [112])]
theorem ev2_80 : (rtG 200 tab 20).call 80 [.ref 0] [nm2] = .ok (.bl true) [nm2] := by kernel_rfl
theorem ev2_81 : (rtG 200 tab 20).call 81 [.ref 0] [nm2] = .ok (.bl true) [nm2] := by kernel_rfl
theorem ev2_82 : (rtG 200 tab 20).call 82 [.ref 0] [nm2] = .ok (.ref 1) [nm2, .lst [.bl true, .bl true, .bl true, .bl true]] := by kernel_rfl
theorem ev2_83 : (rtG 200 tab 20).call 83 [.ref 0] [nm2] = .ok (.bl true) [nm2] := by kernel_rfl
end K70
namespace K70
open PySem PySem.Spec L2 Den
abbrev nm3 : AO := .dct [(D.str [97], D.str [99]), (D.str [98], D.str [100]), (D.str [99], D.str [101])]
theorem ev3_80 : (rtG 200 tab 20).call 80 [.ref 0] [nm3] = .ok (.bl true) [nm3] := by kernel_rfl
theorem ev3_81 : (rtG 200 tab 20).call 81 [.ref 0] [nm3] = .ok (.bl true) [nm3] := by kernel_rfl
theorem ev3_82 : (rtG 200 tab 20).call 82 [.ref 0] [nm3] = .ok (.ref 1) [nm3, .lst [.bl true, .bl true, .bl true, .bl true]] := by kernel_rfl
theorem ev3_83 : (rtG 200 tab 20).call 83 [.ref 0] [nm3] = .ok (.bl true) [nm3] := by kernel_rfl
end K70
namespace K70
open PySem PySem.Spec L2 Den
theorem t_feed : tab 73 = ⟨mFeed, 1, 1⟩ := by kernel_rfl
theorem t_draw : tab 74 = ⟨mDraw 77 770 160, 6, 2⟩ := by kernel_rfl
theorem t_any : tab 75 = ⟨mAny 74, 2, 2⟩ := by kernel_rfl
def names (a b c : Nat) : AO := .dct [(.str [97], .str [a]), (.str [98], .str [b]), (.str [99], .str [c])]
/-- behind the draw -/
def mRest : MS := (sSeq (sFor (jRng1 (aCons (mC (.int 3)) aNil)) (gN 2) (sAsg (mBin opIx (mVar 3) (mVar 2)) (gS (mVar 4) (mBin opIx (mC (.str [97, 98, 99])) (mVar 2)))))
 (sSeq (sIf (tOr (tNot (tVal (mCallFr 80 (mVar 4)))) (tNot (tVal (mCallFr 81 (mVar 4))))) (sRet (mC (.bl false))) sPass)
 (sRet (mAnd (mBin opEq (mCallFr 82 (mVar 4)) (mLst (aCons (mC (.bl true)) (aCons (mC (.bl true)) (aCons (mC (.bl true)) (aCons (mC (.bl true)) aNil)))))) (mCallFr 83 (mVar 4))))))
theorem m_law : m84 = sSeq (sAsg (mCallD 73 (aCons (mVar 0) aNil) []) (gN 1))
 (sSeq (sPar2 3 4 (aCons (mCallD 75 (aCons (mVar 1) (aCons (mLst (aCons (mC (.str [97, 98, 99])) (aCons (mC (.str [120, 121, 122])) (aCons (mC (.str [109, 110, 112])) (aCons (mC (.str [99, 100, 101])) aNil))))) aNil)) []) (aCons mDict0 aNil))) mRest) := by kernel_rfl
section
variable {a b c : Nat} {rt : Rt} {x y : Option D} {g : AH}
theorem clean_names : cleanO 0 (names a b c) = true := rfl
/-- the law's last lines, for a table of three letters -/
theorem rest_ok (hf : rt.fuel = 200) (h0 : rt.call 80 [.ref 0] [names a b c] = .ok (.bl true) [names a b c]) (h1 : rt.call 81 [.ref 0] [names a b c] = .ok (.bl true) [names a b c]) (h2 : rt.call 82 [.ref 0] [names a b c] = .ok (.ref 1) [names a b c, .lst [.bl true, .bl true, .bl true, .bl true]])
    (h3 : rt.call 83 [.ref 0] [names a b c] = .ok (.bl true) [names a b c]) : ∃ h', mRest rt [x, y, none, some (.str [a, b, c]), some (.ref g.length)] (g ++ [.dct []]) = .ok (.rt (.bl true)) h' := by
  have gl : ∀ (o : AO), (g ++ [o])[g.length]? = some o := fun o => by rw [List.getElem?_append_right (Nat.le_refl _), Nat.sub_self]; rfl
  have gs : ∀ (o p : AO), (g ++ [o]).set g.length p = g ++ [p] := fun o p => by rw [List.set_append_right _ _ (Nat.le_refl _), Nat.sub_self]; rfl
  unfold mRest
  have fo : sFor (jRng1 (aCons (mC (.int 3)) aNil)) (gN 2) (sAsg (mBin opIx (mVar 3) (mVar 2)) (gS (mVar 4) (mBin opIx (mC (.str [97, 98, 99])) (mVar 2)))) rt [x, y, none, some (.str [a, b, c]), some (.ref g.length)] (g ++ [.dct []]) = .ok (.nx [x, y, some (.int 2), some (.str [a, b, c]), some (.ref g.length)]) (g ++ [names a b c]) := by
    unfold sFor
    show forF (rngIt 0 1 3) _ _ rt rt.fuel 0 _ _ = _
    rw [hf]
    have step : ∀ (k : Nat) (z : Option D) (c1 c2 : Nat) (kvs : List (D × D)), atI [97, 98, 99] (k : Int) = some c1 → atI [a, b, c] (k : Int) = some c2 → kvs.length < LIM →
        sAsg (mBin opIx (mVar 3) (mVar 2)) (gS (mVar 4) (mBin opIx (mC (.str [97, 98, 99])) (mVar 2))) rt [x, y, some (.int k), some (.str [a, b, c]), some (.ref g.length)] (g ++ [.dct kvs]) = .ok (.nx [x, y, some (.int k), some (.str [a, b, c]), some (.ref g.length)]) (g ++ [.dct (kput (.str [c1]) (.str [c2]) kvs)]) := fun k z c1 c2 kvs e1 e2 l => by
      have i1 : mBin opIx (mVar 3) (mVar 2) rt [x, y, some (.int k), some (.str [a, b, c]), some (.ref g.length)] (g ++ [.dct kvs]) = .ok (.str [c2]) (g ++ [.dct kvs]) := by
        rw [bin_eq (x := .str [a, b, c]) (y := .int k) (h2 := g ++ [.dct kvs]) rfl rfl]
        show (cond (Nat.ble 3 LIM) (match atI [a, b, c] (k : Int) with
          | some c => R.ok (.str [c]) (g ++ [.dct kvs])
          | none => .bad) .bad : R D) = _
        rw [e2]
        rfl
      have i2 : mBin opIx (mC (.str [97, 98, 99])) (mVar 2) rt [x, y, some (.int k), some (.str [a, b, c]), some (.ref g.length)] (g ++ [.dct kvs]) = .ok (.str [c1]) (g ++ [.dct kvs]) := by
        rw [bin_eq (x := .str [97, 98, 99]) (y := .int k) (h2 := g ++ [.dct kvs]) rfl rfl]
        show (cond (Nat.ble 3 LIM) (match atI [97, 98, 99] (k : Int) with
          | some c => R.ok (.str [c]) (g ++ [.dct kvs])
          | none => .bad) .bad : R D) = _
        rw [e1]
        rfl
      rw [asg_g i1 (gs_of (p := g.length) (k := .str [c1]) (h1 := g ++ [.dct kvs]) rfl i2 (gl _) rfl l), gs]
    rw [show (200 : Nat) = 199 + 1 from rfl, for_step (e1 := [x, y, some (.int (0 : Nat)), some (.str [a, b, c]), some (.ref g.length)]) (h1 := g ++ [.dct []]) rfl rfl (step 0 none 97 a [] rfl rfl (by decide))]
    rw [show (199 : Nat) = 198 + 1 from rfl, for_step (e1 := [x, y, some (.int (1 : Nat)), some (.str [a, b, c]), some (.ref g.length)]) (h1 := g ++ [.dct [(.str [97], .str [a])]]) rfl rfl (step 1 none 98 b [(.str [97], .str [a])] rfl rfl (by show 1 < 16777216; decide))]
    rw [show (198 : Nat) = 197 + 1 from rfl, for_step (e1 := [x, y, some (.int (2 : Nat)), some (.str [a, b, c]), some (.ref g.length)]) (h1 := g ++ [.dct [(.str [97], .str [a]), (.str [98], .str [b])]]) rfl rfl (step 2 none 99 c [(.str [97], .str [a]), (.str [98], .str [b])] rfl rfl (by show 2 < 16777216; decide))]
    rw [show (197 : Nat) = 196 + 1 from rfl, for_end rfl]
    rfl
  rw [seq_nx fo]
  have v4 : mVar 4 rt [x, y, some (.int 2), some (.str [a, b, c]), some (.ref g.length)] (g ++ [names a b c]) = .ok (.ref g.length) (g ++ [names a b c]) := rfl
  have c0 := callFr_flat (i := 80) v4 (gl _) clean_names h0 clean_names rfl
  have c1 := callFr_flat (i := 81) v4 (gl _) clean_names h1 clean_names rfl
  have c2 := callFr_ref (i := 82) (k3 := 0) v4 (gl _) clean_names h2 clean_names rfl rfl
  rw [gs] at c0 c1 c2
  have t0 : sIf (tOr (tNot (tVal (mCallFr 80 (mVar 4)))) (tNot (tVal (mCallFr 81 (mVar 4))))) (sRet (mC (.bl false))) sPass rt [x, y, some (.int 2), some (.str [a, b, c]), some (.ref g.length)] (g ++ [names a b c]) = .ok (.nx [x, y, some (.int 2), some (.str [a, b, c]), some (.ref g.length)]) (g ++ [names a b c]) := by
    refine if_f ?_
    unfold Den.tOr Den.tNot Den.tVal
    rw [c0]
    simp only [R.bind_ok]
    show (((mCallFr 81 (mVar 4) rt [x, y, some (.int 2), some (.str [a, b, c]), some (.ref g.length)] (g ++ [names a b c])).bind _).bind _ : R Bool) = _
    rw [c1]
    rfl
  rw [seq_nx t0]
  generalize hg1 : g ++ [names a b c] = g1
  rw [hg1] at c2
  have l1 : g.length < g1.length := by rw [← hg1, List.length_append]; exact Nat.lt_succ_self _
  have at1 : g1[g.length]? = some (names a b c) := by rw [← hg1]; exact gl _
  generalize hg2 : g1 ++ [AO.lst [D.bl true, .bl true, .bl true, .bl true]] = g2
  rw [hg2] at c2
  have at2 : g2[g1.length]? = some (.lst [.bl true, .bl true, .bl true, .bl true]) := by rw [← hg2, List.getElem?_append_right (Nat.le_refl _), Nat.sub_self]; rfl
  have at2b : g2[g.length]? = some (names a b c) := by rw [← hg2]; exact pre_get (List.prefix_append _ _) at1
  have ml : mLst (aCons (mC (.bl true)) (aCons (mC (.bl true)) (aCons (mC (.bl true)) (aCons (mC (.bl true)) aNil)))) rt [x, y, some (.int 2), some (.str [a, b, c]), some (.ref g.length)] g2 = .ok (.ref g2.length) (g2 ++ [.lst [.bl true, .bl true, .bl true, .bl true]]) := rfl
  generalize hg3 : g2 ++ [AO.lst [D.bl true, .bl true, .bl true, .bl true]] = g3
  rw [hg3] at ml
  have at3 : g3[g2.length]? = some (.lst [.bl true, .bl true, .bl true, .bl true]) := by rw [← hg3, List.getElem?_append_right (Nat.le_refl _), Nat.sub_self]; rfl
  have at3b : g3[g1.length]? = some (.lst [.bl true, .bl true, .bl true, .bl true]) := by rw [← hg3]; exact pre_get (List.prefix_append _ _) at2
  have at3c : g3[g.length]? = some (names a b c) := by rw [← hg3]; exact pre_get (List.prefix_append _ _) at2b
  have eq4 : mBin opEq (mCallFr 82 (mVar 4)) (mLst (aCons (mC (.bl true)) (aCons (mC (.bl true)) (aCons (mC (.bl true)) (aCons (mC (.bl true)) aNil))))) rt [x, y, some (.int 2), some (.str [a, b, c]), some (.ref g.length)] g1 = .ok (.bl true) g3 := by
    rw [bin_eq c2 ml]
    have pdl : ∀ n, g3[n]? = some (.lst [.bl true, .bl true, .bl true, .bl true]) → pd g3 60 (.ref n) = some (.list [.bool true, .bool true, .bool true, .bool true]) := fun n e => by
      show (match lstAt g3 n with
        | some xs => (xs.mapM (pd g3 59)).map PyData.list
        | none => none) = _
      unfold lstAt
      rw [e]
      rfl
    unfold opEq eqD
    show ofB (match pd g3 60 (.ref g1.length), pd g3 60 (.ref g2.length) with
      | some p, some q => if SeqAt.shaped p && SeqAt.shaped q then some (p.eqv q) else none
      | _, _ => none) g3 = _
    rw [pdl _ at3b, pdl _ at3]
    have sh : SeqAt.shaped (.list [.bool true, .bool true, .bool true, .bool true]) = true := by decide +kernel
    have ev : PyData.eqv (.list [.bool true, .bool true, .bool true, .bool true]) (.list [.bool true, .bool true, .bool true, .bool true]) = true := by decide +kernel
    show ofB (if SeqAt.shaped (.list [.bool true, .bool true, .bool true, .bool true]) && SeqAt.shaped (.list [.bool true, .bool true, .bool true, .bool true]) then some (PyData.eqv (.list [.bool true, .bool true, .bool true, .bool true]) (.list [.bool true, .bool true, .bool true, .bool true])) else none) g3 = _
    rw [sh, ev]
    rfl
  have v4b : mVar 4 rt [x, y, some (.int 2), some (.str [a, b, c]), some (.ref g.length)] g3 = .ok (.ref g.length) g3 := rfl
  have c3 := callFr_flat (i := 83) v4b at3c clean_names h3 clean_names rfl
  refine ⟨g3.set g.length (names a b c), ret_of ?_⟩
  unfold mAnd
  rw [eq4]
  exact c3
end
theorem evs (x : D) (hx : x ∈ [D.str [97, 98, 99], .str [120, 121, 122], .str [109, 110, 112], .str [99, 100, 101]]) : ∃ a b c, x = .str [a, b, c] ∧ (rtG 200 tab 20).call 80 [.ref 0] [names a b c] = .ok (.bl true) [names a b c] ∧ (rtG 200 tab 20).call 81 [.ref 0] [names a b c] = .ok (.bl true) [names a b c] ∧
    (rtG 200 tab 20).call 82 [.ref 0] [names a b c] = .ok (.ref 1) [names a b c, .lst [.bl true, .bl true, .bl true, .bl true]] ∧ (rtG 200 tab 20).call 83 [.ref 0] [names a b c] = .ok (.bl true) [names a b c] := by
  simp only [List.mem_cons, List.not_mem_nil, or_false] at hx
  rcases hx with rfl | rfl | rfl | rfl
  · exact ⟨97, 98, 99, rfl, ev0_80, ev0_81, ev0_82, ev0_83⟩
  · exact ⟨120, 121, 122, rfl, ev1_80, ev1_81, ev1_82, ev1_83⟩
  · exact ⟨109, 110, 112, rfl, ev2_80, ev2_81, ev2_82, ev2_83⟩
  · exact ⟨99, 100, 101, rfl, ev3_80, ev3_81, ev3_82, ev3_83⟩
/-- the law's value -/
theorem val (ns : List Int) (hl : ns.length ≤ 63) : ∃ h', callG ⟨m84, 5, 1⟩ (rtG 200 tab 20) [.fl (ns.map .int)] [] = .ok (.bl true) h' := by
  have cl : ∀ i, (rtG 200 tab 20).call i = callG (tab i) (rtG 200 tab 19) := fun i => rfl
  have cl2 : ∀ i, (rtG 200 tab 19).call i = callG (tab i) (rtG 200 tab 18) := fun i => rfl
  obtain ⟨h1, e1, F⟩ := feedG (rt := rtG 200 tab 19) ns hl
  have F2 : Feed (h1 ++ [AO.lst [.str [97, 98, 99], .str [120, 121, 122], .str [109, 110, 112], .str [99, 100, 101]]]) 0 := by
    obtain ⟨c, ms, t, r, d, f1, f2, f3, f4⟩ := F.ex
    exact ⟨c, ms, t, r, d, pre_get (List.prefix_append _ _) f1, pre_get (List.prefix_append _ _) f2, f3, f4⟩
  have n0 : h1.length ≠ 0 := by
    obtain ⟨c, ms, t, r, d, f1, f2, f3, f4⟩ := F.ex
    have := (List.getElem?_eq_some_iff.mp f1).1
    omega
  obtain ⟨x, hx, h2, e2, K2⟩ := anyG (i := 74) (l := h1.length) (rt := rtG 200 tab 19) (rt2 := rtG 200 tab 18) (by rw [cl2, t_draw]) F2 (by rw [List.getElem?_append_right (Nat.le_refl _), Nat.sub_self]; rfl) n0 (by decide) (by decide) (by
    intro x hx
    simp only [List.mem_cons, List.not_mem_nil, or_false] at hx
    rcases hx with rfl | rfl | rfl | rfl <;> rfl)
  obtain ⟨a, b, c, rfl, v0, v1, v2, v3⟩ := evs x hx
  have body : ∃ h3, m84 (rtG 200 tab 20) (startE 5 [.fl (ns.map .int)]) [] = .ok (.rt (.bl true)) h3 := by
    rw [m_law]
    have s1 : mCallD 73 (aCons (mVar 0) aNil) [] (rtG 200 tab 20) (startE 5 [.fl (ns.map .int)]) [] = .ok (.ref 0) h1 := by
      show (rtG 200 tab 20).call 73 ([.fl (ns.map .int)] ++ []) [] = _
      rw [List.append_nil, cl, t_feed]
      exact e1
    rw [seq_nx (asg_n s1)]
    obtain ⟨h3, e3⟩ := rest_ok (x := some (.fl (ns.map .int))) (y := some (.ref 0)) (g := h2) (rt := rtG 200 tab 20) rfl v0 v1 v2 v3
    refine ⟨h3, ?_⟩
    rw [seq_nx (e1 := [some (.fl (ns.map .int)), some (.ref 0), none, some (.str [a, b, c]), some (.ref h2.length)]) (h1 := h2 ++ [.dct []]) ?_]
    · exact e3
    · unfold sPar2
      have a1 : aCons (mCallD 75 (aCons (mVar 1) (aCons (mLst (aCons (mC (.str [97, 98, 99])) (aCons (mC (.str [120, 121, 122])) (aCons (mC (.str [109, 110, 112])) (aCons (mC (.str [99, 100, 101])) aNil))))) aNil)) []) (aCons mDict0 aNil) (rtG 200 tab 20) ((startE 5 [.fl (ns.map .int)]).set 1 (some (.ref 0))) h1 = .ok [.str [a, b, c], .ref h2.length] (h2 ++ [.dct []]) := by
        unfold aCons
        show (((rtG 200 tab 20).call 75 ([.ref 0, .ref h1.length] ++ []) (h1 ++ [AO.lst [.str [97, 98, 99], .str [120, 121, 122], .str [109, 110, 112], .str [99, 100, 101]]])).bind _ : R (List D)) = _
        rw [List.append_nil, cl, t_any, e2]
        rfl
      rw [a1]
      rfl
  obtain ⟨h3, e3⟩ := body
  obtain ⟨h4, e4, _⟩ := callG_flat (rt := rtG 200 tab 20) (h := []) (f := ⟨m84, 5, 1⟩) (args := [.fl (ns.map .int)]) (d := .bl true) rfl e3 rfl
  exact ⟨h4, e4⟩
end K70
namespace K70
open PySem PySem.Spec L2 Den PyProof.Rows
theorem law_name : (HandSHeadRun.topDef RR.prog 104).name = ("law" : PySem.Str) := by kernel_rfl
theorem fin (w : World) (K : Frag) (mg : Str → Option Value) (h : Heap) (a : Addr) (kin : K.In h) (G : h.Ns mainGlobals mg) (c : SaysB bs fn ts w K) (hm : mg (HandSHeadRun.topDef RR.prog 104).name = some (.ref a)) :
    ∃ fd : FuncData, (∀ (s : Shared) (u : Value), BindsTo s fd ⟨[u], []⟩ [("_law_script", u)]) ∧ ∀ base : Heap, FnG (sy w K mg base) 63 a fd ["_law_script"] (spC (sy w K mg base) (callG ⟨m84, 5, 1⟩ (rtG 200 tab 20)) 1) := by
  rw [law_name] at hm
  have ea : a = fa K 84 := by
    have z := (fx_of (base := h) c kin G).mg_law
    have z2 : some (Value.ref a) = some (Value.ref (fa K 84)) := hm.symm.trans z
    cases z2
    rfl
  subst ea
  obtain ⟨fd, d⟩ := c.def_ 84 (d := d84) rfl
  refine ⟨fd, fun s u => ?_, fun base => ?_⟩
  · have b := FunD.bindsA (ps := ["_law_script"]) d fun _ _ _ _ _ _ us hl => match us, hl with | [_], _ => rfl
    exact b s [u] rfl
  · have x := fx_of (base := base) c kin G
    have X := dx_of (mg := mg) (base := base) c
    exact o84 x (w_all x X 20) d
end K70
open PySem PySem.W PySem.Calls PyProof.Rows
theorem PySem.Challenge.cw_firstfailing_k70_told_and_gone_at_once_holds : PySem.Challenge.rw_firstfailing_k70_told_and_gone_at_once.Holds := by
  w_on; o_law
  refine HandSHeadRun.head_any (r := K70.RR) (q := K70.qv) (H := Den.hookL K70.LL K70.bs K70.fn K70.ts) (ob := Den.obL K70.LL K70.bs K70.fn K70.ts) (M := 8000) (loose := K70.loose) (d := HandSHeadRun.topDef K70.RR.prog 104) (kwd := []) Den.obL_eq
    (by kernel_rfl) (fun s => by kernel_rfl) K70.run_all (by kernel_rfl) (by kernel_rfl) (by kernel_rfl) (by rfl) (by first | assumption | decide +kernel) (by decide +kernel) ⟨rfl, rfl, rfl, rfl, rfl, by decide +kernel⟩ ?hw ?hc
  case hw => w_witness2
  case hc =>
    exact Den.walk_L (l := PySem.Challenge.rw_firstfailing_k70_told_and_gone_at_once) (n := 63) (k := 63) (x := "_law_script") (bs := K70.bs) (fn := K70.fn) (ts := K70.ts) (F := ⟨K70.m84, 5, 1⟩) (rt := Den.rtG 200 K70.tab 20) (sy := K70.sy) (fun w h z => z) rfl (by decide) (by kernel_rfl) ⟨rfl, by decide, by decide⟩ (fun w K mg base => ⟨rfl, rfl, rfl, rfl, rfl⟩) K70.fin K70.val
